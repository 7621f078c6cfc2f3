import PyProof.Rows.All
import Wide.All
import OpenK.AllK
import Wide.FinOn
import KE.KStateDown
import HandS.Conv
import HandS.Defaults
import HandS.ForMost
import HandS.Head0
import HandS.Head1
import HandS.Head2
import HandS.HeadEnd
import HandS.HeadHook1
import HandS.HeadHook2
import HandS.HeadHook3
import HandS.HeadHook4
import HandS.IsInst
import HandS.NoneIn
import HandS.SetFor
import HandS.Strs
import HandS.TupAny
import HandS.Walk
import HandS.WordsExc
import HandS.Zip
import Open.Row
import PySem.Challenge.RW_eachplace_k35_whole_opened_is_as_much
set_option Elab.async false
set_option linter.all false
set_option maxRecDepth 100000
set_option maxHeartbeats 0
/-! ## KG -/
/-! data in the heap, slots by data, readings as evaluations -/
namespace EP
open PySem PySem.Spec PyProof.Rows L2

/-! ### data -/
inductive Dt where
  | v (x : V)
  | tup (ds : List Dt)
  | ftup (ds : List Dt)
  | lst (ds : List Dt)
  | env (n : Nat) (f : Key → Option Int)

/-- the deck as it stands -/
def Deck (n0 n1 n2 : Int) : HO := .lst [.int n0, .int n1, .int n2]
/-- a place to stand: what may change (lists), how many draws there are at least, the deck -/
structure Wd (K : PySem.W.Frag) where
  M : Addr → Prop
  I : Nat → Hp → Prop
  dk : Addr
  alive : ∀ r H a, I r H → M a → ∃ xs, H a = some (.lst xs)
  keep : ∀ r H H', I r H → (∀ a o, M a → H a = some o → H' a = some o) → I r H'
  anti : ∀ r r' H, I r H → r' ≤ r → I r' H
  draw : ∀ r H, I (r + 1) H → M dk ∧ ∃ n0 n1 n2 : Int, H dk = some (Deck n0 n1 n2) ∧ 0 ≤ n0 ∧ 0 ≤ n1 ∧ n1 ≤ 1000000000 ∧ 0 ≤ n2 ∧ n2 < 2147483647 ∧
    ∀ m0 m1 : Int, 0 ≤ m0 → (m1 = n1 ∨ m1 = n1 + 1) → I r (upd H dk (Deck m0 m1 n2))

theorem Wd.mono {K : PySem.W.Frag} (W : Wd K) (r : Nat) (H H' : Hp) (i : W.I r H) (e : ∀ a o, H a = some o → H' a = some o) : W.I r H' := W.keep r H H' i fun a o _ => e a o
/-- all but what may change stands -/
def Wd.Ex {K : PySem.W.Frag} (W : Wd K) (H H' : Hp) : Prop := ∀ a o, ¬ W.M a → H a = some o → H' a = some o
theorem Wd.Ex.refl {K : PySem.W.Frag} {W : Wd K} {H : Hp} : W.Ex H H := fun _ _ _ h => h
theorem Wd.Ex.trans {K : PySem.W.Frag} {W : Wd K} {H H1 H2 : Hp} (a : W.Ex H H1) (b : W.Ex H1 H2) : W.Ex H H2 := fun c o n h => b c o n (a c o n h)
theorem Wd.Ex.of {K : PySem.W.Frag} {W : Wd K} {H H' : Hp} (a : Same H H') : W.Ex H H' := fun c o _ h => a c o h
theorem same_new {H : Hp} {p : Addr} {o : HO} (h : H p = none) : Same H (upd H p o) := fun a u e => by
  rw [upd_ne (ne_of_none e h)]
  exact e
theorem Wd.not_new {K : PySem.W.Frag} {W : Wd K} {r : Nat} {H : Hp} {p : Addr} (i : W.I r H) (h : H p = none) : ¬ W.M p := fun m => by
  obtain ⟨xs, e⟩ := W.alive r H p i m
  rw [h] at e
  cases e
theorem Wd.not_of {K : PySem.W.Frag} {W : Wd K} {r : Nat} {H : Hp} {p : Addr} {o : HO} (i : W.I r H) (h : H p = some o) (n : ∀ xs, o ≠ .lst xs) : ¬ W.M p := fun m => by
  obtain ⟨xs, e⟩ := W.alive r H p i m
  rw [h] at e
  exact n xs (Option.some.inj e)

mutual
inductive Dat {K : PySem.W.Frag} (W : Wd K) (H : Hp) : V → Dt → Prop
  | v (x : V) : Dat W H x (.v x)
  | tup {a : Addr} {xs : List V} {ds : List Dt} : SqT K H a xs → DatL W H xs ds → Dat W H (.ref a) (.tup ds)
  | ftup {a : Addr} {o : Obj} {xs : List V} {ds : List Dt} : H a = some (.frz o (.tup xs)) → o.dict = none → DatL W H xs ds → Dat W H (.ref a) (.ftup ds)
  | lst {a : Addr} {xs : List V} {ds : List Dt} : ¬ W.M a → H a = some (.lst xs) → DatL W H xs ds → Dat W H (.ref a) (.lst ds)
  | env {a : Addr} {kvs : List (Key × V)} {n : Nat} {f : Key → Option Int} : Rd H a (.dK kvs) → kvs.length ≤ n → (∀ k, valV kvs k = (f k).map V.int) → Dat W H (.ref a) (.env n f)
inductive DatL {K : PySem.W.Frag} (W : Wd K) (H : Hp) : List V → List Dt → Prop
  | nil : DatL W H [] []
  | cons {x : V} {xs : List V} {d : Dt} {ds : List Dt} : Dat W H x d → DatL W H xs ds → DatL W H (x :: xs) (d :: ds)
end

/-- nothing but lists may change -/
def Wd.Nl {K : PySem.W.Frag} (W : Wd K) (H : Hp) : Prop := ∀ a u, H a = some u → (∀ xs, u ≠ .lst xs) → ¬ W.M a
theorem Wd.nl {K : PySem.W.Frag} {W : Wd K} {r : Nat} {H : Hp} (i : W.I r H) : W.Nl H := fun _ _ h n => W.not_of i h n
theorem rd_mono {K : PySem.W.Frag} {W : Wd K} {H H' : Hp} {a : Addr} {u : HO} (i : W.Nl H) (e : W.Ex H H') (n : ∀ xs, u ≠ .lst xs) (h : Rd H a u) : Rd H' a u := by
  rcases h with h | ⟨o, h⟩
  · exact .inl (e _ _ (i _ _ h n) h)
  · exact .inr ⟨o, e _ _ (i _ _ h fun xs z => by cases z) h⟩
theorem sqt_mono0 {K : PySem.W.Frag} {W : Wd K} {H H' : Hp} {a : Addr} {xs : List V} (i : W.Nl H) (e : W.Ex H H') (h : SqT K H a xs) : SqT K H' a xs := by
  rcases h with h | h
  · exact .inl (rd_mono i e (fun _ z => by cases z) h)
  · exact .inr h
theorem sqt_mono {K : PySem.W.Frag} {W : Wd K} {r : Nat} {H H' : Hp} {a : Addr} {xs : List V} (i : W.I r H) (e : W.Ex H H') (h : SqT K H a xs) : SqT K H' a xs := sqt_mono0 (W.nl i) e h
theorem sql_mono {K : PySem.W.Frag} {W : Wd K} {H H' : Hp} {a : Addr} {xs : List V} (n : ¬ W.M a) (e : W.Ex H H') (h : SqL K H a xs) : SqL K H' a xs := by
  rcases h with (h | ⟨o, h⟩) | h
  · exact .inl (.inl (e _ _ n h))
  · exact .inl (.inr ⟨o, e _ _ n h⟩)
  · exact .inr h

section
variable {K : PySem.W.Frag} {W : Wd K} {r : Nat} {H H' : Hp}
mutual
theorem Dat.mono0 (i : W.Nl H) (e : W.Ex H H') : ∀ {x : V} {d : Dt}, Dat W H x d → Dat W H' x d
  | _, _, .v x => .v x
  | _, _, .tup h l => .tup (sqt_mono0 i e h) (DatL.mono0 i e l)
  | _, _, .ftup h o l => .ftup (e _ _ (i _ _ h fun _ z => by cases z) h) o (DatL.mono0 i e l)
  | _, _, .lst n h l => .lst n (e _ _ n h) (DatL.mono0 i e l)
  | _, _, .env h n f => .env (rd_mono i e (fun _ z => by cases z) h) n f
theorem DatL.mono0 (i : W.Nl H) (e : W.Ex H H') : ∀ {xs : List V} {ds : List Dt}, DatL W H xs ds → DatL W H' xs ds
  | _, _, .nil => .nil
  | _, _, .cons h l => .cons (Dat.mono0 i e h) (DatL.mono0 i e l)
end
theorem Dat.mono (i : W.I r H) (e : W.Ex H H') {x : V} {d : Dt} (h : Dat W H x d) : Dat W H' x d := h.mono0 (W.nl i) e
theorem DatL.mono (i : W.I r H) (e : W.Ex H H') {xs : List V} {ds : List Dt} (h : DatL W H xs ds) : DatL W H' xs ds := h.mono0 (W.nl i) e
theorem DatL.length : ∀ {xs : List V} {ds : List Dt}, DatL W H xs ds → xs.length = ds.length
  | _, _, .nil => rfl
  | _, _, .cons _ l => by rw [List.length_cons, List.length_cons, DatL.length l]
theorem DatL.get : ∀ {xs : List V} {ds : List Dt} {j : Nat} {d : Dt}, DatL W H xs ds → ds[j]? = some d → ∃ x, xs[j]? = some x ∧ Dat W H x d
  | _, _, j, _, .nil, h => by simp at h
  | _, _, 0, d, .cons h _, e => by
    have z := Option.some.inj e
    subst z
    exact ⟨_, rfl, h⟩
  | _, _, j + 1, d, .cons _ l, e => DatL.get (j := j) l e
theorem DatL.getV : ∀ {xs : List V} {ds : List Dt} {j : Nat} {x : V}, DatL W H xs ds → xs[j]? = some x → ∃ d, ds[j]? = some d ∧ Dat W H x d
  | _, _, j, _, .nil, h => by simp at h
  | _, _, 0, x, .cons h _, e => by
    have z := Option.some.inj e
    subst z
    exact ⟨_, rfl, h⟩
  | _, _, j + 1, d, .cons _ l, e => DatL.getV (j := j) l e
theorem DatL.append : ∀ {xs ys : List V} {ds es : List Dt}, DatL W H xs ds → DatL W H ys es → DatL W H (xs ++ ys) (ds ++ es)
  | _, _, _, _, .nil, l => l
  | _, _, _, _, .cons h l, m => .cons h (DatL.append l m)
theorem DatL.drop : ∀ (n : Nat) {xs : List V} {ds : List Dt}, DatL W H xs ds → DatL W H (xs.drop n) (ds.drop n)
  | 0, _, _, l => l
  | _ + 1, _, _, .nil => .nil
  | n + 1, _, _, .cons _ l => DatL.drop n l
theorem DatL.take : ∀ (n : Nat) {xs : List V} {ds : List Dt}, DatL W H xs ds → DatL W H (xs.take n) (ds.take n)
  | 0, _, _, _ => .nil
  | _ + 1, _, _, .nil => .nil
  | n + 1, _, _, .cons h l => .cons h (DatL.take n l)
theorem DatL.set : ∀ (j : Nat) {xs : List V} {ds : List Dt} {x : V} {d : Dt}, DatL W H xs ds → Dat W H x d → DatL W H (xs.set j x) (ds.set j d)
  | _, _, _, _, _, .nil, _ => .nil
  | 0, _, _, _, _, .cons _ l, q => .cons q l
  | j + 1, _, _, _, _, .cons h l, q => .cons h (DatL.set j l q)
theorem DatL.vals : ∀ (xs : List V), DatL W H xs (xs.map Dt.v)
  | [] => .nil
  | x :: xs => .cons (.v x) (DatL.vals xs)
theorem DatL.vals_eq : ∀ {xs ys : List V}, DatL W H xs (ys.map Dt.v) → xs = ys
  | _, [], .nil => rfl
  | _, y :: ys, .cons (.v _) l => by rw [DatL.vals_eq l]
theorem Dat.unf {x : V} {ds : List Dt} (h : Dat W H x (.ftup ds)) : Dat W H x (.tup ds) := by
  cases h with
  | ftup h o l => exact .tup (.inl (.inr ⟨_, h⟩)) l
theorem Dat.v_eq {x y : V} (h : Dat W H x (.v y)) : x = y := by cases h; rfl
end

/-! ### slots -/
inductive Sl {K : PySem.W.Frag} (W : Wd K) (H : Hp) : L2.St → List (Option Dt) → Prop
  | nil : Sl W H [] []
  | no {o : Option V} {σ : L2.St} {Γ : List (Option Dt)} : Sl W H σ Γ → Sl W H (o :: σ) (none :: Γ)
  | yes {x : V} {d : Dt} {σ : L2.St} {Γ : List (Option Dt)} : Dat W H x d → Sl W H σ Γ → Sl W H (some x :: σ) (some d :: Γ)
section
variable {K : PySem.W.Frag} {W : Wd K} {r : Nat} {H H' : Hp}
theorem Sl.mono0 (i : W.Nl H) (e : W.Ex H H') : ∀ {σ : L2.St} {Γ : List (Option Dt)}, Sl W H σ Γ → Sl W H' σ Γ
  | _, _, .nil => .nil
  | _, _, .no l => .no (Sl.mono0 i e l)
  | _, _, .yes h l => .yes (h.mono0 i e) (Sl.mono0 i e l)
theorem Sl.mono (i : W.I r H) (e : W.Ex H H') {σ : L2.St} {Γ : List (Option Dt)} (h : Sl W H σ Γ) : Sl W H' σ Γ := h.mono0 (W.nl i) e
theorem Sl.get : ∀ {σ : L2.St} {Γ : List (Option Dt)} {j : Nat} {d : Dt}, Sl W H σ Γ → Γ[j]? = some (some d) → ∃ x, σ[j]? = some (some x) ∧ Dat W H x d
  | _, _, _, _, .nil, h => by simp at h
  | _, _, 0, _, .no _, h => by
    have z := Option.some.inj h
    cases z
  | _, _, 0, _, .yes q _, h => by
    have z := Option.some.inj (Option.some.inj h)
    subst z
    exact ⟨_, rfl, q⟩
  | _, _, j + 1, _, .no l, h => Sl.get (j := j) l h
  | _, _, j + 1, _, .yes _ l, h => Sl.get (j := j) l h
theorem Sl.set : ∀ (j : Nat) {σ : L2.St} {Γ : List (Option Dt)} {x : V} {d : Dt}, Sl W H σ Γ → Dat W H x d → Sl W H (σ.set j (some x)) (Γ.set j (some d))
  | _, _, _, _, _, .nil, _ => .nil
  | 0, _, _, _, _, .no l, q => .yes q l
  | 0, _, _, _, _, .yes _ l, q => .yes q l
  | j + 1, _, _, _, _, .no l, q => .no (Sl.set j l q)
  | j + 1, _, _, _, _, .yes h l, q => .yes h (Sl.set j l q)
theorem Sl.drop1 : ∀ (j : Nat) {σ : L2.St} {Γ : List (Option Dt)} (o : Option V), Sl W H σ Γ → Sl W H (σ.set j o) (Γ.set j none)
  | _, _, _, _, .nil => .nil
  | 0, _, _, _, .no l => .no l
  | 0, _, _, _, .yes _ l => .no l
  | j + 1, _, _, o, .no l => .no (Sl.drop1 j o l)
  | j + 1, _, _, o, .yes h l => .yes h (Sl.drop1 j o l)
def wipeG (Γ : List (Option Dt)) : List Nat → List (Option Dt)
  | [] => Γ
  | v :: vs => (wipeG Γ vs).set v none
theorem Sl.wipe {σ : L2.St} {Γ : List (Option Dt)} (h : Sl W H σ Γ) : ∀ vs : List Nat, Sl W H (L2.wipe σ vs) (wipeG Γ vs)
  | [] => h
  | v :: vs => Sl.drop1 v none (Sl.wipe h vs)
def startG (n : Nat) (ds : List Dt) : List (Option Dt) := ds.map some ++ List.replicate (n - ds.length) none
theorem Sl.start {N : List Str} {vs : List V} {ds : List Dt} (h : DatL W H vs ds) : Sl W H (L2.start N vs) (startG N.length ds) := by
  unfold L2.start startG
  rw [h.length]
  generalize N.length - ds.length = m
  have hm : Sl W H (List.replicate m none) (List.replicate m none) := by
    induction m with
    | zero => exact .nil
    | succ m ih => exact .no ih
  have go : ∀ (vs : List V) (ds : List Dt), DatL W H vs ds → Sl W H (vs.map some ++ List.replicate m none) (ds.map some ++ List.replicate m none) := by
    intro vs
    induction vs with
    | nil =>
      intro ds h
      cases h
      exact hm
    | cons x vs ih =>
      intro ds h
      cases h with
      | cons q l => exact .yes q (ih _ l)
  exact go vs ds h
theorem set_set : ∀ (j : Nat) (σ : L2.St) (o u : Option V), (σ.set j o).set j u = σ.set j u := fun j σ o u => by simp
theorem set_swap {i j : Nat} (h : i ≠ j) (σ : L2.St) (o u : Option V) : (σ.set i o).set j u = (σ.set j u).set i o := List.set_comm o u h
theorem wipe_set {j : Nat} : ∀ (vs : List Nat), j ∈ vs → ∀ (σ : L2.St) (o : Option V), L2.wipe (σ.set j o) vs = L2.wipe σ vs
  | v :: vs, h, σ, o => by
    show (L2.wipe (σ.set j o) vs).set v none = (L2.wipe σ vs).set v none
    by_cases hj : j ∈ vs
    · rw [wipe_set vs hj]
    · have hv : j = v := by simpa [hj] using h
      subst hv
      have w : ∀ (us : List Nat), j ∉ us → ∀ σ : L2.St, L2.wipe (σ.set j o) us = (L2.wipe σ us).set j o := by
        intro us
        induction us with
        | nil => intro _ σ; rfl
        | cons u us ih =>
          intro hu σ
          have h1 : j ∉ us := fun z => hu (List.mem_cons_of_mem _ z)
          have h2 : j ≠ u := fun z => hu (by rw [z]; exact List.mem_cons_self)
          show (L2.wipe (σ.set j o) us).set u none = ((L2.wipe σ us).set u none).set j o
          rw [ih h1, set_swap h2]
      rw [w vs hj, set_set]
theorem wipe_wipe (σ : L2.St) : ∀ vs : List Nat, L2.wipe (L2.wipe σ vs) vs = L2.wipe σ vs := by
  have w : ∀ (us vs : List Nat), (∀ u ∈ us, u ∈ vs) → L2.wipe (L2.wipe σ us) vs = L2.wipe σ vs := by
    intro us
    induction us with
    | nil => intro vs _; rfl
    | cons u us ih =>
      intro vs h
      show L2.wipe ((L2.wipe σ us).set u none) vs = L2.wipe σ vs
      rw [wipe_set vs (h u List.mem_cons_self), ih vs fun z hz => h z (List.mem_cons_of_mem _ hz)]
  exact fun vs => w vs vs fun _ h => h
end

section
variable {K : PySem.W.Frag}
mutual
theorem Dat.to {W W' : Wd K} {H : Hp} (k : ∀ a o, ¬ W.M a → H a = some o → ¬ W'.M a) : ∀ {x : V} {d : Dt}, Dat W H x d → Dat W' H x d
  | _, _, .v x => .v x
  | _, _, .tup h l => .tup h (DatL.to k l)
  | _, _, .ftup h o l => .ftup h o (DatL.to k l)
  | _, _, .lst n h l => .lst (k _ _ n h) h (DatL.to k l)
  | _, _, .env h n f => .env h n f
theorem DatL.to {W W' : Wd K} {H : Hp} (k : ∀ a o, ¬ W.M a → H a = some o → ¬ W'.M a) : ∀ {xs : List V} {ds : List Dt}, DatL W H xs ds → DatL W' H xs ds
  | _, _, .nil => .nil
  | _, _, .cons h l => .cons (Dat.to k h) (DatL.to k l)
end
theorem Sl.to {W W' : Wd K} {H : Hp} (k : ∀ a o, ¬ W.M a → H a = some o → ¬ W'.M a) : ∀ {σ : L2.St} {Γ : List (Option Dt)}, Sl W H σ Γ → Sl W' H σ Γ
  | _, _, .nil => .nil
  | _, _, .no l => .no (Sl.to k l)
  | _, _, .yes h l => .yes (h.to k) (Sl.to k l)
end

/-! ### readings as evaluations -/
def At (d : Dt) : Dt → Prop := fun x => x = d
def AtB (b : Bool) : Bool → Prop := fun x => x = b
def AtL (ds : List Dt) : List Dt → Prop := fun x => x = ds
def AtO (o : Option Int) : Option Int → Prop := fun x => x = o
/-- an int of which p holds -/
def In (p : Int → Prop) : Dt → Prop := fun x => ∃ i, x = .v (.int i) ∧ p i
abbrev Gm := List (Option Dt)

def Ev {K : PySem.W.Frag} (W : Wd K) (t : TE) (Γ : Gm) (r r' : Nat) (P : Dt → Prop) : Prop := ∀ (σ : L2.St) (H : Hp) (Q : VK), Sl W H σ Γ → W.I r H →
  (∀ v H' d, W.Ex H H' → W.I r' H' → P d → Dat W H' v d → Q v H') → t σ H Q
def EvT {K : PySem.W.Frag} (W : Wd K) (t : TT) (Γ : Gm) (r r' : Nat) (P : Bool → Prop) : Prop := ∀ (σ : L2.St) (H : Hp) (Q : Bool → Hp → Prop), Sl W H σ Γ → W.I r H →
  (∀ b H', W.Ex H H' → W.I r' H' → P b → Q b H') → t σ H Q
def EvA {K : PySem.W.Frag} (W : Wd K) (t : TA) (Γ : Gm) (r r' : Nat) (P : List Dt → Prop) : Prop := ∀ (σ : L2.St) (H : Hp) (Q : List V → Hp → Prop), Sl W H σ Γ → W.I r H →
  (∀ vs H' ds, W.Ex H H' → W.I r' H' → P ds → DatL W H' vs ds → Q vs H') → t σ H Q
def EvO {K : PySem.W.Frag} (W : Wd K) (t : TO) (Γ : Gm) (r r' : Nat) (o : Option Int) : Prop := ∀ (σ : L2.St) (H : Hp) (Q : Option Int → Hp → Prop), Sl W H σ Γ → W.I r H →
  (∀ H', W.Ex H H' → W.I r' H' → Q o H') → t σ H Q
/-- a target's store: the slots in vs alone may change -/
def EvG {K : PySem.W.Frag} (W : Wd K) (g : TG) (vs : List Nat) (Γ : Gm) (d : Dt) (Γ' : Gm) : Prop := ∀ (v : V) (σ : L2.St) (H : Hp) (r : Nat) (Q : L2.St → Hp → Prop), Sl W H σ Γ → W.I r H → Dat W H v d →
  (∀ σ', Sl W H σ' Γ' → L2.wipe σ' vs = L2.wipe σ vs → Q σ' H) → g v σ H Q
def EvS {K : PySem.W.Frag} (W : Wd K) (t : TS) (Γ : Gm) (r : Nat) (N : Nat → Gm → Prop) (R : Nat → Dt → Prop) : Prop := ∀ (σ : L2.St) (H : Hp) (E : Ends), Sl W H σ Γ → W.I r H →
  (∀ σ' H' r' Γ', W.Ex H H' → W.I r' H' → N r' Γ' → Sl W H' σ' Γ' → E.nx σ' H') → (∀ v H' r' d, W.Ex H H' → W.I r' H' → R r' d → Dat W H' v d → E.rt v H') → t E σ H
/-- an iterator that gives the data ds, wherever one stands -/
def WalkD {K : PySem.W.Frag} (W : Wd K) (J : It) (ds : List Dt) (H0 : Hp) : Prop := ∃ (G : Hp → Prop) (Y : Nat → Hp → V → Hp → Prop), L2.Walk J ds.length G Y ∧ (∀ r H, W.I r H → W.Ex H0 H → G H) ∧
  ∀ i H x H', i < ds.length → Y i H x H' → Same H H' ∧ ∃ d, ds[i]? = some d ∧ ∀ (W' : Wd K) (r : Nat), (∀ a o, ¬ W.M a → H0 a = some o → ¬ W'.M a) → W'.Nl H0 → W'.Ex H0 H → W'.I r H → Dat W' H' x d
def EvI {K : PySem.W.Frag} (W : Wd K) (wi : TI) (Γ : Gm) (r r' : Nat) (P : List Dt → Prop) : Prop := ∀ (σ : L2.St) (H : Hp) (R : It → Hp → Prop), Sl W H σ Γ → W.I r H →
  (∀ J H' ds, W.Ex H H' → W.I r' H' → P ds → WalkD W J ds H' → R J H') → wi σ H R
/-- no statement falls out -/
def No : Nat → Gm → Prop := fun _ _ => False

section
variable {K : PySem.W.Frag} {W : Wd K} {Γ Γ' : Gm} {r r1 r2 r3 r' : Nat} {ta tb tc te : TE} {P P' P1 P2 : Dt → Prop} {x y : V} {d d1 d2 : Dt} {i j : Int}

theorem Ev.imp (h : Ev W te Γ r r' P) (k : ∀ d, P d → P' d) : Ev W te Γ r r' P' := fun σ H Q s I q => h σ H Q s I fun v H' d e i p => q v H' d e i (k d p)
theorem Ev.less (h : Ev W te Γ r1 r2 P) (a : r1 ≤ r) (b : r' ≤ r2) : Ev W te Γ r r' P := fun σ H Q s I q => h σ H Q s (W.anti _ _ _ I a) fun v H' d e i p => q v H' d e (W.anti _ _ _ i b) p
theorem Ev.is {d d' : Dt} (h : Ev W te Γ r r' (At d)) (e : d = d') : Ev W te Γ r r' (At d') := e ▸ h
theorem Ev.inI {p : Int → Prop} (h : Ev W te Γ r r' (At (.v (.int i)))) (k : p i) : Ev W te Γ r r' (In p) := h.imp fun _ e => ⟨i, e, k⟩

theorem ev_var {n : Nat} (h : Γ[n]? = some (some d)) : Ev W (tVar n) Γ r r (At d) := fun σ H Q s I q => by
  obtain ⟨x, e, dx⟩ := s.get h
  exact ⟨x, e, q x H d .refl I rfl dx⟩
theorem Ev.unf {ds : List Dt} (h : Ev W te Γ r r' (At (.ftup ds))) : Ev W te Γ r r' (At (.tup ds)) := fun σ H Q s I q => h σ H Q s I fun v H' d e i p dv => by
  subst p
  exact q v H' _ e i rfl dv.unf
theorem ev_c : Ev W (tC x) Γ r r (At (.v x)) := fun σ H Q s I q => q x H _ .refl I rfl (.v x)
/-- a constant of the module that is a datum anywhere -/
theorem ev_k (h : ∀ H, Dat W H x d) : Ev W (tC x) Γ r r (At d) := fun σ H Q s I q => q x H _ .refl I rfl (h H)

/-- two operands, then what is asked of their values -/
theorem ev_op {rr : R2} (ha : Ev W ta Γ r r1 P1) (hb : Ev W tb Γ r1 r2 P2)
    (h : ∀ a b d1 d2 H Q, P1 d1 → P2 d2 → Dat W H a d1 → Dat W H b d2 → W.I r2 H → (∀ v H' d, Same H H' → W.I r2 H' → P d → Dat W H' v d → Q v H') → rr a b H Q) : Ev W (tOp rr ta tb) Γ r r2 P := fun σ H Q s I q =>
  ha σ H _ s I fun a H1 d1 e1 I1 p1 a1 => hb σ H1 _ (s.mono I e1) I1 fun b H2 d2 e2 I2 p2 b2 =>
    h a b d1 d2 H2 Q p1 p2 (a1.mono I1 e2) b2 I2 fun v H' d e' I' p dv => q v H' d (e1.trans (e2.trans (.of e'))) I' p dv
theorem ev_opV {rr : R2} {x y z : V} (ha : Ev W ta Γ r r1 (At (.v x))) (hb : Ev W tb Γ r1 r2 (At (.v y))) (h : ∀ H Q, Q z H → rr x y H Q) : Ev W (tOp rr ta tb) Γ r r2 (At (.v z)) :=
  ev_op ha hb fun a b d1 d2 H Q p1 p2 a1 b2 I q => by
    subst p1 p2
    rw [a1.v_eq, b2.v_eq]
    exact h H Q (q z H _ (Same.refl H) I rfl (.v z))
theorem ev_unV {rr : V → Hp → VK → Prop} {x z : V} (ha : Ev W ta Γ r r1 (At (.v x))) (h : ∀ H Q, Q z H → rr x H Q) : Ev W (tUn rr ta) Γ r r1 (At (.v z)) := fun σ H Q s I q =>
  ha σ H _ s I fun a H1 d1 e1 I1 p1 a1 => by
    subst p1
    rw [a1.v_eq]
    exact h H1 Q (q z H1 _ e1 I1 rfl (.v z))
theorem ev_eq (ha : Ev W ta Γ r r1 (At (.v x))) (hb : Ev W tb Γ r1 r2 (At (.v y))) (h : scal x y = true) : Ev W (tOp rEq ta tb) Γ r r2 (At (.v (.bl (decide (x = y))))) :=
  ev_opV ha hb fun _ _ q => ⟨h, q⟩
theorem ev_ne (ha : Ev W ta Γ r r1 (At (.v x))) (hb : Ev W tb Γ r1 r2 (At (.v y))) (h : scal x y = true) : Ev W (tOp rNe ta tb) Γ r r2 (At (.v (.bl (!decide (x = y))))) :=
  ev_opV ha hb fun _ _ q => ⟨h, q⟩
/-- ints: the kit's rI0 -/
theorem ev_int {g : Int → Int → V} (ha : Ev W ta Γ r r1 (At (.v (.int i)))) (hb : Ev W tb Γ r1 r2 (At (.v (.int j)))) : Ev W (tOp (rI0 g) ta tb) Γ r r2 (At (.v (g i j))) :=
  ev_opV ha hb fun _ _ q => ⟨i, j, rfl, rfl, q⟩
theorem ev_intC {C : Int → Int → Prop} {g : Int → Int → V} (ha : Ev W ta Γ r r1 (At (.v (.int i)))) (hb : Ev W tb Γ r1 r2 (At (.v (.int j)))) (h : C i j) : Ev W (tOp (rI C g) ta tb) Γ r r2 (At (.v (g i j))) :=
  ev_opV ha hb fun _ _ q => ⟨i, j, rfl, rfl, h, q⟩
/-- drawn ints -/
theorem ev_intP {g : Int → Int → V} {p q : Int → Prop} (ha : Ev W ta Γ r r1 (In p)) (hb : Ev W tb Γ r1 r2 (In q)) (h : ∀ i j, p i → q j → P (.v (g i j))) : Ev W (tOp (rI0 g) ta tb) Γ r r2 P :=
  ev_op ha hb fun a b d1 d2 H Q p1 p2 a1 b2 I k => by
    obtain ⟨i, rfl, hi⟩ := p1
    obtain ⟨j, rfl, hj⟩ := p2
    rw [a1.v_eq, b2.v_eq]
    exact ⟨i, j, rfl, rfl, k _ H _ (Same.refl H) I (h i j hi hj) (.v _)⟩
theorem ev_intCP {C : Int → Int → Prop} {g : Int → Int → V} {p q : Int → Prop} (ha : Ev W ta Γ r r1 (In p)) (hb : Ev W tb Γ r1 r2 (In q)) (hc : ∀ i j, p i → q j → C i j) (h : ∀ i j, p i → q j → P (.v (g i j))) : Ev W (tOp (rI C g) ta tb) Γ r r2 P :=
  ev_op ha hb fun a b d1 d2 H Q p1 p2 a1 b2 I k => by
    obtain ⟨i, rfl, hi⟩ := p1
    obtain ⟨j, rfl, hj⟩ := p2
    rw [a1.v_eq, b2.v_eq]
    exact ⟨i, j, rfl, rfl, hc i j hi hj, k _ H _ (Same.refl H) I (h i j hi hj) (.v _)⟩

/-! ### places in lists, tuples -/
theorem ixN_lt {n : Nat} {i : Int} {k : Nat} (h : ixN n i = some k) : k < n := (ixN_seq h).2.1
theorem DatL.atI {H : Hp} {xs : List V} {ds : List Dt} (l : DatL W H xs ds) {i : Int} {d : Dt} (h : atI ds i = some d) : ∃ x, L2.atI xs i = some x ∧ Dat W H x d := by
  unfold L2.atI at h ⊢
  rw [l.length]
  obtain ⟨k, hk, e⟩ := Option.bind_eq_some_iff.mp h
  obtain ⟨x, hx, dx⟩ := l.get e
  exact ⟨x, by rw [hk]; exact hx, dx⟩
theorem ev_ixT {ds : List Dt} (ha : Ev W ta Γ r r1 (At (.tup ds))) (hb : Ev W tb Γ r1 r2 (At (.v (.int i)))) (h : atI ds i = some d) : Ev W (tOp (rIx K) ta tb) Γ r r2 (At d) :=
  ev_op ha hb fun a b d1 d2 H Q p1 p2 a1 b2 I q => by
    subst p1 p2
    rw [b2.v_eq]
    cases a1 with
    | tup hs l =>
      obtain ⟨x, hx, dx⟩ := l.atI h
      exact .inr (.inl ⟨_, _, i, x, rfl, rfl, hs, hx, q x H _ (Same.refl H) I rfl dx⟩)
theorem ev_ixL {ds : List Dt} (ha : Ev W ta Γ r r1 (At (.lst ds))) (hb : Ev W tb Γ r1 r2 (At (.v (.int i)))) (h : atI ds i = some d) : Ev W (tOp (rIx K) ta tb) Γ r r2 (At d) :=
  ev_op ha hb fun a b d1 d2 H Q p1 p2 a1 b2 I q => by
    subst p1 p2
    rw [b2.v_eq]
    cases a1 with
    | lst _ hs l =>
      obtain ⟨x, hx, dx⟩ := l.atI h
      exact .inl ⟨_, _, i, x, rfl, rfl, SqL.of hs, hx, q x H _ (Same.refl H) I rfl dx⟩
/-- at a drawn place -/
theorem ev_ixTP {ds : List Dt} {p : Int → Prop} (ha : Ev W ta Γ r r1 (At (.tup ds))) (hb : Ev W tb Γ r1 r2 (In p)) (h : ∀ i, p i → ∃ d, atI ds i = some d ∧ P d) : Ev W (tOp (rIx K) ta tb) Γ r r2 P :=
  ev_op ha hb fun a b d1 d2 H Q p1 p2 a1 b2 I q => by
    subst p1
    obtain ⟨i, rfl, hi⟩ := p2
    obtain ⟨d, hd, pd⟩ := h i hi
    rw [b2.v_eq]
    cases a1 with
    | tup hs l =>
      obtain ⟨x, hx, dx⟩ := l.atI hd
      exact .inr (.inl ⟨_, _, i, x, rfl, rfl, hs, hx, q x H _ (Same.refl H) I pd dx⟩)
theorem ev_ixLP {ds : List Dt} {p : Int → Prop} (ha : Ev W ta Γ r r1 (At (.lst ds))) (hb : Ev W tb Γ r1 r2 (In p)) (h : ∀ i, p i → ∃ d, atI ds i = some d ∧ P d) : Ev W (tOp (rIx K) ta tb) Γ r r2 P :=
  ev_op ha hb fun a b d1 d2 H Q p1 p2 a1 b2 I q => by
    subst p1
    obtain ⟨i, rfl, hi⟩ := p2
    obtain ⟨d, hd, pd⟩ := h i hi
    rw [b2.v_eq]
    cases a1 with
    | lst _ hs l =>
      obtain ⟨x, hx, dx⟩ := l.atI hd
      exact .inl ⟨_, _, i, x, rfl, rfl, SqL.of hs, hx, q x H _ (Same.refl H) I pd dx⟩
/-- a sign of a text, at a drawn place -/
theorem ev_ixSP {z : Str} {p : Int → Prop} (ha : Ev W ta Γ r r1 (At (.v (.str z)))) (hb : Ev W tb Γ r1 r2 (In p)) (hz : z.length ≤ sizeLine) (h : ∀ i, p i → ∃ c, atI z.cps.toList i = some c ∧ P (.v (.str ⟨#[c]⟩))) : Ev W (tOp (rIx K) ta tb) Γ r r2 P :=
  ev_op ha hb fun a b d1 d2 H Q p1 p2 a1 b2 I q => by
    subst p1
    obtain ⟨i, rfl, hi⟩ := p2
    obtain ⟨c, hc, pc⟩ := h i hi
    rw [a1.v_eq, b2.v_eq]
    exact .inr (.inr ⟨z, i, c, rfl, rfl, hz, hc, q _ H _ (Same.refl H) I pc (.v _)⟩)
theorem atI_lt {α : Type} {xs : List α} {i : Int} (h0 : 0 ≤ i) (h1 : i < xs.length) : ∃ d, atI xs i = some d ∧ d ∈ xs := by
  have h : i.toNat < xs.length := by omega
  refine ⟨xs[i.toNat], ?_, List.getElem_mem h⟩
  have e : ((i.toNat : Nat) : Int) = i := by omega
  have q : atI xs ((i.toNat : Nat) : Int) = some xs[i.toNat] := atI_nat (by simp [h])
  rw [e] at q
  exact q

/-! ### displays -/
theorem ea_nil : EvA W tNil Γ r r (AtL []) := fun σ H Q s I q => q [] H [] .refl I rfl .nil
theorem ea_cons {tr : TA} {ds : List Dt} (h : Ev W ta Γ r r1 (At d)) (hr : EvA W tr Γ r1 r2 (AtL ds)) : EvA W (tCons ta tr) Γ r r2 (AtL (d :: ds)) := fun σ H Q s I q =>
  h σ H _ s I fun v H1 d1 e1 I1 p1 a1 => hr σ H1 _ (s.mono I e1) I1 fun vs H2 ds2 e2 I2 p2 a2 => by
    subst p1 p2
    exact q (v :: vs) H2 _ (e1.trans e2) I2 rfl (.cons (a1.mono I1 e2) a2)
theorem ea_consP {tr : TA} {PL : List Dt → Prop} (h : Ev W ta Γ r r1 P1) (hr : EvA W tr Γ r1 r2 PL) : EvA W (tCons ta tr) Γ r r2 (fun l => ∃ d ds, l = d :: ds ∧ P1 d ∧ PL ds) := fun σ H Q s I q =>
  h σ H _ s I fun v H1 d1 e1 I1 p1 a1 => hr σ H1 _ (s.mono I e1) I1 fun vs H2 ds2 e2 I2 p2 a2 =>
    q (v :: vs) H2 _ (e1.trans e2) I2 ⟨d1, ds2, rfl, p1, p2⟩ (.cons (a1.mono I1 e2) a2)
theorem EvA.imp {t : TA} {PL PL' : List Dt → Prop} (h : EvA W t Γ r r1 PL) (k : ∀ ds, PL ds → PL' ds) : EvA W t Γ r r1 PL' := fun σ H Q s I q => h σ H Q s I fun v H' d e i p => q v H' d e i (k d p)
theorem EvA.less {t : TA} {PL : List Dt → Prop} (h : EvA W t Γ r1 r2 PL) (a : r1 ≤ r) (b : r' ≤ r2) : EvA W t Γ r r' PL := fun σ H Q s I q => h σ H Q s (W.anti _ _ _ I a) fun v H' d e i p => q v H' d e (W.anti _ _ _ i b) p
theorem ev_tupP {t : TA} {PL : List Dt → Prop} (h : EvA W t Γ r r1 PL) (hl : ∀ ds, PL ds → ds.length ≤ sizeLine) (k : ∀ ds, PL ds → P (.tup ds)) : Ev W (tTup t) Γ r r1 P := fun σ H Q s I q =>
  h σ H _ s I fun vs H1 ds e1 I1 p1 a1 => ⟨by rw [a1.length]; exact hl ds p1, fun p np => q _ _ (.tup ds) (e1.trans (.of (same_new np))) (W.mono _ _ _ I1 (same_new np)) (k ds p1)
    (.tup (SqT.of upd_same) (a1.mono I1 (.of (same_new np))))⟩
theorem ev_lstP {t : TA} {PL : List Dt → Prop} (h : EvA W t Γ r r1 PL) (hl : ∀ ds, PL ds → ds.length ≤ sizeLine) (k : ∀ ds, PL ds → P (.lst ds)) : Ev W (tLst t) Γ r r1 P := fun σ H Q s I q =>
  h σ H _ s I fun vs H1 ds e1 I1 p1 a1 => ⟨by rw [a1.length]; exact hl ds p1, fun p np => q _ _ (.lst ds) (e1.trans (.of (same_new np))) (W.mono _ _ _ I1 (same_new np)) (k ds p1)
    (.lst (W.not_new I1 np) upd_same (a1.mono I1 (.of (same_new np))))⟩
theorem ev_tup {t : TA} {ds : List Dt} (h : EvA W t Γ r r1 (AtL ds)) (hl : ds.length ≤ 20 := by exact Nat.le_of_ble_eq_true rfl) : Ev W (tTup t) Γ r r1 (At (.tup ds)) :=
  ev_tupP h (fun _ e => by rw [e, sizeLine_eq]; omega) fun _ e => congrArg Dt.tup e
theorem ev_lst {t : TA} {ds : List Dt} (h : EvA W t Γ r r1 (AtL ds)) (hl : ds.length ≤ 20 := by exact Nat.le_of_ble_eq_true rfl) : Ev W (tLst t) Γ r r1 (At (.lst ds)) :=
  ev_lstP h (fun _ e => by rw [e, sizeLine_eq]; omega) fun _ e => congrArg Dt.lst e

end
end EP

/-! ## KG2 -/
namespace EP
open PySem PySem.Spec PyProof.Rows L2

/-! ### promises by data -/
def SpW {δ α : Type} {K : PySem.W.Frag} (W : δ → Wd K) (args : δ → α → List Dt) (pre : α → Prop) (cost : α → Nat) (post : α → Dt → Prop) : Sp := fun vs H Q _ =>
  ∃ (w : δ) (a : α) (r : Nat), DatL (W w) H vs (args w a) ∧ pre a ∧ (W w).I (r + cost a) H ∧ ∀ v H' d, (W w).Ex H H' → (W w).I r H' → post a d → Dat (W w) H' v d → Q v H'
def SpP {α : Type} (K : PySem.W.Frag) (args : α → List Dt) (pre : α → Prop) (res : α → Dt) : Sp := SpW (fun W : Wd K => W) (fun _ a => args a) pre (fun _ => 0) (fun a => At (res a))

/-- a def of the text, as it stands -/
structure DefAt (K : PySem.W.Frag) (mg : Str → Option Value) (x : Str) (st : Stmt) (ps : List Str) : Prop where
  ex : ∃ f fd, FunD K x x (defArgs st) (defBody st) (defScope st) [] [] f fd ∧ mg x = some (.ref f) ∧ Binds K fd ps []
/-- a def that keeps its promise, as a caller takes it -/
structure Cal (P : Program) (w : World) (K : PySem.W.Frag) (mg : Str → Option Value) (base : Heap) (k : Nat) (x : Str) (ps : List Str) (sp : Sp) : Prop where
  ex : ∃ f fd, FnOk P w K mg base CX0 k f fd ps sp ∧ mg x = some (.ref f) ∧ PySem.W.keepIn K (.ref f) = true ∧ Binds K fd ps []
section
variable {P : Program} {w : World} {K : PySem.W.Frag} {mg : Str → Option Value} {base : Heap}
theorem Cal.mono {j k : Nat} {x : Str} {ps : List Str} {sp : Sp} (C : Cal P w K mg base j x ps sp) (h : j ≤ k) : Cal P w K mg base k x ps sp := by
  obtain ⟨f, fd, F, a, b, c⟩ := C.ex
  exact ⟨f, fd, F.mono h, a, b, c⟩
theorem Cal.imp {k : Nat} {x : Str} {ps : List Str} {sp sp' : Sp} (C : Cal P w K mg base k x ps sp) (h : ∀ vs H Q E, sp' vs H Q E → sp vs H Q E) : Cal P w K mg base k x ps sp' := by
  obtain ⟨f, fd, F, a, b, c⟩ := C.ex
  exact ⟨f, fd, F.imp h, a, b, c⟩
theorem pe_cal {X : Cx} {j k : Nat} {x : Str} {ps : List Str} {sp : Sp} {p pos : Pos} {e : Expr} {es : List Expr} {t : TA} (C : Cal X.prog X.w X.K X.mg X.base j x ps sp) (hr : Room k X.A) (hj : j ≤ k) (hg : Gl X x) (ha : PA X (e :: es) t)
    (hdb : (x == ("__debug__" : Str)) = false := by decide) (he : starEach (e :: es) X.env = (false, eval e X.env) :: starEach es X.env := by rfl) (hpl : (backTo pos (starEach es X.env)).any (·.1) = false := by rfl) :
    PE X (.Call (.Name x p) (e :: es) [] pos) (tCall sp [] E0 t) := by
  obtain ⟨f, fd, F, a, b, c⟩ := C.ex
  exact pe_call F (hr.mono hj) hg a b c .nil pass0 ha hdb he hpl
/-- a def by its body: any promise -/
theorem DefAt.ok {x : Str} {st : Stmt} {N ps : List Str} {k : Nat} {sp : Sp} (D : DefAt K mg x st ps) (S : FnScope N ps (defScope st)) (len : ∀ vs H Q E, sp vs H Q E → vs.length = ps.length)
    (hb : ∀ (f : Addr) (cdv : Value) (A : Around) (outer : List Env) (s : Shared) (H : Hp) (E : XK), Room k (A.deeper (envOfC x (defScope st) s.heap.objs.size f cdv)) →
      ∃ t, PSs (cxOf CX0 P w K mg base N x (defScope st) f cdv A outer s H E).nox (defBody st) t ∧ ∀ (vs : List V) (Q : VK), sp vs H Q E → t { nx := fun _ H' => Q .non H', rt := Q } (L2.start N vs) H) : Cal P w K mg base (k + 1) x ps sp := by
  obtain ⟨f, fd, F, a, b⟩ := D.ex
  refine ⟨f, fd, F.ok S len fun cdv A outer s H vs Q E hr h => ?_, a, F.kp, b⟩
  obtain ⟨t, pt, q⟩ := hb f cdv A outer s H E hr
  exact ⟨t, pt.nox, q vs Q h⟩
/-- .. by data -/
theorem DefAt.okW {δ α : Type} {W : δ → Wd K} {args : δ → α → List Dt} {pre : α → Prop} {cost : α → Nat} {post : α → Dt → Prop} {x : Str} {st : Stmt} {N ps : List Str} {k : Nat} (D : DefAt K mg x st ps) (S : FnScope N ps (defScope st)) (len : ∀ w a, (args w a).length = ps.length)
    (hb : ∀ (f : Addr) (cdv : Value) (A : Around) (outer : List Env) (s : Shared) (H : Hp) (E : XK), Room k (A.deeper (envOfC x (defScope st) s.heap.objs.size f cdv)) →
      ∃ t, PSs (cxOf CX0 P w K mg base N x (defScope st) f cdv A outer s H E).nox (defBody st) t ∧ ∀ w a r, pre a → EvS (W w) t (startG N.length (args w a)) (r + cost a) No (fun r' d => r ≤ r' ∧ post a d)) : Cal P w K mg base (k + 1) x ps (SpW W args pre cost post) := by
  refine D.ok S (fun vs H Q E h => ?_) fun f cdv A outer s H E hr => ?_
  · obtain ⟨w, a, r, hl, _⟩ := h
    rw [hl.length, len]
  · obtain ⟨t, pt, ev⟩ := hb f cdv A outer s H E hr
    refine ⟨t, pt, fun vs Q h => ?_⟩
    obtain ⟨w, a, r, hl, hp, hI, q⟩ := h
    exact ev w a r hp _ H _ (Sl.start hl) hI (fun _ _ _ _ _ _ z => z.elim) fun v H' r' d e i' pd dv => q v H' d e ((W w).anti _ _ _ i' pd.1) pd.2 dv
theorem DefAt.okP {α : Type} {args : α → List Dt} {pre : α → Prop} {res : α → Dt} {x : Str} {st : Stmt} {N ps : List Str} {k : Nat} (D : DefAt K mg x st ps) (S : FnScope N ps (defScope st)) (len : ∀ a, (args a).length = ps.length)
    (hb : ∀ (f : Addr) (cdv : Value) (A : Around) (outer : List Env) (s : Shared) (H : Hp) (E : XK), Room k (A.deeper (envOfC x (defScope st) s.heap.objs.size f cdv)) →
      ∃ t, PSs (cxOf CX0 P w K mg base N x (defScope st) f cdv A outer s H E).nox (defBody st) t ∧ ∀ (W : Wd K) a r, pre a → EvS W t (startG N.length (args a)) r No (fun r' d => r ≤ r' ∧ d = res a)) : Cal P w K mg base (k + 1) x ps (SpP K args pre res) :=
  D.okW S (fun _ => len) hb
end

section
variable {K : PySem.W.Frag} {W : Wd K} {Γ Γ' : Gm} {r r1 r2 r3 r' : Nat} {ta tb tc te : TE} {P P' P1 P2 : Dt → Prop} {PL : List Dt → Prop} {x y : V} {d d1 d2 : Dt} {ds es : List Dt} {i j : Int} {t u : TT} {tl : TA}

/-! ### calls -/
theorem ev_call {δ α : Type} {Wf : δ → Wd K} {args : δ → α → List Dt} {pre : α → Prop} {cost : α → Nat} {post : α → Dt → Prop} {E : XK} (w : δ) (a : α) (h : EvA (Wf w) tl Γ r (r1 + cost a) PL) (k : ∀ ds, PL ds → ds = args w a) (hp : pre a) (hq : ∀ d, post a d → P d) :
    Ev (Wf w) (tCall (SpW Wf args pre cost post) [] E tl) Γ r r1 P := fun σ H Q s I q =>
  h σ H _ s I fun vs H1 ds e1 I1 p1 a1 => by
    have e := k ds p1
    subst e
    show SpW Wf args pre cost post (vs ++ []) H1 Q E
    rw [List.append_nil]
    exact ⟨w, a, r1, a1, hp, I1, fun v H' d e' i' pd dv => q v H' d (e1.trans e') i' (hq d pd) dv⟩
/-- .. drawn arguments -/
theorem ev_callP {δ α : Type} {Wf : δ → Wd K} {args : δ → α → List Dt} {pre : α → Prop} {cost : α → Nat} {post : α → Dt → Prop} {E : XK} (w : δ) (c : Nat) (h : EvA (Wf w) tl Γ r (r1 + c) PL) (k : ∀ ds, PL ds → ∃ a, ds = args w a ∧ pre a ∧ cost a ≤ c ∧ ∀ d, post a d → P d) :
    Ev (Wf w) (tCall (SpW Wf args pre cost post) [] E tl) Γ r r1 P := fun σ H Q s I q =>
  h σ H _ s I fun vs H1 ds e1 I1 p1 a1 => by
    obtain ⟨a, e, hp, hc, hq⟩ := k ds p1
    subst e
    show SpW Wf args pre cost post (vs ++ []) H1 Q E
    rw [List.append_nil]
    exact ⟨w, a, r1, a1, hp, (Wf w).anti _ _ _ I1 (by omega), fun v H' d e' i' pd dv => q v H' d (e1.trans e') i' (hq d pd) dv⟩
theorem ev_callD {α : Type} {args : α → List Dt} {pre : α → Prop} {res : α → Dt} {E : XK} (a : α) (h : EvA W tl Γ r r1 (AtL ds)) (e : ds = args a) (hp : pre a) : Ev W (tCall (SpP K args pre res) [] E tl) Γ r r1 (At (res a)) :=
  ev_call (Wf := fun W : Wd K => W) (args := fun _ a => args a) W a h (fun ds' p => p.trans e) hp fun _ z => z
/-- a built-in of one argument -/
theorem ev_cb1 {rr : List V → Hp → VK → Prop} (ha : Ev W ta Γ r r1 P1) (h : ∀ a d1 H Q, P1 d1 → Dat W H a d1 → W.I r1 H → (∀ v H' d, Same H H' → W.I r1 H' → P d → Dat W H' v d → Q v H') → rr [a] H Q) : Ev W (tCB rr (tCons ta tNil)) Γ r r1 P := fun σ H Q s I q =>
  ha σ H _ s I fun a H1 d1 e1 I1 p1 a1 => h a d1 H1 Q p1 a1 I1 fun v H' d e' I' p dv => q v H' d (e1.trans (.of e')) I' p dv
theorem ev_cb2 {rr : List V → Hp → VK → Prop} (ha : Ev W ta Γ r r1 P1) (hb : Ev W tb Γ r1 r2 P2) (h : ∀ a b d1 d2 H Q, P1 d1 → P2 d2 → Dat W H a d1 → Dat W H b d2 → W.I r2 H → (∀ v H' d, Same H H' → W.I r2 H' → P d → Dat W H' v d → Q v H') → rr [a, b] H Q) : Ev W (tCB rr (tCons ta (tCons tb tNil))) Γ r r2 P := fun σ H Q s I q =>
  ha σ H _ s I fun a H1 d1 e1 I1 p1 a1 => hb σ H1 _ (s.mono I e1) I1 fun b H2 d2 e2 I2 p2 b2 =>
    h a b d1 d2 H2 Q p1 p2 (a1.mono I1 e2) b2 I2 fun v H' d e' I' p dv => q v H' d (e1.trans (e2.trans (.of e'))) I' p dv
def rLen (K : PySem.W.Frag) : List V → Hp → VK → Prop := fun xs H Q => ∃ p ys, xs = [.ref p] ∧ (SqL K H p ys ∨ SqT K H p ys) ∧ Q (.int ys.length) H
theorem cb_len {X : Cx} (K : PySem.W.Frag) (h : X.K = K := by rfl) : CallR X (.builtin "len") (rLen K) := by
  subst h
  exact call_len_seq
theorem ev_lenT (ha : Ev W ta Γ r r1 (At (.tup ds))) : Ev W (tCB (rLen K) (tCons ta tNil)) Γ r r1 (At (.v (.int ds.length))) :=
  ev_cb1 ha fun a d1 H Q p1 a1 I q => by
    subst p1
    cases a1 with
    | tup hs l => exact ⟨_, _, rfl, .inr hs, by rw [l.length]; exact q _ H _ (Same.refl H) I rfl (.v _)⟩
theorem ev_lenL (ha : Ev W ta Γ r r1 (At (.lst ds))) : Ev W (tCB (rLen K) (tCons ta tNil)) Γ r r1 (At (.v (.int ds.length))) :=
  ev_cb1 ha fun a d1 H Q p1 a1 I q => by
    subst p1
    cases a1 with
    | lst _ hs l => exact ⟨_, _, rfl, .inl (SqL.of hs), by rw [l.length]; exact q _ H _ (Same.refl H) I rfl (.v _)⟩
/-- tuple(list): a new tuple, known to have no dict -/
def rTupOf (K : PySem.W.Frag) : List V → Hp → VK → Prop := fun xs H Q => ∃ p ys, xs = [.ref p] ∧ SqL K H p ys ∧ ∀ l (o : Obj), H l = none → o.dict = none → Q (.ref l) (upd H l (.frz o (.tup ys)))
theorem cb_tuple {X : Cx} (K : PySem.W.Frag) (h : X.K = K := by rfl) : CallR X (.type "tuple") (rTupOf K) := by
  subst h
  intro pins s σ H xs us Q I rv h
  obtain ⟨p, ys, rfl, hq, q⟩ := h
  rw [Vals.ref1 rv]
  obtain ⟨its, r', pl, hz⟩ := I.list hq
  have hlen := r'.length
  refine call_tuple_list pl.isList (fun h' kp => ?_) (by rw [List.size_toArray, ← hlen]; exact hz)
  have I1 : Inv X pins σ H { s with heap := h' } := I.kept (t' := s.toks) kp
  refine ⟨.ref h'.objs.size, _, I1.laid (o := .frz ⟨.type "tuple", none, .seq its.toArray, #[]⟩ (.tup ys)) (t' := s.toks) (fun b o e => Heap.get?_push_of_some _ e) (Nat.le_refl _) ?_, rfl, q _ _ (I1.hok.fresh (Nat.le_refl _)) rfl⟩
  exact ⟨Heap.get?_push_size _ rfl, hz, its, r', IsTup.new _ _⟩
theorem ev_ftupleOfP (ha : Ev W ta Γ r r1 P1) (h : ∀ d, P1 d → ∃ ds, d = .lst ds ∧ P (.ftup ds)) : Ev W (tCB (rTupOf K) (tCons ta tNil)) Γ r r1 P :=
  ev_cb1 ha fun a d1 H Q p1 a1 I q => by
    obtain ⟨ds, rfl, hP⟩ := h d1 p1
    cases a1 with
    | lst _ hs l => exact ⟨_, _, rfl, SqL.of hs, fun p o np no => q _ _ (.ftup ds) (same_new np) (W.mono _ _ _ I (same_new np)) hP (.ftup upd_same no (l.mono I (.of (same_new np))))⟩
theorem ev_tupleOfP (ha : Ev W ta Γ r r1 P1) (h : ∀ d, P1 d → ∃ ds, d = .lst ds ∧ P (.tup ds)) : Ev W (tCB (rTupOf K) (tCons ta tNil)) Γ r r1 P :=
  ev_cb1 ha fun a d1 H Q p1 a1 I q => by
    obtain ⟨ds, rfl, hP⟩ := h d1 p1
    cases a1 with
    | lst _ hs l => exact ⟨_, _, rfl, SqL.of hs, fun p o np no => q _ _ (.tup ds) (same_new np) (W.mono _ _ _ I (same_new np)) hP (.tup (.inl (.inr ⟨o, upd_same⟩)) (l.mono I (.of (same_new np))))⟩
theorem ev_tupleOf (ha : Ev W ta Γ r r1 (At (.lst ds))) : Ev W (tCB (rTupOf K) (tCons ta tNil)) Γ r r1 (At (.tup ds)) := ev_tupleOfP ha fun _ e => ⟨ds, e, rfl⟩
theorem ev_ftupleOf (ha : Ev W ta Γ r r1 (At (.lst ds))) : Ev W (tCB (rTupOf K) (tCons ta tNil)) Γ r r1 (At (.ftup ds)) := ev_ftupleOfP ha fun _ e => ⟨ds, e, rfl⟩
/-- a written tuple, known to have no dict -/
def tTupF (t : TA) : TE := fun σ H Q => t σ H fun xs H1 => xs.length ≤ sizeLine ∧ ∀ p (o : Obj), H1 p = none → o.dict = none → Q (.ref p) (upd H1 p (.frz o (.tup xs)))
theorem pe_ftup {X : Cx} {es : List Expr} {t : TA} {x1 : Nat} {pos : Pos} (h : PA X es t) : PE X (.Tuple es x1 pos) (tTupF t) := by
  refine ⟨fun pins s σ H Q I hq => wpAny_Tuple_spliced (thn (h.run pos pins s σ H _ I hq) fun us s1 z => ?_)⟩
  obtain ⟨xs, H1, I1, rv, hz, q⟩ := z
  refine ⟨by rw [← rv.length]; exact hz, .ref s1.heap.objs.size, _, I1.laid (o := .frz ⟨.type "tuple", none, .seq us.toArray, #[]⟩ (.tup xs)) (t' := s1.toks) (fun b u e => Heap.get?_push_of_some _ e) (Nat.le_refl _) ?_, rfl, q _ _ (I1.hok.fresh (Nat.le_refl _)) rfl⟩
  exact ⟨Heap.get?_push_size _ rfl, hz, us, rv, ⟨_, Heap.get?_push_size _ rfl, rfl, _, rfl⟩⟩
theorem ev_ftup {t : TA} {ds : List Dt} (h : EvA W t Γ r r1 (AtL ds)) (hl : ds.length ≤ 20 := by exact Nat.le_of_ble_eq_true rfl) : Ev W (tTupF t) Γ r r1 (At (.ftup ds)) := fun σ H Q s I q =>
  h σ H _ s I fun vs H1 ds' e1 I1 p1 a1 => by
    subst p1
    exact ⟨by rw [a1.length, sizeLine_eq]; omega, fun p o np no => q _ _ _ (e1.trans (.of (same_new np))) (W.mono _ _ _ I1 (same_new np)) rfl (.ftup upd_same no (a1.mono I1 (.of (same_new np))))⟩
/-- list(tuple) -/
def rListOf (K : PySem.W.Frag) : List V → Hp → VK → Prop := fun xs H Q => ∃ p ys, xs = [.ref p] ∧ (SqL K H p ys ∨ SqT K H p ys) ∧ ∀ l, H l = none → Q (.ref l) (upd H l (.lst ys))
theorem cb_list {X : Cx} (K : PySem.W.Frag) (h : X.K = K := by rfl) : CallR X (.type "list") (rListOf K) := by
  subst h
  exact call_list_of
theorem ev_listOf (ha : Ev W ta Γ r r1 (At (.tup ds))) : Ev W (tCB (rListOf K) (tCons ta tNil)) Γ r r1 (At (.lst ds)) :=
  ev_cb1 ha fun a d1 H Q p1 a1 I q => by
    subst p1
    cases a1 with
    | tup hs l => exact ⟨_, _, rfl, .inr hs, fun p np => q _ _ (.lst ds) (same_new np) (W.mono _ _ _ I (same_new np)) rfl (.lst (W.not_new I np) upd_same (l.mono I (.of (same_new np))))⟩
/-- int(truth) -/
def rInt1 : List V → Hp → VK → Prop := fun xs H Q => (∃ i, xs = [.int i] ∧ Q (.int i) H) ∨ ∃ k, xs = [.bl k] ∧ Q (.int (if k then 1 else 0)) H
theorem cb_int {X : Cx} : CallR X (.type "int") rInt1 := call_int1
theorem ev_intB {b : Bool} (ha : Ev W ta Γ r r1 (At (.v (.bl b)))) : Ev W (tCB rInt1 (tCons ta tNil)) Γ r r1 (At (.v (.int (if b then 1 else 0)))) :=
  ev_cb1 ha fun a d1 H Q p1 a1 I q => by
    subst p1
    rw [a1.v_eq]
    exact .inr ⟨b, rfl, q _ H _ (Same.refl H) I rfl (.v _)⟩
theorem ev_intBP (ha : Ev W ta Γ r r1 (fun d => ∃ b, d = .v (.bl b))) (h0 : P (.v (.int 0))) (h1 : P (.v (.int 1))) : Ev W (tCB rInt1 (tCons ta tNil)) Γ r r1 P :=
  ev_cb1 ha fun a d1 H Q p1 a1 I q => by
    obtain ⟨b, rfl⟩ := p1
    rw [a1.v_eq]
    exact .inr ⟨b, rfl, by cases b with
      | true => exact q _ H _ (Same.refl H) I h1 (.v _)
      | false => exact q _ H _ (Same.refl H) I h0 (.v _)⟩
/-- isinstance(x, T) of a datum -/
def tyD : Dt → String
  | .v (.int _) => "int"
  | .v (.str _) => "str"
  | .v (.bl _) => "bool"
  | .v .non => "NoneType"
  | .tup _ => "tuple"
  | _ => ""
theorem cb_isi {X : Cx} (K : PySem.W.Frag) (h : X.K = K := by rfl) : CallR X (.builtin "isinstance") (rIsi K) := by
  subst h
  exact call_isi
theorem tyX_of {H : Hp} {a : V} {d : Dt} {T : String} (h : Dat W H a d) (e : tyD d = T) (hT : T ≠ "") : TyX K H a (.type T) := by
  cases h with
  | v =>
    cases a with
    | non => subst e; exact .base .non
    | bl b => subst e; exact .base (.bl b)
    | int i => subst e; exact .base (.int i)
    | str z => subst e; exact .base (.str z)
    | byt _ => exact absurd e.symm hT
    | flt _ => exact absurd e.symm hT
    | ref _ => exact absurd e.symm hT
    | ty _ => exact absurd e.symm hT
  | tup hs l =>
    subst e
    rcases hs with (h | ⟨o, h⟩) | ⟨o, its, n, h, hc, _⟩
    · exact .base (.tup h)
    · exact .fTuple h
    · exact .kTuple h hc
  | ftup _ _ _ => exact absurd e.symm hT
  | lst _ _ _ => exact absurd e.symm hT
  | env _ _ _ => exact absurd e.symm hT
theorem ev_isi {T C : String} {b : Bool} (ha : Ev W ta Γ r r1 (At d)) (e : tyD d = T) (hk : kitB T C = some b) (hT : T ≠ "" := by decide) : Ev W (tCB (rIsi K) (tCons ta (tCons (tC (.ty C)) tNil))) Γ r r1 (At (.v (.bl b))) :=
  ev_cb2 ha (ev_c (W := W) (r := r1)) fun a c d1 d2 H Q p1 p2 a1 c2 I q => by
    subst p1 p2
    rw [c2.v_eq]
    exact ⟨a, .ty C, .type T, .type C, b, rfl, .ty C, tyX_of a1 e hT, kit_ty hk, q _ H _ (Same.refl H) I rfl (.v _)⟩

/-! ### sums of lists, tuples, texts -/
def rPlus (K : PySem.W.Frag) : R2 := fun x y H Q => ((rI0 (fun i j => .int (i + j)) x y H Q ∨ rCatA K x y H Q) ∨ rCat x y H Q) ∨ ∃ i j, x = .str i ∧ y = .str j ∧ i.length + j.length ≤ sizeLine ∧ Q (.str (i ++ j)) H
theorem op_plus {X : Cx} (K : PySem.W.Frag) (h : X.K = K := by rfl) : OpR X (binaryOp .Add) (rPlus K) := by
  subst h
  exact ((op_add.or op_catA).or op_cat).or op_add_str
theorem ev_addI (ha : Ev W ta Γ r r1 (At (.v (.int i)))) (hb : Ev W tb Γ r1 r2 (At (.v (.int j)))) : Ev W (tOp (rPlus K) ta tb) Γ r r2 (At (.v (.int (i + j)))) :=
  ev_opV ha hb fun _ _ q => .inl (.inl (.inl ⟨i, j, rfl, rfl, q⟩))
theorem ev_addP {p q : Int → Prop} (ha : Ev W ta Γ r r1 (In p)) (hb : Ev W tb Γ r1 r2 (In q)) (h : ∀ i j, p i → q j → P (.v (.int (i + j)))) : Ev W (tOp (rPlus K) ta tb) Γ r r2 P :=
  ev_op ha hb fun a b d1 d2 H Q p1 p2 a1 b2 I k => by
    obtain ⟨i, rfl, hi⟩ := p1
    obtain ⟨j, rfl, hj⟩ := p2
    rw [a1.v_eq, b2.v_eq]
    exact .inl (.inl (.inl ⟨i, j, rfl, rfl, k _ H _ (Same.refl H) I (h i j hi hj) (.v _)⟩))
theorem ev_addS {y z : Str} (ha : Ev W ta Γ r r1 (At (.v (.str y)))) (hb : Ev W tb Γ r1 r2 (At (.v (.str z)))) (h : y.length + z.length ≤ sizeLine) : Ev W (tOp (rPlus K) ta tb) Γ r r2 (At (.v (.str (y ++ z)))) :=
  ev_opV ha hb fun _ _ q => .inr ⟨y, z, rfl, rfl, h, q⟩
theorem ev_catTP (ha : Ev W ta Γ r r1 P1) (hb : Ev W tb Γ r1 r2 P2) (h : ∀ d e, P1 d → P2 e → ∃ ds es, d = .tup ds ∧ e = .tup es ∧ ds.length + es.length ≤ sizeLine ∧ P (.tup (ds ++ es))) : Ev W (tOp (rPlus K) ta tb) Γ r r2 P :=
  ev_op ha hb fun a b d1 d2 H Q p1 p2 a1 b2 I k => by
    obtain ⟨ds, es, rfl, rfl, hz, hP⟩ := h d1 d2 p1 p2
    cases a1 with
    | tup h1 l1 =>
      cases b2 with
      | tup h2 l2 =>
        refine .inl (.inl (.inr ⟨_, _, _, _, rfl, rfl, h1, h2, by rw [l1.length, l2.length]; exact hz, fun e => ?_, fun _ e => ?_, fun _ _ p np => ?_⟩))
        · subst e
          cases l1
          exact k _ H _ (Same.refl H) I hP (.tup h2 l2)
        · subst e
          cases l2
          rw [List.append_nil] at hP
          exact k _ H _ (Same.refl H) I hP (.tup h1 l1)
        · exact k _ _ _ (same_new np) (W.mono _ _ _ I (same_new np)) hP (.tup (SqT.of upd_same) ((l1.append l2).mono I (.of (same_new np))))
theorem ev_catT (ha : Ev W ta Γ r r1 (At (.tup ds))) (hb : Ev W tb Γ r1 r2 (At (.tup es))) (hz : ds.length + es.length ≤ sizeLine) : Ev W (tOp (rPlus K) ta tb) Γ r r2 (At (.tup (ds ++ es))) :=
  ev_catTP ha hb fun _ _ e1 e2 => ⟨ds, es, e1, e2, hz, rfl⟩
theorem ev_catL (ha : Ev W ta Γ r r1 (At (.lst ds))) (hb : Ev W tb Γ r1 r2 (At (.lst es))) (hz : ds.length + es.length ≤ sizeLine) : Ev W (tOp (rPlus K) ta tb) Γ r r2 (At (.lst (ds ++ es))) :=
  ev_op ha hb fun a b d1 d2 H Q p1 p2 a1 b2 I k => by
    subst p1 p2
    cases a1 with
    | lst n1 h1 l1 =>
      cases b2 with
      | lst n2 h2 l2 => exact .inl (.inr ⟨_, _, _, _, rfl, rfl, h1, h2, by rw [l1.length, l2.length]; exact hz, fun p np => k _ _ _ (same_new np) (W.mono _ _ _ I (same_new np)) rfl (.lst (W.not_new I np) upd_same ((l1.append l2).mono I (.of (same_new np))))⟩)

/-! ### slices -/
def cutD (ds : List Dt) (lo hi : Option Int) : List Dt := (ds.drop (HT.sIx ds.length 0 lo)).take (HT.sIx ds.length ds.length hi - HT.sIx ds.length 0 lo)
def rCut (K : PySem.W.Frag) : V → Option Int → Option Int → Hp → VK → Prop := fun x lo hi H Q => rSlL K x lo hi H Q ∨ rSlA K x lo hi H Q
theorem sl_cut {X : Cx} (K : PySem.W.Frag) (h : X.K = K := by rfl) : SlR X (rCut K) := by
  subst h
  exact sl_list.or sl_tupA
theorem eo_none : EvO W tNoPart Γ r r none := fun σ H Q s I q => q H .refl I
theorem eo_some (h : Ev W te Γ r r1 (At (.v (.int i)))) : EvO W (tPart te) Γ r r1 (some i) := fun σ H Q s I q =>
  h σ H _ s I fun v H1 d e1 I1 p1 a1 => by
    subst p1
    exact ⟨i, a1.v_eq, q H1 e1 I1⟩
theorem DatL.cut {H : Hp} {xs : List V} (l : DatL W H xs ds) (lo hi : Option Int) : DatL W H (cutV xs lo hi) (cutD ds lo hi) := by
  unfold cutV cutD
  rw [l.length]
  exact (l.drop _).take _
theorem ev_slT {lo hi : TO} {a b : Option Int} (h : Ev W te Γ r r1 (At (.tup ds))) (h1 : EvO W lo Γ r1 r2 a) (h2 : EvO W hi Γ r2 r3 b) : Ev W (tSl (rCut K) te lo hi) Γ r r3 (At (.tup (cutD ds a b))) := fun σ H Q s I q =>
  h σ H _ s I fun v H1 d e1 I1 p1 a1 => h1 σ H1 _ (s.mono I e1) I1 fun H2 e2 I2 => h2 σ H2 _ ((s.mono I e1).mono I1 e2) I2 fun H3 e3 I3 => by
    subst p1
    have a3 := (a1.mono I1 e2).mono I2 e3
    have e := e1.trans (e2.trans e3)
    cases a3 with
    | tup hs l =>
      refine .inr ⟨_, _, rfl, hs, fun hw => ?_, fun _ p np => q _ _ _ (e.trans (.of (same_new np))) (W.mono _ _ _ I3 (same_new np)) rfl (.tup (SqT.of upd_same) ((l.cut a b).mono I3 (.of (same_new np))))⟩
      refine q _ H3 _ e I3 ?_ (.tup hs l)
      show Dt.tup ds = Dt.tup (cutD ds a b)
      unfold cutD
      rw [l.length] at hw
      rw [hw.1, hw.2, List.drop_zero, Nat.sub_zero, List.take_length]
theorem ev_slL {lo hi : TO} {a b : Option Int} (h : Ev W te Γ r r1 (At (.lst ds))) (h1 : EvO W lo Γ r1 r2 a) (h2 : EvO W hi Γ r2 r3 b) : Ev W (tSl (rCut K) te lo hi) Γ r r3 (At (.lst (cutD ds a b))) := fun σ H Q s I q =>
  h σ H _ s I fun v H1 d e1 I1 p1 a1 => h1 σ H1 _ (s.mono I e1) I1 fun H2 e2 I2 => h2 σ H2 _ ((s.mono I e1).mono I1 e2) I2 fun H3 e3 I3 => by
    subst p1
    have a3 := (a1.mono I1 e2).mono I2 e3
    have e := e1.trans (e2.trans e3)
    cases a3 with
    | lst n hs l => exact .inl ⟨_, _, rfl, SqL.of hs, fun p np => q _ _ _ (e.trans (.of (same_new np))) (W.mono _ _ _ I3 (same_new np)) rfl (.lst (W.not_new I3 np) upd_same ((l.cut a b).mono I3 (.of (same_new np))))⟩

/-! ### in, not in -/
def vOf : Dt → V
  | .v x => x
  | _ => .non
def isV : Dt → Bool
  | .v x => flatV x
  | _ => false
def inD (x : V) (ds : List Dt) : Bool := ds.any fun d => eqV (vOf d) x
theorem flat_of {H : Hp} : ∀ {xs : List V} {ds : List Dt}, DatL W H xs ds → ds.all isV = true → xs.all flatV = true ∧ ∀ x, inV x xs = inD x ds
  | _, _, .nil, _ => ⟨rfl, fun _ => rfl⟩
  | _, _, .cons (x := y) (xs := ys) (d := d) (ds := ds) h l, e => by
    rw [List.all_cons, Bool.and_eq_true] at e
    obtain ⟨a, b⟩ := flat_of l e.2
    cases h with
    | v z =>
      refine ⟨by rw [List.all_cons, Bool.and_eq_true]; exact ⟨e.1, a⟩, fun x => ?_⟩
      have q := b x
      unfold inV inD at q ⊢
      rw [List.any_cons, List.any_cons, q]
      rfl
    | tup _ _ => exact absurd e.1 Bool.false_ne_true
    | ftup _ _ _ => exact absurd e.1 Bool.false_ne_true
    | lst _ _ _ => exact absurd e.1 Bool.false_ne_true
    | env _ _ _ => exact absurd e.1 Bool.false_ne_true
theorem op_inS {X : Cx} (K : PySem.W.Frag) (h : X.K = K := by rfl) : OpR X (compareOp .In) (rIn K false) := by
  subst h
  exact op_in_seq
theorem op_niS {X : Cx} (K : PySem.W.Frag) (h : X.K = K := by rfl) : OpR X (compareOp .NotIn) (rIn K true) := by
  subst h
  exact op_notIn_seq
theorem ev_inT {neg : Bool} (ha : Ev W ta Γ r r1 (At (.v x))) (hb : Ev W tb Γ r1 r2 (At (.tup ds))) (hx : flatV x = true) (hd : ds.all isV = true) : Ev W (tOp (rIn K neg) ta tb) Γ r r2 (At (.v (.bl (if neg then !inD x ds else inD x ds)))) :=
  ev_op ha hb fun a b d1 d2 H Q p1 p2 a1 b2 I q => by
    subst p1 p2
    rw [a1.v_eq]
    cases b2 with
    | tup hs l =>
      obtain ⟨f, e⟩ := flat_of l hd
      exact ⟨_, _, rfl, .inr hs, hx, f, by rw [e x]; exact q _ H _ (Same.refl H) I rfl (.v _)⟩
theorem ev_inL {neg : Bool} (ha : Ev W ta Γ r r1 (At (.v x))) (hb : Ev W tb Γ r1 r2 (At (.lst ds))) (hx : flatV x = true) (hd : ds.all isV = true) : Ev W (tOp (rIn K neg) ta tb) Γ r r2 (At (.v (.bl (if neg then !inD x ds else inD x ds)))) :=
  ev_op ha hb fun a b d1 d2 H Q p1 p2 a1 b2 I q => by
    subst p1 p2
    rw [a1.v_eq]
    cases b2 with
    | lst _ hs l =>
      obtain ⟨f, e⟩ := flat_of l hd
      exact ⟨_, _, rfl, .inl (SqL.of hs), hx, f, by rw [e x]; exact q _ H _ (Same.refl H) I rfl (.v _)⟩
/-- dicts -/
theorem ev_din {n : Nat} {f : Key → Option Int} {k : Key} (ha : Ev W ta Γ r r1 (At (.v (kV k)))) (hb : Ev W tb Γ r1 r2 (At (.env n f))) : Ev W (tDIn ta tb) Γ r r2 (At (.v (.bl (f k).isSome))) := fun σ H Q s I q =>
  ha σ H _ s I fun a H1 d1 e1 I1 p1 a1 => hb σ H1 _ (s.mono I e1) I1 fun b H2 d2 e2 I2 p2 b2 => by
    subst p1 p2
    cases b2 with
    | env h hn hf =>
      refine ⟨_, _, rfl, .inl ⟨_, k, h, a1.v_eq, rfl⟩, ?_⟩
      have e : ((f k).map V.int).isSome = (f k).isSome := by cases f k <;> rfl
      rw [hf k, e]
      exact q _ H2 _ (e1.trans e2) I2 rfl (.v _)
theorem ev_dget {n : Nat} {f : Key → Option Int} {k : Key} (ha : Ev W ta Γ r r1 (At (.env n f))) (hb : Ev W tb Γ r1 r2 (At (.v (kV k)))) (h : f k = some i) : Ev W (tDGet ta tb) Γ r r2 (At (.v (.int i))) := fun σ H Q s I q =>
  ha σ H _ s I fun a H1 d1 e1 I1 p1 a1 => hb σ H1 _ (s.mono I e1) I1 fun b H2 d2 e2 I2 p2 b2 => by
    subst p1 p2
    have a2 := a1.mono I1 e2
    cases a2 with
    | env hd hn hf => exact ⟨_, .int i, rfl, .inl ⟨_, k, hd, b2.v_eq, by rw [hf k, h]; rfl⟩, q _ H2 _ (e1.trans e2) I2 rfl (.v _)⟩

/-! ### tests -/
theorem et_B {b : Bool} (h : Ev W te Γ r r1 (At (.v (.bl b)))) : EvT W (tB te) Γ r r1 (AtB b) := fun σ H Q s I q =>
  h σ H _ s I fun v H1 d e1 I1 p1 a1 => by
    subst p1
    exact ⟨b, a1.v_eq, q b H1 e1 I1 rfl⟩
/-- a comparison's answer -/
theorem et_T {b : Bool} (h : Ev W te Γ r r1 (At (.v (.bl b)))) : EvT W (tTest te) Γ r r1 (AtB b) := et_B h
theorem et_BP {PB : Bool → Prop} (h : Ev W te Γ r r1 P) (k : ∀ d, P d → ∃ b, d = .v (.bl b) ∧ PB b) : EvT W (tB te) Γ r r1 PB := fun σ H Q s I q =>
  h σ H _ s I fun v H1 d e1 I1 p1 a1 => by
    obtain ⟨b, rfl, pb⟩ := k d p1
    exact ⟨b, a1.v_eq, q b H1 e1 I1 pb⟩
theorem EvT.is {a b : Bool} (h : EvT W t Γ r r1 (AtB a)) (e : a = b) : EvT W t Γ r r1 (AtB b) := e ▸ h
theorem EvT.imp {PB PB' : Bool → Prop} (h : EvT W t Γ r r1 PB) (k : ∀ b, PB b → PB' b) : EvT W t Γ r r1 PB' := fun σ H Q s I q => h σ H Q s I fun b H' e i p => q b H' e i (k b p)
theorem EvT.less {PB : Bool → Prop} (h : EvT W t Γ r1 r2 PB) (a : r1 ≤ r) (b : r' ≤ r2) : EvT W t Γ r r' PB := fun σ H Q s I q => h σ H Q s (W.anti _ _ _ I a) fun v H' e i p => q v H' e (W.anti _ _ _ i b) p
theorem et_yes : EvT W tYes Γ r r (AtB true) := fun σ H Q s I q => q true H .refl I rfl
theorem et_and {a b : Bool} (h1 : EvT W t Γ r r1 (AtB a)) (h2 : a = true → EvT W u Γ r1 r1 (AtB b)) : EvT W (tAnd t u) Γ r r1 (AtB (a && b)) := fun σ H Q s I q =>
  h1 σ H _ s I fun c H1 e1 I1 p1 => by
    have p : c = a := p1
    subst p
    cases c with
    | true => exact iteT (h2 rfl σ H1 _ (s.mono I e1) I1 fun b' H2 e2 I2 p2 => q b' H2 (e1.trans e2) I2 p2)
    | false => exact iteF (q false H1 e1 I1 rfl)
theorem et_or {a b : Bool} (h1 : EvT W t Γ r r1 (AtB a)) (h2 : a = false → EvT W u Γ r1 r1 (AtB b)) : EvT W (tOr t u) Γ r r1 (AtB (a || b)) := fun σ H Q s I q =>
  h1 σ H _ s I fun c H1 e1 I1 p1 => by
    have p : c = a := p1
    subst p
    cases c with
    | true => exact iteT (q true H1 e1 I1 rfl)
    | false => exact iteF (h2 rfl σ H1 _ (s.mono I e1) I1 fun b' H2 e2 I2 p2 => q b' H2 (e1.trans e2) I2 p2)
theorem et_not {a : Bool} (h1 : EvT W t Γ r r1 (AtB a)) : EvT W (tNot t) Γ r r1 (AtB (!a)) := fun σ H Q s I q =>
  h1 σ H _ s I fun c H1 e1 I1 p1 => by
    have p : c = a := p1
    subst p
    exact q _ H1 e1 I1 rfl
theorem ev_andV {a b : Bool} (h1 : Ev W ta Γ r r1 (At (.v (.bl a)))) (h2 : a = true → Ev W tb Γ r1 r1 (At (.v (.bl b)))) : Ev W (tAndV ta tb) Γ r r1 (At (.v (.bl (a && b)))) := fun σ H Q s I q =>
  h1 σ H _ s I fun c H1 d e1 I1 p1 a1 => by
    subst p1
    refine ⟨a, a1.v_eq, ?_⟩
    cases a with
    | true => exact iteT (h2 rfl σ H1 _ (s.mono I e1) I1 fun v H2 d2 e2 I2 p2 a2 => q v H2 d2 (e1.trans e2) I2 p2 a2)
    | false => exact iteF (q _ H1 _ e1 I1 rfl (.v _))
theorem ev_orV {a b : Bool} (h1 : Ev W ta Γ r r1 (At (.v (.bl a)))) (h2 : a = false → Ev W tb Γ r1 r1 (At (.v (.bl b)))) : Ev W (tOrV ta tb) Γ r r1 (At (.v (.bl (a || b)))) := fun σ H Q s I q =>
  h1 σ H _ s I fun c H1 d e1 I1 p1 a1 => by
    subst p1
    refine ⟨a, a1.v_eq, ?_⟩
    cases a with
    | true => exact iteT (q _ H1 _ e1 I1 rfl (.v _))
    | false => exact iteF (h2 rfl σ H1 _ (s.mono I e1) I1 fun v H2 d2 e2 I2 p2 a2 => q v H2 d2 (e1.trans e2) I2 p2 a2)
theorem ev_notV {a : Bool} (h1 : Ev W ta Γ r r1 (At (.v (.bl a)))) : Ev W (tNotV ta) Γ r r1 (At (.v (.bl (!a)))) := fun σ H Q s I q =>
  h1 σ H _ s I fun c H1 d e1 I1 p1 a1 => by
    subst p1
    exact ⟨a, a1.v_eq, q _ H1 _ e1 I1 rfl (.v _)⟩
theorem ev_if {b : Bool} (h : EvT W t Γ r r1 (AtB b)) (h1 : b = true → Ev W ta Γ r1 r2 P) (h2 : b = false → Ev W tb Γ r1 r2 P) : Ev W (tIf t ta tb) Γ r r2 P := fun σ H Q s I q =>
  h σ H _ s I fun c H1 e1 I1 p1 => by
    have p : c = b := p1
    subst p
    cases c with
    | true => exact iteT (h1 rfl σ H1 _ (s.mono I e1) I1 fun v H2 d2 e2 I2 p2 a2 => q v H2 d2 (e1.trans e2) I2 p2 a2)
    | false => exact iteF (h2 rfl σ H1 _ (s.mono I e1) I1 fun v H2 d2 e2 I2 p2 a2 => q v H2 d2 (e1.trans e2) I2 p2 a2)
theorem ev_isNon (ha : Ev W ta Γ r r1 (At (.v .non))) : Ev W (tIsN ta) Γ r r1 (At (.v (.bl true))) := fun σ H Q s I q =>
  ha σ H _ s I fun c H1 d e1 I1 p1 a1 => by
    subst p1
    rw [a1.v_eq]
    exact q _ H1 _ e1 I1 rfl (.v _)
theorem ev_isNonI (ha : Ev W ta Γ r r1 (At d)) (h : ∀ H, ¬ Dat W H .non d) : Ev W (tIsN ta) Γ r r1 (At (.v (.bl false))) := fun σ H Q s I q =>
  ha σ H _ s I fun c H1 d e1 I1 p1 a1 => by
    subst p1
    have e : decide (c = V.non) = false := decide_eq_false fun z => h H1 (z ▸ a1)
    show Q (.bl (decide (c = V.non))) H1
    rw [e]
    exact q _ H1 _ e1 I1 rfl (.v _)
end
end EP

/-! ## KG3 -/
namespace EP
open PySem PySem.Spec PyProof.Rows L2

section
variable {K : PySem.W.Frag} {W : Wd K} {Γ Γ' Γ2 : Gm} {r r1 r2 r3 r' : Nat} {ta tb tc te : TE} {P P' P1 P2 : Dt → Prop} {PL : List Dt → Prop} {PB : Bool → Prop} {x y : V} {d d1 d2 a b : Dt} {ds es : List Dt} {t u : TT} {tl : TA}
  {s1 s2 s3 : TS} {N N1 : Nat → Gm → Prop} {R : Nat → Dt → Prop} {vs : List Nat} {g : TG} {i j : Nat}

/-! ### targets -/
theorem eg_name (hj : j ∈ vs) : EvG W (gName j) vs Γ d (Γ.set j (some d)) := fun v σ H r Q s I h q => q _ (s.set j h) (wipe_set vs hj σ _)
theorem eg_tup2 (hi : i ∈ vs) (hj : j ∈ vs) : EvG W (gTup K 2 (gCons (gName i) (gCons (gName j) gNil))) vs Γ (.tup [a, b]) ((Γ.set i (some a)).set j (some b)) := fun v σ H r Q s I h q => by
  cases h with
  | tup hs l =>
    cases l with
    | cons h1 l =>
      cases l with
      | cons h2 l =>
        cases l
        exact ⟨_, _, rfl, hs, rfl, _, _, rfl, _, _, rfl, rfl, q _ ((s.set i h1).set j h2) (by rw [wipe_set vs hj, wipe_set vs hi])⟩
theorem eg_lst2 (hi : i ∈ vs) (hj : j ∈ vs) : EvG W (gUnl K 2 (gCons (gName i) (gCons (gName j) gNil))) vs Γ (.lst [a, b]) ((Γ.set i (some a)).set j (some b)) := fun v σ H r Q s I h q => by
  cases h with
  | lst n hs l =>
    cases l with
    | cons h1 l =>
      cases l with
      | cons h2 l =>
        cases l
        exact ⟨_, _, rfl, SqL.of hs, rfl, _, _, rfl, _, _, rfl, rfl, q _ ((s.set i h1).set j h2) (by rw [wipe_set vs hj, wipe_set vs hi])⟩

/-! ### statements -/
theorem EvS.imp {N' : Nat → Gm → Prop} {R' : Nat → Dt → Prop} (h : EvS W s1 Γ r N R) (kn : ∀ r Γ, N r Γ → N' r Γ) (kr : ∀ r d, R r d → R' r d) : EvS W s1 Γ r N' R' := fun σ H E s I hn hr =>
  h σ H E s I (fun σ' H' r' Γ' e i n z => hn σ' H' r' Γ' e i (kn _ _ n) z) fun v H' r' d e i p z => hr v H' r' d e i (kr _ _ p) z
theorem EvS.less (h : EvS W s1 Γ r1 N R) (a : r1 ≤ r) : EvS W s1 Γ r N R := fun σ H E s I hn hr => h σ H E s (W.anti _ _ _ I a) hn hr
theorem es_asg (h : Ev W te Γ r r1 P) (k : ∀ d, P d → EvS W s2 (Γ.set i (some d)) r1 N R) : EvS W (tSeq (tAsg te (gName i)) s2) Γ r N R := fun σ H E s I hn hr =>
  h σ H _ s I fun v H1 d e1 I1 p1 a1 => k d p1 _ H1 E ((s.mono I e1).set i a1) I1 (fun σ' H' r' Γ' e i' n z => hn σ' H' r' Γ' (e1.trans e) i' n z) fun v H' r' d e i' p z => hr v H' r' d (e1.trans e) i' p z
theorem es_asgD (h : Ev W te Γ r r1 (At d)) (k : EvS W s2 (Γ.set i (some d)) r1 N R) : EvS W (tSeq (tAsg te (gName i)) s2) Γ r N R := es_asg h fun _ e => e ▸ k
/-- a, b = .. -/
theorem es_asgG (h : Ev W te Γ r r1 (At d)) (hg : EvG W g vs Γ d Γ') (k : EvS W s2 Γ' r1 N R) : EvS W (tSeq (tAsg te g) s2) Γ r N R := fun σ H E s I hn hr =>
  h σ H _ s I fun v H1 d e1 I1 p1 a1 => by
    subst p1
    exact hg v σ H1 r1 _ (s.mono I e1) I1 a1 fun σ2 z _ => k σ2 H1 E z I1 (fun σ' H' r' Γ' e i' n z => hn σ' H' r' Γ' (e1.trans e) i' n z) fun v H' r' d e i' p z => hr v H' r' d (e1.trans e) i' p z
theorem es_ret (h : Ev W te Γ r r1 P) (k : ∀ d, P d → R r1 d) : EvS W (tRet te) Γ r N R := fun σ H E s I hn hr => h σ H _ s I fun v H1 d e1 I1 p1 a1 => hr v H1 r1 d e1 I1 (k d p1) a1
theorem es_retD {d' : Dt} (h : Ev W te Γ r r1 (At d)) (k : d = d') : EvS W (tRet te) Γ r N (fun _ x => x = d') := es_ret h fun _ e => e.trans k
theorem es_next (h : N r Γ) : EvS W tNext Γ r N R := fun σ H E s I hn hr => hn σ H r Γ .refl I h s
theorem es_if (h : EvT W t Γ r r1 PB) (h1 : PB true → EvS W s1 Γ r1 N R) (h2 : PB false → EvS W s2 Γ r1 N R) : EvS W (tIfS t s1 s2) Γ r N R := fun σ H E s I hn hr =>
  h σ H _ s I fun c H1 e1 I1 p1 => by
    cases c with
    | true => exact iteT (h1 p1 σ H1 E (s.mono I e1) I1 (fun σ' H' r' Γ' e i' n z => hn σ' H' r' Γ' (e1.trans e) i' n z) fun v H' r' d e i' p z => hr v H' r' d (e1.trans e) i' p z)
    | false => exact iteF (h2 p1 σ H1 E (s.mono I e1) I1 (fun σ' H' r' Γ' e i' n z => hn σ' H' r' Γ' (e1.trans e) i' n z) fun v H' r' d e i' p z => hr v H' r' d (e1.trans e) i' p z)
theorem es_seq (h : EvS W s1 Γ r N1 R) (k : ∀ r' Γ', N1 r' Γ' → EvS W s2 Γ' r' N R) : EvS W (tSeq s1 s2) Γ r N R := fun σ H E s I hn hr =>
  h σ H _ s I (fun σ1 H1 r1 Γ1 e1 I1 n1 z1 => k r1 Γ1 n1 σ1 H1 E z1 I1 (fun σ' H' r' Γ' e i' n z => hn σ' H' r' Γ' (e1.trans e) i' n z) fun v H' r' d e i' p z => hr v H' r' d (e1.trans e) i' p z) fun v H' r' d e i' p z => hr v H' r' d e i' p z
/-- if c: .. return ..; then the rest -/
theorem es_ifR {bb : Bool} (h : EvT W t Γ r r1 (AtB bb)) (h1 : bb = true → EvS W s1 Γ r1 No R) (h2 : bb = false → EvS W s2 Γ r1 N R) : EvS W (tSeq (tIfS t s1 tNext) s2) Γ r N R :=
  es_seq (N1 := fun r' Γ' => r' = r1 ∧ Γ' = Γ ∧ bb = false) (es_if h (fun e => (h1 e.symm).imp (fun _ _ z => z.elim) fun _ _ z => z) fun e => es_next ⟨rfl, rfl, e.symm⟩) fun r' Γ' z => by
    obtain ⟨rfl, rfl, e⟩ := z
    exact h2 e
theorem es_ifT {bb : Bool} (h : EvT W t Γ r r1 (AtB bb)) (e : bb = true) (h1 : EvS W s1 Γ r1 No R) : EvS W (tSeq (tIfS t s1 tNext) s2) Γ r N R := es_ifR h (fun _ => h1) fun z => absurd (e.symm.trans z) (by decide)
theorem es_ifF {bb : Bool} (h : EvT W t Γ r r1 (AtB bb)) (e : bb = false) (h2 : EvS W s2 Γ r1 N R) : EvS W (tSeq (tIfS t s1 tNext) s2) Γ r N R := es_ifR h (fun z => absurd (e.symm.trans z) (by decide)) fun _ => h2
/-- if c: .. else: .., then the rest -/
theorem es_if2 {bb : Bool} (h : EvT W t Γ r r1 (AtB bb)) (h1 : bb = true → EvS W s1 Γ r1 N1 R) (h2 : bb = false → EvS W s2 Γ r1 N1 R) (k : ∀ r' Γ', N1 r' Γ' → EvS W s3 Γ' r' N R) : EvS W (tSeq (tIfS t s1 s2) s3) Γ r N R :=
  es_seq (es_if h (fun e => h1 e.symm) fun e => h2 e.symm) k
/-- x = e at the end of a branch -/
theorem es_last (h : Ev W te Γ r r1 (At d)) (k : N r1 (Γ.set i (some d))) : EvS W (tAsg te (gName i)) Γ r N R := fun σ H E s I hn hr =>
  h σ H _ s I fun v H1 d e1 I1 p1 a1 => by
    subst p1
    exact hn _ H1 r1 _ e1 I1 k ((s.mono I e1).set i a1)

/-! ### what is walked -/
theorem yAt_D {H0 : Hp} {xs : List V} (l : DatL W H0 xs ds) : ∀ i H x H', i < ds.length → YAt xs i H x H' → Same H H' ∧ ∃ d, ds[i]? = some d ∧ ∀ (W' : Wd K) (r : Nat), (∀ a o, ¬ W.M a → H0 a = some o → ¬ W'.M a) → W'.Nl H0 → W'.Ex H0 H → W'.I r H → Dat W' H' x d := by
  intro i H x H' hi y
  obtain ⟨rfl, hx⟩ := y
  obtain ⟨d, hd, dx⟩ := l.getV hx
  exact ⟨Same.refl _, d, hd, fun W' r k n e _ => (dx.to k).mono0 n e⟩
theorem ei_tup (h : Ev W te Γ r r1 P) (k : ∀ d, P d → ∃ ds, d = .tup ds ∧ PL ds) : EvI W (iTup K te) Γ r r1 PL := fun σ H R s I q =>
  h σ H _ s I fun v H1 d e1 I1 p1 a1 => by
    obtain ⟨ds, rfl, pl⟩ := k d p1
    cases a1 with
    | tup hs l =>
      refine ⟨_, rfl, ⟨_, hs⟩, q _ H1 ds e1 I1 pl ⟨fun H => SqT K H _ _, YAt _, by rw [← l.length]; exact walk_tup, fun r H I e => sqt_mono I1 e hs, yAt_D l⟩⟩
theorem ei_lst (h : Ev W te Γ r r1 P) (k : ∀ d, P d → ∃ ds, d = .lst ds ∧ PL ds) : EvI W (iList K te) Γ r r1 PL := fun σ H R s I q =>
  h σ H _ s I fun v H1 d e1 I1 p1 a1 => by
    obtain ⟨ds, rfl, pl⟩ := k d p1
    cases a1 with
    | lst n hs l =>
      refine ⟨_, rfl, ⟨_, SqL.of hs⟩, q _ H1 ds e1 I1 pl ⟨fun H => SqL K H _ _, YAt _, by rw [← l.length]; exact walk_list, fun r H I e => SqL.of (e _ _ n hs), yAt_D l⟩⟩
/-- the kit's two walks of a name that holds either -/
def iSeq (K : PySem.W.Frag) (te : TE) : TI := iTup K te
def nums (lo : Int) (n : Nat) : List Dt := (List.range n).map fun i => .v (.int (lo + (i : Nat)))
theorem nums_get {lo : Int} {n i : Nat} (h : i < n) : (nums lo n)[i]? = some (.v (.int (lo + (i : Nat)))) := by unfold nums; simp [h]
theorem nums_len {lo : Int} {n : Nat} : (nums lo n).length = n := by unfold nums; simp
theorem walk_nums {H0 : Hp} {lo : Int} {n : Nat} : WalkD W (Itr lo n) (nums lo n) H0 := by
  refine ⟨fun _ => True, YFn fun i => .int (lo + i), by rw [nums_len]; exact walk_range, fun _ _ _ _ => trivial, fun i H x H' hi y => ?_⟩
  rw [nums_len] at hi
  obtain ⟨rfl, rfl⟩ := y
  exact ⟨Same.refl _, _, nums_get hi, fun _ _ _ _ _ _ => .v _⟩
theorem ei_rng1 {p : Int → Prop} (h : Ev W te Γ r r1 (In p)) (hb : ∀ n, p n → -(2 ^ 62) ≤ n ∧ n < 2 ^ 62 ∧ PL (nums 0 n.toNat)) : EvI W (iRng1 (tCons te tNil)) Γ r r1 PL := fun σ H R s I q =>
  h σ H _ s I fun v H1 d e1 I1 p1 a1 => by
    obtain ⟨n, rfl, pn⟩ := p1
    obtain ⟨b1, b2, b3⟩ := hb n pn
    exact ⟨n, by rw [a1.v_eq], b1, b2, q _ H1 _ e1 I1 b3 walk_nums⟩
theorem ei_rng2 {lo hi : Int} (ha : Ev W ta Γ r r1 (At (.v (.int lo)))) (hb : Ev W tb Γ r1 r2 (At (.v (.int hi)))) (h : -(2 ^ 62) ≤ lo ∧ lo < 2 ^ 62 ∧ -(2 ^ 62) ≤ hi ∧ hi < 2 ^ 62) : EvI W (iRng2 (tCons ta (tCons tb tNil))) Γ r r2 (AtL (nums lo (hi - lo).toNat)) := fun σ H R s I q =>
  ha σ H _ s I fun v H1 d e1 I1 p1 a1 => hb σ H1 _ (s.mono I e1) I1 fun v2 H2 d2 e2 I2 p2 a2 => by
    subst p1 p2
    exact ⟨lo, hi, by rw [a1.v_eq, a2.v_eq], h, q _ H2 _ (e1.trans e2) I2 rfl walk_nums⟩
/-- zip of two tuples, of two lists -/
def zipD (ds es : List Dt) : List Dt := (ds.zip es).map fun p => .tup [p.1, p.2]
theorem zipD_len : (zipD ds es).length = min ds.length es.length := by unfold zipD; simp
theorem zipD_get {a b : Dt} (h1 : ds[i]? = some a) (h2 : es[i]? = some b) : (zipD ds es)[i]? = some (.tup [a, b]) := by
  unfold zipD
  rw [List.getElem?_map, (List.getElem?_zip_eq_some (z := (a, b))).mpr ⟨h1, h2⟩]
  rfl
theorem yPair_D {H0 : Hp} {xs ys : List V} (l : DatL W H0 xs ds) (m : DatL W H0 ys es) : ∀ i H v H', i < (zipD ds es).length → YPair (fun i => xs[i]?) (fun i => ys[i]?) i H v H' → Same H H' ∧ ∃ d, (zipD ds es)[i]? = some d ∧ ∀ (W' : Wd K) (r : Nat), (∀ a o, ¬ W.M a → H0 a = some o → ¬ W'.M a) → W'.Nl H0 → W'.Ex H0 H → W'.I r H → Dat W' H' v d := by
  intro i H v H' hi y
  obtain ⟨T, x, z, rfl, nT, rfl, hx, hz⟩ := y
  obtain ⟨d, hd, dx⟩ := l.getV hx
  obtain ⟨d', hd', dz⟩ := m.getV hz
  exact ⟨same_new nT, _, zipD_get hd hd', fun W' r k n e I => .tup (SqT.of upd_same) (.cons (((dx.to k).mono0 n e).mono I (.of (same_new nT))) (.cons (((dz.to k).mono0 n e).mono I (.of (same_new nT))) .nil))⟩
theorem walk_zipTT {K : PySem.W.Frag} {a b : Addr} {xs ys : List V} {n : Nat} (hn : n = min xs.length ys.length) : L2.Walk (RZ.ItzT K a b) n (fun H => SqT K H a xs ∧ SqT K H b ys) (YPair (fun i => xs[i]?) (fun i => ys[i]?)) := by
  subst hn
  refine ⟨fun i _ hi q => ?_, fun _ q => ?_, fun i H v H' hi q y => ?_⟩
  · have h1 : i < xs.length := by omega
    have h2 : i < ys.length := by omega
    exact ⟨xs, ys, xs[i], ys[i], q.1, q.2, by simp [h1], by simp [h2]⟩
  · exact ⟨xs, ys, q.1, q.2, by omega⟩
  · obtain ⟨T, x, z, h1, h2, h3, h4, h5⟩ := y
    exact ⟨T, x, z, h1, h2, h3, h4 xs q.1, h5 ys q.2⟩
theorem ei_zipT (ha : Ev W ta Γ r r1 (At (.tup ds))) (hb : Ev W tb Γ r1 r2 (At (.tup es))) : EvI W (RZ.iZipA K (tCons ta (tCons tb tNil))) Γ r r2 (AtL (zipD ds es)) := fun σ H R s I q =>
  ha σ H _ s I fun v H1 d e1 I1 p1 a1 => hb σ H1 _ (s.mono I e1) I1 fun v2 H2 d2 e2 I2 p2 a2 => by
    subst p1 p2
    have a3 := a1.mono I1 e2
    cases a3 with
    | tup h1 l1 =>
      cases a2 with
      | tup h2 l2 =>
        refine ⟨_, _, _, _, rfl, .inr ⟨h1, h2, q _ H2 _ (e1.trans e2) I2 rfl ⟨_, _, walk_zipTT ?_, fun r H I e => ⟨sqt_mono I2 e h1, sqt_mono I2 e h2⟩, yPair_D l1 l2⟩⟩⟩
        rw [zipD_len, l1.length, l2.length]
theorem ei_zipL (ha : Ev W ta Γ r r1 (At (.lst ds))) (hb : Ev W tb Γ r1 r2 (At (.lst es))) : EvI W (RZ.iZipA K (tCons ta (tCons tb tNil))) Γ r r2 (AtL (zipD ds es)) := fun σ H R s I q =>
  ha σ H _ s I fun v H1 d e1 I1 p1 a1 => hb σ H1 _ (s.mono I e1) I1 fun v2 H2 d2 e2 I2 p2 a2 => by
    subst p1 p2
    have a3 := a1.mono I1 e2
    cases a3 with
    | lst n1 h1 l1 =>
      cases a2 with
      | lst n2 h2 l2 =>
        refine ⟨_, _, _, _, rfl, .inl ⟨SqL.of h1, SqL.of h2, q _ H2 _ (e1.trans e2) I2 rfl ⟨_, _, walk_zip ?_, fun r H I e => ⟨SqL.of (e _ _ n1 h1), SqL.of (e _ _ n2 h2)⟩, yPair_D l1 l2⟩⟩⟩
        rw [zipD_len, l1.length, l2.length]

/-! ### for -/
theorem es_for {wi : TI} {Inv : Nat → Nat → Gm → Prop} (h : EvI W wi Γ r r1 (AtL ds)) (h0 : Inv 0 r1 Γ)
    (hs : ∀ i d r Γ', ds[i]? = some d → Inv i r Γ' → ∃ Γ2, EvG W g vs Γ' d Γ2 ∧ EvS W s1 Γ2 r (Inv (i + 1)) R) (hd : ∀ r Γ', Inv ds.length r Γ' → N r Γ') : EvS W (tFor wi g s1) Γ r N R := fun σ H E s I hn hr =>
  h σ H _ s I fun J H1 ds' e1 I1 p1 wk => by
    subst p1
    obtain ⟨G, Y, wk, hG, hY⟩ := wk
    refine for_it wk (fun i σ' H' => ∃ r' Γ', W.Ex H1 H' ∧ W.I r' H' ∧ Inv i r' Γ' ∧ Sl W H' σ' Γ') ⟨r1, Γ, .refl, I1, h0, s.mono I e1⟩ (fun i σ' H' _ z => ?_) (fun i x σ' H' H'' hi z y => ?_) fun σ' H' z => ?_
    · obtain ⟨r', Γ', e, I', _, _⟩ := z
      exact hG r' H' I' e
    · obtain ⟨r', Γ', e, I', n, sl⟩ := z
      obtain ⟨sm, d, hd', dx0⟩ := hY i H' x H'' hi y
      have dx := dx0 W r' (fun _ _ n _ => n) (W.nl I1) e I'
      have I2 := W.mono _ _ _ I' sm
      have e2 : W.Ex H1 H'' := e.trans (.of sm)
      obtain ⟨Γ2, hg, hb⟩ := hs i d r' Γ' hd' n
      exact hg x σ' H'' r' _ (sl.mono I' (.of sm)) I2 dx fun σ2 s2 _ => hb σ2 H'' _ s2 I2 (fun σ3 H3 r3 Γ3 e3 I3 n3 s3 => ⟨r3, Γ3, e2.trans e3, I3, n3, s3⟩) fun v H3 r3 d3 e3 I3 p3 dv => hr v H3 r3 d3 (e1.trans (e2.trans e3)) I3 p3 dv
    · obtain ⟨r', Γ', e, I', n, sl⟩ := z
      exact hn σ' H' r' Γ' (e1.trans e) I' (hd r' Γ' n) sl

/-! ### comprehensions -/
/-- what is gathered: of each a that passes, in order, one e with G a e -/
def Col {α : Type} (p : α → Bool) (G : α → Dt → Prop) : List α → List Dt → Prop
  | [], es => es = []
  | d :: ds, es => (p d = true ∧ ∃ e es', es = e :: es' ∧ G d e ∧ Col p G ds es') ∨ (p d = false ∧ Col p G ds es)
section
variable {α : Type} {p : α → Bool} {G : α → Dt → Prop} {c d : α} {e : Dt}
theorem Col.yes (hp : p d = true) (hg : G d e) : ∀ {ds : List α} {es : List Dt}, Col p G ds es → Col p G (ds ++ [d]) (es ++ [e])
  | [], es, h => by
    have z : es = [] := h
    subst z
    exact .inl ⟨hp, e, [], rfl, hg, rfl⟩
  | c :: ds, es, h => by
    rcases h with ⟨h1, e', es', rfl, g, h⟩ | ⟨h1, h⟩
    · exact .inl ⟨h1, e', es' ++ [e], rfl, g, Col.yes hp hg h⟩
    · exact .inr ⟨h1, Col.yes hp hg h⟩
theorem Col.no (hp : p d = false) : ∀ {ds : List α} {es : List Dt}, Col p G ds es → Col p G (ds ++ [d]) es
  | [], es, h => .inr ⟨hp, h⟩
  | c :: ds, es, h => by
    rcases h with ⟨h1, e', es', rfl, g, h⟩ | ⟨h1, h⟩
    · exact .inl ⟨h1, e', es', rfl, g, Col.no hp h⟩
    · exact .inr ⟨h1, Col.no hp h⟩
theorem Col.len_le : ∀ {ds : List α} {es : List Dt}, Col p G ds es → es.length ≤ ds.length
  | [], es, h => by
    have z : es = [] := h
    subst z
    exact Nat.le_refl _
  | c :: ds, es, h => by
    rcases h with ⟨_, e', es', rfl, _, h⟩ | ⟨_, h⟩
    · exact Nat.succ_le_succ (Col.len_le h)
    · exact Nat.le_succ_of_le (Col.len_le h)
theorem Col.det {f : α → Dt} : ∀ {ds : List α} {es : List Dt}, Col p (fun d e => e = f d) ds es → es = (ds.filter p).map f
  | [], es, h => h
  | c :: ds, es, h => by
    rcases h with ⟨h1, e', es', rfl, g, h⟩ | ⟨h1, h⟩
    · rw [List.filter_cons_of_pos h1, List.map_cons, g, Col.det h]
    · rw [List.filter_cons_of_neg (by simp [h1]), Col.det h]
theorem Col.all : ∀ {ds : List α} {es : List Dt}, Col (fun _ => true) G ds es → es.length = ds.length ∧ ∀ e ∈ es, ∃ d ∈ ds, G d e
  | [], es, h => by
    have z : es = [] := h
    subst z
    exact ⟨rfl, fun _ q => nomatch q⟩
  | c :: ds, es, h => by
    rcases h with ⟨_, e', es', rfl, g, h⟩ | ⟨h1, _⟩
    · obtain ⟨a, b⟩ := Col.all h
      refine ⟨by simp [a], fun e he => ?_⟩
      rcases List.mem_cons.mp he with rfl | he
      · exact ⟨c, List.mem_cons_self, g⟩
      · obtain ⟨d, hd, q⟩ := b e he
        exact ⟨d, List.mem_cons_of_mem _ hd, q⟩
    · exact absurd h1 (fun z => Bool.noConfusion z)
end

/-- the list at D is being made: it may change, as it stands now -/
def Wd.add (W : Wd K) (D : Addr) (xs : List V) : Wd K where
  M := fun a => W.M a ∨ a = D
  I := fun r H => W.I r H ∧ H D = some (.lst xs) ∧ (W.dk = D → r = 0)
  dk := W.dk
  alive := fun r H a i m => by
    rcases m with m | rfl
    · exact W.alive r H a i.1 m
    · exact ⟨xs, i.2.1⟩
  keep := fun r H H' i e => ⟨W.keep r H H' i.1 fun a o m => e a o (.inl m), e _ _ (.inr rfl) i.2.1, i.2.2⟩
  anti := fun r r' H i h => ⟨W.anti r r' H i.1 h, i.2.1, fun e => by have := i.2.2 e; omega⟩
  draw := fun r H i => by
    have ne : W.dk ≠ D := fun e => by have := i.2.2 e; omega
    obtain ⟨m, n0, n1, n2, h, a, b, c, d, e, f⟩ := W.draw r H i.1
    exact ⟨.inl m, n0, n1, n2, h, a, b, c, d, e, fun m0 m1 z0 z1 => ⟨f m0 m1 z0 z1, by rw [upd_ne ne.symm]; exact i.2.1, fun z => absurd z ne⟩⟩
mutual
theorem Dat.upd {xs ys : List V} {D : Addr} {H : Hp} {o : HO} (hD : H D = some (.lst xs)) : ∀ {x : V} {d : Dt}, Dat (W.add D xs) H x d → Dat (W.add D ys) (L2.upd H D o) x d
  | _, _, .v x => .v x
  | _, _, .tup (a := a) h l => .tup (by
      rcases h with (h | ⟨u, h⟩) | h
      · exact .inl (.inl (by rw [upd_ne (ne_of h hD (fun z => by cases z))]; exact h))
      · exact .inl (.inr ⟨u, by rw [upd_ne (ne_of h hD (fun z => by cases z))]; exact h⟩)
      · exact .inr h) (DatL.upd hD l)
  | _, _, .ftup h u l => .ftup (by rw [upd_ne (ne_of h hD (fun z => by cases z))]; exact h) u (DatL.upd hD l)
  | _, _, .lst n h l => .lst n (by rw [upd_ne (fun z => n (.inr z))]; exact h) (DatL.upd hD l)
  | _, _, .env h n f => .env (by
      rcases h with h | ⟨u, h⟩
      · exact .inl (by rw [upd_ne (ne_of h hD (fun z => by cases z))]; exact h)
      · exact .inr ⟨u, by rw [upd_ne (ne_of h hD (fun z => by cases z))]; exact h⟩) n f
theorem DatL.upd {xs ys : List V} {D : Addr} {H : Hp} {o : HO} (hD : H D = some (.lst xs)) : ∀ {zs : List V} {ds : List Dt}, DatL (W.add D xs) H zs ds → DatL (W.add D ys) (L2.upd H D o) zs ds
  | _, _, .nil => .nil
  | _, _, .cons h l => .cons (Dat.upd hD h) (DatL.upd hD l)
end
theorem Wd.keepUpd {H : Hp} {D : Addr} {o : HO} (i : W.I r H) (n : ¬ W.M D) : W.I r (L2.upd H D o) := W.keep r _ _ i fun a u m z => by
  rw [upd_ne (show a ≠ D from fun e => n (by rw [← e]; exact m))]
  exact z
theorem Wd.noDk {H : Hp} {D : Addr} (i : W.I r H) (h : H D = none) : W.dk = D → r = 0 := fun e => by
  cases r with
  | zero => rfl
  | succ r =>
    obtain ⟨_, n0, n1, n2, z, _⟩ := W.draw r H i
    rw [e, h] at z
    cases z

/-- a new list -/
def EvF (W : Wd K) (t : TE) (Γ : Gm) (r r' : Nat) (PL : List Dt → Prop) : Prop := ∀ (σ : L2.St) (H : Hp) (Q : VK), Sl W H σ Γ → W.I r H →
  (∀ p H' xs ds, W.Ex H H' → W.I r' H' → PL ds → H p = none → ¬ W.M p → H' p = some (.lst xs) → DatL W H' xs ds → Q (.ref p) H') → t σ H Q
theorem EvF.ev {t : TE} (h : EvF W t Γ r r1 PL) (k : ∀ ds, PL ds → P (.lst ds)) : Ev W t Γ r r1 P := fun σ H Q s I q =>
  h σ H Q s I fun p H' xs ds e i pl np nm hp l => q _ H' (.lst ds) e i (k ds pl) (.lst nm hp l)
theorem free_of {H H' : Hp} {p : Addr} (i : W.I r H') (e : W.Ex H H') (h : H' p = none) : H p = none := by
  have m : ¬ W.M p := W.not_new i h
  cases z : H p with
  | none => rfl
  | some o =>
    rw [e p o m z] at h
    cases h
/-- [e for target in .. if ..] -/
theorem el_lcF {α : Type} {wi : TI} {tt : TT} {c : Nat} (gg : α → Dt) {PA : List α → Prop} {p : α → Bool} {G1 : α → Dt → Prop} {PQ : List Dt → Prop} (h : EvI W wi Γ r (r1 + c) (fun ds => ∃ l, ds = l.map gg ∧ PA l)) (hz : ∀ l, PA l → l.length < sizeLine)
    (hs : ∀ l, PA l → ∃ k, l.length * k ≤ c ∧ ∀ (W' : Wd K) (a : α) (r' : Nat), W'.dk = W.dk → a ∈ l → ∃ Γ2, EvG W' g vs (wipeG Γ vs) (gg a) Γ2 ∧ EvT W' tt Γ2 (r' + k) (r' + k) (AtB (p a)) ∧ (p a = true → Ev W' te Γ2 (r' + k) r' (G1 a)))
    (hq : ∀ l es, PA l → Col p G1 l es → PQ es) : EvF W (tLc wi g tt te vs) Γ r r1 PQ := fun σ H Q s I q =>
  h σ H _ s I fun J H1 ds e1 I1 p1 wk D nD => by
    obtain ⟨la, rfl, pa⟩ := p1
    obtain ⟨k, hk, hst⟩ := hs la pa
    obtain ⟨G, Y, wk, hG, hY⟩ := wk
    have sw := (s.mono I e1).wipe vs
    have nMD : ¬ W.M D := W.not_new I1 nD
    have hdk := W.noDk I1 nD
    have hsz := hz la pa
    rw [List.length_map] at wk hY
    refine lc_it wk (fun i H' => i ≤ la.length ∧ W.Ex H1 H' ∧ W.I (r1 + (c - i * k)) H' ∧ ∃ xs es, H' D = some (.lst xs) ∧ DatL (W.add D xs) H' xs es ∧ Col p G1 (la.take i) es)
      ⟨Nat.zero_le _, .of (same_new nD), W.mono _ _ _ (by simpa using I1) (same_new nD), [], [], upd_same, .nil, rfl⟩ (fun i H' _ z => hG _ H' z.2.2.1 z.2.1) (fun i x H' H'' hi z y => ?_) fun H' z => ?_
    · obtain ⟨_, e, I', xs, es, hD, l, hl⟩ := z
      obtain ⟨sm, d, hd0, dx⟩ := hY i H' x H'' hi y
      rw [List.getElem?_map] at hd0
      obtain ⟨a, hd', rfl⟩ := Option.map_eq_some_iff.mp hd0
      have I2 := W.mono _ _ _ I' sm
      have e2 : W.Ex H1 H'' := e.trans (.of sm)
      have hkk : (i + 1) * k ≤ c := Nat.le_trans (Nat.mul_le_mul_right k (by omega)) hk
      have zk : (i + 1) * k = i * k + k := Nat.succ_mul i k
      have hD2 : H'' D = some (.lst xs) := sm _ _ hD
      have hmem : a ∈ la := List.mem_of_getElem? hd'
      have htk : la.take (i + 1) = la.take i ++ [a] := by rw [List.take_add_one, hd']; rfl
      have hlen : xs.length < sizeLine := by
        have q1 := l.length
        have q2 := hl.len_le
        rw [List.length_take] at q2
        omega
      -- within the element the list may change
      have Ia0 : (W.add D xs).I 0 H' := ⟨W.anti _ _ _ I' (Nat.zero_le _), hD, fun _ => rfl⟩
      have Ia : (W.add D xs).I (r1 + (c - (i + 1) * k) + k) H'' := by
        refine ⟨W.anti _ _ _ I2 ?_, hD2, fun z => ?_⟩
        · omega
        · have := hdk z
          omega
      have keep : ∀ a o, ¬ W.M a → H1 a = some o → ¬ (W.add D xs).M a := fun a o n z m => by
        rcases m with m | rfl
        · exact n m
        · rw [nD] at z
          cases z
      have nla : (W.add D xs).Nl H1 := fun a u z n m => by
        rcases m with m | rfl
        · exact W.nl I1 a u z n m
        · rw [nD] at z
          cases z
      have ea : (W.add D xs).Ex H1 H'' := fun a o n z => e2 a o (fun m => n (.inl m)) z
      have sa : Sl (W.add D xs) H'' (L2.wipe σ vs) (wipeG Γ vs) := (sw.to keep).mono0 nla ea
      obtain ⟨Γ2, hg, ht, hb⟩ := hst (W.add D xs) a (r1 + (c - (i + 1) * k)) rfl hmem
      have dxa : Dat (W.add D xs) H'' x (gg a) := dx (W.add D xs) 0 keep nla (fun a o n z => e a o (fun m => n (.inl m)) z) Ia0
      refine hg x _ H'' _ _ sa Ia dxa fun σ2 s2 hw => ⟨hw.trans (wipe_wipe σ vs), ?_⟩
      refine ht σ2 H'' _ s2 Ia fun b H3 e3 I3 pb => ?_
      have pb' : b = p a := pb
      have la3 : DatL (W.add D xs) H3 xs es := (l.mono Ia0 (.of sm)).mono Ia e3
      have ex3 : ∀ a o, ¬ W.M a → H1 a = some o → H3 a = some o := fun a o n z => e3 a o (fun m => keep a o n z m) (e2 a o n z)
      cases b with
      | true =>
        refine iteT (hb pb'.symm σ2 H3 _ (s2.mono Ia e3) I3 fun v H4 d4 e4 I4 p4 dv => ?_)
        have la4 := la3.mono I3 e4
        refine ⟨xs, I4.2.1, hlen, hi, fun a o n z => ?_, W.keepUpd I4.1 nMD, xs ++ [v], es ++ [d4], upd_same, DatL.upd I4.2.1 (la4.append (.cons dv .nil)), ?_⟩
        · rw [upd_ne (ne_of_none z nD)]
          exact e4 a o (fun m => keep a o n z m) (ex3 a o n z)
        · rw [htk]
          exact hl.yes pb'.symm p4
      | false =>
        refine iteF ⟨hi, ex3, W.anti _ _ _ I3.1 (Nat.le_add_right _ _), xs, es, I3.2.1, la3, ?_⟩
        rw [htk]
        exact hl.no pb'.symm
    · obtain ⟨_, e, I', xs, es, hD, l, hl⟩ := z
      rw [List.take_length] at hl
      exact q _ H' xs es (e1.trans e) (W.anti _ _ _ I' (Nat.le_add_right _ _)) (hq la es pa hl) (free_of I1 e1 nD) nMD hD (DatL.to (W := W.add D xs) (W' := W) (fun a o n _ m => n (Or.inl m)) l)
/-- .. one for each -/
theorem el_mapF {α : Type} {wi : TI} {l : List α} {gg hh : α → Dt} (h : EvI W wi Γ r r1 (AtL ds)) (e : ds = l.map gg) (hz : l.length ≤ 10000)
    (hs : ∀ (W' : Wd K) (a : α) (r' : Nat), a ∈ l → ∃ Γ2, EvG W' g vs (wipeG Γ vs) (gg a) Γ2 ∧ Ev W' te Γ2 r' r' (At (hh a))) : EvF W (tLc wi g tYes te vs) Γ r r1 (AtL (l.map hh)) := by
  subst e
  refine el_lcF (c := 0) gg (PA := fun x => x = l) (p := fun _ => true) (G1 := fun a e => e = hh a) (fun σ H R s I q => h σ H R s I fun J H' ds e i p wk => q J H' ds e i ⟨l, p, rfl⟩ wk) (fun l' e => by rw [e, sizeLine_eq]; omega) (fun l' e => ⟨0, Nat.le_refl _, fun W' a r' _ ha => ?_⟩) fun l' es e c => ?_
  · rw [e] at ha
    obtain ⟨Γ2, x, y⟩ := hs W' a r' ha
    exact ⟨Γ2, x, et_yes, fun _ => y⟩
  · subst e
    have z := c.det
    rw [List.filter_eq_self.mpr (fun _ _ => rfl)] at z
    exact z
theorem el_map {α : Type} {wi : TI} {l : List α} {gg hh : α → Dt} (h : EvI W wi Γ r r1 (AtL ds)) (e : ds = l.map gg) (hz : l.length ≤ 10000)
    (hs : ∀ (W' : Wd K) (a : α) (r' : Nat), a ∈ l → ∃ Γ2, EvG W' g vs (wipeG Γ vs) (gg a) Γ2 ∧ Ev W' te Γ2 r' r' (At (hh a))) : Ev W (tLc wi g tYes te vs) Γ r r1 (At (.lst (l.map hh))) := (el_mapF h e hz hs).ev fun _ z => congrArg Dt.lst z
/-- .. of those that pass -/
theorem el_flt {α : Type} {wi : TI} {tt : TT} {l : List α} {gg hh : α → Dt} {p : α → Bool} (h : EvI W wi Γ r r1 (AtL ds)) (e : ds = l.map gg) (hz : l.length ≤ 10000)
    (hs : ∀ (W' : Wd K) (a : α) (r' : Nat), a ∈ l → ∃ Γ2, EvG W' g vs (wipeG Γ vs) (gg a) Γ2 ∧ EvT W' tt Γ2 r' r' (AtB (p a)) ∧ (p a = true → Ev W' te Γ2 r' r' (At (hh a)))) : Ev W (tLc wi g tt te vs) Γ r r1 (At (.lst ((l.filter p).map hh))) := by
  subst e
  refine EvF.ev (PL := AtL ((l.filter p).map hh)) (el_lcF (c := 0) gg (PA := fun x => x = l) (p := p) (G1 := fun a e => e = hh a) (fun σ H R s I q => h σ H R s I fun J H' ds e i p wk => q J H' ds e i ⟨l, p, rfl⟩ wk) (fun l' e => by rw [e, sizeLine_eq]; omega) (fun l' e => ⟨0, Nat.le_refl _, fun W' a r' _ ha => ?_⟩) fun l' es e c => ?_) fun _ z => congrArg Dt.lst z
  · rw [e] at ha
    exact hs W' a r' ha
  · subst e
    exact c.det
/-- .. drawn: k draws an item at most -/
theorem el_draw {wi : TI} (k c : Nat) (h : EvI W wi Γ r (r1 + c) PL) (hz : ∀ ds, PL ds → ds.length * k ≤ c ∧ ds.length ≤ 10000)
    (hs : ∀ (W' : Wd K) (d : Dt) (r' : Nat), W'.dk = W.dk → ∃ Γ2, EvG W' g vs (wipeG Γ vs) d Γ2 ∧ Ev W' te Γ2 (r' + k) r' P1)
    (hq : ∀ ds es, PL ds → es.length = ds.length → (∀ e ∈ es, P1 e) → P (.lst es)) : Ev W (tLc wi g tYes te vs) Γ r r1 P := by
  refine EvF.ev (PL := fun es => P (.lst es)) (el_lcF (c := c) id (PA := PL) (p := fun _ => true) (G1 := fun _ e => P1 e) (fun σ H R s I q => h σ H R s I fun J H' ds e i p wk => q J H' ds e i ⟨ds, (List.map_id ds).symm, p⟩ wk) (fun ds' e => by rw [sizeLine_eq]; have := (hz ds' e).2; omega) (fun ds' e => ⟨k, (hz ds' e).1, fun W' d r' hdk hd => ?_⟩) fun ds' es e c => ?_) fun _ z => z
  · obtain ⟨Γ2, x, y⟩ := hs W' d r' hdk
    exact ⟨Γ2, x, et_yes, fun _ => y⟩
  · refine hq ds' es e c.all.1 fun x hx => ?_
    obtain ⟨_, _, q⟩ := c.all.2 x hx
    exact q
end
end EP

/-! ## KSet -/
/-! set(a list of ints), sorted of it -/
namespace EP
open PySem PySem.Spec PyProof.Rows L2
/-- a set that was just made -/
def sob (w : World) : Obj := ⟨.type "set", none, .set #[] 0 (.fresh 0 0 (!w.params.followText "set-order")), #[]⟩
/-- what set(l) leaves -/
def SetMade (w : World) (s : Shared) (ns : List Int) (s2 : Shared) : Prop :=
  ∃ h' tk c, s2 = { s with heap := h', toks := tk } ∧ SetR w h' s.heap.objs.size (fun j => decide (j ∈ ns)) c ∧ c ≤ ns.length ∧ ∀ b o, s.heap.get? b = some o → h'.get? b = some o
section
variable {P : Program} {w : World} {A : Around} {E : Value → Shared → Prop} {s : Shared}
theorem set_of_list {l : Addr} {its : Array Value} {ns : List Int} {Q : Value → Shared → Prop} (hh : A.handled = none) (hl : s.heap.IsList l its) (hi : IntsAre its.toList ns) (hb : ns.length + 1 < scanBound)
    (h : ∀ s2, SetMade w s ns s2 → Q (.ref s.heap.objs.size) s2) : wpAny (model P w) A (call (.type "set") [.ref l]) Q E s := by
  have hz : its.size = ns.length := (Array.length_toList (xs := its)).symm.trans (IntsAre.length hi)
  obtain ⟨c, tl, hmro⟩ := F.called_set.mro
  have g1 := F.called_set.made
  have g2 := F.called_set.sub
  have g3 := F.called_set.notType
  have g4 := F.called_set.canCreate
  have g5 := F.typeCall_set_1 (.ref l)
  refine wpAny_call (codeAny_of_tree (show wpAny _ _ (callAny (.type "set") _) _ _ _ from wpAny_pure ⟨Code.quiet_builtin _ (by decide +kernel), codeAny_builtin F.entry_type_call ?_⟩))
  rw [Around.under_plain (weight_type_call_type "set" [.ref l] []) rfl]
  repeat (any_goals (first | assumption | wp_step))
  refine codeAny_mono (code_set_led1 (w := w) (.ref l) (E := E) (Q₁ := fun ob s1 => ob = .ref s.heap.objs.size ∧ s1 = { s with heap := s.heap.push (sob w) }) ⟨rfl, rfl⟩) fun r1 s1 hr => ?_
  cases r1 with
  | error e => exact hr
  | ok f1 =>
    cases f1 with
    | ret ob =>
      obtain ⟨rfl, rfl⟩ := hr
      have hS : (s.heap.push (sob w)).get? s.heap.objs.size = some (sob w) := Heap.get?_push_size _ rfl
      have hT : Shared.TypeIs { s with heap := s.heap.push (sob w) } (.ref s.heap.objs.size) "set" := ⟨_, hS, rfl⟩
      have g6 := F.called_set.init.lookup
      have g7 := F.called_set.init.bind (.ref s.heap.objs.size)
      repeat (any_goals (first | assumption | wp_step))
      refine codeAny_mono (codeAny_call_builtin (R := wants (fun r s2 => r = .none ∧ SetMade w s ns s2) E) F.called_set.init.plain F.entry_set_init (check_set_init_1 hT ?_)) fun r2 s2 hr2 => ?_
      · obtain ⟨ol, hol, hcl, nl, hdl⟩ := hl
        obtain ⟨ocl, odi, oda, osl⟩ := ol
        simp only at hcl hdl
        subst hcl hdl
        have ho1 : (s.heap.push (sob w)).get? l = some ⟨.type "list", odi, .seq its nl, osl⟩ := Heap.get?_push_of_some _ hol
        have g8 := F.sub_list_set
        have g9 := F.sub_list_frozenset
        have g10 : (Value.type "list" == Value.type "dict") = false := by decide
        have hl1 : (s.heap.push (sob w)).IsList l its := ⟨_, ho1, rfl, nl, rfl⟩
        have hlS : l < s.heap.objs.size := Heap.lt_size hol
        have hsz : (s.heap.push (sob w)).objs.size = s.heap.objs.size + 1 := by rw [Heap.size_push]
        unfold Builtin.«set.__init__» noKeywords Builtin.Frozenset.updateFrom
        generalize hPI : pyIter = PI
        wp_walk
        subst hPI
        refine wpAny_pyIter_list hl1 (wpAny_bind (wpAny_runValue ?_))
        have hh3 : A.in1.in1.in1.handled = none := by simp [hh]
        have hne : l ≠ (s.heap.push (sob w)).objs.size := by
          rw [hsz]
          exact Nat.ne_of_lt (Nat.lt_succ_of_lt hlS)
        have hnf : s.heap.objs.size ∉ [(s.heap.push (sob w)).objs.size, l] := by
          rw [hsz]
          simp only [List.mem_cons, List.not_mem_nil, or_false, not_or]
          exact ⟨Nat.ne_of_lt (Nat.lt_succ_self _), Nat.ne_of_gt hlS⟩
        have hval : ∀ (i : Nat) (v : Value), its[i]? = some v → ∃ k t, ns[i]? = some k ∧ v = .int k t := fun i v hv => by
          have hlt : i < ns.length := hz ▸ (Array.getElem?_eq_some_iff.mp hv).1
          obtain ⟨t, e⟩ := IntsAre.int_at hi i v (by rw [Array.getElem?_toList]; exact hv)
          exact ⟨ns[i], t, List.getElem?_eq_getElem hlt, by rw [e, List.getD_eq_getElem?_getD, List.getElem?_eq_getElem hlt]; rfl⟩
        refine set_update_ints ((Walks.list hh3 _ l hne its).toS) s.heap.objs.size hnf ns hz hb hval (its.size - 0) 0 _ (by omega) (Nat.zero_le _)
          ⟨⟨_, Heap.get?_push_size _ rfl, rfl, rfl⟩, (hl1.push _)⟩ ⟨0, Nat.le_refl 0, setR_new_at (Heap.get?_push_of_some _ hS)⟩ fun s3 c3 hm hc3 hS3 => ?_
        obtain ⟨h', g', d', tk', os'⟩ := s3
        obtain rfl : g' = s.gens := hm.gens
        obtain rfl : d' = s.drawn := hm.drawn
        obtain rfl : os' = s.os := hm.os
        show wpAny _ _ _ _ _ _
        refine wpAny_pure (show wpAny _ _ (ret Value.none) _ _ _ from wpAny_pure ⟨rfl, h', tk', c3, rfl, hS3, by rw [← hz]; exact hc3, fun b o e => ?_⟩)
        have b0 : b < s.heap.objs.size := Heap.lt_size e
        refine hm.heap b o ?_ (Heap.get?_push_of_some _ (Heap.get?_push_of_some _ e))
        simp only [List.mem_cons, List.not_mem_nil, or_false, not_or]
        exact ⟨Nat.ne_of_lt b0, by rw [hsz]; exact Nat.ne_of_lt (Nat.lt_succ_of_lt b0)⟩
      · cases r2 with
        | error e => exact hr2
        | ok f2 =>
          cases f2 with
          | ret r =>
            obtain ⟨rfl, h', tk, c', rfl, k1, k2, k3⟩ := hr2
            repeat (any_goals (first | assumption | wp_step))
            exact h _ ⟨h', tk, c', rfl, k1, k2, k3⟩
          | _ => exact hr2.elim
    | _ => exact hr.elim
end

section
variable {X : Cx}
/-- set(xs), xs a list of ints -/
def rSetL (K : PySem.W.Frag) (w : World) : List V → Hp → VK → Prop := fun vs H Q => ∃ (a : Addr) (ns : List Int), vs = [V.ref a] ∧ SqL K H a (ns.map V.int) ∧ ns.length ≤ 60 ∧
  ∀ p n, H p = none → n ≤ ns.length → Q (.ref p) (upd H p (SetO w p (fun j => decide (j ∈ ns)) n))
theorem cb_set (K : PySem.W.Frag) (w : World) (hK : X.K = K := by rfl) (hw : X.w = w := by rfl) (hc : X.calm = true := by rfl) : CallR X (.type "set") (EP.rSetL K w) := by
  subst hK hw
  intro pins s σ H vs us Q I r h
  obtain ⟨a, ns, rfl, hq, hl, q⟩ := h
  rw [Vals.ref1 r]
  obtain ⟨its, rv, pl, hz⟩ := I.list hq
  refine set_of_list (I.ok.hd hc) pl.isList (by simpa using Vals.ints rv) (by unfold scanBound; omega) fun s2 m => ?_
  obtain ⟨h', tk, c, rfl, R, hcl, k⟩ := m
  have hn : H s.heap.objs.size = none := I.hok.fresh (Nat.le_refl _)
  exact ⟨.ref _, _, I.laid (t' := tk) k (Nat.le_refl _) (setO_new R), rfl, q _ c hn hcl⟩
end
end EP

/-! ## KG4 -/
namespace EP
open PySem PySem.Spec PyProof.Rows L2

/-! ### names for built-ins -/
theorem bt_len : bootBuiltins "len" = some (.builtin "len") := by decide +kernel
theorem bt_isinstance : bootBuiltins "isinstance" = some (.builtin "isinstance") := by decide +kernel
theorem bt_sorted : bootBuiltins "sorted" = some (.builtin "sorted") := by decide +kernel
theorem bt_max : bootBuiltins "max" = some (.builtin "max") := by decide +kernel
theorem bt_min : bootBuiltins "min" = some (.builtin "min") := by decide +kernel
theorem bt_int : bootBuiltins "int" = some (.type "int") := by decide +kernel
theorem bt_str : bootBuiltins "str" = some (.type "str") := by decide +kernel
theorem bt_tuple : bootBuiltins "tuple" = some (.type "tuple") := by decide +kernel
theorem bt_list : bootBuiltins "list" = some (.type "list") := by decide +kernel
theorem bt_dict : bootBuiltins "dict" = some (.type "dict") := by decide +kernel
theorem bt_set : bootBuiltins "set" = some (.type "set") := by decide +kernel
/-- what the module's names hold -/
structure Md (K : PySem.W.Frag) (mg : Str → Option Value) : Prop where
  len_ : mg "len" = none
  range_ : mg "range" = none
  int_ : mg "int" = none
  tuple_ : mg "tuple" = none
  sorted_ : mg "sorted" = none
  isinstance_ : mg "isinstance" = none
  str_ : mg "str" = none
  dict_ : mg "dict" = none
  zip_ : mg "zip" = none
  set_ : mg "set" = none
  list_ : mg "list" = none
  max_ : mg "max" = none
  min_ : mg "min" = none
  COMPARED : mg "COMPARED" = some (.ref (He.ga K "COMPARED"))
  OF_PLACES : mg "OF_PLACES" = some (.ref (He.ga K "OF_PLACES"))
  compared : ∀ H, SqT K H (He.ga K "COMPARED") [.str "most", .str "less", .str "same", .str "unlike"]
  ofPlaces : ∀ H, SqT K H (He.ga K "OF_PLACES") [.str "ahead", .str "here", .str "next"]

/-! ### rules that name the written part -/
section
variable {X : Cx}
theorem ix_all (K : PySem.W.Frag) (h : X.K = K := by rfl) : IxR X (rIx K) := by
  subst h
  exact ix_seq
theorem pg_tupK (K : PySem.W.Frag) {es : List Expr} {k : Nat} {pos : Pos} {t : TGs} {n : Nat} (hc : X.calm = true) (h : PGs X es t) (hK : X.K = K := by rfl)
    (hn : (assignEach es X.env).length = n := by rfl) (hst : (assignEach es X.env).findIdx? (·.1) = none := by rfl) : PG X (.Tuple es k pos) (gTup K n t) := by
  subst hK
  exact pg_tup hc h hn hst
theorem pg_unlK (K : PySem.W.Frag) {es : List Expr} {k : Nat} {pos : Pos} {t : TGs} {n : Nat} (hc : X.calm = true) (h : PGs X es t) (hK : X.K = K := by rfl)
    (hn : (assignEach es X.env).length = n := by rfl) (hst : (assignEach es X.env).findIdx? (·.1) = none := by rfl) : PG X (.Tuple es k pos) (gUnl K n t) := by
  subst hK
  exact pg_unl hc h hn hst
def iSq (K : PySem.W.Frag) (te : TE) : TI := fun σ H R => iList K te σ H R ∨ iTup K te σ H R
theorem pi_seq (K : PySem.W.Frag) {tg l : Expr} {te : TE} (hl : PE X l te) (hK : X.K = K := by rfl) : PI X tg l (iSq K te) := by
  subst hK
  refine ⟨fun pins s σ H R I h => ?_⟩
  rcases h with h | h
  · exact (pi_list hl).run pins s σ H R I h
  · exact (pi_tup hl).run pins s σ H R I h
theorem pi_zip2 (K : PySem.W.Frag) {e e2 : Expr} {ta : TA} {p pos tpos : Pos} {elts : List Expr} {kk : Nat} (hg : Gl X "zip") (hm : X.mg "zip" = none) (ha : PA X [e, e2] ta) (hK : X.K = K := by rfl)
    (hs : starEach [e, e2] X.env = (false, eval e X.env) :: starEach [e2] X.env := by rfl) (hpl : (backTo pos (starEach [e2] X.env)).any (·.1) = false := by rfl) :
    PI X (.Tuple elts kk tpos) (.Call (.Name "zip" p) [e, e2] [] pos) (RZ.iZipA K ta) := by
  subst hK
  exact RZ.pi_zipA hg hm ha hs hpl
/-- x != (), x != [] -/
def rNeE (K : PySem.W.Frag) : R2 := fun x y H Q => ∃ a b xs, x = .ref a ∧ y = .ref b ∧ ((SqL K H a xs ∧ SqL K H b []) ∨ (SqT K H a xs ∧ SqT K H b [])) ∧ Q (.bl (!xs.isEmpty)) H
theorem op_neE (K : PySem.W.Frag) (hu : X.A.units + 64 < cLine) (hK : X.K = K := by rfl) : OpR X (compareOp .NotEq) (rNeE K) := by
  subst hK
  intro pins s σ H x y v u Q I rx ry h
  obtain ⟨a, b, xs, rfl, rfl, h, q⟩ := h
  have hu' : X.A.units < cLine := Nat.lt_of_le_of_lt (Nat.le_add_right _ _) hu
  cases rx
  cases ry
  rcases h with ⟨h1, h2⟩ | ⟨h1, h2⟩
  · obtain ⟨i1, r1, p1, z1⟩ := I.list h1
    obtain ⟨i2, r2, p2, z2⟩ := I.list h2
    cases r2
    cases r1 with
    | nil => exact SeqAt.RcNeAt.lists (e := fun _ => true) p1.isList p2.isList rfl hu' (fun j h1 _ => absurd h1 (by simp)) _ _ _ _ ⟨.bl false, H, I, rfl, q⟩
    | cons r t => exact SeqAt.RcNeAt.lists_lengths p1.isList p2.isList (by simp) hu' _ _ _ _ ⟨.bl true, H, I, rfl, q⟩
  · obtain ⟨i1, r1, p1, z1⟩ := I.tuple h1
    obtain ⟨i2, r2, p2, z2⟩ := I.tuple h2
    cases r2
    cases r1 with
    | nil => exact SeqAt.RcNeAt.tuples (e := fun _ => true) p1 p2 hu' (fun j h1 _ => absurd h1 (by simp)) _ _ _ _ ⟨.bl false, H, I, rfl, q⟩
    | cons r t => exact SeqAt.RcNeAt.tuples (e := fun _ => true) p1 p2 hu' (fun j _ h2 => absurd h2 (by simp)) _ _ _ _ ⟨.bl true, H, I, rfl, q⟩
/-- dict(d) -/
def rDict : List V → Hp → VK → Prop := fun vs H Q => ∃ a kvs, vs = [V.ref a] ∧ Rd H a (.dK kvs) ∧ ∀ p, H p = none → Q (.ref p) (upd H p (.dK kvs))
theorem cb_dict : CallR X (.type "dict") rDict := by
  intro pins s σ H vs us Q I r h
  obtain ⟨a, kvs, rfl, hd, q⟩ := h
  rw [Vals.ref1 r]
  exact d_copyOf I hd fun p s' np I' => ⟨.ref p, _, I', rfl, q p np⟩
theorem cb_sortedSet (w : World) (hw : X.w = w := by rfl) (hc : X.calm = true := by rfl) : CallR X (.builtin "sorted") (rSortedSet w) := by
  subst hw
  exact cr_sortedSet hc
theorem cb_sortedS (K : PySem.W.Frag) (hK : X.K = K := by rfl) : CallR X (.builtin "sorted") (rSortedS K) := by
  subst hK
  exact cr_sortedS
def rTIndex (K : PySem.W.Frag) : V → List V → Hp → VK → Prop := fun x xs H Q => ∃ p, ∃ ys : List Str, ∃ z j, x = .ref p ∧ xs = [.str z] ∧ SqT K H p (ys.map V.str) ∧ ys[j]? = some z ∧ (∀ m, m < j → ys[m]? ≠ some z) ∧ Q (.int (j : Nat)) H
theorem mtIndex (K : PySem.W.Frag) (hK : X.K = K := by rfl) : MtR X "tuple.index" (rTIndex K) := by
  subst hK
  exact mt_tup_index
/-- t.index(x), t a tuple known to have no dict -/
def tIndex (K : PySem.W.Frag) (to : TE) (t : TA) : TE := fun σ H Q => to σ H fun x H1 => (∃ p o xs, x = V.ref p ∧ H1 p = some (.frz o (.tup xs)) ∧ o.dict = none) ∧ t σ H1 fun xs H2 => rTIndex K x xs H2 Q
theorem pe_index (K : PySem.W.Frag) {o e : Expr} {es : List Expr} {to : TE} {t : TA} {apos cpos : Pos} (ho : PE X o to) (ha : PA X (e :: es) t) (hK : X.K = K := by rfl)
    (hbase : attributeBase o "index" X.env (eval o X.env) = eval o X.env := by rfl)
    (hfew : ((backTo cpos (starEach (e :: es) X.env)).all (fun x => !x.1) && (backToKw cpos (keywordEach [] X.env)).all (fun x => x.1.isSome)
      && decide ((e :: es).length + ([] : List Keyword).length + (if ([] : List Keyword).isEmpty then 0 else 1) < 30)) = true := by rfl)
    (hline : (apos.endLine == cpos.line) = true := by rfl) (hs : starEach (e :: es) X.env = (false, eval e X.env) :: starEach es X.env := by rfl) (hplain : (backTo cpos (starEach es X.env)).any (·.1) = false := by rfl) :
    PE X (.Call (.Attribute o "index" apos) (e :: es) [] cpos) (tIndex K to t) := by
  subst hK
  refine ⟨fun pins s σ H Q I h => wpAny_Call_method_late hbase hfew hline rfl (thn (ho.run pins s σ H _ I h) fun v s1 z => ?_)⟩
  obtain ⟨x, H1, I1, r1, ⟨p, ob, ys, rfl, hp, hd⟩, q1⟩ := z
  cases r1
  obtain ⟨g, _, its, rv, hT⟩ := I1.hok p _ hp
  refine ⟨"tuple", "tuple.index", PySem.F.plainAttrs_tuple, PySem.F.slot_tuple_index, PySem.F.type_tuple_index, hT.typeIs, fun a e => ?_, ?_⟩
  · cases e
    exact ⟨ob, g, hd⟩
  have hA := ha.run cpos pins s1 σ H1 _ I1 q1
  rw [hs] at hA ⊢
  refine Calls.callWith_builtin (show (false || (backTo cpos (starEach es X.env)).any (·.1)) = false by rw [hplain]; rfl) (Calls.evalArgs_plain ?_)
  exact thn hA fun us s2 ⟨vs, H2, I2, r2, q2⟩ => mtIndex X.K rfl pins s2 σ H2 (.ref p) vs _ us Q I2 rfl r2 q2
end
end EP

/-! ## KG5 -/
namespace EP
open PySem PySem.Spec PyProof.Rows L2
section
variable {K : PySem.W.Frag} {W : Wd K} {w : World} {Γ Γ' Γ2 : Gm} {r r1 r2 r3 r' : Nat} {ta tb tc te td tk tv : TE} {P P' P1 P2 : Dt → Prop} {PL : List Dt → Prop} {PB : Bool → Prop} {x y : V} {d d1 d2 a b : Dt} {ds es : List Dt} {t u : TT} {tl : TA}
  {s1 s2 s3 : TS} {N N1 : Nat → Gm → Prop} {R : Nat → Dt → Prop} {vs : List Nat} {g : TG} {i j : Nat}

theorem ei_sqT (h : Ev W te Γ r r1 (At (.tup ds))) : EvI W (iSq K te) Γ r r1 (AtL ds) := fun σ H R s I q => .inr (ei_tup (PL := AtL ds) h (fun _ e => ⟨ds, e, rfl⟩) σ H R s I q)
theorem ei_sqL (h : Ev W te Γ r r1 (At (.lst ds))) : EvI W (iSq K te) Γ r r1 (AtL ds) := fun σ H R s I q => .inl (ei_lst (PL := AtL ds) h (fun _ e => ⟨ds, e, rfl⟩) σ H R s I q)
theorem ei_sqLP (h : Ev W te Γ r r1 P) (k : ∀ d, P d → ∃ ds, d = .lst ds ∧ PL ds) : EvI W (iSq K te) Γ r r1 PL := fun σ H R s I q => .inl (ei_lst h k σ H R s I q)
theorem ev_neT (ha : Ev W ta Γ r r1 (At (.tup ds))) (hb : Ev W tb Γ r1 r2 (At (.tup []))) : Ev W (tOp (rNeE K) ta tb) Γ r r2 (At (.v (.bl (!ds.isEmpty)))) :=
  ev_op ha hb fun a b d1 d2 H Q p1 p2 a1 b2 I q => by
    subst p1 p2
    cases a1 with
    | tup h1 l1 =>
      cases b2 with
      | tup h2 l2 =>
        cases l2
        refine ⟨_, _, _, rfl, rfl, .inr ⟨h1, h2⟩, ?_⟩
        cases l1 with
        | nil => exact q _ H _ (Same.refl H) I rfl (.v _)
        | cons _ _ => exact q _ H _ (Same.refl H) I rfl (.v _)
theorem ev_neL (ha : Ev W ta Γ r r1 (At (.lst ds))) (hb : Ev W tb Γ r1 r2 (At (.lst []))) : Ev W (tOp (rNeE K) ta tb) Γ r r2 (At (.v (.bl (!ds.isEmpty)))) :=
  ev_op ha hb fun a b d1 d2 H Q p1 p2 a1 b2 I q => by
    subst p1 p2
    cases a1 with
    | lst n1 h1 l1 =>
      cases b2 with
      | lst n2 h2 l2 =>
        cases l2
        refine ⟨_, _, _, rfl, rfl, .inl ⟨SqL.of h1, SqL.of h2⟩, ?_⟩
        cases l1 with
        | nil => exact q _ H _ (Same.refl H) I rfl (.v _)
        | cons _ _ => exact q _ H _ (Same.refl H) I rfl (.v _)
/-- tuple(range(n)) -/
theorem ev_tupRg {n : Nat} (h : Ev W te Γ r r1 (At (.v (.int (n : Int))))) (hn : n ≤ 10000) : Ev W (tTupRg (tRg1 te)) Γ r r1 (At (.tup (nums 0 n))) := fun σ H Q s I q =>
  h σ H _ s I fun v H1 d e1 I1 p1 a1 => by
    subst p1
    refine ⟨(n : Int), a1.v_eq, RgOk.of_le (by omega) (by omega) (by omega) (by omega), fun p np => q _ _ (.tup (nums 0 n)) (e1.trans (.of (same_new np))) (W.mono _ _ _ I1 (same_new np)) rfl (.tup (SqT.of upd_same) ?_)⟩
    unfold rgV nums
    rw [Int.sub_zero, Int.toNat_natCast]
    have z : (List.range n).map (fun i => Dt.v (.int (0 + (i : Nat)))) = ((List.range n).map fun i => V.int (0 + (i : Nat))).map Dt.v := by rw [List.map_map]; rfl
    rw [z]
    exact DatL.vals _
/-- sorted(set(l)), l of ints -/
theorem ev_sortedSet {ns : List Int} (h : Ev W te Γ r r1 (At (.lst (ns.map fun k => .v (.int k))))) (hl : ns.length ≤ 60)
    (hP : ∀ ks : List Int, ks.length ≤ ns.length → ks.Pairwise (· < ·) → (∀ k, k ∈ ks ↔ k ∈ ns) → P (.lst (ks.map fun k => .v (.int k)))) :
    Ev W (tCB (rSortedSet w) (tCons (tCB (EP.rSetL K w) (tCons te tNil)) tNil)) Γ r r1 P := fun σ H Q s I q =>
  h σ H _ s I fun v H1 d e1 I1 p1 a1 => by
    subst p1
    cases a1 with
    | lst n h1 l1 =>
      have z : ns.map (fun k => Dt.v (.int k)) = (ns.map V.int).map Dt.v := by rw [List.map_map]; rfl
      rw [z] at l1
      have e := l1.vals_eq
      subst e
      refine ⟨_, ns, rfl, SqL.of h1, hl, fun p c np hc => ⟨p, _, c, rfl, upd_same, by omega, fun ks p2 hk hm hkl np2 => ?_⟩⟩
      have sm : Same H1 (upd (upd H1 p (SetO w p (fun j => decide (j ∈ ns)) c)) p2 (.lst (ks.map V.int))) := (same_new np).trans (same_new np2)
      have I2 := W.mono _ _ _ I1 sm
      refine q _ _ _ (e1.trans (.of sm)) I2 (hP ks (by omega) hk fun k => by rw [hm k]; exact decide_eq_true_iff) (.lst (W.not_new (W.mono _ _ _ I1 (same_new np)) np2) upd_same ?_)
      have z2 : ks.map (fun k => Dt.v (.int k)) = (ks.map V.int).map Dt.v := by rw [List.map_map]; rfl
      rw [z2]
      exact DatL.vals _
/-- sorted(l), l of texts -/
theorem ev_sortedS {xs : List Str} (h : Ev W te Γ r r1 (At (.lst (xs.map fun z => .v (.str z))))) (hl : xs.length < 64)
    (hP : ∀ ys : List Str, ys.Perm xs → P (.lst (ys.map fun z => .v (.str z)))) : Ev W (tCB (rSortedS K) (tCons te tNil)) Γ r r1 P := fun σ H Q s I q =>
  h σ H _ s I fun v H1 d e1 I1 p1 a1 => by
    subst p1
    cases a1 with
    | lst n h1 l1 =>
      have z : xs.map (fun k => Dt.v (.str k)) = (xs.map V.str).map Dt.v := by rw [List.map_map]; rfl
      rw [z] at l1
      have e := l1.vals_eq
      subst e
      refine ⟨_, xs, rfl, SqL.of h1, hl, fun ys p hp _ np => q _ _ _ (e1.trans (.of (same_new np))) (W.mono _ _ _ I1 (same_new np)) (hP ys hp) (.lst (W.not_new I1 np) upd_same ?_)⟩
      have z2 : ys.map (fun k => Dt.v (.str k)) = (ys.map V.str).map Dt.v := by rw [List.map_map]; rfl
      rw [z2]
      exact DatL.vals _
/-- t.index(x) -/
def strsD (ys : List Str) : List Dt := ys.map fun z => .v (.str z)
theorem strsD_eq (ys : List Str) : strsD ys = (ys.map V.str).map Dt.v := by unfold strsD; rw [List.map_map]; rfl
theorem idx_ok {ys : List Str} {z : Str} (h : z ∈ ys) : ys[ys.idxOf z]? = some z ∧ ∀ m, m < ys.idxOf z → ys[m]? ≠ some z := by
  have hl := List.idxOf_lt_length_of_mem h
  refine ⟨by rw [List.getElem?_eq_getElem hl, List.getElem_idxOf], fun m hm e => ?_⟩
  obtain ⟨hm2, e2⟩ := List.getElem?_eq_some_iff.mp e
  have := List.not_of_lt_findIdx (p := (· == z)) hm
  rw [e2] at this
  simp at this
theorem ev_index {ys : List Str} {z : Str} (ha : Ev W ta Γ r r1 (At (.ftup (strsD ys)))) (hb : Ev W tb Γ r1 r2 (At (.v (.str z)))) (h : z ∈ ys) : Ev W (tIndex K ta (tCons tb tNil)) Γ r r2 (At (.v (.int ((ys.idxOf z : Nat) : Int)))) := fun σ H Q s I q =>
  ha σ H _ s I fun v H1 d e1 I1 p1 a1 => by
    subst p1
    cases a1 with
    | ftup hp ho l =>
      rw [strsD_eq] at l
      have e := l.vals_eq
      subst e
      refine ⟨⟨_, _, _, rfl, hp, ho⟩, hb σ H1 _ (s.mono I e1) I1 fun v2 H2 d2 e2 I2 p2 a2 => ?_⟩
      subst p2
      obtain ⟨i1, i2⟩ := idx_ok h
      refine ⟨_, ys, z, ys.idxOf z, rfl, by rw [a2.v_eq], .inl (.inr ⟨_, e2 _ _ ?_ hp⟩), i1, i2, q _ H2 _ (e1.trans e2) I2 rfl (.v _)⟩
      exact W.not_of I1 hp fun _ z => by cases z

/-! ### a dict of one's own -/
def updE (f : Key → Option Int) (k : Key) (j : Int) : Key → Option Int := fun k' => if k' = k then some j else f k'
theorem env_put {kvs : List (Key × V)} {f : Key → Option Int} {k : Key} {j : Int} (hf : ∀ k, valV kvs k = (f k).map V.int) : ∀ k', valV (putK kvs k (.int j)) k' = (updE f k j k').map V.int := fun k' => by
  rw [valV_put]
  unfold updE
  split
  · rfl
  · exact hf k'
theorem Sl.len {H : Hp} : ∀ {σ : L2.St} {Γ : Gm}, Sl W H σ Γ → σ.length = Γ.length
  | _, _, .nil => rfl
  | _, _, .no l => congrArg (· + 1) (Sl.len l)
  | _, _, .yes _ l => congrArg (· + 1) (Sl.len l)
theorem set_get {σ : L2.St} {o : Option V} (h : i < σ.length) : (σ.set i o)[i]? = some o := by simp [h]
/-- x = dict(y); x[k] = v; .. -/
theorem es_newput {n : Nat} {f : Key → Option Int} {k : Key} {jj : Int} (hd : Ev W td Γ r r (At (.env n f))) (hv : Ev W tv (Γ.set i (some (.env n f))) r r (At (.v (.int jj)))) (hk : Ev W tk (Γ.set i (some (.env n f))) r r (At (.v (kV k))))
    (hn : n < 10000) (hi : i < Γ.length) (hu : EvS W s2 (Γ.set i (some (.env (n + 1) (updE f k jj)))) r N R) :
    EvS W (tSeq (tAsg (tCB rDict (tCons td tNil)) (gName i)) (tSeq (sDPut (tVar i) tk tv) s2)) Γ r N R := fun σ H E s I hnx hrt =>
  hd σ H _ s I fun v H1 d e1 I1 p1 a1 => by
    subst p1
    cases a1 with
    | @env ad kvs _ _ hr hl hf =>
      refine ⟨ad, kvs, rfl, hr, fun p np => ?_⟩
      have nM : ¬ W.M p := W.not_new I1 np
      have sm1 := same_new (o := .dK kvs) np
      have I2 := W.mono _ _ _ I1 sm1
      have sl1 := s.mono I e1
      have hiσ : i < σ.length := by rw [s.len]; exact hi
      refine hv _ _ _ ((sl1.mono I1 (.of sm1)).set i (.env (.inl upd_same) hl hf)) I2 fun v3 H3 d3 e3 I3 p3 a3 => ?_
      subst p3
      refine ⟨.ref p, set_get hiσ, ?_⟩
      have hp3 := e3 _ _ nM upd_same
      refine hk _ _ _ (((sl1.mono I1 (.of sm1)).mono I2 e3).set i (.env (.inl hp3) hl hf)) I3 fun v4 H4 d4 e4 I4 p4 a4 => ?_
      subst p4
      have hp4 := e4 _ _ nM hp3
      refine ⟨p, _, rfl, .inl ⟨_, k, hp4, a4.v_eq, by rw [sizeLine_eq]; omega, rfl⟩, ?_⟩
      rw [a3.v_eq]
      have ex : W.Ex H1 (upd H4 p (.dK (putK kvs k (.int jj)))) := fun a o n z => by
        rw [upd_ne (ne_of_none z np)]
        exact e4 _ _ n (e3 _ _ n (sm1 _ _ z))
      refine hu _ _ E ((sl1.mono I1 ex).set i (.env (.inl upd_same) (Nat.le_trans (length_putK _ _ _) (Nat.succ_le_succ hl)) (env_put hf))) (W.keepUpd I4 nM) (fun σ' H' r' Γ' e i' n z => hnx σ' H' r' Γ' (e1.trans (ex.trans e)) i' n z) fun v H' r' d e i' p z => hrt v H' r' d (e1.trans (ex.trans e)) i' p z
/-- x = [..]; if c: x[0] = not x[0]; .. -/
theorem es_flip {bs : List Bool} {c b0 : Bool} (hl : EvF W te Γ r r1 (AtL (bs.map fun b => .v (.bl b)))) (hc : EvT W t (Γ.set i (some (.lst (bs.map fun b => .v (.bl b))))) r1 r1 (AtB c))
    (h0 : c = true → bs[0]? = some b0) (hi : i < Γ.length)
    (hu : EvS W s2 (Γ.set i (some (.lst ((if c then bs.set 0 (!b0) else bs).map fun b => .v (.bl b))))) r1 N R) :
    EvS W (tSeq (tAsg te (gName i)) (tSeq (tIfS t (tAsg (tNotV (tOp (rIx K) (tVar i) (tC (.int 0)))) (gSub (tVar i) (tC (.int 0)) L2.rSetL)) tNext) s2)) Γ r N R := fun σ H E s I hnx hrt =>
  hl σ H _ s I fun p H1 xs ds e1 I1 p1 np nM hp l => by
    subst p1
    have z : bs.map (fun b => Dt.v (.bl b)) = (bs.map V.bl).map Dt.v := by rw [List.map_map]; rfl
    have sl1 := s.mono I e1
    have hiσ : i < σ.length := by rw [s.len]; exact hi
    refine hc _ H1 _ (sl1.set i (.lst nM hp l)) I1 fun c' H2 e2 I2 p2 => ?_
    have p2' : c' = c := p2
    subst p2'
    have hp2 := e2 _ _ nM hp
    have sl2 := sl1.mono I1 e2
    have l2 := l.mono I1 e2
    cases c' with
    | false => exact iteF (hu _ H2 E (sl2.set i (.lst nM hp2 l2)) I2 (fun σ' H' r' Γ' e i' n z => hnx σ' H' r' Γ' (e1.trans (e2.trans e)) i' n z) fun v H' r' d e i' p z => hrt v H' r' d (e1.trans (e2.trans e)) i' p z)
    | true =>
      have e0 := h0 rfl
      rw [z] at l2
      have ee := l2.vals_eq
      subst ee
      have hlen : 0 < bs.length := (List.getElem?_eq_some_iff.mp e0).1
      refine iteT ⟨.ref p, set_get hiσ, .inl ⟨p, _, 0, .bl b0, rfl, rfl, SqL.of hp2, ?_, b0, rfl, .ref p, set_get hiσ, p, _, 0, 0, rfl, rfl, hp2, ?_, ?_⟩⟩
      · have q : L2.atI (bs.map V.bl) ((0 : Nat) : Int) = some (.bl b0) := atI_nat (by rw [List.getElem?_map, e0]; rfl)
        exact q
      · unfold ixN
        rw [if_pos (Int.le_refl 0), List.length_map, if_pos (by omega)]
        rfl
      · have ex : W.Ex H (upd H2 p (.lst ((bs.map V.bl).set 0 (.bl (!b0))))) := fun a o n q => by
          rw [upd_ne (ne_of_none q np)]
          exact e2 _ _ n (e1 _ _ n q)
        have z3 : ((bs.map V.bl).set 0 (.bl (!b0))) = (bs.set 0 (!b0)).map V.bl := by rw [List.map_set]
        have z4 : (bs.set 0 (!b0)).map (fun b => Dt.v (.bl b)) = ((bs.set 0 (!b0)).map V.bl).map Dt.v := by rw [List.map_map]; rfl
        refine hu _ _ E ((s.mono I ex).set i (.lst nM upd_same ?_)) (W.keepUpd I2 nM) (fun σ' H' r' Γ' e i' n z => hnx σ' H' r' Γ' (ex.trans e) i' n z) fun v H' r' d e i' p z => hrt v H' r' d (ex.trans e) i' p z
        rw [if_pos rfl, z3, z4]
        exact DatL.vals _
end
end EP

/-! ## KM -/
namespace EP
open PySem PySem.Spec PyProof.Rows L2

/-! ### sayings -/
inductive Bs where
  | non
  | num (c : Str)
  | at (row : Str) (p : Key)
structure Sm where
  b : Bs
  m : Int
inductive Cw where
  | most | less | same | unlike | least | more
inductive Pw where
  | ahead | here | next
inductive Say where
  | cmp (c : Cw) (a b : Sm)
  | pl (w : Pw) (p q : Key)
  | not (s : Say)
  | and (l : List Say)
  | or (l : List Say)
  | imp (s t : Say)
  | each (x : Str) (s : Say)
  | pairs (x y : Str) (s : Say)
  | nexts (row : Str) (c : Cw)
def Cw.str : Cw → Str
  | .most => "most" | .less => "less" | .same => "same" | .unlike => "unlike" | .least => "least" | .more => "more"
def Pw.str : Pw → Str
  | .ahead => "ahead" | .here => "here" | .next => "next"
def encK (k : Key) : Dt := .v (kV k)
def encB : Bs → Dt
  | .non => .v .non
  | .num c => .v (.str c)
  | .at r p => .tup [.v (.str r), encK p]
def encSm (a : Sm) : Dt := .tup [encB a.b, .v (.int a.m)]
mutual
def enc : Say → Dt
  | .cmp c a b => .tup [.v (.str c.str), encSm a, encSm b]
  | .pl w p q => .tup [.v (.str w.str), encK p, encK q]
  | .not s => .tup [.v (.str "not"), enc s]
  | .and l => .tup [.v (.str "and"), .tup (encL l)]
  | .or l => .tup [.v (.str "or"), .tup (encL l)]
  | .imp s t => .tup [.v (.str "if"), enc s, enc t]
  | .each x s => .tup [.v (.str "each"), .v (.str x), enc s]
  | .pairs x y s => .tup [.v (.str "pairs"), .v (.str x), .v (.str y), enc s]
  | .nexts r c => .tup [.v (.str "nexts"), .v (.str r), .v (.str c.str)]
def encL : List Say → List Dt
  | [] => []
  | s :: l => enc s :: encL l
end
theorem encL_map : ∀ l : List Say, encL l = l.map enc
  | [] => rfl
  | s :: l => by rw [encL, encL_map l, List.map_cons]

/-! ### what they say -/
/-- a cast and a standing -/
structure Wl where
  rows : List Str
  places : List Str
  nums : List Str
  n : Nat
  rv : List (List Int)
  pv : List Int
  nv : List Int
structure Wl.Ok (T : Wl) : Prop where
  rlen : T.rv.length = T.rows.length
  rrow : ∀ l ∈ T.rv, l.length = T.n
  rne : T.rows ≠ []
  rn : T.rows.length ≤ 100
  plen : T.pv.length = T.places.length
  pn : T.places.length ≤ 100
  pin : ∀ i ∈ T.pv, 0 ≤ i ∧ i ≤ T.n
  nlen : T.nv.length = T.nums.length
  nn : T.nums.length ≤ 100
  small : T.n ≤ 20
abbrev En := Key → Option Int
def ek : Key := .inr "end"
def plc (T : Wl) (f : En) (k : Key) : Int :=
  if k = ek then T.n else match f k with
    | some i => i
    | none => match k with
      | .inr z => T.pv.getD (T.places.idxOf z) 0
      | .inl _ => 0
def rowV (T : Wl) (r : Str) : List Int := T.rv.getD (T.rows.idxOf r) []
def wrt (T : Wl) (f : En) (a : Sm) : Int := match a.b with
  | .non => a.m
  | .num c => a.m + T.nv.getD (T.nums.idxOf c) 0
  | .at r p => a.m + (rowV T r ++ [0]).getD (plc T f p).toNat 0
def cmpI : Cw → Int → Int → Bool
  | .most, a, b => decide (a ≤ b)
  | .less, a, b => decide (a < b)
  | .same, a, b => decide (a = b)
  | .unlike, a, b => decide (a ≠ b)
  | .least, a, b => decide (b ≤ a)
  | .more, a, b => decide (b < a)
def plI : Pw → Int → Int → Bool
  | .ahead, a, b => decide (a < b)
  | .here, a, b => decide (a = b)
  | .next, a, b => decide (a + 1 = b)
mutual
def sem (T : Wl) : En → Say → Bool
  | f, .cmp c a b => cmpI c (wrt T f a) (wrt T f b)
  | f, .pl w p q => plI w (plc T f p) (plc T f q)
  | f, .not s => !sem T f s
  | f, .and l => semA T f l
  | f, .or l => semO T f l
  | f, .imp s t => !sem T f s || sem T f t
  | f, .each x s => (List.range T.n).all fun (k : Nat) => sem T (updE f (.inr x) (k : Int)) s
  | f, .pairs x y s => (List.range T.n).all fun (k : Nat) => (List.range T.n).all fun (j : Nat) => !decide (k < j) || sem T (updE (updE f (.inr x) (k : Int)) (.inr y) (j : Int)) s
  | _, .nexts r c => (List.range (T.n - 1)).all fun (i : Nat) => cmpI c ((rowV T r).getD i 0) ((rowV T r).getD (i + 1) 0)
def semA (T : Wl) : En → List Say → Bool
  | _, [] => true
  | f, s :: l => sem T f s && semA T f l
def semO (T : Wl) : En → List Say → Bool
  | _, [] => false
  | f, s :: l => sem T f s || semO T f l
end
theorem semA_all (T : Wl) (f : En) : ∀ l : List Say, semA T f l = l.all fun s => sem T f s
  | [] => by rw [semA]; rfl
  | s :: l => by rw [semA, semA_all T f l, List.all_cons]
theorem semO_any (T : Wl) (f : En) : ∀ l : List Say, semO T f l = l.any fun s => sem T f s
  | [] => by rw [semO]; rfl
  | s :: l => by rw [semO, semO_any T f l, List.any_cons]

/-! ### well formed: q: each, pairs, nexts may stand; n: deep at most; D: the places bound -/
def Cw.isCmp : Cw → Bool
  | .most | .less | .same | .unlike => true
  | _ => false
def Cw.isNx : Cw → Bool
  | .unlike => false
  | _ => true
def WfK (T : Wl) (D : Key → Prop) (k : Key) : Prop := k = ek ∨ D k ∨ ∃ z ∈ T.places, k = .inr z
def WfB (T : Wl) (D : Key → Prop) : Bs → Prop
  | .non => True
  | .num c => c ∈ T.nums
  | .at r p => r ∈ T.rows ∧ WfK T D p
def andK (D : Key → Prop) (k : Key) : Key → Prop := fun k' => D k' ∨ k' = k
def Wf (T : Wl) : Bool → Nat → (Key → Prop) → Say → Prop
  | _, 0, _, _ => False
  | _, _ + 1, D, .cmp c a b => c.isCmp = true ∧ WfB T D a.b ∧ WfB T D b.b
  | _, _ + 1, D, .pl _ p q => WfK T D p ∧ WfK T D q
  | q, n + 1, D, .not s => Wf T q n D s
  | q, n + 1, D, .and l => l.length ≤ 100 ∧ ∀ s ∈ l, Wf T q n D s
  | q, n + 1, D, .or l => l.length ≤ 100 ∧ ∀ s ∈ l, Wf T q n D s
  | q, n + 1, D, .imp s t => Wf T q n D s ∧ Wf T q n D t
  | q, n + 1, D, .each x s => q = true ∧ x ≠ "end" ∧ Wf T false n (andK D (.inr x)) s
  | q, n + 1, D, .pairs x y s => q = true ∧ x ≠ "end" ∧ y ≠ "end" ∧ x ≠ y ∧ Wf T false n (andK (andK D (.inr x)) (.inr y)) s
  | q, _ + 1, _, .nexts r c => q = true ∧ r ∈ T.rows ∧ c.isNx = true
/-- the places that f tells -/
def dom (f : En) : Key → Prop := fun k => (f k).isSome = true
/-- they lie in the rows -/
def EnOk (T : Wl) (f : En) : Prop := ∀ k i, f k = some i → 0 ≤ i ∧ i ≤ T.n
theorem WfK.mono {T : Wl} {D D' : Key → Prop} (h : ∀ k, D k → D' k) {k : Key} (w : WfK T D k) : WfK T D' k := by
  rcases w with w | w | w
  · exact .inl w
  · exact .inr (.inl (h k w))
  · exact .inr (.inr w)
theorem WfB.mono {T : Wl} {D D' : Key → Prop} (h : ∀ k, D k → D' k) : ∀ {b : Bs}, WfB T D b → WfB T D' b
  | .non, _ => trivial
  | .num _, w => w
  | .at _ _, w => ⟨w.1, w.2.mono h⟩
theorem andK.mono {D D' : Key → Prop} (h : ∀ k, D k → D' k) (k : Key) : ∀ k', andK D k k' → andK D' k k' := fun k' w => by
  rcases w with w | w
  · exact .inl (h _ w)
  · exact .inr w
theorem Wf.mono {T : Wl} : ∀ {n m : Nat} {q q' : Bool} {D D' : Key → Prop} {s : Say}, n ≤ m → (q = true → q' = true) → (∀ k, D k → D' k) → Wf T q n D s → Wf T q' m D' s
  | 0, _, _, _, _, _, _, _, _, _, w => by simp [Wf] at w
  | n + 1, 0, _, _, _, _, _, h, _, _, _ => absurd h (by omega)
  | n + 1, m + 1, q, q', D, D', s, h, hq, hD, w => by
    have h' : n ≤ m := by omega
    cases s with
    | cmp c a b =>
      simp only [Wf] at w ⊢
      exact ⟨w.1, w.2.1.mono hD, w.2.2.mono hD⟩
    | pl v p k =>
      simp only [Wf] at w ⊢
      exact ⟨w.1.mono hD, w.2.mono hD⟩
    | not s =>
      simp only [Wf] at w ⊢
      exact w.mono h' hq hD
    | and l =>
      simp only [Wf] at w ⊢
      exact ⟨w.1, fun s hs => (w.2 s hs).mono h' hq hD⟩
    | or l =>
      simp only [Wf] at w ⊢
      exact ⟨w.1, fun s hs => (w.2 s hs).mono h' hq hD⟩
    | imp s t =>
      simp only [Wf] at w ⊢
      exact ⟨w.1.mono h' hq hD, w.2.mono h' hq hD⟩
    | each x s =>
      simp only [Wf] at w ⊢
      exact ⟨hq w.1, w.2.1, w.2.2.mono h' (fun z => z) (andK.mono hD _)⟩
    | pairs x y s =>
      simp only [Wf] at w ⊢
      exact ⟨hq w.1, w.2.1, w.2.2.1, w.2.2.2.1, w.2.2.2.2.mono h' (fun z => z) (andK.mono (andK.mono hD _) _)⟩
    | nexts r c =>
      simp only [Wf] at w ⊢
      exact ⟨hq w.1, w.2⟩

/-! ### a place for a name -/
def putK' (x : Str) (k : Key) (p : Key) : Key := if p = .inr x then k else p
def putB (x : Str) (k : Key) : Bs → Bs
  | .at r p => .at r (putK' x k p)
  | b => b
mutual
def put (x : Str) (k : Key) : Say → Say
  | .cmp c a b => .cmp c ⟨putB x k a.b, a.m⟩ ⟨putB x k b.b, b.m⟩
  | .pl w p q => .pl w (putK' x k p) (putK' x k q)
  | .not s => .not (put x k s)
  | .and l => .and (putL x k l)
  | .or l => .or (putL x k l)
  | .imp s t => .imp (put x k s) (put x k t)
  | s => s
def putL (x : Str) (k : Key) : List Say → List Say
  | [] => []
  | s :: l => put x k s :: putL x k l
end
theorem putL_map (x : Str) (k : Key) : ∀ l : List Say, putL x k l = l.map (put x k)
  | [] => by rw [putL]; rfl
  | s :: l => by rw [putL, putL_map x k l, List.map_cons]

/-! ### opened -/
inductive Opn where
  | parts (l : List (Bool × Say))
  | cases (l : List (List (Bool × Say)))
def encF (p : Bool × Say) : Dt := .tup [.v (.bl p.1), enc p.2]
def encR (l : List (Bool × Say)) : Dt := .tup (l.map encF)
def encO : Option Opn → Dt
  | none => .v .non
  | some (.parts l) => .tup [.v (.str "parts"), encR l]
  | some (.cases l) => .tup [.v (.str "cases"), .tup (l.map encR)]
def Opn.rows : Opn → List (List (Bool × Say))
  | .parts l => [l]
  | .cases l => l
def saidBy (r : Str) (c : Cw) (p q : Key) : Say :=
  match c with
  | .least => .cmp .most ⟨.at r q, 0⟩ ⟨.at r p, 0⟩
  | .more => .cmp .less ⟨.at r q, 0⟩ ⟨.at r p, 0⟩
  | c => .cmp c ⟨.at r p, 0⟩ ⟨.at r q, 0⟩
def opn : Bool → Say → Int → Option Opn
  | t, .not a, _ => some (.parts [(!t, a)])
  | true, .and l, _ => some (.parts (l.map fun p => (true, p)))
  | false, .and l, _ => some (.cases (l.map fun p => [(false, p)]))
  | false, .or l, _ => some (.parts (l.map fun p => (false, p)))
  | true, .or l, _ => some (.cases (l.map fun p => [(true, p)]))
  | false, .imp a b, _ => some (.parts [(true, a), (false, b)])
  | true, .imp a b, _ => some (.cases [[(false, a)], [(true, b)]])
  | true, .cmp .same a b, _ => some (.parts [(true, .cmp .most a b), (true, .cmp .most b a)])
  | false, .cmp .same a b, _ => some (.cases [[(true, .cmp .less a b)], [(true, .cmp .less b a)]])
  | false, .cmp .unlike a b, _ => some (.parts [(true, .cmp .most a b), (true, .cmp .most b a)])
  | true, .cmp .unlike a b, _ => some (.cases [[(true, .cmp .less a b)], [(true, .cmp .less b a)]])
  | _, .cmp _ _ _, _ => none
  | true, .pl .next p q, _ => some (.parts [(true, .pl .ahead p q)])
  | false, .pl .next p q, s => some (.cases [[(false, .pl .ahead p q)], [(true, .pl .ahead p (.inl s)), (true, .pl .ahead (.inl s) q)]])
  | false, .pl .here p q, _ => some (.cases [[(true, .pl .ahead p q)], [(true, .pl .ahead q p)]])
  | _, .pl _ _ _, _ => none
  | true, .each _ _, _ => none
  | true, .pairs _ _ _, _ => none
  | true, .nexts _ _, _ => none
  | false, .each x a, s => some (.parts [(true, .pl .ahead (.inl s) ek), (false, put x (.inl s) a)])
  | false, .pairs x y a, s => some (.parts [(true, .pl .ahead (.inl s) (.inl (s + 1))), (true, .pl .ahead (.inl (s + 1)) ek), (false, put y (.inl (s + 1)) (put x (.inl s) a))])
  | false, .nexts r c, s => some (.parts [(true, .pl .ahead (.inl s) (.inl (s + 1))), (true, .pl .ahead (.inl (s + 1)) ek), (false, saidBy r c (.inl s) (.inl (s + 1)))])

/-! ### strange places -/
def intK : Key → List Int
  | .inl i => [i]
  | .inr _ => []
def strB : Bs → List Int
  | .at _ p => intK p
  | _ => []
mutual
def strg : Say → List Int
  | .cmp _ a b => strB a.b ++ strB b.b
  | .pl _ p q => intK p ++ intK q
  | .not s => strg s
  | .and l => strgL l
  | .or l => strgL l
  | .imp s t => strg s ++ strg t
  | .each _ s => strg s
  | .pairs _ _ s => strg s
  | .nexts _ _ => []
def strgL : List Say → List Int
  | [] => []
  | s :: l => strg s ++ strgL l
end

/-! ### ways -/
def exts (n : Nat) : List Int → List En → List En
  | [], fs => fs
  | k :: ks, fs => exts n ks (fs.flatMap fun f => (List.range (n + 1)).map fun (i : Nat) => updE f (.inl k) (i : Int))
def factSo (T : Wl) (f : En) (p : Bool × Say) : Bool := decide (sem T f p.2 = p.1)
def rowSo (T : Wl) (f : En) (l : List (Bool × Say)) : Bool := l.all (factSo T f)
end EP

/-! ## KM2 -/
/-! the plain law: an opened fact says as much -/
namespace EP
open PySem PySem.Spec PyProof.Rows L2

/-! ### what is said leans on the places told alone -/
theorem plc_congr {T : Wl} {f g : En} {k : Key} (h : f k = g k) : plc T f k = plc T g k := by
  unfold plc
  rw [h]
theorem agree_wk {T : Wl} {D : Key → Prop} {f g : En} (h : ∀ k, (D k ∨ ∃ z, k = .inr z) → f k = g k) {k : Key} (w : WfK T D k) : plc T f k = plc T g k := by
  rcases w with w | w | ⟨z, _, w⟩
  · unfold plc
    rw [if_pos w, if_pos w]
  · exact plc_congr (h k (.inl w))
  · exact plc_congr (h k (.inr ⟨z, w⟩))
theorem agree_wb {T : Wl} {D : Key → Prop} {f g : En} (h : ∀ k, (D k ∨ ∃ z, k = .inr z) → f k = g k) {a : Sm} (w : WfB T D a.b) : wrt T f a = wrt T g a := by
  obtain ⟨b, m⟩ := a
  cases b with
  | non => rfl
  | num c => rfl
  | «at» q p =>
    show m + (rowV T q ++ [0]).getD (plc T f p).toNat 0 = m + (rowV T q ++ [0]).getD (plc T g p).toNat 0
    rw [agree_wk h w.2]
theorem agree_upd {D : Key → Prop} {f g : En} (h : ∀ k, (D k ∨ ∃ z, k = .inr z) → f k = g k) (x : Str) (j : Int) : ∀ k, (andK D (.inr x) k ∨ ∃ z, k = .inr z) → updE f (.inr x) j k = updE g (.inr x) j k := fun k w => by
  unfold updE
  split
  · rfl
  · rename_i n
    refine h k ?_
    rcases w with (w | w) | w
    · exact .inl w
    · exact absurd w n
    · exact .inr w
theorem sem_congr {T : Wl} : ∀ {n : Nat} {q : Bool} {D : Key → Prop} {f g : En} {s : Say}, Wf T q n D s → (∀ k, (D k ∨ ∃ z, k = .inr z) → f k = g k) → sem T f s = sem T g s
  | 0, _, _, _, _, _, w, _ => by simp [Wf] at w
  | n + 1, q, D, f, g, s, w, h => by
    cases s with
    | cmp c a b =>
      simp only [Wf] at w
      rw [sem, sem, agree_wb h w.2.1, agree_wb h w.2.2]
    | pl v p k =>
      simp only [Wf] at w
      rw [sem, sem, agree_wk h w.1, agree_wk h w.2]
    | not s =>
      simp only [Wf] at w
      rw [sem, sem, sem_congr w h]
    | and l =>
      simp only [Wf] at w
      rw [sem, sem, semA_all, semA_all]
      have e : ∀ s ∈ l, sem T f s = sem T g s := fun s hs => sem_congr (w.2 s hs) h
      clear w
      induction l with
      | nil => rfl
      | cons a l ih => rw [List.all_cons, List.all_cons, e a List.mem_cons_self, ih fun s hs => e s (List.mem_cons_of_mem _ hs)]
    | or l =>
      simp only [Wf] at w
      rw [sem, sem, semO_any, semO_any]
      have e : ∀ s ∈ l, sem T f s = sem T g s := fun s hs => sem_congr (w.2 s hs) h
      clear w
      induction l with
      | nil => rfl
      | cons a l ih => rw [List.any_cons, List.any_cons, e a List.mem_cons_self, ih fun s hs => e s (List.mem_cons_of_mem _ hs)]
    | imp s t =>
      simp only [Wf] at w
      rw [sem, sem, sem_congr w.1 h, sem_congr w.2 h]
    | each x s =>
      simp only [Wf] at w
      rw [sem, sem]
      congr 1
      funext k
      exact sem_congr w.2.2 (agree_upd h x _)
    | pairs x y s =>
      simp only [Wf] at w
      rw [sem, sem]
      congr 1
      funext k
      congr 1
      funext j
      rw [sem_congr w.2.2.2.2 (agree_upd (agree_upd h x _) y _)]
    | nexts z c => rw [sem, sem]

/-! ### a place for a name -/
theorem putK_plc {T : Wl} {f : En} {x : Str} {k : Key} {i : Int} (hx : x ≠ "end") (hk : k ≠ ek) (hi : f k = some i) (p : Key) : plc T f (putK' x k p) = plc T (updE f (.inr x) i) p := by
  unfold putK'
  split
  · rename_i e
    subst e
    have ne : ¬ (Sum.inr x : Key) = ek := fun z => hx (Sum.inr.inj z)
    unfold plc
    rw [if_neg hk, if_neg ne, hi]
    unfold updE
    rw [if_pos rfl]
  · rename_i e
    refine plc_congr ?_
    unfold updE
    rw [if_neg e]
theorem putB_wrt {T : Wl} {f : En} {x : Str} {k : Key} {i : Int} (hx : x ≠ "end") (hk : k ≠ ek) (hi : f k = some i) (a : Sm) : wrt T f ⟨putB x k a.b, a.m⟩ = wrt T (updE f (.inr x) i) a := by
  obtain ⟨b, m⟩ := a
  cases b with
  | non => rfl
  | num c => rfl
  | «at» q p =>
    show m + (rowV T q ++ [0]).getD (plc T f (putK' x k p)).toNat 0 = m + (rowV T q ++ [0]).getD (plc T (updE f (.inr x) i) p).toNat 0
    rw [putK_plc hx hk hi]
theorem sem_put {T : Wl} {x : Str} {k : Key} {i : Int} (hx : x ≠ "end") (hk : k ≠ ek) : ∀ {n : Nat} {D : Key → Prop} {f : En} {s : Say}, Wf T false n D s → f k = some i → sem T f (put x k s) = sem T (updE f (.inr x) i) s
  | 0, _, _, _, w, _ => by simp [Wf] at w
  | n + 1, D, f, s, w, hi => by
    cases s with
    | cmp c a b => rw [put, sem, sem, putB_wrt hx hk hi, putB_wrt hx hk hi]
    | pl v p q => rw [put, sem, sem, putK_plc hx hk hi, putK_plc hx hk hi]
    | not s =>
      simp only [Wf] at w
      rw [put, sem, sem, sem_put hx hk w hi]
    | and l =>
      simp only [Wf] at w
      rw [put, sem, sem, semA_all, semA_all, putL_map]
      have e : ∀ s ∈ l, sem T f (put x k s) = sem T (updE f (.inr x) i) s := fun s hs => sem_put hx hk (w.2 s hs) hi
      clear w
      induction l with
      | nil => rfl
      | cons a l ih => rw [List.map_cons, List.all_cons, List.all_cons, e a List.mem_cons_self, ih fun s hs => e s (List.mem_cons_of_mem _ hs)]
    | or l =>
      simp only [Wf] at w
      rw [put, sem, sem, semO_any, semO_any, putL_map]
      have e : ∀ s ∈ l, sem T f (put x k s) = sem T (updE f (.inr x) i) s := fun s hs => sem_put hx hk (w.2 s hs) hi
      clear w
      induction l with
      | nil => rfl
      | cons a l ih => rw [List.map_cons, List.any_cons, List.any_cons, e a List.mem_cons_self, ih fun s hs => e s (List.mem_cons_of_mem _ hs)]
    | imp s t =>
      simp only [Wf] at w
      rw [put, sem, sem, sem_put hx hk w.1 hi, sem_put hx hk w.2 hi]
    | each y s =>
      simp only [Wf] at w
      exact absurd w.1 Bool.false_ne_true
    | pairs y z s =>
      simp only [Wf] at w
      exact absurd w.1 Bool.false_ne_true
    | nexts y c =>
      simp only [Wf] at w
      exact absurd w.1 Bool.false_ne_true
theorem Wf.putD {T : Wl} {x : Str} {k : Key} (hx : x ≠ "end") {D' : Key → Prop} (hk : D' k) : ∀ {n : Nat} {D : Key → Prop} {s : Say}, (∀ p, D p → p ≠ .inr x → D' p) → Wf T false n D s → Wf T false n D' (EP.put x k s)
  | 0, _, _, _, w => by simp [Wf] at w
  | n + 1, D, s, hD, w => by
    have wk : ∀ {p : Key}, WfK T D p → WfK T D' (putK' x k p) := fun {p} h => by
      unfold putK'
      split
      · exact .inr (.inl hk)
      · rename_i e
        rcases h with h | h | h
        · exact .inl h
        · exact .inr (.inl (hD p h e))
        · exact .inr (.inr h)
    have wb : ∀ {b : Bs}, WfB T D b → WfB T D' (putB x k b) := fun {b} hb => by
      cases b with
      | non => trivial
      | num c => exact hb
      | «at» r p => exact ⟨hb.1, wk hb.2⟩
    cases s with
    | cmp c a b =>
      simp only [EP.put, Wf] at w ⊢
      exact ⟨w.1, wb w.2.1, wb w.2.2⟩
    | pl v p q =>
      simp only [EP.put, Wf] at w ⊢
      exact ⟨wk w.1, wk w.2⟩
    | not s =>
      simp only [EP.put, Wf] at w ⊢
      exact w.putD hx hk hD
    | and l =>
      simp only [EP.put, Wf, putL_map] at w ⊢
      refine ⟨by rw [List.length_map]; exact w.1, fun s hs => ?_⟩
      obtain ⟨a, ha, rfl⟩ := List.mem_map.mp hs
      exact (w.2 a ha).putD hx hk hD
    | or l =>
      simp only [EP.put, Wf, putL_map] at w ⊢
      refine ⟨by rw [List.length_map]; exact w.1, fun s hs => ?_⟩
      obtain ⟨a, ha, rfl⟩ := List.mem_map.mp hs
      exact (w.2 a ha).putD hx hk hD
    | imp s t =>
      simp only [EP.put, Wf] at w ⊢
      exact ⟨w.1.putD hx hk hD, w.2.putD hx hk hD⟩
    | each y s =>
      simp only [Wf] at w
      exact absurd w.1 Bool.false_ne_true
    | pairs y z s =>
      simp only [Wf] at w
      exact absurd w.1 Bool.false_ne_true
    | nexts y c =>
      simp only [Wf] at w
      exact absurd w.1 Bool.false_ne_true

/-! ### all ways for the strange places -/
theorem exts_of {n : Nat} : ∀ {ks : List Int} {fs : List En} {g : En}, g ∈ exts n ks fs → ∃ f ∈ fs, (∀ k, (∀ i ∈ ks, k ≠ .inl i) → g k = f k) ∧ ∀ i ∈ ks, ∃ j : Nat, j ≤ n ∧ g (.inl i) = some (j : Int)
  | [], fs, g, h => ⟨g, h, fun _ _ => rfl, fun _ z => nomatch z⟩
  | k :: ks, fs, g, h => by
    obtain ⟨f1, h1, h2, h3⟩ := exts_of (ks := ks) h
    obtain ⟨f, hf, h4⟩ := List.mem_flatMap.mp h1
    obtain ⟨j, hj, rfl⟩ := List.mem_map.mp h4
    have hj' : j ≤ n := Nat.lt_succ_iff.mp (List.mem_range.mp hj)
    refine ⟨f, hf, fun k' hk' => ?_, fun i hi => ?_⟩
    · rw [h2 k' fun i hi => hk' i (List.mem_cons_of_mem _ hi)]
      unfold updE
      rw [if_neg (hk' k List.mem_cons_self)]
    · by_cases hik : i ∈ ks
      · exact h3 i hik
      · have e : i = k := by simpa [hik] using hi
        subst e
        refine ⟨j, hj', ?_⟩
        rw [h2 (.inl i) fun i' hi' e => hik (by rw [Sum.inl.inj e]; exact hi')]
        unfold updE
        rw [if_pos rfl]
theorem exts_have {n : Nat} (a : Int → Nat) (ha : ∀ i, a i ≤ n) : ∀ {ks : List Int} {fs : List En} {f : En}, f ∈ fs → ∃ g ∈ exts n ks fs, (∀ k, (∀ i ∈ ks, k ≠ .inl i) → g k = f k) ∧ ∀ i ∈ ks, g (.inl i) = some (a i : Int)
  | [], fs, f, h => ⟨f, h, fun _ _ => rfl, fun _ z => nomatch z⟩
  | k :: ks, fs, f, h => by
    have h1 : updE f (.inl k) (a k : Int) ∈ fs.flatMap fun f => (List.range (n + 1)).map fun (i : Nat) => updE f (.inl k) (i : Int) :=
      List.mem_flatMap.mpr ⟨f, h, List.mem_map.mpr ⟨a k, List.mem_range.mpr (Nat.lt_succ_of_le (ha k)), rfl⟩⟩
    obtain ⟨g, hg, h2, h3⟩ := exts_have a ha (ks := ks) h1
    refine ⟨g, hg, fun k' hk' => ?_, fun i hi => ?_⟩
    · rw [h2 k' fun i hi => hk' i (List.mem_cons_of_mem _ hi)]
      unfold updE
      rw [if_neg (hk' k List.mem_cons_self)]
    · by_cases hik : i ∈ ks
      · exact h3 i hik
      · have e : i = k := by simpa [hik] using hi
        subst e
        rw [h2 (.inl i) fun i' hi' e => hik (by rw [Sum.inl.inj e]; exact hi')]
        unfold updE
        rw [if_pos rfl]
/-- the strange places that come in a row -/
def newOf (s : Int) (l : List (Bool × Say)) : List Int := (l.flatMap fun p => strg p.2).filter fun i => decide (s ≤ i)
end EP

/-! ## KG6 -/
/-! a dict of one's own in slot i: made after H0, known to no other slot -/
namespace EP
open PySem PySem.Spec PyProof.Rows L2
structure Own {K : PySem.W.Frag} (W : Wd K) (H0 H : Hp) (σ : L2.St) (Γ : Gm) (i : Nat) (p : Addr) (kvs : List (Key × V)) (n : Nat) (g : Key → Option Int) : Prop where
  nl : W.Nl H0
  base : Sl W H0 σ Γ
  free : H0 p = none
  nm : ¬ W.M p
  ex : W.Ex H0 H
  at_ : H p = some (.dK kvs)
  len : kvs.length ≤ n
  env : ∀ k, valV kvs k = (g k).map V.int
  slot : σ[i]? = some (some (.ref p))
abbrev NdT := Nat → Nat → (Key → Option Int) → Gm → Prop
def EvD {K : PySem.W.Frag} (W : Wd K) (i : Nat) (t : TS) (Γ : Gm) (r n : Nat) (g : Key → Option Int) (N : NdT) (R : Nat → Dt → Prop) : Prop :=
  ∀ (σ : L2.St) (H0 H : Hp) (E : Ends) (p : Addr) (kvs : List (Key × V)), Own W H0 H σ Γ i p kvs n g → W.I r H →
    (∀ σ' H' kvs' r' n' g' Γ', Own W H0 H' σ' Γ' i p kvs' n' g' → W.I r' H' → N r' n' g' Γ' → E.nx σ' H') → (∀ v H' r' d, W.Ex H0 H' → W.I r' H' → R r' d → Dat W H' v d → E.rt v H') → t E σ H
section
variable {K : PySem.W.Frag} {W : Wd K} {Γ Γ' : Gm} {r r1 r2 : Nat} {te td tk tv : TE} {t u : TT} {s1 s2 : TS} {N N1 : Nat → Gm → Prop} {ND ND1 : NdT} {R : Nat → Dt → Prop} {i j n : Nat} {g : Key → Option Int} {ds : List Dt} {P : Dt → Prop}
theorem slot_set {σ : L2.St} {o : Option V} (h : σ[i]? = some o) : σ.set i o = σ := by
  apply List.ext_getElem?
  intro k
  rw [List.getElem?_set]
  split
  · rename_i e
    subst e
    obtain ⟨a, b⟩ := List.getElem?_eq_some_iff.mp h
    rw [if_pos a, h]
  · rfl
theorem Own.sl {H0 H : Hp} {σ : L2.St} {p : Addr} {kvs : List (Key × V)} (o : Own W H0 H σ Γ i p kvs n g) : Sl W H σ (Γ.set i (some (.env n g))) := by
  have z := (o.base.mono0 o.nl o.ex).set i (Dat.env (W := W) (.inl o.at_) o.len o.env)
  rw [slot_set o.slot] at z
  exact z
/-- the heap goes on -/
theorem Own.on {H0 H H' : Hp} {σ : L2.St} {p : Addr} {kvs : List (Key × V)} (o : Own W H0 H σ Γ i p kvs n g) (e : W.Ex H H') : Own W H0 H' σ Γ i p kvs n g :=
  ⟨o.nl, o.base, o.free, o.nm, o.ex.trans e, e _ _ o.nm o.at_, o.len, o.env, o.slot⟩
/-- x = dict(y) -/
theorem ed_copy (hd : Ev W td Γ r r (At (.env n g))) (hi : i < Γ.length) (h : EvD W i s2 (Γ.set i none) r n g ND R) (hn : ∀ r' n' g' Γ', ND r' n' g' Γ' → N r' (Γ'.set i (some (.env n' g')))) :
    EvS W (tSeq (tAsg (tCB rDict (tCons td tNil)) (gName i)) s2) Γ r N R := fun σ H E s I hnx hrt =>
  hd σ H _ s I fun v H1 d e1 I1 p1 a1 => by
    subst p1
    cases a1 with
    | @env ad kvs _ _ hr hl hf =>
      refine ⟨ad, kvs, rfl, hr, fun p np => ?_⟩
      have sm := same_new (o := .dK kvs) np
      have hiσ : i < σ.length := by rw [s.len]; exact hi
      have o : Own W H1 (upd H1 p (.dK kvs)) (σ.set i (some (.ref p))) (Γ.set i none) i p kvs n g := ⟨W.nl I1, (s.mono I e1).drop1 i _, np, W.not_new I1 np, .of sm, upd_same, hl, hf, set_get hiσ⟩
      exact h _ H1 _ E p kvs o (W.mono _ _ _ I1 sm) (fun σ' H' kvs' r' n' g' Γ' o' I' nd => hnx σ' H' r' _ (e1.trans o'.ex) I' (hn _ _ _ _ nd) o'.sl) fun v H' r' d e I' rr dv => hrt v H' r' d (e1.trans e) I' rr dv
/-- x = {} -/
theorem ed_new (hi : i < Γ.length) (h : EvD W i s2 (Γ.set i none) r 0 (fun _ => none) ND R) (hn : ∀ r' n' g' Γ', ND r' n' g' Γ' → N r' (Γ'.set i (some (.env n' g')))) :
    EvS W (tSeq (tAsg tDNewK (gName i)) s2) Γ r N R := fun σ H E s I hnx hrt => fun p np => by
  have sm := same_new (o := .dK []) np
  have hiσ : i < σ.length := by rw [s.len]; exact hi
  have o : Own W H (upd H p (.dK [])) (σ.set i (some (.ref p))) (Γ.set i none) i p [] 0 (fun _ => none) := ⟨W.nl I, s.drop1 i _, np, W.not_new I np, .of sm, upd_same, Nat.le_refl _, fun _ => rfl, set_get hiσ⟩
  exact h _ H _ E p [] o (W.mono _ _ _ I sm) (fun σ' H' kvs' r' n' g' Γ' o' I' nd => hnx σ' H' r' _ o'.ex I' (hn _ _ _ _ nd) o'.sl) hrt
/-- x[k] = v -/
theorem ed_put1 {k : Key} {jj : Dt → Int} (hv : Ev W tv (Γ.set i (some (.env n g))) r r1 P) (hj : ∀ d, P d → d = .v (.int (jj d))) (hk : Ev W tk (Γ.set i (some (.env n g))) r1 r1 (At (.v (kV k))))
    (hn : n < 10000) (h : ∀ d, P d → ND r1 (n + 1) (updE g k (jj d)) Γ) : EvD W i (sDPut (tVar i) tk tv) Γ r n g ND R := fun σ H0 H E p kvs o I hnx hrt =>
  hv σ H _ o.sl I fun v H1 d e1 I1 p1 a1 => by
    have o1 := o.on e1
    refine ⟨.ref p, o1.slot, hk σ H1 _ o1.sl I1 fun v2 H2 d2 e2 I2 p2 a2 => ?_⟩
    subst p2
    have o2 := o1.on e2
    refine ⟨p, _, rfl, .inl ⟨kvs, k, o2.at_, a2.v_eq, by rw [sizeLine_eq]; have := o2.len; omega, rfl⟩, ?_⟩
    have ev : v = .int (jj d) := by
      rw [hj d p1] at a1
      exact a1.v_eq
    subst ev
    refine hnx σ _ _ r1 (n + 1) _ Γ ⟨o.nl, o.base, o.free, o.nm, fun a u m z => ?_, upd_same, Nat.le_trans (length_putK _ _ _) (Nat.succ_le_succ o2.len), env_put o2.env, o2.slot⟩ (W.keepUpd I2 o.nm) (h d p1)
    rw [upd_ne (ne_of_none z o.free)]
    exact o2.ex _ _ m z
/-- a statement, then the rest -/
theorem ed_seq (h : EvD W i s1 Γ r n g ND1 R) (k : ∀ r' n' g' Γ', ND1 r' n' g' Γ' → EvD W i s2 Γ' r' n' g' ND R) : EvD W i (tSeq s1 s2) Γ r n g ND R := fun σ H0 H E p kvs o I hnx hrt =>
  h σ H0 H _ p kvs o I (fun σ' H' kvs' r' n' g' Γ' o' I' nd => k r' n' g' Γ' nd σ' H0 H' E p kvs' o' I' hnx hrt) hrt
theorem ed_put {k : Key} {jj : Int} (hv : Ev W tv (Γ.set i (some (.env n g))) r r (At (.v (.int jj)))) (hk : Ev W tk (Γ.set i (some (.env n g))) r r (At (.v (kV k)))) (hn : n < 10000)
    (h : EvD W i s2 Γ r (n + 1) (updE g k jj) ND R) : EvD W i (tSeq (sDPut (tVar i) tk tv) s2) Γ r n g ND R :=
  ed_seq (ND1 := fun r' n' g' Γ' => r' = r ∧ n' = n + 1 ∧ g' = updE g k jj ∧ Γ' = Γ) (ed_put1 (jj := fun _ => jj) hv (fun d e => e) hk hn fun d _ => ⟨rfl, rfl, rfl, rfl⟩) fun r' n' g' Γ' z => by
    obtain ⟨rfl, rfl, rfl, rfl⟩ := z
    exact h
/-- a test that may leave -/
theorem ed_if {bb : Bool} (h : EvT W t (Γ.set i (some (.env n g))) r r (AtB bb)) (h1 : bb = true → EvS W s1 (Γ.set i (some (.env n g))) r No R) (h2 : bb = false → ND r n g Γ) : EvD W i (tIfS t s1 tNext) Γ r n g ND R := fun σ H0 H E p kvs o I hnx hrt =>
  h σ H _ o.sl I fun b H1 e1 I1 pb => by
    have pb' : b = bb := pb
    subst pb'
    have o1 := o.on e1
    cases b with
    | true => exact iteT (h1 rfl σ H1 E o1.sl I1 (fun _ _ _ _ _ _ z => z.elim) fun v H' r' d e i' rr dv => hrt v H' r' d (o1.ex.trans e) i' rr dv)
    | false => exact iteF (hnx σ H1 kvs r n g Γ o1 I1 (h2 rfl))
theorem ed_next (h : ND r n g Γ) : EvD W i tNext Γ r n g ND R := fun σ H0 H E p kvs o I hnx hrt => hnx σ H kvs r n g Γ o I h
/-- a range -/
def EvR (W : Wd K) (wi : TI) (Γ : Gm) (r r' : Nat) (lo : Int) (n : Nat) : Prop := ∀ (σ : L2.St) (H : Hp) (R : It → Hp → Prop), Sl W H σ Γ → W.I r H → (∀ H', W.Ex H H' → W.I r' H' → R (Itr lo n) H') → wi σ H R
theorem er_rng1 {m : Nat} (h : Ev W te Γ r r1 (At (.v (.int (m : Int))))) (hb : m ≤ 100000) : EvR W (iRng1 (tCons te tNil)) Γ r r1 0 m := fun σ H R s I q =>
  h σ H _ s I fun v H1 d e1 I1 p1 a1 => by
    subst p1
    exact ⟨(m : Int), by rw [a1.v_eq], by omega, by omega, q H1 e1 I1⟩
theorem er_rng2 {lo hi : Int} {m : Nat} (ha : Ev W td Γ r r1 (At (.v (.int lo)))) (hb : Ev W te Γ r1 r2 (At (.v (.int hi)))) (h : -(2 ^ 62) ≤ lo ∧ lo < 2 ^ 62 ∧ -(2 ^ 62) ≤ hi ∧ hi < 2 ^ 62) (hm : m = (hi - lo).toNat) : EvR W (iRng2 (tCons td (tCons te tNil))) Γ r r2 lo m := fun σ H R s I q =>
  ha σ H _ s I fun v H1 d e1 I1 p1 a1 => hb σ H1 _ (s.mono I e1) I1 fun v2 H2 d2 e2 I2 p2 a2 => by
    subst p1 p2 hm
    exact ⟨lo, hi, by rw [a1.v_eq, a2.v_eq], h, q H2 (e1.trans e2) I2⟩
/-- a loop over a range -/
theorem ed_for {wi : TI} {Inv : Nat → NdT} {lo : Int} {m : Nat} (h : EvR W wi (Γ.set i (some (.env n g))) r r1 lo m) (h0 : Inv 0 r1 n g Γ) (hij : i ≠ j)
    (hs : ∀ (k : Nat) r' n' g' Γ', k < m → Inv k r' n' g' Γ' → EvD W i s1 (Γ'.set j (some (.v (.int (lo + (k : Int)))))) r' n' g' (Inv (k + 1)) R) (hd : ∀ r' n' g' Γ', Inv m r' n' g' Γ' → ND r' n' g' Γ') : EvD W i (tFor wi (gName j) s1) Γ r n g ND R := fun σ H0 H E p kvs o I hnx hrt =>
  h σ H _ o.sl I fun H1 e1 I1 => by
    refine for_it walk_range (fun k σ' H' => ∃ kvs' r' n' g' Γ', Own W H0 H' σ' Γ' i p kvs' n' g' ∧ W.I r' H' ∧ Inv k r' n' g' Γ') ⟨kvs, r1, n, g, Γ, o.on e1, I1, h0⟩ (fun _ _ _ _ _ => trivial) (fun k x σ' H' H'' hk z y => ?_) fun σ' H' z => ?_
    · obtain ⟨kvs', r', n', g', Γ', o', I', nv⟩ := z
      obtain ⟨rfl, rfl⟩ := y
      have o2 : Own W H0 H'' (σ'.set j (some (.int (lo + (k : Int))))) (Γ'.set j (some (.v (.int (lo + (k : Int)))))) i p kvs' n' g' :=
        ⟨o'.nl, o'.base.set j (.v _), o'.free, o'.nm, o'.ex, o'.at_, o'.len, o'.env, by rw [List.getElem?_set_ne (Ne.symm hij)]; exact o'.slot⟩
      exact hs k r' n' g' Γ' hk nv _ H0 H'' _ p kvs' o2 I' (fun σ3 H3 kvs3 r3 n3 g3 Γ3 o3 I3 nd => ⟨kvs3, r3, n3, g3, Γ3, o3, I3, nd⟩) hrt
    · obtain ⟨kvs', r', n', g', Γ', o', I', nv⟩ := z
      exact hnx σ' H' kvs' r' n' g' Γ' o' I' (hd r' n' g' Γ' nv)
/-- a loop over a range, no dict of one's own -/
theorem es_forR {wi : TI} {Inv : Nat → Nat → Gm → Prop} {lo : Int} {m : Nat} (h : EvR W wi Γ r r1 lo m) (h0 : Inv 0 r1 Γ)
    (hs : ∀ (k : Nat) r' Γ', k < m → Inv k r' Γ' → EvS W s1 (Γ'.set j (some (.v (.int (lo + (k : Int)))))) r' (Inv (k + 1)) R) (hd : ∀ r' Γ', Inv m r' Γ' → N r' Γ') : EvS W (tFor wi (gName j) s1) Γ r N R := fun σ H E s I hn hr =>
  h σ H _ s I fun H1 e1 I1 => by
    refine for_it walk_range (fun i σ' H' => ∃ r' Γ', W.Ex H1 H' ∧ W.I r' H' ∧ Inv i r' Γ' ∧ Sl W H' σ' Γ') ⟨r1, Γ, .refl, I1, h0, s.mono I e1⟩ (fun _ _ _ _ _ => trivial) (fun i x σ' H' H'' hi z y => ?_) fun σ' H' z => ?_
    · obtain ⟨r', Γ', e, I', n, sl⟩ := z
      obtain ⟨rfl, rfl⟩ := y
      exact hs i r' Γ' hi n _ H'' _ (sl.set j (.v _)) I' (fun σ3 H3 r3 Γ3 e3 I3 n3 s3 => ⟨r3, Γ3, e.trans e3, I3, n3, s3⟩) fun v H3 r3 d3 e3 I3 p3 dv => hr v H3 r3 d3 (e1.trans (e.trans e3)) I3 p3 dv
    · obtain ⟨r', Γ', e, I', n, sl⟩ := z
      exact hn σ' H' r' Γ' (e1.trans e) I' (hd r' Γ' n) sl
end
end EP

/-! ## KG7 -/
/-! a list of one's own in slot i: made after H0, filled by append -/
namespace EP
open PySem PySem.Spec PyProof.Rows L2
section
variable {K : PySem.W.Frag} {W : Wd K}
theorem Sl.upd {xs ys : List V} {D : Addr} {H : Hp} {o : HO} (hD : H D = some (.lst xs)) : ∀ {σ : L2.St} {Γ : Gm}, Sl (W.add D xs) H σ Γ → Sl (W.add D ys) (L2.upd H D o) σ Γ
  | _, _, .nil => .nil
  | _, _, .no l => .no (Sl.upd hD l)
  | _, _, .yes h l => .yes (Dat.upd hD h) (Sl.upd hD l)
end
structure OwnL {K : PySem.W.Frag} (W : Wd K) (H0 H : Hp) (σ : L2.St) (Γ : Gm) (p : Addr) (xs : List V) (ds : List Dt) (r : Nat) : Prop where
  free : H0 p = none
  nm : ¬ W.M p
  ex : W.Ex H0 H
  I : (W.add p xs).I r H
  l : DatL (W.add p xs) H xs ds
  sl : Sl (W.add p xs) H σ Γ
def rf (p : Addr) : Option Dt := some (.v (.ref p))
def EvL {K : PySem.W.Frag} (W : Wd K) (i : Nat) (t : TS) (Γ : Gm) (r : Nat) (ds : List Dt) (N : Nat → List Dt → Gm → Prop) : Prop :=
  ∀ (σ : L2.St) (H0 H : Hp) (E : Ends) (p : Addr) (xs : List V), OwnL W H0 H σ (Γ.set i (rf p)) p xs ds r →
    (∀ σ' H' xs' r' ds' Γ', (W.add p xs).Ex H H' → OwnL W H0 H' σ' (Γ'.set i (rf p)) p xs' ds' r' → N r' ds' Γ' → E.nx σ' H') → t E σ H
section
variable {K : PySem.W.Frag} {W : Wd K} {Γ Γ1 : Gm} {r r1 r2 : Nat} {te tv : TE} {s1 s2 a b : TS} {N N1 : Nat → Gm → Prop} {NL NL1 : Nat → List Dt → Gm → Prop} {R : Nat → Dt → Prop} {i j n : Nat} {ds es : List Dt} {d : Dt}
theorem add_ex {p : Addr} {xs ys : List V} {H H' : Hp} (h : (W.add p xs).Ex H H') : (W.add p ys).Ex H H' := h
/-- x = []; s1; s2 -/
theorem es_own (hi : i < Γ.length) (h : EvL W i s1 Γ r [] NL) (hl : ∀ r' ds' Γ', NL r' ds' Γ' → i < Γ'.length) (k : ∀ r' ds' Γ', NL r' ds' Γ' → EvS W s2 (Γ'.set i (some (.lst ds'))) r' N R) :
    EvS W (tSeq (tAsg (tLst tNil) (gName i)) (tSeq s1 s2)) Γ r N R := fun σ H E s I hnx hrt => by
  refine ⟨Nat.zero_le _, fun p np => ?_⟩
  have sm := same_new (o := .lst []) np
  have nm : ¬ W.M p := W.not_new I np
  have hdk := W.noDk I np
  have keep : ∀ a o, ¬ W.M a → H a = some o → ¬ (W.add p []).M a := fun a o n z m => by
    rcases m with m | rfl
    · exact n m
    · rw [np] at z
      cases z
  have nla : (W.add p []).Nl H := fun a u z n m => by
    rcases m with m | rfl
    · exact W.nl I a u z n m
    · rw [np] at z
      cases z
  have I1 : (W.add p []).I r (L2.upd H p (.lst [])) := ⟨W.mono _ _ _ I sm, upd_same, hdk⟩
  have sl1 : Sl (W.add p []) (L2.upd H p (.lst [])) σ Γ := (s.to keep).mono0 nla (.of sm)
  refine h _ H _ _ p [] ⟨np, nm, .of sm, I1, .nil, sl1.set i (.v _)⟩ fun σ' H' xs' r' ds' Γ' e o nd => ?_
  have hΓ := hl _ _ _ nd
  have out : ∀ a o, ¬ (W.add p xs').M a → H' a = some o → ¬ W.M a := fun a o n _ m => n (.inl m)
  have sl2 : Sl W H' σ' (Γ'.set i (rf p)) := o.sl.to out
  obtain ⟨x, hx, dx⟩ := sl2.get (j := i) (d := .v (.ref p)) (by rw [List.getElem?_set_self hΓ]; rfl)
  have ex : x = .ref p := dx.v_eq
  subst ex
  have sl3 := sl2.set i (Dat.lst (W := W) o.nm o.I.2.1 (o.l.to out))
  rw [slot_set hx, List.set_set] at sl3
  exact k _ _ _ nd σ' H' E sl3 o.I.1 (fun σ2 H2 r2 Γ2 e2 I2 n2 s2 => hnx σ2 H2 r2 Γ2 (o.ex.trans e2) I2 n2 s2) fun v H2 r2 d2 e2 I2 p2 dv => hrt v H2 r2 d2 (o.ex.trans e2) I2 p2 dv
/-- two statements that leave the list alone -/
theorem ev_lS (h : ∀ p xs, EvS (W.add p xs) (tSeq a (tSeq b tNext)) (Γ.set i (rf p)) r (fun r' Γ' => r' = r1 ∧ Γ' = Γ1.set i (rf p)) fun _ _ => False) (k : EvL W i s2 Γ1 r1 ds NL) : EvL W i (tSeq a (tSeq b s2)) Γ r ds NL := fun σ H0 H E p xs o hn => by
  refine h p xs σ H { E with nx := s2 E } o.sl o.I (fun σ' H' r' Γ' e I' z s' => ?_) fun _ _ _ _ _ _ z _ => z.elim
  obtain ⟨rfl, rfl⟩ := z
  have e0 : W.Ex H0 H' := fun a u m z => by
    refine e a u (fun q => ?_) (o.ex a u m z)
    rcases q with q | q
    · exact m q
    · rw [q, o.free] at z
      cases z
  exact k σ' H0 H' E p xs ⟨o.free, o.nm, e0, I', o.l.mono o.I e, s'⟩ fun σ2 H2 xs2 r2 ds2 Γ2 e2 o2 n2 => hn σ2 H2 xs2 r2 ds2 Γ2 (e.trans e2) o2 n2
/-- xs.append(v) -/
theorem ev_lApp (hi : i < Γ.length) (hv : ∀ p xs, Ev (W.add p xs) tv (Γ.set i (rf p)) r r (At d)) (hz : ds.length < 10000) (hn : NL r (ds ++ [d]) Γ) : EvL W i (tDrop (tBM K "list" rAppend (tVar i) (tCons tv tNil))) Γ r ds NL := fun σ H0 H E p xs o hnx => by
  obtain ⟨x, hx, dx⟩ := o.sl.get (j := i) (d := .v (.ref p)) (by rw [List.getElem?_set_self hi]; rfl)
  have ex : x = .ref p := dx.v_eq
  subst ex
  refine ⟨_, hx, .inl ⟨rfl, xs, SqL.of o.I.2.1⟩, hv p xs σ H _ o.sl o.I fun v H1 d' e I' pd dv => ?_⟩
  subst pd
  have hl := o.l.length
  refine ⟨p, xs, v, rfl, rfl, I'.2.1, by rw [sizeLine_eq]; omega, ?_⟩
  have e0 : W.Ex H0 (L2.upd H1 p (.lst (xs ++ [v]))) := fun a u m z => by
    rw [upd_ne (ne_of_none z o.free)]
    refine e a u (fun q => ?_) (o.ex a u m z)
    rcases q with q | q
    · exact m q
    · rw [q, o.free] at z
      cases z
  refine hnx σ _ (xs ++ [v]) r _ Γ (fun a u m z => ?_) ⟨o.free, o.nm, e0, ⟨W.keepUpd I'.1 o.nm, upd_same, I'.2.2⟩, DatL.upd I'.2.1 ((o.l.mono o.I e).append (.cons dv .nil)), Sl.upd I'.2.1 (o.sl.mono o.I e)⟩ hn
  rw [upd_ne (fun q => m (.inr q))]
  exact e a u m z
/-- a loop over a range -/
theorem ev_lForR {wi : TI} {Inv : Nat → Nat → List Dt → Gm → Prop} {lo : Int} {m : Nat} (h : ∀ p xs, EvR (W.add p xs) wi (Γ.set i (rf p)) r r1 lo m) (h0 : Inv 0 r1 ds Γ) (hij : i ≠ j)
    (hs : ∀ (k : Nat) r' ds' Γ', k < m → Inv k r' ds' Γ' → EvL W i s1 (Γ'.set j (some (.v (.int (lo + (k : Int)))))) r' ds' (Inv (k + 1))) (hd : ∀ r' ds' Γ', Inv m r' ds' Γ' → NL r' ds' Γ') : EvL W i (tFor wi (gName j) s1) Γ r ds NL := fun σ H0 H E p xs o hnx =>
  h p xs σ H _ o.sl o.I fun H1 e1 I1 => by
    have e0 : ∀ {H H' : Hp} {xs : List V}, (W.add p xs).Ex H H' → W.Ex H0 H → W.Ex H0 H' := fun {H H' xs} e q a u m z => by
      refine e a u (fun q => ?_) (q a u m z)
      rcases q with q | q
      · exact m q
      · rw [q, o.free] at z
        cases z
    refine for_it walk_range (fun k σ' H' => ∃ xs' r' ds' Γ', (W.add p xs).Ex H H' ∧ OwnL W H0 H' σ' (Γ'.set i (rf p)) p xs' ds' r' ∧ Inv k r' ds' Γ')
      ⟨xs, r1, ds, Γ, e1, ⟨o.free, o.nm, e0 e1 o.ex, I1, o.l.mono o.I e1, o.sl.mono o.I e1⟩, h0⟩ (fun _ _ _ _ _ => trivial) (fun k x σ' H' H'' hk z y => ?_) fun σ' H' z => ?_
    · obtain ⟨xs', r', ds', Γ', e, o', nv⟩ := z
      obtain ⟨rfl, rfl⟩ := y
      have sl2 := o'.sl.set j (Dat.v (W := W.add p xs') (H := H'') (.int (lo + (k : Int))))
      rw [List.set_comm _ _ hij] at sl2
      exact hs k r' ds' Γ' hk nv _ H0 H'' _ p xs' ⟨o'.free, o'.nm, o'.ex, o'.I, o'.l, sl2⟩ fun σ3 H3 xs3 r3 ds3 Γ3 e3 o3 n3 => ⟨xs3, r3, ds3, Γ3, e.trans e3, o3, n3⟩
    · obtain ⟨xs', r', ds', Γ', e, o', nv⟩ := z
      exact hnx σ' H' xs' r' ds' Γ' e o' (hd _ _ _ nv)
/-- a loop over a list -/
theorem ev_lForL {Inv : Nat → Nat → List Dt → Gm → Prop} (h : ∀ p xs, Ev (W.add p xs) te (Γ.set i (rf p)) r r1 (At (.lst es))) (h0 : Inv 0 r1 ds Γ) (hij : i ≠ j)
    (hs : ∀ (k : Nat) d r' ds' Γ', es[k]? = some d → Inv k r' ds' Γ' → EvL W i s1 (Γ'.set j (some d)) r' ds' (Inv (k + 1))) (hd : ∀ r' ds' Γ', Inv es.length r' ds' Γ' → NL r' ds' Γ') : EvL W i (tFor (iSq K te) (gName j) s1) Γ r ds NL := fun σ H0 H E p xs o hnx =>
  .inl (h p xs σ H _ o.sl o.I fun v H1 d e1 I1 pd dv => by
    subst pd
    have e0 : ∀ {H H' : Hp} {xs : List V}, (W.add p xs).Ex H H' → W.Ex H0 H → W.Ex H0 H' := fun {H H' xs} e q a u m z => by
      refine e a u (fun q => ?_) (q a u m z)
      rcases q with q | q
      · exact m q
      · rw [q, o.free] at z
        cases z
    cases dv with
    | @lst ad ys _ n hH l =>
      refine ⟨ad, rfl, ⟨ys, SqL.of hH⟩, ?_⟩
      refine for_it (walk_list (xs := ys)) (fun k σ' H' => ∃ xs' r' ds' Γ', (W.add p xs).Ex H H' ∧ H' ad = some (.lst ys) ∧ DatL (W.add p xs') H' ys es ∧ OwnL W H0 H' σ' (Γ'.set i (rf p)) p xs' ds' r' ∧ Inv k r' ds' Γ')
        ⟨xs, r1, ds, Γ, e1, hH, l, ⟨o.free, o.nm, e0 e1 o.ex, I1, o.l.mono o.I e1, o.sl.mono o.I e1⟩, h0⟩ (fun k σ' H' _ z => ?_) (fun k x σ' H' H'' hk z y => ?_) fun σ' H' z => ?_
      · obtain ⟨_, _, _, _, _, z, _⟩ := z
        exact SqL.of z
      · obtain ⟨xs', r', ds', Γ', e, ha, l', o', nv⟩ := z
        obtain ⟨rfl, hx⟩ := y
        obtain ⟨d, hd', dx⟩ := l'.getV hx
        have sl2 := o'.sl.set j dx
        rw [List.set_comm _ _ hij] at sl2
        refine hs k d r' ds' Γ' hd' nv _ H0 H'' _ p xs' ⟨o'.free, o'.nm, o'.ex, o'.I, o'.l, sl2⟩ fun σ3 H3 xs3 r3 ds3 Γ3 e3 o3 n3 => ⟨xs3, r3, ds3, Γ3, e.trans e3, e3 _ _ n ha, ?_, o3, n3⟩
        exact DatL.to (W := W.add p xs') (W' := W.add p xs3) (fun a u m _ => m) (l'.mono o'.I e3)
      · obtain ⟨xs', r', ds', Γ', e, _, l', o', nv⟩ := z
        rw [l.length] at nv
        exact hnx σ' H' xs' r' ds' Γ' e o' (hd _ _ _ nv))
/-- for over what a P holds of -/
theorem es_forP {wi : TI} {g : TG} {vs : List Nat} {PL : List Dt → Prop} {Inv : List Dt → Nat → Nat → Gm → Prop} (h : EvI W wi Γ r r1 PL) (h0 : ∀ ds, PL ds → Inv ds 0 r1 Γ)
    (hs : ∀ ds, PL ds → ∀ i d r Γ', ds[i]? = some d → Inv ds i r Γ' → ∃ Γ2, EvG W g vs Γ' d Γ2 ∧ EvS W s1 Γ2 r (Inv ds (i + 1)) R) (hd : ∀ ds, PL ds → ∀ r Γ', Inv ds ds.length r Γ' → N r Γ') : EvS W (tFor wi g s1) Γ r N R := fun σ H E s I hn hr =>
  h σ H _ s I fun J H1 ds e1 I1 p1 wk => by
    obtain ⟨G, Y, wk, hG, hY⟩ := wk
    refine for_it wk (fun i σ' H' => ∃ r' Γ', W.Ex H1 H' ∧ W.I r' H' ∧ Inv ds i r' Γ' ∧ Sl W H' σ' Γ') ⟨r1, Γ, .refl, I1, h0 ds p1, s.mono I e1⟩ (fun i σ' H' _ z => ?_) (fun i x σ' H' H'' hi z y => ?_) fun σ' H' z => ?_
    · obtain ⟨r', Γ', e, I', _, _⟩ := z
      exact hG r' H' I' e
    · obtain ⟨r', Γ', e, I', n, sl⟩ := z
      obtain ⟨sm, d, hd', dx0⟩ := hY i H' x H'' hi y
      have dx := dx0 W r' (fun _ _ n _ => n) (W.nl I1) e I'
      have I2 := W.mono _ _ _ I' sm
      have e2 : W.Ex H1 H'' := e.trans (.of sm)
      obtain ⟨Γ2, hg, hb⟩ := hs ds p1 i d r' Γ' hd' n
      exact hg x σ' H'' r' _ (sl.mono I' (.of sm)) I2 dx fun σ2 s2 _ => hb σ2 H'' _ s2 I2 (fun σ3 H3 r3 Γ3 e3 I3 n3 s3 => ⟨r3, Γ3, e2.trans e3, I3, n3, s3⟩) fun v H3 r3 d3 e3 I3 p3 dv => hr v H3 r3 d3 (e1.trans (e2.trans e3)) I3 p3 dv
    · obtain ⟨r', Γ', e, I', n, sl⟩ := z
      exact hn σ' H' r' Γ' (e1.trans e) I' (hd ds p1 r' Γ' n) sl
end
end EP

/-! ## KTop -/
namespace EP
open PySem
def topS (i : Nat) : Stmt := PySem.Challenge.pw_eachplace_k35_whole_opened_is_as_much.main.body.getD i (.Pass ⟨0, 0, 0, 0⟩)
abbrev s_place_for : Stmt := topS 3
abbrev s_sum_for : Stmt := topS 4
abbrev s_put_for : Stmt := topS 5
abbrev s_said_by : Stmt := topS 6
abbrev s_opened_apart : Stmt := topS 7
abbrev s_opened_next : Stmt := topS 8
abbrev s_opened_same : Stmt := topS 9
abbrev s_opened_joined : Stmt := topS 10
abbrev s_opened : Stmt := topS 11
abbrev s_q_cell_at : Stmt := topS 13
abbrev s_q_deck : Stmt := topS 14
abbrev s_q_draw : Stmt := topS 15
abbrev s_q_names : Stmt := topS 16
abbrev s_q_world : Stmt := topS 17
abbrev s_q_more : Stmt := topS 18
abbrev s_q_spot : Stmt := topS 19
abbrev s_q_sum : Stmt := topS 20
abbrev s_q_atom : Stmt := topS 21
abbrev s_q_joined : Stmt := topS 22
abbrev s_q_body : Stmt := topS 23
abbrev s_q_leaf : Stmt := topS 24
abbrev s_q_saying : Stmt := topS 25
abbrev s_q_place : Stmt := topS 26
abbrev s_q_worth : Stmt := topS 27
abbrev s_q_compared : Stmt := topS 28
abbrev s_q_everywhere : Stmt := topS 29
abbrev s_q_holds : Stmt := topS 30
abbrev s_q_standing : Stmt := topS 31
abbrev s_q_strange : Stmt := topS 32
abbrev s_q_is_so : Stmt := topS 33
abbrev s_q_spots_by : Stmt := topS 34
abbrev s_q_some_way : Stmt := topS 35
abbrev s_q_as_much : Stmt := topS 36
abbrev s_q_right : Stmt := topS 37
abbrev s_law : Stmt := topS 38
end EP

/-! ## KF1 -/
namespace EP
open PySem PySem.Spec PyProof.Rows L2
section
variable {K : PySem.W.Frag} {W : Wd K} {Γ : Gm} {r r1 : Nat} {te : TE} {d d' : Dt} {N : Nat → Gm → Prop} {tl : TA} {ds : List Dt}
theorem es_retP {r0 : Nat} (h : Ev W te Γ r r (At d)) (e : d = d') (hr : r0 ≤ r := by exact Nat.le_refl _) : EvS W (tRet te) Γ r N (fun r' x => r0 ≤ r' ∧ x = d') := es_ret h fun _ z => ⟨hr, z.trans e⟩
theorem ev_cd {α : Type} {args : α → List Dt} {pre : α → Prop} {res : α → Dt} {E : XK} (a : α) (h : EvA W tl Γ r r1 (AtL (args a))) (hp : pre a) : Ev W (tCall (SpP K args pre res) [] E tl) Γ r r1 (At (res a)) := ev_callD a h rfl hp
end
section
variable {K : PySem.W.Frag} {W : Wd K} {Γ : Gm} {r r1 r2 : Nat} {ta tb : TE} {P1 : Dt → Prop} {i : Int} {z : Str}
theorem ll {n m : Nat} (h : Nat.ble n m = true) : n ≤ m := Nat.le_of_ble_eq_true h
theorem ev_neg : Ev W (tUn (rU fun i => .int (-i)) (tC (.int i))) Γ r r (At (.v (.int (-i)))) := ev_unV ev_c fun _ _ q => ⟨i, rfl, q⟩
def wIn (z : Str) (ys : List Str) : Bool := inD (.str z) (strsD ys)
theorem strsD_flat : ∀ ys : List Str, (strsD ys).all isV = true
  | [] => rfl
  | _ :: ys => by
    show (true && (strsD ys).all isV) = true
    rw [strsD_flat ys]
    rfl
theorem et_in (ys : List Str) (ha : Ev W ta Γ r r1 (At (.v (.str z)))) (hb : Ev W tb Γ r1 r2 (At (.tup (strsD ys)))) : EvT W (tTest (tOp (rIn K false) ta tb)) Γ r r2 (AtB (wIn z ys)) :=
  et_T (ev_inT (neg := false) ha hb rfl (strsD_flat ys))
theorem ev_compared {mg : Str → Option Value} (M : Md K mg) : Ev W (tC (.ref (He.ga K "COMPARED"))) Γ r r (At (.tup (strsD ["most", "less", "same", "unlike"]))) :=
  ev_k fun H => .tup (M.compared H) (by rw [strsD_eq]; exact DatL.vals _)
theorem ev_ofPlaces {mg : Str → Option Value} (M : Md K mg) : Ev W (tC (.ref (He.ga K "OF_PLACES"))) Γ r r (At (.tup (strsD ["ahead", "here", "next"]))) :=
  ev_k fun H => .tup (M.ofPlaces H) (by rw [strsD_eq]; exact DatL.vals _)
theorem ev_s2 {a b : Str} : Ev W (tTup (tCons (tC (.str a)) (tCons (tC (.str b)) tNil))) Γ r r (At (.tup (strsD [a, b]))) := ev_tup (ea_cons ev_c (ea_cons ev_c ea_nil))
theorem ev_s3 {a b c : Str} : Ev W (tTup (tCons (tC (.str a)) (tCons (tC (.str b)) (tCons (tC (.str c)) tNil)))) Γ r r (At (.tup (strsD [a, b, c]))) := ev_tup (ea_cons ev_c (ea_cons ev_c (ea_cons ev_c ea_nil)))
theorem ev_s4 {a b c d : Str} : Ev W (tTup (tCons (tC (.str a)) (tCons (tC (.str b)) (tCons (tC (.str c)) (tCons (tC (.str d)) tNil))))) Γ r r (At (.tup (strsD [a, b, c, d]))) := ev_tup (ea_cons ev_c (ea_cons ev_c (ea_cons ev_c (ea_cons ev_c ea_nil))))
theorem ev_slE {te : TE} {lo hi : TO} {a b : Option Int} {ds es : List Dt} {r3 : Nat} (h : Ev W te Γ r r1 (At (.tup ds))) (h1 : EvO W lo Γ r1 r2 a) (h2 : EvO W hi Γ r2 r3 b) (e : cutD ds a b = es) : Ev W (tSl (rCut K) te lo hi) Γ r r3 (At (.tup es)) := (ev_slT h h1 h2).is (congrArg Dt.tup e)
/-- x == a text -/
theorem et_is {y : Str} (ha : Ev W ta Γ r r1 (At (.v (.str z)))) : EvT W (tTest (tOp rEq ta (tC (.str y)))) Γ r r1 (AtB (decide (V.str z = V.str y))) := et_T (ev_eq ha ev_c rfl)
theorem eg1 {vs : List Nat} {d : Dt} {j : Nat} (hj : j ∈ vs) : ∃ Γ2, EvG W (gName j) vs Γ d Γ2 ∧ Γ2 = Γ.set j (some d) := ⟨_, eg_name hj, rfl⟩
end
variable {P : Program} {w : World} {K : PySem.W.Frag} {mg : Str → Option Value} {base : Heap}

/-! ### place_for -/
-- slots of place_for: 0 place, 1 name, 2 other
abbrev N_place_for : List Str := ["place", "name", "other"]
theorem sc_place_for : FnScope ["place", "name", "other"] ["place", "name", "other"] (defScope s_place_for) := ⟨rfl, rfl, rfl, by decide +kernel, rfl, by decide +kernel, by decide +kernel⟩
def spPlaceFor (K : PySem.W.Frag) : Sp := SpP K (fun a : Key × Str × Key => [encK a.1, .v (.str a.2.1), encK a.2.2]) (fun _ => True) (fun a => encK (putK' a.2.1 a.2.2 a.1))
theorem kv_str (p : Key) (x : Str) : scal (kV p) (.str x) = true := by cases p <;> rfl
theorem kv_dec (p : Key) (x : Str) : decide (kV p = .str x) = decide (p = .inr x) := by
  cases p with
  | inl i => simp [kV]
  | inr z => simp [kV]
theorem ok_place_for (D : DefAt K mg "place_for" s_place_for ["place", "name", "other"]) : Cal P w K mg base 1 "place_for" ["place", "name", "other"] (spPlaceFor K) := by
  refine D.okP sc_place_for (fun _ => rfl) fun f cdv A outer s H E hr => ⟨_, (pss_cons (ps_if (pt_cmpR op_eq (pv 0) (pv 1) (nomark _)) (pss_one (ps_ret (pv 2))) pss_nil)
  (pss_one (ps_ret (pv 0)))), fun W a r hp => ?_⟩
  obtain ⟨p, x, k⟩ := a
  refine es_ifR (et_T (ev_eq (ev_var rfl) (ev_var rfl) (kv_str p x))) (fun h => es_retP (ev_var rfl) ?_) (fun h => es_retP (ev_var rfl) ?_)
  · have e : p = .inr x := of_decide_eq_true ((kv_dec p x).symm.trans h)
    show Dt.v (kV k) = encK (putK' x k p)
    unfold putK'
    rw [if_pos e]
    rfl
  · have e : ¬ p = .inr x := of_decide_eq_false ((kv_dec p x).symm.trans h)
    show Dt.v (kV p) = encK (putK' x k p)
    unfold putK'
    rw [if_neg e]
    rfl
/-! ### sum_for -/
-- slots of sum_for: 0 one, 1 name, 2 place
abbrev N_sum_for : List Str := ["one", "name", "place"]
theorem sc_sum_for : FnScope ["one", "name", "place"] ["one", "name", "place"] (defScope s_sum_for) := ⟨rfl, rfl, rfl, by decide +kernel, rfl, by decide +kernel, by decide +kernel⟩
def spSumFor (K : PySem.W.Frag) : Sp := SpP K (fun a : Sm × Str × Key => [encSm a.1, .v (.str a.2.1), encK a.2.2]) (fun _ => True) (fun a => encSm ⟨putB a.2.1 a.2.2 a.1.b, a.1.m⟩)
theorem ok_sum_for (M : Md K mg) (D : DefAt K mg "sum_for" s_sum_for ["one", "name", "place"]) (C_place_for : Cal P w K mg base 1 "place_for" ["place", "name", "other"] (spPlaceFor K)) : Cal P w K mg base 2 "sum_for" ["one", "name", "place"] (spSumFor K) := by
  refine D.okP sc_sum_for (fun _ => rfl) fun f cdv A outer s H E hr => ⟨_, (pss_cons (ps_if (pt_val (pe_callB (cb_isi K) (by rfl) M.isinstance_ bt_isinstance (pa_cons (pe_ix (ix_all K) (pv 0) pe_int (fun _ _ => rfl)) (pa_cons (pe_bltn (v := .ty "tuple") (by rfl) M.tuple_ bt_tuple rfl) pa_nil)))) (pss_one (ps_ret (pe_tup (pa_cons (pe_tup (pa_cons (pe_ix (ix_all K) (pe_ix (ix_all K) (pv 0) pe_int (fun _ _ => rfl)) pe_int (fun _ _ => rfl)) (pa_cons (pe_cal C_place_for hr (by omega) (by rfl) (pa_cons (pe_ix (ix_all K) (pe_ix (ix_all K) (pv 0) pe_int (fun _ _ => rfl)) pe_int (fun _ _ => rfl)) (pa_cons (pv 1) (pa_cons (pv 2) pa_nil)))) pa_nil))) (pa_cons (pe_ix (ix_all K) (pv 0) pe_int (fun _ _ => rfl)) pa_nil))))) pss_nil)
  (pss_one (ps_ret (pv 0)))), fun W a r hp => ?_⟩
  obtain ⟨⟨b, m⟩, x, k⟩ := a
  cases b with
  | non => exact es_ifF (et_B (ev_isi (T := "NoneType") (b := false) (ev_ixT (d := .v .non) (ev_var rfl) ev_c rfl) rfl (by decide +kernel))) rfl (es_retP (ev_var rfl) rfl)
  | num c => exact es_ifF (et_B (ev_isi (T := "str") (b := false) (ev_ixT (d := .v (.str c)) (ev_var rfl) ev_c rfl) rfl (by decide +kernel))) rfl (es_retP (ev_var rfl) rfl)
  | «at» w p =>
    refine es_ifT (et_B (ev_isi (T := "tuple") (b := true) (ev_ixT (d := encB (.at w p)) (ev_var rfl) ev_c rfl) rfl (by decide +kernel))) rfl (es_retP (ev_tup (ea_cons (ev_tup (ea_cons (ev_ixT (d := .v (.str w)) (ev_ixT (d := encB (.at w p)) (ev_var rfl) ev_c rfl) ev_c rfl) (ea_cons (ev_cd (p, x, k) (ea_cons (ev_ixT (d := encK p) (ev_ixT (d := encB (.at w p)) (ev_var rfl) ev_c rfl) ev_c rfl) (ea_cons (ev_var rfl) (ea_cons (ev_var rfl) ea_nil))) trivial) ea_nil))) (ea_cons (ev_ixT (d := .v (.int m)) (ev_var rfl) ev_c rfl) ea_nil))) rfl)

/-! ### put_for -/
-- slots of put_for: 0 saying, 1 name, 2 place, 3 word, 4 part
abbrev N_put_for : List Str := ["saying", "name", "place", "word", "part"]
theorem sc_put_for : FnScope ["saying", "name", "place", "word", "part"] ["saying", "name", "place"] (defScope s_put_for) := ⟨rfl, rfl, rfl, by decide +kernel, rfl, by decide +kernel, by decide +kernel⟩
def spPut (K : PySem.W.Frag) (n : Nat) : Sp := SpP K (fun a : Say × Str × Key => [enc a.1, .v (.str a.2.1), encK a.2.2]) (fun a => ∃ T D, Wf T false n D a.1) (fun a => enc (put a.2.1 a.2.2 a.1))
theorem DefAt.none {α : Type} {args : α → List Dt} {pre : α → Prop} {res : α → Dt} {x : Str} {st : Stmt} {N ps : List Str} {k : Nat} (D : DefAt K mg x st ps) (S : FnScope N ps (defScope st)) (len : ∀ a, (args a).length = ps.length) (h : ∀ a, ¬ pre a) : Cal P w K mg base (k + 1) x ps (SpP K args pre res) :=
  D.okP S len fun f cdv A outer s H E hr => ⟨tNever, pss_never, fun W a r hp => absurd hp (h a)⟩
theorem wf0 {T : Wl} {q : Bool} {D : Key → Prop} {s : Say} : ¬ Wf T q 0 D s := fun h => by simp [Wf] at h
theorem ok_put (M : Md K mg) (D : DefAt K mg "put_for" s_put_for ["saying", "name", "place"]) (C_place_for : Cal P w K mg base 1 "place_for" ["place", "name", "other"] (spPlaceFor K)) (C_sum_for : Cal P w K mg base 2 "sum_for" ["one", "name", "place"] (spSumFor K)) :
    ∀ n : Nat, Cal P w K mg base (n + 3) "put_for" ["saying", "name", "place"] (spPut K n)
  | 0 => D.none sc_put_for (fun _ => rfl) fun a h => by
    obtain ⟨T, D, h⟩ := h
    exact wf0 h
  | n + 1 => by
    have C_put_for := ok_put M D C_place_for C_sum_for n
    refine D.okP (k := n + 3) sc_put_for (fun _ => rfl) fun f cdv A outer s H E hr => ⟨_, (pss_cons (ps_set (i := 3) sc_put_for.nd rfl (by first | exact Or.inl rfl | exact Or.inr rfl) (pe_ix (ix_all K) (pv 0) pe_int (fun _ _ => rfl)))
  (pss_cons (ps_if (pt_cmpR (op_inS K) (pv 3) (pe_glob (v := .ref (He.ga K "COMPARED")) (by rfl) M.COMPARED rfl) (by rfl)) (pss_one (ps_ret (pe_tup (pa_cons (pv 3) (pa_cons (pe_cal C_sum_for hr (by omega) (by rfl) (pa_cons (pe_ix (ix_all K) (pv 0) pe_int (fun _ _ => rfl)) (pa_cons (pv 1) (pa_cons (pv 2) pa_nil)))) (pa_cons (pe_cal C_sum_for hr (by omega) (by rfl) (pa_cons (pe_ix (ix_all K) (pv 0) pe_int (fun _ _ => rfl)) (pa_cons (pv 1) (pa_cons (pv 2) pa_nil)))) pa_nil)))))) pss_nil)
  (pss_cons (ps_if (pt_cmpR (op_inS K) (pv 3) (pe_glob (v := .ref (He.ga K "OF_PLACES")) (by rfl) M.OF_PLACES rfl) (by rfl)) (pss_one (ps_ret (pe_tup (pa_cons (pv 3) (pa_cons (pe_cal C_place_for hr (by omega) (by rfl) (pa_cons (pe_ix (ix_all K) (pv 0) pe_int (fun _ _ => rfl)) (pa_cons (pv 1) (pa_cons (pv 2) pa_nil)))) (pa_cons (pe_cal C_place_for hr (by omega) (by rfl) (pa_cons (pe_ix (ix_all K) (pv 0) pe_int (fun _ _ => rfl)) (pa_cons (pv 1) (pa_cons (pv 2) pa_nil)))) pa_nil)))))) pss_nil)
  (pss_cons (ps_if (pt_cmpR (op_inS K) (pv 3) (pe_tup (pa_cons pe_str (pa_cons pe_str pa_nil))) (by rfl)) (pss_one (ps_ret (pe_tup (pa_cons (pv 3) (pa_cons (pe_callTy (cb_tuple K) (by rfl) M.tuple_ bt_tuple (pa_cons (pe_lc (own := [("part", 4)]) rfl sc_put_for.nd (pi_seq K (pe_ix (ix_all K) (pv 0) pe_int (fun _ _ => rfl))) (blkOk_by (N := N_put_for) (sc := defScope s_put_for) (by decide +kernel)) (fun _ _ _ _ _ => (pg_name (i := 4) sc_put_for.nd rfl (by first | exact Or.inl rfl | exact Or.inr rfl))) (fun _ _ _ _ _ => pts_nil) (fun _ _ _ _ _ => (pe_cal C_put_for hr (by omega) (by rfl) (pa_cons (pv 4) (pa_cons (pv 1) (pa_cons (pv 2) pa_nil)))))) pa_nil)) pa_nil))))) pss_nil)
  (pss_cons (ps_if (pt_cmpR (op_inS K) (pv 3) (pe_tup (pa_cons pe_str (pa_cons pe_str pa_nil))) (by rfl)) (pss_one (ps_ret (pe_op (op_plus K) (pe_tup (pa_cons (pv 3) pa_nil)) (pe_callTy (cb_tuple K) (by rfl) M.tuple_ bt_tuple (pa_cons (pe_lc (own := [("part", 4)]) rfl sc_put_for.nd (pi_seq K (pe_slice (sl_cut K) (pv 0) (po_some pe_int) po_none)) (blkOk_by (N := N_put_for) (sc := defScope s_put_for) (by decide +kernel)) (fun _ _ _ _ _ => (pg_name (i := 4) sc_put_for.nd rfl (by first | exact Or.inl rfl | exact Or.inr rfl))) (fun _ _ _ _ _ => pts_nil) (fun _ _ _ _ _ => (pe_cal C_put_for hr (by omega) (by rfl) (pa_cons (pv 4) (pa_cons (pv 1) (pa_cons (pv 2) pa_nil)))))) pa_nil))))) pss_nil)
  (pss_cons (ps_if (PW.pt (pw_or (pt_cmpR op_eq (pv 3) pe_str (nomark _)) (pw_or1 (pt_cmpR (op_inS K) (pv 1) (pe_slice (sl_cut K) (pv 0) (po_some pe_int) (po_some (pe_un un_neg pe_int))) (by rfl))))) (pss_one (ps_ret (pv 0))) pss_nil)
  (pss_one (ps_ret (pe_op (op_plus K) (pe_slice (sl_cut K) (pv 0) po_none (po_some (pe_un un_neg pe_int))) (pe_tup (pa_cons (pe_cal C_put_for hr (by omega) (by rfl) (pa_cons (pe_ix (ix_all K) (pv 0) (pe_un un_neg pe_int) (fun _ _ => rfl)) (pa_cons (pv 1) (pa_cons (pv 2) pa_nil)))) pa_nil))))))))))), fun W a r hp => ?_⟩
    obtain ⟨S, x, k⟩ := a
    obtain ⟨T, D', wf⟩ := hp
    cases S with
    | cmp c a b =>
      refine es_asgD (ev_ixT (d := .v (.str c.str)) (ev_var rfl) ev_c rfl) (es_ifT (et_in _ (ev_var rfl) (ev_compared M)) (by
        simp only [Wf] at wf
        cases c <;> first | decide +kernel | exact absurd wf.1 (by decide)) (es_retP (ev_tup (ea_cons (ev_var rfl) (ea_cons (ev_cd (a, x, k) (ea_cons (ev_ixT (d := encSm a) (ev_var rfl) ev_c rfl) (ea_cons (ev_var rfl) (ea_cons (ev_var rfl) ea_nil))) trivial)
          (ea_cons (ev_cd (b, x, k) (ea_cons (ev_ixT (d := encSm b) (ev_var rfl) ev_c rfl) (ea_cons (ev_var rfl) (ea_cons (ev_var rfl) ea_nil))) trivial) ea_nil)))) rfl))
    | pl v p q =>
      refine es_asgD (ev_ixT (d := .v (.str v.str)) (ev_var rfl) ev_c rfl) (es_ifF (et_in _ (ev_var rfl) (ev_compared M)) (by cases v <;> decide +kernel) (es_ifT (et_in _ (ev_var rfl) (ev_ofPlaces M)) (by cases v <;> decide +kernel)
        (es_retP (ev_tup (ea_cons (ev_var rfl) (ea_cons (ev_cd (p, x, k) (ea_cons (ev_ixT (d := encK p) (ev_var rfl) ev_c rfl) (ea_cons (ev_var rfl) (ea_cons (ev_var rfl) ea_nil))) trivial)
          (ea_cons (ev_cd (q, x, k) (ea_cons (ev_ixT (d := encK q) (ev_var rfl) ev_c rfl) (ea_cons (ev_var rfl) (ea_cons (ev_var rfl) ea_nil))) trivial) ea_nil)))) rfl)))
    | and l =>
      simp only [Wf] at wf
      refine es_asgD (ev_ixT (d := .v (.str "and")) (ev_var rfl) ev_c rfl) (es_ifF (et_in _ (ev_var rfl) (ev_compared M)) (by decide +kernel) (es_ifF (et_in _ (ev_var rfl) (ev_ofPlaces M)) (by decide +kernel) (es_ifT (et_in _ (ev_var rfl) ev_s2) (by decide +kernel)
        (es_retP (ev_tup (ea_cons (ev_var rfl) (ea_cons (ev_tupleOf (el_map (l := l) (gg := enc) (hh := fun s => enc (put x k s)) (ei_sqT (ev_ixT (d := .tup (encL l)) (ev_var rfl) ev_c rfl)) (encL_map l) (by omega)
          fun W' a r' ha => ⟨_, eg_name (by decide), ev_cd (a, x, k) (ea_cons (ev_var rfl) (ea_cons (ev_var rfl) (ea_cons (ev_var rfl) ea_nil))) ⟨T, D', wf.2 a ha⟩⟩)) ea_nil))) ?_))))
      show Dt.tup [.v (.str "and"), .tup (l.map fun s => enc (put x k s))] = enc (.and (putL x k l))
      rw [enc, encL_map, putL_map, List.map_map]
      rfl
    | or l =>
      simp only [Wf] at wf
      refine es_asgD (ev_ixT (d := .v (.str "or")) (ev_var rfl) ev_c rfl) (es_ifF (et_in _ (ev_var rfl) (ev_compared M)) (by decide +kernel) (es_ifF (et_in _ (ev_var rfl) (ev_ofPlaces M)) (by decide +kernel) (es_ifT (et_in _ (ev_var rfl) ev_s2) (by decide +kernel)
        (es_retP (ev_tup (ea_cons (ev_var rfl) (ea_cons (ev_tupleOf (el_map (l := l) (gg := enc) (hh := fun s => enc (put x k s)) (ei_sqT (ev_ixT (d := .tup (encL l)) (ev_var rfl) ev_c rfl)) (encL_map l) (by omega)
          fun W' a r' ha => ⟨_, eg_name (by decide), ev_cd (a, x, k) (ea_cons (ev_var rfl) (ea_cons (ev_var rfl) (ea_cons (ev_var rfl) ea_nil))) ⟨T, D', wf.2 a ha⟩⟩)) ea_nil))) ?_))))
      show Dt.tup [.v (.str "or"), .tup (l.map fun s => enc (put x k s))] = enc (.or (putL x k l))
      rw [enc, encL_map, putL_map, List.map_map]
      rfl
    | not s =>
      simp only [Wf] at wf
      refine es_asgD (ev_ixT (d := .v (.str "not")) (ev_var rfl) ev_c rfl) (es_ifF (et_in _ (ev_var rfl) (ev_compared M)) (by decide +kernel) (es_ifF (et_in _ (ev_var rfl) (ev_ofPlaces M)) (by decide +kernel) (es_ifF (et_in _ (ev_var rfl) ev_s2) (by decide +kernel) (es_ifT (et_in _ (ev_var rfl) ev_s2) (by decide +kernel)
        (es_retP (ev_catT (ev_tup (ea_cons (ev_var rfl) ea_nil)) (ev_tupleOf (el_map (l := [s]) (gg := enc) (hh := fun s => enc (put x k s)) (ei_sqT (ev_slT (ev_var rfl) (eo_some ev_c) eo_none)) rfl (ll rfl)
          fun W' a r' ha => ⟨_, eg_name (by decide), ev_cd (a, x, k) (ea_cons (ev_var rfl) (ea_cons (ev_var rfl) (ea_cons (ev_var rfl) ea_nil))) ⟨T, D', by rw [List.mem_singleton.mp ha]; exact wf⟩⟩)) (ll rfl)) rfl)))))
    | imp s t =>
      simp only [Wf] at wf
      refine es_asgD (ev_ixT (d := .v (.str "if")) (ev_var rfl) ev_c rfl) (es_ifF (et_in _ (ev_var rfl) (ev_compared M)) (by decide +kernel) (es_ifF (et_in _ (ev_var rfl) (ev_ofPlaces M)) (by decide +kernel) (es_ifF (et_in _ (ev_var rfl) ev_s2) (by decide +kernel) (es_ifT (et_in _ (ev_var rfl) ev_s2) (by decide +kernel)
        (es_retP (ev_catT (ev_tup (ea_cons (ev_var rfl) ea_nil)) (ev_tupleOf (el_map (l := [s, t]) (gg := enc) (hh := fun s => enc (put x k s)) (ei_sqT (ev_slT (ev_var rfl) (eo_some ev_c) eo_none)) rfl (ll rfl)
          fun W' a r' ha => ⟨_, eg_name (by decide), ev_cd (a, x, k) (ea_cons (ev_var rfl) (ea_cons (ev_var rfl) (ea_cons (ev_var rfl) ea_nil))) ⟨T, D', by
            rcases List.mem_cons.mp ha with h | h
            · rw [h]; exact wf.1
            · rw [List.mem_singleton.mp h]; exact wf.2⟩⟩)) (ll rfl)) rfl)))))
    | each y s =>
      simp only [Wf] at wf
      exact absurd wf.1 (by decide)
    | pairs y z s =>
      simp only [Wf] at wf
      exact absurd wf.1 (by decide)
    | nexts y c =>
      simp only [Wf] at wf
      exact absurd wf.1 (by decide)
/-! ### said_by -/
-- slots of said_by: 0 row, 1 word, 2 one, 3 other, 4 here, 5 there
abbrev N_said_by : List Str := ["row", "word", "one", "other", "here", "there"]
theorem sc_said_by : FnScope ["row", "word", "one", "other", "here", "there"] ["row", "word", "one", "other"] (defScope s_said_by) := ⟨rfl, rfl, rfl, by decide +kernel, rfl, by decide +kernel, by decide +kernel⟩
def spSaid (K : PySem.W.Frag) : Sp := SpP K (fun a : Str × Cw × Key × Key => [.v (.str a.1), .v (.str a.2.1.str), encK a.2.2.1, encK a.2.2.2]) (fun _ => True) (fun a => enc (saidBy a.1 a.2.1 a.2.2.1 a.2.2.2))
theorem ok_said_by (D : DefAt K mg "said_by" s_said_by ["row", "word", "one", "other"]) : Cal P w K mg base 1 "said_by" ["row", "word", "one", "other"] (spSaid K) := by
  refine D.okP sc_said_by (fun _ => rfl) fun f cdv A outer s H E hr => ⟨_, (pss_cons (ps_set (i := 4) sc_said_by.nd rfl (by first | exact Or.inl rfl | exact Or.inr rfl) (pe_tup (pa_cons (pe_tup (pa_cons (pv 0) (pa_cons (pv 2) pa_nil))) (pa_cons pe_int pa_nil))))
  (pss_cons (ps_set (i := 5) sc_said_by.nd rfl (by first | exact Or.inl rfl | exact Or.inr rfl) (pe_tup (pa_cons (pe_tup (pa_cons (pv 0) (pa_cons (pv 3) pa_nil))) (pa_cons pe_int pa_nil))))
  (pss_cons (ps_if (pt_cmpR op_eq (pv 1) pe_str (nomark _)) (pss_one (ps_ret (pe_tup (pa_cons pe_str (pa_cons (pv 5) (pa_cons (pv 4) pa_nil)))))) pss_nil)
  (pss_cons (ps_if (pt_cmpR op_eq (pv 1) pe_str (nomark _)) (pss_one (ps_ret (pe_tup (pa_cons pe_str (pa_cons (pv 5) (pa_cons (pv 4) pa_nil)))))) pss_nil)
  (pss_one (ps_ret (pe_tup (pa_cons (pv 1) (pa_cons (pv 4) (pa_cons (pv 5) pa_nil)))))))))), fun W a r hp => ?_⟩
  obtain ⟨rw, c, p, q⟩ := a
  refine es_asgD (ev_tup (ea_cons (ev_tup (ea_cons (ev_var rfl) (ea_cons (ev_var rfl) ea_nil))) (ea_cons ev_c ea_nil))) (es_asgD (ev_tup (ea_cons (ev_tup (ea_cons (ev_var rfl) (ea_cons (ev_var rfl) ea_nil))) (ea_cons ev_c ea_nil))) ?_)
  refine es_ifR (et_is (ev_var rfl)) (fun h => es_retP (ev_tup (ea_cons ev_c (ea_cons (ev_var rfl) (ea_cons (ev_var rfl) ea_nil)))) ?_) fun h => es_ifR (et_is (ev_var rfl)) (fun h' => es_retP (ev_tup (ea_cons ev_c (ea_cons (ev_var rfl) (ea_cons (ev_var rfl) ea_nil)))) ?_) fun h' => es_retP (ev_tup (ea_cons (ev_var rfl) (ea_cons (ev_var rfl) (ea_cons (ev_var rfl) ea_nil)))) ?_
  · have h2 : decide (V.str c.str = V.str "least") = true := h
    cases c <;> first | rfl | exact absurd h2 (by decide +kernel)
  · have h2 : decide (V.str c.str = V.str "more") = true := h'
    cases c <;> first | rfl | exact absurd h2 (by decide +kernel)
  · have h1 : decide (V.str c.str = V.str "least") = false := h
    have h2 : decide (V.str c.str = V.str "more") = false := h'
    cases c <;> first | rfl | exact absurd h1 (by decide +kernel) | exact absurd h2 (by decide +kernel)
end EP

/-! ## KF2 -/
namespace EP
open PySem PySem.Spec PyProof.Rows L2
variable {P : Program} {w : World} {K : PySem.W.Frag} {mg : Str → Option Value} {base : Heap}

/-! ### opened_next -/
-- slots of opened_next: 0 truth, 1 saying, 2 strange, 3 one, 4 other, 5 between
abbrev N_opened_next : List Str := ["truth", "saying", "strange", "one", "other", "between"]
theorem sc_opened_next : FnScope ["truth", "saying", "strange", "one", "other", "between"] ["truth", "saying", "strange"] (defScope s_opened_next) := ⟨rfl, rfl, rfl, by decide +kernel, rfl, by decide +kernel, by decide +kernel⟩
def spONext (K : PySem.W.Frag) : Sp := SpP K (fun a : Bool × Key × Key × Int => [.v (.bl a.1), enc (.pl .next a.2.1 a.2.2.1), .v (.int a.2.2.2)]) (fun _ => True) (fun a => encO (opn a.1 (.pl .next a.2.1 a.2.2.1) a.2.2.2))
theorem ok_opened_next (D : DefAt K mg "opened_next" s_opened_next ["truth", "saying", "strange"]) : Cal P w K mg base 1 "opened_next" ["truth", "saying", "strange"] (spONext K) := by
  refine D.okP sc_opened_next (fun _ => rfl) fun f cdv A outer s H E hr => ⟨_, (pss_cons (ps_asg (pe_slice (sl_cut K) (pv 1) (po_some pe_int) po_none) (pg_tupK K (n := 2) rfl (pgs_cons (pg_name (i := 3) sc_opened_next.nd rfl (by first | exact Or.inl rfl | exact Or.inr rfl)) (pgs_cons (pg_name (i := 4) sc_opened_next.nd rfl (by first | exact Or.inl rfl | exact Or.inr rfl)) pgs_nil))))
  (pss_cons (ps_if (pt_val (pv 0)) (pss_one (ps_ret (pe_tup (pa_cons pe_str (pa_cons (pe_tup (pa_cons (pe_tup (pa_cons pe_bl (pa_cons (pe_tup (pa_cons pe_str (pa_cons (pv 3) (pa_cons (pv 4) pa_nil)))) pa_nil))) pa_nil)) pa_nil))))) pss_nil)
  (pss_cons (ps_set (i := 5) sc_opened_next.nd rfl (by first | exact Or.inl rfl | exact Or.inr rfl) (pe_tup (pa_cons (pe_tup (pa_cons pe_bl (pa_cons (pe_tup (pa_cons pe_str (pa_cons (pv 3) (pa_cons (pv 2) pa_nil)))) pa_nil))) (pa_cons (pe_tup (pa_cons pe_bl (pa_cons (pe_tup (pa_cons pe_str (pa_cons (pv 2) (pa_cons (pv 4) pa_nil)))) pa_nil))) pa_nil))))
  (pss_one (ps_ret (pe_tup (pa_cons pe_str (pa_cons (pe_tup (pa_cons (pe_tup (pa_cons (pe_tup (pa_cons pe_bl (pa_cons (pe_tup (pa_cons pe_str (pa_cons (pv 3) (pa_cons (pv 4) pa_nil)))) pa_nil))) pa_nil)) (pa_cons (pv 5) pa_nil))) pa_nil)))))))), fun W a r hp => ?_⟩
  obtain ⟨t, p, q, s⟩ := a
  refine es_asgG (d := .tup [encK p, encK q]) (ev_slE (ev_var rfl) (eo_some ev_c) eo_none rfl) (eg_tup2 (vs := [3, 4]) (by decide) (by decide)) ?_
  refine es_ifR (et_B (ev_var rfl)) (fun h => es_retP (ev_tup (ea_cons ev_c (ea_cons (ev_tup (ea_cons (ev_tup (ea_cons ev_c (ea_cons (ev_tup (ea_cons ev_c (ea_cons (ev_var rfl) (ea_cons (ev_var rfl) ea_nil)))) ea_nil))) ea_nil)) ea_nil))) ?_) fun h => ?_
  · have h : t = true := h
    subst h
    rfl
  · have h : t = false := h
    subst h
    exact es_asgD (ev_tup (ea_cons (ev_tup (ea_cons ev_c (ea_cons (ev_tup (ea_cons ev_c (ea_cons (ev_var rfl) (ea_cons (ev_var rfl) ea_nil)))) ea_nil))) (ea_cons (ev_tup (ea_cons ev_c (ea_cons (ev_tup (ea_cons ev_c (ea_cons (ev_var rfl) (ea_cons (ev_var rfl) ea_nil)))) ea_nil))) ea_nil)))
      (es_retP (ev_tup (ea_cons ev_c (ea_cons (ev_tup (ea_cons (ev_tup (ea_cons (ev_tup (ea_cons ev_c (ea_cons (ev_tup (ea_cons ev_c (ea_cons (ev_var rfl) (ea_cons (ev_var rfl) ea_nil)))) ea_nil))) ea_nil)) (ea_cons (ev_var rfl) ea_nil))) ea_nil))) rfl)
/-! ### opened_same -/
-- slots of opened_same: 0 truth, 1 saying, 2 one, 3 other
abbrev N_opened_same : List Str := ["truth", "saying", "one", "other"]
theorem sc_opened_same : FnScope ["truth", "saying", "one", "other"] ["truth", "saying"] (defScope s_opened_same) := ⟨rfl, rfl, rfl, by decide +kernel, rfl, by decide +kernel, by decide +kernel⟩
def spOSame (K : PySem.W.Frag) : Sp := SpP K (fun a : Bool × Cw × Sm × Sm => [.v (.bl a.1), enc (.cmp a.2.1 a.2.2.1 a.2.2.2)]) (fun a => a.2.1 = .same ∨ a.2.1 = .unlike) (fun a => encO (opn a.1 (.cmp a.2.1 a.2.2.1 a.2.2.2) 0))
theorem ok_opened_same (D : DefAt K mg "opened_same" s_opened_same ["truth", "saying"]) : Cal P w K mg base 1 "opened_same" ["truth", "saying"] (spOSame K) := by
  refine D.okP sc_opened_same (fun _ => rfl) fun f cdv A outer s H E hr => ⟨_, (pss_cons (ps_asg (pe_slice (sl_cut K) (pv 1) (po_some pe_int) po_none) (pg_tupK K (n := 2) rfl (pgs_cons (pg_name (i := 2) sc_opened_same.nd rfl (by first | exact Or.inl rfl | exact Or.inr rfl)) (pgs_cons (pg_name (i := 3) sc_opened_same.nd rfl (by first | exact Or.inl rfl | exact Or.inr rfl)) pgs_nil))))
  (pss_cons (ps_if (pt_cmpR op_eq (pv 0) (pe_cmpR op_eq (pe_ix (ix_all K) (pv 1) pe_int (fun _ _ => rfl)) pe_str (nomark _)) (nomark _)) (pss_one (ps_ret (pe_tup (pa_cons pe_str (pa_cons (pe_tup (pa_cons (pe_tup (pa_cons pe_bl (pa_cons (pe_tup (pa_cons pe_str (pa_cons (pv 2) (pa_cons (pv 3) pa_nil)))) pa_nil))) (pa_cons (pe_tup (pa_cons pe_bl (pa_cons (pe_tup (pa_cons pe_str (pa_cons (pv 3) (pa_cons (pv 2) pa_nil)))) pa_nil))) pa_nil))) pa_nil))))) pss_nil)
  (pss_one (ps_ret (pe_tup (pa_cons pe_str (pa_cons (pe_tup (pa_cons (pe_tup (pa_cons (pe_tup (pa_cons pe_bl (pa_cons (pe_tup (pa_cons pe_str (pa_cons (pv 2) (pa_cons (pv 3) pa_nil)))) pa_nil))) pa_nil)) (pa_cons (pe_tup (pa_cons (pe_tup (pa_cons pe_bl (pa_cons (pe_tup (pa_cons pe_str (pa_cons (pv 3) (pa_cons (pv 2) pa_nil)))) pa_nil))) pa_nil)) pa_nil))) pa_nil))))))), fun W a r hp => ?_⟩
  obtain ⟨t, c, a, b⟩ := a
  have hp : c = .same ∨ c = .unlike := hp
  refine es_asgG (d := .tup [encSm a, encSm b]) (ev_slE (ev_var rfl) (eo_some ev_c) eo_none rfl) (eg_tup2 (vs := [2, 3]) (by decide) (by decide)) ?_
  refine es_ifR (et_T (ev_eq (ev_var rfl) (ev_eq (ev_ixT (d := .v (.str c.str)) (ev_var rfl) ev_c rfl) ev_c rfl) rfl))
    (fun h => es_retP (ev_tup (ea_cons ev_c (ea_cons (ev_tup (ea_cons (ev_tup (ea_cons ev_c (ea_cons (ev_tup (ea_cons ev_c (ea_cons (ev_var rfl) (ea_cons (ev_var rfl) ea_nil)))) ea_nil))) (ea_cons (ev_tup (ea_cons ev_c (ea_cons (ev_tup (ea_cons ev_c (ea_cons (ev_var rfl) (ea_cons (ev_var rfl) ea_nil)))) ea_nil))) ea_nil))) ea_nil))) ?_)
    fun h => es_retP (ev_tup (ea_cons ev_c (ea_cons (ev_tup (ea_cons (ev_tup (ea_cons (ev_tup (ea_cons ev_c (ea_cons (ev_tup (ea_cons ev_c (ea_cons (ev_var rfl) (ea_cons (ev_var rfl) ea_nil)))) ea_nil))) ea_nil)) (ea_cons (ev_tup (ea_cons (ev_tup (ea_cons ev_c (ea_cons (ev_tup (ea_cons ev_c (ea_cons (ev_var rfl) (ea_cons (ev_var rfl) ea_nil)))) ea_nil))) ea_nil)) ea_nil))) ea_nil))) ?_
  · have h2 : decide (V.bl t = V.bl (decide (V.str c.str = V.str "same"))) = true := h
    rcases hp with rfl | rfl <;> cases t <;> first | rfl | exact absurd h2 (by decide +kernel)
  · have h2 : decide (V.bl t = V.bl (decide (V.str c.str = V.str "same"))) = false := h
    rcases hp with rfl | rfl <;> cases t <;> first | rfl | exact absurd h2 (by decide +kernel)
/-! ### opened_joined -/
-- slots of opened_joined: 0 truth, 1 saying, 2 word, 3 rows, 4 part, 5 row
abbrev N_opened_joined : List Str := ["truth", "saying", "word", "rows", "part", "row"]
theorem sc_opened_joined : FnScope ["truth", "saying", "word", "rows", "part", "row"] ["truth", "saying"] (defScope s_opened_joined) := ⟨rfl, rfl, rfl, by decide +kernel, rfl, by decide +kernel, by decide +kernel⟩
def isJoin : Say → Bool
  | .not _ | .and _ | .or _ | .imp _ _ => true
  | _ => false
def lenOk : Say → Prop
  | .and l => l.length ≤ 100
  | .or l => l.length ≤ 100
  | _ => True
def spOJoin (K : PySem.W.Frag) : Sp := SpP K (fun a : Bool × Say => [.v (.bl a.1), enc a.2]) (fun a => isJoin a.2 = true ∧ lenOk a.2) (fun a => encO (opn a.1 a.2 0))
theorem encF_map (t : Bool) (l : List Say) : l.map (fun s => encF (t, s)) = (l.map fun p => (t, p)).map encF := by rw [List.map_map]; rfl
theorem ok_opened_joined (M : Md K mg) (D : DefAt K mg "opened_joined" s_opened_joined ["truth", "saying"]) : Cal P w K mg base 1 "opened_joined" ["truth", "saying"] (spOJoin K) := by
  refine D.okP sc_opened_joined (fun _ => rfl) fun f cdv A outer s H E hr => ⟨_, (pss_cons (ps_set (i := 2) sc_opened_joined.nd rfl (by first | exact Or.inl rfl | exact Or.inr rfl) (pe_ix (ix_all K) (pv 1) pe_int (fun _ _ => rfl)))
  (pss_cons (ps_if (pt_cmpR op_eq (pv 2) pe_str (nomark _)) (pss_one (ps_ret (pe_tup (pa_cons pe_str (pa_cons (pe_tup (pa_cons (pe_tup (pa_cons (pe_not (pv 0)) (pa_cons (pe_ix (ix_all K) (pv 1) pe_int (fun _ _ => rfl)) pa_nil))) pa_nil)) pa_nil))))) pss_nil)
  (pss_cons (ps_if (pt_cmpR op_eq (pv 2) pe_str (nomark _)) (pss_one (ps_set (i := 3) sc_opened_joined.nd rfl (by first | exact Or.inl rfl | exact Or.inr rfl) (pe_tup (pa_cons (pe_tup (pa_cons (pe_not (pv 0)) (pa_cons (pe_ix (ix_all K) (pv 1) pe_int (fun _ _ => rfl)) pa_nil))) (pa_cons (pe_tup (pa_cons (pv 0) (pa_cons (pe_ix (ix_all K) (pv 1) pe_int (fun _ _ => rfl)) pa_nil))) pa_nil))))) (pss_one (ps_set (i := 3) sc_opened_joined.nd rfl (by first | exact Or.inl rfl | exact Or.inr rfl) (pe_callTy (cb_tuple K) (by rfl) M.tuple_ bt_tuple (pa_cons (pe_lc (own := [("part", 4)]) rfl sc_opened_joined.nd (pi_seq K (pe_ix (ix_all K) (pv 1) pe_int (fun _ _ => rfl))) (blkOk_by (N := N_opened_joined) (sc := defScope s_opened_joined) (by decide +kernel)) (fun _ _ _ _ _ => (pg_name (i := 4) sc_opened_joined.nd rfl (by first | exact Or.inl rfl | exact Or.inr rfl))) (fun _ _ _ _ _ => pts_nil) (fun _ _ _ _ _ => (pe_tup (pa_cons (pv 0) (pa_cons (pv 4) pa_nil))))) pa_nil)))))
  (pss_cons (ps_if (pt_cmpR op_eq (pv 0) (pe_cmpR op_eq (pv 2) pe_str (nomark _)) (nomark _)) (pss_one (ps_ret (pe_tup (pa_cons pe_str (pa_cons (pv 3) pa_nil))))) pss_nil)
  (pss_one (ps_ret (pe_tup (pa_cons pe_str (pa_cons (pe_callTy (cb_tuple K) (by rfl) M.tuple_ bt_tuple (pa_cons (pe_lc (own := [("row", 5)]) rfl sc_opened_joined.nd (pi_seq K (pv 3)) (blkOk_by (N := N_opened_joined) (sc := defScope s_opened_joined) (by decide +kernel)) (fun _ _ _ _ _ => (pg_name (i := 5) sc_opened_joined.nd rfl (by first | exact Or.inl rfl | exact Or.inr rfl))) (fun _ _ _ _ _ => pts_nil) (fun _ _ _ _ _ => (pe_tup (pa_cons (pv 5) pa_nil)))) pa_nil)) pa_nil))))))))), fun W a r hp => ?_⟩
  obtain ⟨t, S⟩ := a
  obtain ⟨hj, hl⟩ := hp
  -- the end: parts or cases of rows
  have fin : ∀ (rs : List (Bool × Say)) (z : Str), rs.length ≤ 1000 →
      ((decide (V.bl t = V.bl (decide (V.str z = V.str "and"))) = true → opn t S 0 = some (.parts rs)) ∧ (decide (V.bl t = V.bl (decide (V.str z = V.str "and"))) = false → opn t S 0 = some (.cases (rs.map fun p => [p])))) →
      EvS W (tSeq (tIfS (tTest (tOp rEq (tVar 0) (tOp rEq (tVar 2) (tC (.str "and"))))) (tRet (tTup (tCons (tC (.str "parts")) (tCons (tVar 3) tNil)))) tNext)
        (tRet (tTup (tCons (tC (.str "cases")) (tCons (tCB (rTupOf K) (tCons (tLc (iSq K (tVar 3)) (gName 5) tYes (tTup (tCons (tVar 5) tNil)) [5]) tNil)) tNil)))))
        (((startG 6 [Dt.v (.bl t), enc S]).set 2 (some (.v (.str z)))).set 3 (some (.tup (rs.map encF)))) r No (fun r' d => r ≤ r' ∧ d = encO (opn t S 0)) := by
    intro rs z hn ho
    refine es_ifR (et_T (ev_eq (ev_var rfl) (ev_eq (ev_var rfl) ev_c rfl) rfl)) (fun h => es_retP (ev_tup (ea_cons ev_c (ea_cons (ev_var rfl) ea_nil))) ?_) fun h => es_retP (ev_tup (ea_cons ev_c (ea_cons (ev_tupleOf (el_map (l := rs) (gg := encF) (hh := fun p => .tup [encF p]) (ei_sqT (ev_var rfl)) rfl (by omega) fun W' a r' ha => ⟨_, eg_name (by decide), ev_tup (ea_cons (ev_var rfl) ea_nil)⟩)) ea_nil))) ?_
    · rw [ho.1 h]
      rfl
    · rw [ho.2 h]
      show Dt.tup [.v (.str "cases"), .tup (rs.map fun p => .tup [encF p])] = Dt.tup [.v (.str "cases"), .tup ((rs.map fun p => [p]).map encR)]
      rw [List.map_map]
      rfl
  cases S with
  | not s =>
    exact es_asgD (ev_ixT (d := .v (.str "not")) (ev_var rfl) ev_c rfl) (es_ifT (et_is (ev_var rfl)) (by decide +kernel) (es_retP (ev_tup (ea_cons ev_c (ea_cons (ev_tup (ea_cons (ev_tup (ea_cons (ev_notV (ev_var rfl)) (ea_cons (ev_ixT (d := enc s) (ev_var rfl) ev_c rfl) ea_nil))) ea_nil)) ea_nil))) rfl))
  | imp s u =>
    refine es_asgD (ev_ixT (d := .v (.str "if")) (ev_var rfl) ev_c rfl) (es_ifF (et_is (ev_var rfl)) (by decide +kernel) (es_if2 (N1 := fun r' Γ' => r' = r ∧ Γ' = _) (et_is (ev_var rfl))
      (fun _ => es_last (ev_tup (ea_cons (ev_tup (ea_cons (ev_notV (ev_var rfl)) (ea_cons (ev_ixT (d := enc s) (ev_var rfl) ev_c rfl) ea_nil))) (ea_cons (ev_tup (ea_cons (ev_var rfl) (ea_cons (ev_ixT (d := enc u) (ev_var rfl) ev_c rfl) ea_nil))) ea_nil))) ⟨rfl, rfl⟩)
      (fun z => absurd z (by decide +kernel)) fun r' Γ' z => ?_))
    obtain ⟨rfl, rfl⟩ := z
    exact fin [(!t, s), (t, u)] "if" (ll rfl) (by
      cases t
      · exact ⟨fun _ => rfl, fun h => absurd h (by decide +kernel)⟩
      · exact ⟨fun h => absurd h (by decide +kernel), fun _ => rfl⟩)
  | and l =>
    have hl : l.length ≤ 100 := hl
    refine es_asgD (ev_ixT (d := .v (.str "and")) (ev_var rfl) ev_c rfl) (es_ifF (et_is (ev_var rfl)) (by decide +kernel) (es_if2 (N1 := fun r' Γ' => r' = r ∧ Γ' = ((startG 6 [Dt.v (.bl t), enc (.and l)]).set 2 (some (.v (.str "and")))).set 3 (some (.tup ((l.map fun p => (t, p)).map encF)))) (et_is (ev_var rfl))
      (fun z => absurd z (by decide +kernel))
      (fun _ => es_last (Ev.is (ev_tupleOf (el_map (l := l) (gg := enc) (hh := fun s => encF (t, s)) (ei_sqT (ev_ixT (d := .tup (encL l)) (ev_var rfl) ev_c rfl)) (encL_map l) (by omega) fun W' a r' ha => ⟨_, eg_name (by decide), ev_tup (ea_cons (ev_var rfl) (ea_cons (ev_var rfl) ea_nil))⟩)) (by rw [encF_map])) ⟨rfl, rfl⟩) fun r' Γ' z => ?_))
    obtain ⟨rfl, rfl⟩ := z
    refine fin (l.map fun p => (t, p)) "and" (by rw [List.length_map]; omega) ?_
    cases t
    · refine ⟨fun h => absurd h (by decide +kernel), fun _ => ?_⟩
      rw [List.map_map]
      rfl
    · exact ⟨fun _ => rfl, fun h => absurd h (by decide +kernel)⟩
  | or l =>
    have hl : l.length ≤ 100 := hl
    refine es_asgD (ev_ixT (d := .v (.str "or")) (ev_var rfl) ev_c rfl) (es_ifF (et_is (ev_var rfl)) (by decide +kernel) (es_if2 (N1 := fun r' Γ' => r' = r ∧ Γ' = ((startG 6 [Dt.v (.bl t), enc (.or l)]).set 2 (some (.v (.str "or")))).set 3 (some (.tup ((l.map fun p => (t, p)).map encF)))) (et_is (ev_var rfl))
      (fun z => absurd z (by decide +kernel))
      (fun _ => es_last (Ev.is (ev_tupleOf (el_map (l := l) (gg := enc) (hh := fun s => encF (t, s)) (ei_sqT (ev_ixT (d := .tup (encL l)) (ev_var rfl) ev_c rfl)) (encL_map l) (by omega) fun W' a r' ha => ⟨_, eg_name (by decide), ev_tup (ea_cons (ev_var rfl) (ea_cons (ev_var rfl) ea_nil))⟩)) (by rw [encF_map])) ⟨rfl, rfl⟩) fun r' Γ' z => ?_))
    obtain ⟨rfl, rfl⟩ := z
    refine fin (l.map fun p => (t, p)) "or" (by rw [List.length_map]; omega) ?_
    cases t
    · exact ⟨fun _ => rfl, fun h => absurd h (by decide +kernel)⟩
    · refine ⟨fun h => absurd h (by decide +kernel), fun _ => ?_⟩
      rw [List.map_map]
      rfl
  | cmp _ _ _ => exact absurd hj Bool.false_ne_true
  | pl _ _ _ => exact absurd hj Bool.false_ne_true
  | each _ _ => exact absurd hj Bool.false_ne_true
  | pairs _ _ _ => exact absurd hj Bool.false_ne_true
  | nexts _ _ => exact absurd hj Bool.false_ne_true

/-! ### opened_apart -/
-- slots of opened_apart: 0 saying, 1 strange, 2 places, 3 beyond, 4 found, 5 inner, 6 name, 7 place, 8 one, 9 other
abbrev N_opened_apart : List Str := ["saying", "strange", "places", "beyond", "found", "inner", "name", "place", "one", "other"]
theorem sc_opened_apart : FnScope ["saying", "strange", "places", "beyond", "found", "inner", "name", "place", "one", "other"] ["saying", "strange"] (defScope s_opened_apart) := ⟨rfl, rfl, rfl, by decide +kernel, rfl, by decide +kernel, by decide +kernel⟩
def isApart : Say → Bool
  | .each _ _ | .pairs _ _ _ | .nexts _ _ => true
  | _ => false
theorem Wf.put {T : Wl} {x : Str} {k : Key} : ∀ {n : Nat} {D : Key → Prop} {s : Say}, Wf T false n D s → Wf T false n (fun _ => True) (put x k s)
  | 0, _, _, h => absurd h wf0
  | n + 1, D, s, h => by
    have wk : ∀ p : Key, WfK T (fun _ => True) p := fun p => .inr (.inl trivial)
    have wb : ∀ b : Bs, WfB T D b → WfB T (fun _ => True) (putB x k b) := fun b hb => by
      cases b with
      | non => trivial
      | num c => exact hb
      | «at» r p => exact ⟨hb.1, wk _⟩
    cases s with
    | cmp c a b =>
      simp only [EP.put, Wf] at h ⊢
      exact ⟨h.1, wb _ h.2.1, wb _ h.2.2⟩
    | pl v p q =>
      simp only [EP.put, Wf] at h ⊢
      exact ⟨wk _, wk _⟩
    | not s =>
      simp only [EP.put, Wf] at h ⊢
      exact h.put
    | and l =>
      simp only [EP.put, Wf, putL_map] at h ⊢
      refine ⟨by rw [List.length_map]; exact h.1, fun s hs => ?_⟩
      obtain ⟨a, ha, rfl⟩ := List.mem_map.mp hs
      exact (h.2 a ha).put
    | or l =>
      simp only [EP.put, Wf, putL_map] at h ⊢
      refine ⟨by rw [List.length_map]; exact h.1, fun s hs => ?_⟩
      obtain ⟨a, ha, rfl⟩ := List.mem_map.mp hs
      exact (h.2 a ha).put
    | imp s t =>
      simp only [EP.put, Wf] at h ⊢
      exact ⟨h.1.put, h.2.put⟩
    | each y s =>
      simp only [Wf] at h
      exact absurd h.1 Bool.false_ne_true
    | pairs y z s =>
      simp only [Wf] at h
      exact absurd h.1 Bool.false_ne_true
    | nexts y c =>
      simp only [Wf] at h
      exact absurd h.1 Bool.false_ne_true
def spOApart (K : PySem.W.Frag) (n : Nat) : Sp := SpP K (fun a : Say × Int => [enc a.1, .v (.int a.2)]) (fun a => isApart a.1 = true ∧ ∃ T D, Wf T true (n + 1) D a.1) (fun a => encO (opn false a.1 a.2))
theorem ok_opened_apart (M : Md K mg) (D : DefAt K mg "opened_apart" s_opened_apart ["saying", "strange"]) (n : Nat) (C_put_for : Cal P w K mg base (n + 3) "put_for" ["saying", "name", "place"] (spPut K n)) (C_said_by : Cal P w K mg base 1 "said_by" ["row", "word", "one", "other"] (spSaid K)) :
    Cal P w K mg base (n + 4) "opened_apart" ["saying", "strange"] (spOApart K n) := by
  refine D.okP (k := n + 3) sc_opened_apart (fun _ => rfl) fun f cdv A outer s H E hr => ⟨_, (pss_cons (ps_set (i := 2) sc_opened_apart.nd rfl (by first | exact Or.inl rfl | exact Or.inr rfl) (pe_slice (sl_cut K) (pe_tup (pa_cons (pv 1) (pa_cons (pe_op (op_plus K) (pv 1) pe_int) pa_nil))) po_none (po_some (pe_op (op_plus K) pe_int (pe_callTy cb_int (by rfl) M.int_ bt_int (pa_cons (pe_cmpR op_ne (pe_ix (ix_all K) (pv 0) pe_int (fun _ _ => rfl)) pe_str (nomark _)) pa_nil))))))
  (pss_cons (ps_set (i := 3) sc_opened_apart.nd rfl (by first | exact Or.inl rfl | exact Or.inr rfl) (pe_op (op_plus K) (pe_slice (sl_cut K) (pv 2) (po_some pe_int) po_none) (pe_tup (pa_cons pe_str pa_nil))))
  (pss_cons (ps_setLc (i := 4) (own := [("one", 8), ("other", 9)]) rfl sc_opened_apart.nd rfl rfl (sw_true rfl rfl rfl (by decide +kernel)) (pi_zip2 K (by rfl) M.zip_ (pa_cons (pv 2) (pa_cons (pv 3) pa_nil))) (blkOk_by (N := N_opened_apart) (sc := defScope s_opened_apart) (by decide +kernel)) (fun _ _ _ _ _ => (pg_tupK K (n := 2) rfl (pgs_cons (pg_name (i := 8) sc_opened_apart.nd rfl (by first | exact Or.inl rfl | exact Or.inr rfl)) (pgs_cons (pg_name (i := 9) sc_opened_apart.nd rfl (by first | exact Or.inl rfl | exact Or.inr rfl)) pgs_nil)))) (fun _ _ _ _ _ => pts_nil) (fun _ _ _ _ _ => (pe_tup (pa_cons pe_bl (pa_cons (pe_tup (pa_cons pe_str (pa_cons (pv 8) (pa_cons (pv 9) pa_nil)))) pa_nil)))))
  (pss_cons (ps_if (pt_cmpR op_eq (pe_ix (ix_all K) (pv 0) pe_int (fun _ _ => rfl)) pe_str (nomark _)) (pss_one (ps_set (i := 5) sc_opened_apart.nd rfl (by first | exact Or.inl rfl | exact Or.inr rfl) (pe_cal C_said_by hr (by omega) (by rfl) (pa_cons (pe_ix (ix_all K) (pv 0) pe_int (fun _ _ => rfl)) (pa_cons (pe_ix (ix_all K) (pv 0) pe_int (fun _ _ => rfl)) (pa_cons (pv 1) (pa_cons (pe_op (op_plus K) (pv 1) pe_int) pa_nil))))))) (pss_cons (ps_set (i := 5) sc_opened_apart.nd rfl (by first | exact Or.inl rfl | exact Or.inr rfl) (pe_ix (ix_all K) (pv 0) (pe_un un_neg pe_int) (fun _ _ => rfl)))
  (pss_one (ps_for PassesOwn.never rfl (pi_zip2 K (by rfl) M.zip_ (pa_cons (pe_slice (sl_cut K) (pv 0) (po_some pe_int) (po_some (pe_un un_neg pe_int))) (pa_cons (pv 2) pa_nil))) (pg_tupK K (n := 2) rfl (pgs_cons (pg_name (i := 6) sc_opened_apart.nd rfl (by first | exact Or.inl rfl | exact Or.inr rfl)) (pgs_cons (pg_name (i := 7) sc_opened_apart.nd rfl (by first | exact Or.inl rfl | exact Or.inr rfl)) pgs_nil))) (pss_one (ps_set (i := 5) sc_opened_apart.nd rfl (by first | exact Or.inl rfl | exact Or.inr rfl) (pe_cal C_put_for hr (by omega) (by rfl) (pa_cons (pv 5) (pa_cons (pv 6) (pa_cons (pv 7) pa_nil))))))))))
  (pss_one (ps_ret (pe_tup (pa_cons pe_str (pa_cons (pe_op (op_plus K) (pe_callTy (cb_tuple K) (by rfl) M.tuple_ bt_tuple (pa_cons (pv 4) pa_nil)) (pe_tup (pa_cons (pe_tup (pa_cons pe_bl (pa_cons (pv 5) pa_nil))) pa_nil))) pa_nil))))))))), fun W a r hp => ?_⟩
  obtain ⟨S, s⟩ := a
  obtain ⟨hj, T, D', wf⟩ := hp
  have one : ∀ z : Str, decide (V.str z = V.str "each") = true → (Dt.v (.int (1 + if (!decide (V.str z = V.str "each")) = true then 1 else 0))) = .v (.int 1) := fun z e => by rw [e]; rfl
  have two : ∀ z : Str, decide (V.str z = V.str "each") = false → (Dt.v (.int (1 + if (!decide (V.str z = V.str "each")) = true then 1 else 0))) = .v (.int 2) := fun z e => by rw [e]; rfl
  cases S with
  | each x A =>
    simp only [Wf] at wf
    refine es_asgD (ev_slE (ev_tup (ea_cons (ev_var rfl) (ea_cons (ev_addI (ev_var rfl) ev_c) ea_nil))) eo_none (eo_some (Ev.is (ev_addI ev_c (ev_intB (ev_ne (ev_ixT (d := .v (.str "each")) (ev_var rfl) ev_c rfl) ev_c rfl))) (one "each" (by decide +kernel)))) (es := [.v (.int s)]) rfl) ?_
    refine es_asgD (ev_catT (ev_slE (es := []) (ev_var rfl) (eo_some ev_c) eo_none rfl) (ev_tup (ea_cons ev_c ea_nil)) (ll rfl)) ?_
    refine es_asgD (el_map (l := [(Dt.v (.int s), Dt.v (.str "end"))]) (gg := fun p => .tup [p.1, p.2]) (hh := fun p => .tup [.v (.bl true), .tup [.v (.str "ahead"), p.1, p.2]]) (ei_zipT (ev_var rfl) (ev_var rfl)) rfl (ll rfl)
      fun W' a r' ha => ⟨_, eg_tup2 (by decide) (by decide), ev_tup (ea_cons ev_c (ea_cons (ev_tup (ea_cons ev_c (ea_cons (ev_var rfl) (ea_cons (ev_var rfl) ea_nil)))) ea_nil))⟩) ?_
    refine es_if2 (N1 := fun r' Γ' => r' = r ∧ Γ' = [some (enc (.each x A)), some (.v (.int s)), some (.tup [.v (.int s)]), some (.tup [.v (.str "end")]), some (.lst [.tup [.v (.bl true), .tup [.v (.str "ahead"), .v (.int s), .v (.str "end")]]]),
        some (enc (put x (.inl s) A)), some (.v (.str x)), some (.v (.int s)), none, none]) (et_is (ev_ixT (d := .v (.str "each")) (ev_var rfl) ev_c rfl)) (fun z => absurd z (by decide +kernel))
      (fun _ => es_asgD (ev_ixT (d := enc A) (ev_var rfl) ev_neg rfl) (es_for (vs := [6, 7]) (Inv := fun i r' Γ' => r' = r ∧ match i with
        | 0 => Γ' = [some (enc (.each x A)), some (.v (.int s)), some (.tup [.v (.int s)]), some (.tup [.v (.str "end")]), some (.lst [.tup [.v (.bl true), .tup [.v (.str "ahead"), .v (.int s), .v (.str "end")]]]), some (enc A), none, none, none, none]
        | _ => Γ' = [some (enc (.each x A)), some (.v (.int s)), some (.tup [.v (.int s)]), some (.tup [.v (.str "end")]), some (.lst [.tup [.v (.bl true), .tup [.v (.str "ahead"), .v (.int s), .v (.str "end")]]]), some (enc (put x (.inl s) A)), some (.v (.str x)), some (.v (.int s)), none, none])
        (ei_zipT (ev_slE (es := [.v (.str x)]) (ev_var rfl) (eo_some ev_c) (eo_some ev_neg) rfl) (ev_var rfl)) ⟨rfl, rfl⟩ (fun i d r' Γ' hd hI => ?_) fun r' Γ' z => z)) fun r' Γ' z => ?_
    · match i, hd, hI with
      | 0, hd, hI =>
        obtain ⟨rfl, rfl⟩ := hI
        cases hd
        exact ⟨_, eg_tup2 (vs := [6, 7]) (by decide) (by decide), es_last (ev_cd (A, x, .inl s) (ea_cons (ev_var rfl) (ea_cons (ev_var rfl) (ea_cons (ev_var rfl) ea_nil))) ⟨T, _, wf.2.2⟩) ⟨rfl, rfl⟩⟩
      | i + 1, hd, hI => cases hd
    · obtain ⟨rfl, rfl⟩ := z
      exact es_retP (ev_tup (ea_cons ev_c (ea_cons (ev_catT (ev_tupleOf (ev_var rfl)) (ev_tup (ea_cons (ev_tup (ea_cons ev_c (ea_cons (ev_var rfl) ea_nil))) ea_nil)) (ll rfl)) ea_nil))) rfl
  | pairs x y A =>
    simp only [Wf] at wf
    refine es_asgD (ev_slE (ev_tup (ea_cons (ev_var rfl) (ea_cons (ev_addI (ev_var rfl) ev_c) ea_nil))) eo_none (eo_some (Ev.is (ev_addI ev_c (ev_intB (ev_ne (ev_ixT (d := .v (.str "pairs")) (ev_var rfl) ev_c rfl) ev_c rfl))) (two "pairs" (by decide +kernel)))) (es := [.v (.int s), .v (.int (s + 1))]) rfl) ?_
    refine es_asgD (ev_catT (ev_slE (es := [.v (.int (s + 1))]) (ev_var rfl) (eo_some ev_c) eo_none rfl) (ev_tup (ea_cons ev_c ea_nil)) (ll rfl)) ?_
    refine es_asgD (el_map (l := [(Dt.v (.int s), Dt.v (.int (s + 1))), (.v (.int (s + 1)), .v (.str "end"))]) (gg := fun p => .tup [p.1, p.2]) (hh := fun p => .tup [.v (.bl true), .tup [.v (.str "ahead"), p.1, p.2]]) (ei_zipT (ev_var rfl) (ev_var rfl)) rfl (ll rfl)
      fun W' a r' ha => ⟨_, eg_tup2 (by decide) (by decide), ev_tup (ea_cons ev_c (ea_cons (ev_tup (ea_cons ev_c (ea_cons (ev_var rfl) (ea_cons (ev_var rfl) ea_nil)))) ea_nil))⟩) ?_
    let Γs : Say → Option Dt → Option Dt → Gm := fun B u v => [some (enc (.pairs x y A)), some (.v (.int s)), some (.tup [.v (.int s), .v (.int (s + 1))]), some (.tup [.v (.int (s + 1)), .v (.str "end")]), some (.lst [.tup [.v (.bl true), .tup [.v (.str "ahead"), .v (.int s), .v (.int (s + 1))]], .tup [.v (.bl true), .tup [.v (.str "ahead"), .v (.int (s + 1)), .v (.str "end")]]]),
        some (enc B), u, v, none, none]
    refine es_if2 (N1 := fun r' Γ' => r' = r ∧ Γ' = Γs (put y (.inl (s + 1)) (put x (.inl s) A)) (some (.v (.str y))) (some (.v (.int (s + 1))))) (et_is (ev_ixT (d := .v (.str "pairs")) (ev_var rfl) ev_c rfl)) (fun z => absurd z (by decide +kernel))
      (fun _ => es_asgD (ev_ixT (d := enc A) (ev_var rfl) ev_neg rfl) (es_for (vs := [6, 7]) (Inv := fun i r' Γ' => r' = r ∧ match i with
        | 0 => Γ' = Γs A none none
        | 1 => Γ' = Γs (put x (.inl s) A) (some (.v (.str x))) (some (.v (.int s)))
        | _ => Γ' = Γs (put y (.inl (s + 1)) (put x (.inl s) A)) (some (.v (.str y))) (some (.v (.int (s + 1)))))
        (ei_zipT (ev_slE (es := [.v (.str x), .v (.str y)]) (ev_var rfl) (eo_some ev_c) (eo_some ev_neg) rfl) (ev_var rfl)) ⟨rfl, rfl⟩ (fun i d r' Γ' hd hI => ?_) fun r' Γ' z => z)) fun r' Γ' z => ?_
    · match i, hd, hI with
      | 0, hd, hI =>
        obtain ⟨rfl, rfl⟩ := hI
        cases hd
        exact ⟨_, eg_tup2 (vs := [6, 7]) (by decide) (by decide), es_last (ev_cd (A, x, .inl s) (ea_cons (ev_var rfl) (ea_cons (ev_var rfl) (ea_cons (ev_var rfl) ea_nil))) ⟨T, _, wf.2.2.2.2⟩) ⟨rfl, rfl⟩⟩
      | 1, hd, hI =>
        obtain ⟨rfl, rfl⟩ := hI
        cases hd
        exact ⟨_, eg_tup2 (vs := [6, 7]) (by decide) (by decide), es_last (ev_cd (put x (.inl s) A, y, .inl (s + 1)) (ea_cons (ev_var rfl) (ea_cons (ev_var rfl) (ea_cons (ev_var rfl) ea_nil))) ⟨T, _, wf.2.2.2.2.put⟩) ⟨rfl, rfl⟩⟩
      | i + 2, hd, hI => cases hd
    · obtain ⟨rfl, rfl⟩ := z
      exact es_retP (ev_tup (ea_cons ev_c (ea_cons (ev_catT (ev_tupleOf (ev_var rfl)) (ev_tup (ea_cons (ev_tup (ea_cons ev_c (ea_cons (ev_var rfl) ea_nil))) ea_nil)) (ll rfl)) ea_nil))) rfl
  | nexts q c =>
    simp only [Wf] at wf
    refine es_asgD (ev_slE (ev_tup (ea_cons (ev_var rfl) (ea_cons (ev_addI (ev_var rfl) ev_c) ea_nil))) eo_none (eo_some (Ev.is (ev_addI ev_c (ev_intB (ev_ne (ev_ixT (d := .v (.str "nexts")) (ev_var rfl) ev_c rfl) ev_c rfl))) (two "nexts" (by decide +kernel)))) (es := [.v (.int s), .v (.int (s + 1))]) rfl) ?_
    refine es_asgD (ev_catT (ev_slE (es := [.v (.int (s + 1))]) (ev_var rfl) (eo_some ev_c) eo_none rfl) (ev_tup (ea_cons ev_c ea_nil)) (ll rfl)) ?_
    refine es_asgD (el_map (l := [(Dt.v (.int s), Dt.v (.int (s + 1))), (.v (.int (s + 1)), .v (.str "end"))]) (gg := fun p => .tup [p.1, p.2]) (hh := fun p => .tup [.v (.bl true), .tup [.v (.str "ahead"), p.1, p.2]]) (ei_zipT (ev_var rfl) (ev_var rfl)) rfl (ll rfl)
      fun W' a r' ha => ⟨_, eg_tup2 (by decide) (by decide), ev_tup (ea_cons ev_c (ea_cons (ev_tup (ea_cons ev_c (ea_cons (ev_var rfl) (ea_cons (ev_var rfl) ea_nil)))) ea_nil))⟩) ?_
    refine es_if2 (N1 := fun r' Γ' => r' = r ∧ Γ' = _) (et_is (ev_ixT (d := .v (.str "nexts")) (ev_var rfl) ev_c rfl))
      (fun _ => es_last (ev_cd (q, c, .inl s, .inl (s + 1)) (ea_cons (ev_ixT (d := .v (.str q)) (ev_var rfl) ev_c rfl) (ea_cons (ev_ixT (d := .v (.str c.str)) (ev_var rfl) ev_c rfl) (ea_cons (ev_var rfl) (ea_cons (ev_addI (ev_var rfl) ev_c) ea_nil)))) trivial) ⟨rfl, rfl⟩)
      (fun z => absurd z (by decide +kernel)) fun r' Γ' z => ?_
    obtain ⟨rfl, rfl⟩ := z
    exact es_retP (ev_tup (ea_cons ev_c (ea_cons (ev_catT (ev_tupleOf (ev_var rfl)) (ev_tup (ea_cons (ev_tup (ea_cons ev_c (ea_cons (ev_var rfl) ea_nil))) ea_nil)) (ll rfl)) ea_nil))) rfl
  | not _ => exact absurd hj Bool.false_ne_true
  | and _ => exact absurd hj Bool.false_ne_true
  | or _ => exact absurd hj Bool.false_ne_true
  | imp _ _ => exact absurd hj Bool.false_ne_true
  | cmp _ _ _ => exact absurd hj Bool.false_ne_true
  | pl _ _ _ => exact absurd hj Bool.false_ne_true
end EP

/-! ## KF3 -/
namespace EP
open PySem PySem.Spec PyProof.Rows L2
variable {P : Program} {w : World} {K : PySem.W.Frag} {mg : Str → Option Value} {base : Heap}

/-! ### opened -/
-- slots of opened: 0 fact, 1 strange, 2 truth, 3 saying, 4 word, 5 one, 6 other
abbrev N_opened : List Str := ["fact", "strange", "truth", "saying", "word", "one", "other"]
theorem sc_opened : FnScope ["fact", "strange", "truth", "saying", "word", "one", "other"] ["fact", "strange"] (defScope s_opened) := ⟨rfl, rfl, rfl, by decide +kernel, rfl, by decide +kernel, by decide +kernel⟩
def spOpened (K : PySem.W.Frag) (n : Nat) : Sp := SpP K (fun a : (Bool × Say) × Int => [encF a.1, .v (.int a.2)]) (fun a => ∃ T D, Wf T true (n + 1) D a.1.2) (fun a => encO (opn a.1.1 a.1.2 a.2))
theorem wf_lenOk {T : Wl} {q : Bool} {n : Nat} {D : Key → Prop} {S : Say} (h : Wf T q (n + 1) D S) : lenOk S := by
  cases S with
  | and l => simp only [Wf] at h; exact h.1
  | or l => simp only [Wf] at h; exact h.1
  | _ => trivial
theorem ok_opened (D : DefAt K mg "opened" s_opened ["fact", "strange"]) (n : Nat) (C_opened_joined : Cal P w K mg base 1 "opened_joined" ["truth", "saying"] (spOJoin K)) (C_opened_same : Cal P w K mg base 1 "opened_same" ["truth", "saying"] (spOSame K))
    (C_opened_next : Cal P w K mg base 1 "opened_next" ["truth", "saying", "strange"] (spONext K)) (C_opened_apart : Cal P w K mg base (n + 4) "opened_apart" ["saying", "strange"] (spOApart K n)) :
    Cal P w K mg base (n + 5) "opened" ["fact", "strange"] (spOpened K n) := by
  refine D.okP (k := n + 4) sc_opened (fun _ => rfl) fun f cdv A outer s H E hr => ⟨_, (pss_cons (ps_asg (pv 0) (pg_tupK K (n := 2) rfl (pgs_cons (pg_name (i := 2) sc_opened.nd rfl (by first | exact Or.inl rfl | exact Or.inr rfl)) (pgs_cons (pg_name (i := 3) sc_opened.nd rfl (by first | exact Or.inl rfl | exact Or.inr rfl)) pgs_nil))))
  (pss_cons (ps_set (i := 4) sc_opened.nd rfl (by first | exact Or.inl rfl | exact Or.inr rfl) (pe_ix (ix_all K) (pv 3) pe_int (fun _ _ => rfl)))
  (pss_cons (ps_if (pt_cmpR (op_inS K) (pv 4) (pe_tup (pa_cons pe_str (pa_cons pe_str (pa_cons pe_str (pa_cons pe_str pa_nil))))) (by rfl)) (pss_one (ps_ret (pe_cal C_opened_joined hr (by omega) (by rfl) (pa_cons (pv 2) (pa_cons (pv 3) pa_nil))))) pss_nil)
  (pss_cons (ps_if (pt_cmpR (op_inS K) (pv 4) (pe_tup (pa_cons pe_str (pa_cons pe_str pa_nil))) (by rfl)) (pss_one (ps_ret (pe_cal C_opened_same hr (by omega) (by rfl) (pa_cons (pv 2) (pa_cons (pv 3) pa_nil))))) pss_nil)
  (pss_cons (ps_if (pt_cmpR op_eq (pv 4) pe_str (nomark _)) (pss_one (ps_ret (pe_cal C_opened_next hr (by omega) (by rfl) (pa_cons (pv 2) (pa_cons (pv 3) (pa_cons (pv 1) pa_nil)))))) pss_nil)
  (pss_cons (ps_if (PW.pt (pw_or (pt_val (pv 2)) (pw_or1 (pt_cmpR (op_inS K) (pv 4) (pe_tup (pa_cons pe_str (pa_cons pe_str (pa_cons pe_str pa_nil)))) (by rfl))))) (pss_one (ps_ret pe_non)) pss_nil)
  (pss_cons (ps_if (pt_cmpR op_eq (pv 4) pe_str (nomark _)) (pss_cons (ps_asg (pe_slice (sl_cut K) (pv 3) (po_some pe_int) po_none) (pg_tupK K (n := 2) rfl (pgs_cons (pg_name (i := 5) sc_opened.nd rfl (by first | exact Or.inl rfl | exact Or.inr rfl)) (pgs_cons (pg_name (i := 6) sc_opened.nd rfl (by first | exact Or.inl rfl | exact Or.inr rfl)) pgs_nil))))
  (pss_one (ps_ret (pe_tup (pa_cons pe_str (pa_cons (pe_tup (pa_cons (pe_tup (pa_cons (pe_tup (pa_cons pe_bl (pa_cons (pe_tup (pa_cons pe_str (pa_cons (pv 5) (pa_cons (pv 6) pa_nil)))) pa_nil))) pa_nil)) (pa_cons (pe_tup (pa_cons (pe_tup (pa_cons pe_bl (pa_cons (pe_tup (pa_cons pe_str (pa_cons (pv 6) (pa_cons (pv 5) pa_nil)))) pa_nil))) pa_nil)) pa_nil))) pa_nil)))))) pss_nil)
  (pss_one (ps_ret (pe_cal C_opened_apart hr (by omega) (by rfl) (pa_cons (pv 3) (pa_cons (pv 1) pa_nil)))))))))))), fun W a r hp => ?_⟩
  obtain ⟨⟨t, S⟩, s⟩ := a
  obtain ⟨T, D', wf⟩ := hp
  have wf : Wf T true (n + 1) D' S := wf
  refine es_asgG (d := .tup [.v (.bl t), enc S]) (ev_var rfl) (eg_tup2 (vs := [2, 3]) (by decide) (by decide)) ?_
  have e4 : ∀ z : Str, wIn z ["not", "and", "or", "if"] = false → wIn z ["not", "and", "or", "if"] = false := fun _ h => h
  cases S with
  | not a => exact es_asgD (ev_ixT (d := .v (.str "not")) (ev_var rfl) ev_c rfl) (es_ifT (et_in ["not", "and", "or", "if"] (ev_var rfl) ev_s4) (by decide +kernel) (es_retP (ev_cd (t, .not a) (ea_cons (ev_var rfl) (ea_cons (ev_var rfl) ea_nil)) ⟨rfl, wf_lenOk wf⟩) rfl))
  | and l => exact es_asgD (ev_ixT (d := .v (.str "and")) (ev_var rfl) ev_c rfl) (es_ifT (et_in ["not", "and", "or", "if"] (ev_var rfl) ev_s4) (by decide +kernel) (es_retP (ev_cd (t, .and l) (ea_cons (ev_var rfl) (ea_cons (ev_var rfl) ea_nil)) ⟨rfl, wf_lenOk wf⟩) (by cases t <;> rfl)))
  | or l => exact es_asgD (ev_ixT (d := .v (.str "or")) (ev_var rfl) ev_c rfl) (es_ifT (et_in ["not", "and", "or", "if"] (ev_var rfl) ev_s4) (by decide +kernel) (es_retP (ev_cd (t, .or l) (ea_cons (ev_var rfl) (ea_cons (ev_var rfl) ea_nil)) ⟨rfl, wf_lenOk wf⟩) (by cases t <;> rfl)))
  | imp a b => exact es_asgD (ev_ixT (d := .v (.str "if")) (ev_var rfl) ev_c rfl) (es_ifT (et_in ["not", "and", "or", "if"] (ev_var rfl) ev_s4) (by decide +kernel) (es_retP (ev_cd (t, .imp a b) (ea_cons (ev_var rfl) (ea_cons (ev_var rfl) ea_nil)) ⟨rfl, wf_lenOk wf⟩) (by cases t <;> rfl)))
  | cmp c a b =>
    simp only [Wf] at wf
    refine es_asgD (ev_ixT (d := .v (.str c.str)) (ev_var rfl) ev_c rfl) (es_ifF (et_in ["not", "and", "or", "if"] (ev_var rfl) ev_s4) (by cases c <;> decide +kernel) ?_)
    by_cases hc : c = .same ∨ c = .unlike
    · exact es_ifT (et_in ["same", "unlike"] (ev_var rfl) ev_s2) (by rcases hc with rfl | rfl <;> decide +kernel) (es_retP (ev_cd (t, c, a, b) (ea_cons (ev_var rfl) (ea_cons (ev_var rfl) ea_nil)) hc) (by rcases hc with rfl | rfl <;> cases t <;> rfl))
    · refine es_ifF (et_in ["same", "unlike"] (ev_var rfl) ev_s2) (by cases c <;> first | decide +kernel | exact absurd (Or.inl rfl) hc | exact absurd (Or.inr rfl) hc) (es_ifF (et_is (ev_var rfl)) (by cases c <;> decide +kernel)
        (es_ifT (et_or (et_B (ev_var rfl)) fun _ => et_in ["most", "less", "ahead"] (ev_var rfl) ev_s3) ?_ (es_retP ev_c ?_)))
      · rw [show wIn c.str ["most", "less", "ahead"] = true by cases c <;> first | decide +kernel | exact absurd (Or.inl rfl) hc | exact absurd (Or.inr rfl) hc | exact absurd wf.1 Bool.false_ne_true]
        exact Bool.or_true _
      · cases c <;> cases t <;> first | rfl | exact absurd (Or.inl rfl) hc | exact absurd (Or.inr rfl) hc
  | pl v p q =>
    refine es_asgD (ev_ixT (d := .v (.str v.str)) (ev_var rfl) ev_c rfl) (es_ifF (et_in ["not", "and", "or", "if"] (ev_var rfl) ev_s4) (by cases v <;> decide +kernel) (es_ifF (et_in ["same", "unlike"] (ev_var rfl) ev_s2) (by cases v <;> decide +kernel) ?_))
    cases v with
    | next => exact es_ifT (et_is (ev_var rfl)) (by decide +kernel) (es_retP (ev_cd (t, p, q, s) (ea_cons (ev_var rfl) (ea_cons (ev_var rfl) (ea_cons (ev_var rfl) ea_nil))) trivial) rfl)
    | ahead =>
      refine es_ifF (et_is (ev_var rfl)) (by decide +kernel) (es_ifT (et_or (et_B (ev_var rfl)) fun _ => et_in ["most", "less", "ahead"] (ev_var rfl) ev_s3) ?_ (es_retP ev_c (by cases t <;> rfl)))
      rw [show wIn Pw.ahead.str ["most", "less", "ahead"] = true by decide +kernel]
      exact Bool.or_true _
    | here =>
      refine es_ifF (et_is (ev_var rfl)) (by decide +kernel) (es_ifR (et_or (et_B (ev_var rfl)) fun _ => et_in ["most", "less", "ahead"] (ev_var rfl) ev_s3) (fun h => es_retP ev_c ?_) fun h => es_ifT (et_is (ev_var rfl)) (by decide +kernel)
        (es_asgG (d := .tup [encK p, encK q]) (ev_slE (ev_var rfl) (eo_some ev_c) eo_none rfl) (eg_tup2 (vs := [5, 6]) (by decide) (by decide)) (es_retP (ev_tup (ea_cons ev_c (ea_cons (ev_tup (ea_cons (ev_tup (ea_cons (ev_tup (ea_cons ev_c (ea_cons (ev_tup (ea_cons ev_c (ea_cons (ev_var rfl) (ea_cons (ev_var rfl) ea_nil)))) ea_nil))) ea_nil))
          (ea_cons (ev_tup (ea_cons (ev_tup (ea_cons ev_c (ea_cons (ev_tup (ea_cons ev_c (ea_cons (ev_var rfl) (ea_cons (ev_var rfl) ea_nil)))) ea_nil))) ea_nil)) ea_nil))) ea_nil))) ?_)))
      · rw [show wIn Pw.here.str ["most", "less", "ahead"] = false by decide +kernel, Bool.or_false] at h
        have h : t = true := h
        subst h
        rfl
      · rw [show wIn Pw.here.str ["most", "less", "ahead"] = false by decide +kernel, Bool.or_false] at h
        have h : t = false := h
        subst h
        rfl
  | each x a =>
    refine es_asgD (ev_ixT (d := .v (.str "each")) (ev_var rfl) ev_c rfl) (es_ifF (et_in ["not", "and", "or", "if"] (ev_var rfl) ev_s4) (by decide +kernel) (es_ifF (et_in ["same", "unlike"] (ev_var rfl) ev_s2) (by decide +kernel) (es_ifF (et_is (ev_var rfl)) (by decide +kernel)
      (es_ifR (et_or (et_B (ev_var rfl)) fun _ => et_in ["most", "less", "ahead"] (ev_var rfl) ev_s3) (fun h => es_retP ev_c ?_) fun h => es_ifF (et_is (ev_var rfl)) (by decide +kernel) (es_retP (ev_cd (.each x a, s) (ea_cons (ev_var rfl) (ea_cons (ev_var rfl) ea_nil)) ⟨rfl, T, D', wf⟩) ?_)))))
    · rw [show wIn "each" ["most", "less", "ahead"] = false by decide +kernel, Bool.or_false] at h
      have h : t = true := h
      subst h
      rfl
    · rw [show wIn "each" ["most", "less", "ahead"] = false by decide +kernel, Bool.or_false] at h
      have h : t = false := h
      subst h
      rfl
  | pairs x y a =>
    refine es_asgD (ev_ixT (d := .v (.str "pairs")) (ev_var rfl) ev_c rfl) (es_ifF (et_in ["not", "and", "or", "if"] (ev_var rfl) ev_s4) (by decide +kernel) (es_ifF (et_in ["same", "unlike"] (ev_var rfl) ev_s2) (by decide +kernel) (es_ifF (et_is (ev_var rfl)) (by decide +kernel)
      (es_ifR (et_or (et_B (ev_var rfl)) fun _ => et_in ["most", "less", "ahead"] (ev_var rfl) ev_s3) (fun h => es_retP ev_c ?_) fun h => es_ifF (et_is (ev_var rfl)) (by decide +kernel) (es_retP (ev_cd (.pairs x y a, s) (ea_cons (ev_var rfl) (ea_cons (ev_var rfl) ea_nil)) ⟨rfl, T, D', wf⟩) ?_)))))
    · rw [show wIn "pairs" ["most", "less", "ahead"] = false by decide +kernel, Bool.or_false] at h
      have h : t = true := h
      subst h
      rfl
    · rw [show wIn "pairs" ["most", "less", "ahead"] = false by decide +kernel, Bool.or_false] at h
      have h : t = false := h
      subst h
      rfl
  | nexts q c =>
    refine es_asgD (ev_ixT (d := .v (.str "nexts")) (ev_var rfl) ev_c rfl) (es_ifF (et_in ["not", "and", "or", "if"] (ev_var rfl) ev_s4) (by decide +kernel) (es_ifF (et_in ["same", "unlike"] (ev_var rfl) ev_s2) (by decide +kernel) (es_ifF (et_is (ev_var rfl)) (by decide +kernel)
      (es_ifR (et_or (et_B (ev_var rfl)) fun _ => et_in ["most", "less", "ahead"] (ev_var rfl) ev_s3) (fun h => es_retP ev_c ?_) fun h => es_ifF (et_is (ev_var rfl)) (by decide +kernel) (es_retP (ev_cd (.nexts q c, s) (ea_cons (ev_var rfl) (ea_cons (ev_var rfl) ea_nil)) ⟨rfl, T, D', wf⟩) ?_)))))
    · rw [show wIn "nexts" ["most", "less", "ahead"] = false by decide +kernel, Bool.or_false] at h
      have h : t = true := h
      subst h
      rfl
    · rw [show wIn "nexts" ["most", "less", "ahead"] = false by decide +kernel, Bool.or_false] at h
      have h : t = false := h
      subst h
      rfl
end EP

/-! ## KF4 -/
namespace EP
open PySem PySem.Spec PyProof.Rows L2

/-! ### the world as data -/
def intsD (l : List Int) : List Dt := l.map fun i => .v (.int i)
def castD (T : Wl) : Dt := .tup [.ftup (strsD T.rows), .ftup (strsD T.places), .ftup (strsD T.nums)]
def standD (T : Wl) : Dt := .tup [.tup (T.rv.map fun l => .tup (intsD l)), .tup (intsD T.pv), .tup (intsD T.nv)]
theorem atI_ints {l : List Int} {j : Nat} (h : j < l.length) : atI (intsD l) (j : Int) = some (.v (.int (l.getD j 0))) := by
  apply atI_nat
  unfold intsD
  rw [List.getElem?_map, List.getElem?_eq_getElem h, List.getD_eq_getElem?_getD, List.getElem?_eq_getElem h]
  rfl
theorem row0 {T : Wl} (ok : T.Ok) : ∃ l r, T.rv = l :: r ∧ l.length = T.n := by
  have h1 := ok.rlen
  have h2 := ok.rne
  cases e : T.rv with
  | nil =>
    rw [e] at h1
    exact absurd (List.length_eq_zero_iff.mp h1.symm) h2
  | cons l r => exact ⟨l, r, rfl, ok.rrow l (by rw [e]; exact List.mem_cons_self)⟩
theorem plc_range {T : Wl} {f : En} {k : Key} (ok : T.Ok) (hf : EnOk T f) (w : WfK T (dom f) k) : 0 ≤ plc T f k ∧ plc T f k ≤ T.n := by
  unfold plc
  split
  · omega
  · rename_i hk
    cases e : f k with
    | some i => exact hf k i e
    | none =>
      rcases w with w | w | ⟨z, hz, w⟩
      · exact absurd w hk
      · unfold dom at w
        rw [e] at w
        exact absurd w Bool.false_ne_true
      · subst w
        have hl : T.places.idxOf z < T.pv.length := by rw [ok.plen]; exact List.idxOf_lt_length_of_mem hz
        show 0 ≤ T.pv.getD (T.places.idxOf z) 0 ∧ T.pv.getD (T.places.idxOf z) 0 ≤ T.n
        rw [List.getD_eq_getElem?_getD, List.getElem?_eq_getElem hl]
        exact ok.pin _ (List.getElem_mem hl)
theorem rowV_len {T : Wl} {q : Str} (ok : T.Ok) (h : q ∈ T.rows) : (rowV T q).length = T.n ∧ T.rv[T.rows.idxOf q]? = some (rowV T q) := by
  have hl : T.rows.idxOf q < T.rv.length := by rw [ok.rlen]; exact List.idxOf_lt_length_of_mem h
  unfold rowV
  rw [List.getD_eq_getElem?_getD, List.getElem?_eq_getElem hl]
  exact ⟨ok.rrow _ (List.getElem_mem hl), rfl⟩
section
variable {K : PySem.W.Frag} {W : Wd K} {Γ : Gm} {r r1 r2 : Nat} {ta tb te : TE}
/-- len(standing[0][0]) -/
theorem ev_many {T : Wl} (ok : T.Ok) (h : Ev W te Γ r r1 (At (standD T))) : Ev W (tCB (rLen K) (tCons (tOp (rIx K) (tOp (rIx K) te (tC (.int 0))) (tC (.int 0))) tNil)) Γ r r1 (At (.v (.int T.n))) := by
  obtain ⟨l, q, e, hl⟩ := row0 ok
  refine Ev.is (ev_lenT (ev_ixT (d := .tup (intsD l)) (ev_ixT (d := .tup (T.rv.map fun l => .tup (intsD l))) h ev_c rfl) ev_c (show atI _ ((0 : Nat) : Int) = _ from atI_nat (by rw [e]; rfl)))) ?_
  unfold intsD
  rw [List.length_map, hl]
end
variable {P : Program} {w : World} {K : PySem.W.Frag} {mg : Str → Option Value} {base : Heap}

/-! ### place -/
-- slots of _law_place: 0 _law_cast, 1 _law_standing_here, 2 _law_spots, 3 _law_name
abbrev N_q_place : List Str := ["_law_cast", "_law_standing_here", "_law_spots", "_law_name"]
theorem sc_q_place : FnScope ["_law_cast", "_law_standing_here", "_law_spots", "_law_name"] ["_law_cast", "_law_standing_here", "_law_spots", "_law_name"] (defScope s_q_place) := ⟨rfl, rfl, rfl, by decide +kernel, rfl, by decide +kernel, by decide +kernel⟩
def spPlace (K : PySem.W.Frag) : Sp := SpP K (fun a : Wl × Nat × En × Key => [castD a.1, standD a.1, .env a.2.1 a.2.2.1, encK a.2.2.2]) (fun a => a.1.Ok ∧ WfK a.1 (dom a.2.2.1) a.2.2.2) (fun a => .v (.int (plc a.1 a.2.2.1 a.2.2.2)))
theorem ok_place (M : Md K mg) (D : DefAt K mg "_law_place" s_q_place ["_law_cast", "_law_standing_here", "_law_spots", "_law_name"]) : Cal P w K mg base 1 "_law_place" ["_law_cast", "_law_standing_here", "_law_spots", "_law_name"] (spPlace K) := by
  refine D.okP sc_q_place (fun _ => rfl) fun f cdv A outer s H E hr => ?_
  have hu := hu_of hr
  refine ⟨_, (pss_cons (ps_if (pt_cmpR op_eq (pv 3) pe_str (nomark _)) (pss_one (ps_ret (pe_callB (cb_len K) (by rfl) M.len_ bt_len (pa_cons (pe_ix (ix_all K) (pe_ix (ix_all K) (pv 1) pe_int (fun _ _ => rfl)) pe_int (fun _ _ => rfl)) pa_nil)))) pss_nil)
  (pss_cons (ps_if (pt_cmp (pc_din hu (pv 3) (pv 2)) (by rfl)) (pss_one (ps_ret (pe_dget hu (pv 2) (pv 3) (fun _ _ => rfl)))) pss_nil)
  (pss_one (ps_ret (pe_ix (ix_all K) (pe_ix (ix_all K) (pv 1) pe_int (fun _ _ => rfl)) (pe_index K (pe_ix (ix_all K) (pv 0) pe_int (fun _ _ => rfl)) (pa_cons (pv 3) pa_nil)) (fun _ _ => rfl)))))), fun W a r hp => ?_⟩
  obtain ⟨T, n, g, k⟩ := a
  obtain ⟨ok, wk⟩ := hp
  have ok : T.Ok := ok
  have wk : WfK T (dom g) k := wk
  refine es_ifR (et_T (ev_eq (ev_var rfl) ev_c (kv_str k "end"))) (fun h => es_retP (ev_many ok (ev_var rfl)) ?_) fun h => ?_
  · have e : k = ek := of_decide_eq_true ((kv_dec k "end").symm.trans h)
    show Dt.v (.int T.n) = .v (.int (plc T g k))
    unfold plc
    rw [if_pos e]
  · have e : ¬ k = ek := of_decide_eq_false ((kv_dec k "end").symm.trans h)
    refine es_ifR (et_B (ev_din (k := k) (ev_var rfl) (ev_var rfl))) (fun h2 => ?_) fun h2 => ?_
    · obtain ⟨i, hi⟩ := Option.isSome_iff_exists.mp h2
      have hi : g k = some i := hi
      refine es_retP (ev_dget (k := k) (ev_var rfl) (ev_var rfl) hi) ?_
      show Dt.v (.int i) = .v (.int (plc T g k))
      unfold plc
      rw [if_neg e, hi]
    · have hn : g k = none := by
        cases z : g k with
        | none => rfl
        | some i =>
          have h2 : (g k).isSome = false := h2
          rw [z] at h2
          exact Bool.noConfusion h2
      rcases wk with w | w | ⟨z, hz, w⟩
      · exact absurd w e
      · unfold dom at w
        rw [hn] at w
        exact absurd w Bool.false_ne_true
      · subst w
        have hl : T.places.idxOf z < T.pv.length := by rw [ok.plen]; exact List.idxOf_lt_length_of_mem hz
        refine es_retP (ev_ixT (ev_ixT (d := .tup (intsD T.pv)) (ev_var rfl) ev_c rfl) (ev_index (ev_ixT (d := .ftup (strsD T.places)) (ev_var rfl) ev_c rfl) (ev_var rfl) hz) (atI_ints hl)) ?_
        show Dt.v (.int (T.pv.getD (T.places.idxOf z) 0)) = .v (.int (plc T g (.inr z)))
        unfold plc
        rw [if_neg e, hn]
/-! ### worth -/
-- slots of _law_worth: 0 _law_cast, 1 _law_standing_here, 2 _law_spots, 3 _law_one, 4 _law_base, 5 _law_more_here, 6 _law_row
abbrev N_q_worth : List Str := ["_law_cast", "_law_standing_here", "_law_spots", "_law_one", "_law_base", "_law_more_here", "_law_row"]
theorem sc_q_worth : FnScope ["_law_cast", "_law_standing_here", "_law_spots", "_law_one", "_law_base", "_law_more_here", "_law_row"] ["_law_cast", "_law_standing_here", "_law_spots", "_law_one"] (defScope s_q_worth) := ⟨rfl, rfl, rfl, by decide +kernel, rfl, by decide +kernel, by decide +kernel⟩
def spWorth (K : PySem.W.Frag) : Sp := SpP K (fun a : Wl × Nat × En × Sm => [castD a.1, standD a.1, .env a.2.1 a.2.2.1, encSm a.2.2.2]) (fun a => a.1.Ok ∧ EnOk a.1 a.2.2.1 ∧ WfB a.1 (dom a.2.2.1) a.2.2.2.b) (fun a => .v (.int (wrt a.1 a.2.2.1 a.2.2.2)))
theorem ok_worth (M : Md K mg) (D : DefAt K mg "_law_worth" s_q_worth ["_law_cast", "_law_standing_here", "_law_spots", "_law_one"]) (C_q_place : Cal P w K mg base 1 "_law_place" ["_law_cast", "_law_standing_here", "_law_spots", "_law_name"] (spPlace K)) :
    Cal P w K mg base 2 "_law_worth" ["_law_cast", "_law_standing_here", "_law_spots", "_law_one"] (spWorth K) := by
  refine D.okP sc_q_worth (fun _ => rfl) fun f cdv A outer s H E hr => ?_
  refine ⟨_, (pss_cons (ps_asg (pv 3) (pg_tupK K (n := 2) rfl (pgs_cons (pg_name (i := 4) sc_q_worth.nd rfl (by first | exact Or.inl rfl | exact Or.inr rfl)) (pgs_cons (pg_name (i := 5) sc_q_worth.nd rfl (by first | exact Or.inl rfl | exact Or.inr rfl)) pgs_nil))))
  (pss_cons (ps_if (pt_cmp (pc_isN (pv 4)) (by rfl)) (pss_one (ps_ret (pv 5))) pss_nil)
  (pss_cons (ps_if (pt_val (pe_callB (cb_isi K) (by rfl) M.isinstance_ bt_isinstance (pa_cons (pv 4) (pa_cons (pe_bltn (v := .ty "str") (by rfl) M.str_ bt_str rfl) pa_nil)))) (pss_one (ps_ret (pe_op (op_plus K) (pv 5) (pe_ix (ix_all K) (pe_ix (ix_all K) (pv 1) pe_int (fun _ _ => rfl)) (pe_index K (pe_ix (ix_all K) (pv 0) pe_int (fun _ _ => rfl)) (pa_cons (pv 4) pa_nil)) (fun _ _ => rfl))))) pss_nil)
  (pss_cons (ps_set (i := 6) sc_q_worth.nd rfl (by first | exact Or.inl rfl | exact Or.inr rfl) (pe_op (op_plus K) (pe_ix (ix_all K) (pe_ix (ix_all K) (pv 1) pe_int (fun _ _ => rfl)) (pe_index K (pe_ix (ix_all K) (pv 0) pe_int (fun _ _ => rfl)) (pa_cons (pe_ix (ix_all K) (pv 4) pe_int (fun _ _ => rfl)) pa_nil)) (fun _ _ => rfl)) (pe_tup (pa_cons pe_int pa_nil))))
  (pss_one (ps_ret (pe_op (op_plus K) (pv 5) (pe_ix (ix_all K) (pv 6) (pe_cal C_q_place hr (by omega) (by rfl) (pa_cons (pv 0) (pa_cons (pv 1) (pa_cons (pv 2) (pa_cons (pe_ix (ix_all K) (pv 4) pe_int (fun _ _ => rfl)) pa_nil))))) (fun _ _ => rfl))))))))), fun W a r hp => ?_⟩
  obtain ⟨T, n, g, b, m⟩ := a
  obtain ⟨ok, hg, wb⟩ := hp
  have ok : T.Ok := ok
  have hg : EnOk T g := hg
  have wb : WfB T (dom g) b := wb
  refine es_asgG (d := .tup [encB b, .v (.int m)]) (ev_var rfl) (eg_tup2 (vs := [4, 5]) (by decide) (by decide)) ?_
  cases b with
  | non => exact es_ifT (et_B (ev_isNon (ev_var rfl))) rfl (es_retP (ev_var rfl) rfl)
  | num c =>
    have wb : c ∈ T.nums := wb
    have hl : T.nums.idxOf c < T.nv.length := by rw [ok.nlen]; exact List.idxOf_lt_length_of_mem wb
    exact es_ifF (et_B (ev_isNonI (d := .v (.str c)) (ev_var rfl) fun H z => by cases z)) rfl (es_ifT (et_B (ev_isi (T := "str") (b := true) (ev_var rfl) rfl (by decide +kernel))) rfl
      (es_retP (ev_addI (ev_var rfl) (ev_ixT (ev_ixT (d := .tup (intsD T.nv)) (ev_var rfl) ev_c rfl) (ev_index (ev_ixT (d := .ftup (strsD T.nums)) (ev_var rfl) ev_c rfl) (ev_var rfl) wb) (atI_ints hl))) rfl))
  | «at» q p =>
    obtain ⟨wq, wp⟩ := wb
    obtain ⟨h1, h2⟩ := rowV_len ok wq
    have h3 : 0 ≤ plc T g p := (plc_range ok hg wp).1
    have h4 : plc T g p ≤ T.n := (plc_range ok hg wp).2
    have small : T.n ≤ 20 := ok.small
    refine es_ifF (et_B (ev_isNonI (d := .tup [.v (.str q), encK p]) (ev_var rfl) fun H z => by cases z)) rfl (es_ifF (et_B (ev_isi (T := "tuple") (b := false) (ev_var rfl) rfl (by decide +kernel))) rfl
      (es_asgD (d := .tup (intsD (rowV T q ++ [0]))) (Ev.is (ev_catT (ev_ixT (d := .tup (intsD (rowV T q))) (ev_ixT (d := .tup (T.rv.map fun l => .tup (intsD l))) (ev_var rfl) ev_c rfl) (ev_index (ev_ixT (d := .ftup (strsD T.rows)) (ev_var rfl) ev_c rfl) (ev_ixT (d := .v (.str q)) (ev_var rfl) ev_c rfl) wq) (atI_nat (by rw [List.getElem?_map, h2]; rfl))) (ev_tup (ea_cons ev_c ea_nil)) ?_) ?_)
        (es_retP (ev_addI (ev_var rfl) (ev_ixT (ev_var rfl) (Ev.is (ev_cd (T, n, g, p) (ea_cons (ev_var rfl) (ea_cons (ev_var rfl) (ea_cons (ev_var rfl) (ea_cons (ev_ixT (d := encK p) (ev_var rfl) ev_c rfl) ea_nil)))) ⟨ok, wp⟩) (d' := .v (.int ((plc T g p).toNat : Nat))) ?_) (atI_ints ?_))) ?_)))
    · unfold intsD
      rw [List.length_map, h1, sizeLine_eq]
      show T.n + 1 ≤ 16777216
      omega
    · unfold intsD
      rw [List.map_append]
      rfl
    · show Dt.v (.int (plc T g p)) = .v (.int ((plc T g p).toNat : Nat))
      rw [Int.toNat_of_nonneg h3]
    · rw [List.length_append, h1]
      show (plc T g p).toNat < T.n + 1
      omega
    · rfl
/-! ### compared -/
theorem cmp_a (i j : Int) : (decide (V.int i = V.int j) || decide (V.bl (decide (i < j)) = V.bl true)) = decide (i ≤ j) := by
  by_cases h1 : i < j <;> by_cases h2 : i = j <;> simp [h1, h2] <;> omega
theorem cmp_b (i j : Int) : (decide (V.int i = V.int j) || decide (V.bl (decide (i < j)) = V.bl false)) = decide (j ≤ i) := by
  by_cases h1 : i < j <;> by_cases h2 : i = j <;> simp [h1, h2] <;> omega
theorem cmp_c (i j : Int) : (!decide (V.int i = V.int j) && decide (V.bl (decide (i < j)) = V.bl true)) = decide (i < j) := by
  by_cases h1 : i < j <;> by_cases h2 : i = j <;> simp [h1, h2] <;> omega
theorem cmp_d (i j : Int) : (!decide (V.int i = V.int j) && decide (V.bl (decide (i < j)) = V.bl false)) = decide (j < i) := by
  by_cases h1 : i < j <;> by_cases h2 : i = j <;> simp [h1, h2] <;> omega
theorem cmp_e (i j : Int) : decide (V.bl (decide (V.int i = V.int j)) = V.bl true) = decide (i = j) := by
  by_cases h2 : i = j <;> simp [h2]
theorem cmp_f (i j : Int) : decide (V.bl (decide (V.int i = V.int j)) = V.bl false) = decide (i ≠ j) := by
  by_cases h2 : i = j <;> simp [h2]
-- slots of _law_compared: 0 _law_word, 1 _law_one, 2 _law_other
abbrev N_q_compared : List Str := ["_law_word", "_law_one", "_law_other"]
theorem sc_q_compared : FnScope ["_law_word", "_law_one", "_law_other"] ["_law_word", "_law_one", "_law_other"] (defScope s_q_compared) := ⟨rfl, rfl, rfl, by decide +kernel, rfl, by decide +kernel, by decide +kernel⟩
def spCompared (K : PySem.W.Frag) : Sp := SpP K (fun a : Cw × Int × Int => [.v (.str a.1.str), .v (.int a.2.1), .v (.int a.2.2)]) (fun _ => True) (fun a => .v (.bl (cmpI a.1 a.2.1 a.2.2)))
theorem ok_compared (D : DefAt K mg "_law_compared" s_q_compared ["_law_word", "_law_one", "_law_other"]) : Cal P w K mg base 1 "_law_compared" ["_law_word", "_law_one", "_law_other"] (spCompared K) := by
  refine D.okP sc_q_compared (fun _ => rfl) fun f cdv A outer s H E hr => ⟨_, (pss_cons (ps_if (pt_cmpR (op_inS K) (pv 0) (pe_tup (pa_cons pe_str (pa_cons pe_str pa_nil))) (by rfl)) (pss_one (ps_ret (pe_or (pe_cmpR op_eq (pv 1) (pv 2) (nomark _)) (pe_one (pe_cmpR op_eq (pe_cmpR op_lt (pv 1) (pv 2) (nomark _)) (pe_cmpR op_eq (pv 0) pe_str (nomark _)) (nomark _)))))) pss_nil)
  (pss_cons (ps_if (pt_cmpR (op_inS K) (pv 0) (pe_tup (pa_cons pe_str (pa_cons pe_str pa_nil))) (by rfl)) (pss_one (ps_ret (pe_and (pe_cmpR op_ne (pv 1) (pv 2) (nomark _)) (pe_one (pe_cmpR op_eq (pe_cmpR op_lt (pv 1) (pv 2) (nomark _)) (pe_cmpR op_eq (pv 0) pe_str (nomark _)) (nomark _)))))) pss_nil)
  (pss_one (ps_ret (pe_cmpR op_eq (pe_cmpR op_eq (pv 1) (pv 2) (nomark _)) (pe_cmpR op_eq (pv 0) pe_str (nomark _)) (nomark _)))))), fun W a r hp => ?_⟩
  obtain ⟨c, i, j⟩ := a
  have di : ∀ i j : Int, decide (V.int i = V.int j) = decide (i = j) := fun i j => by simp
  refine es_ifR (et_in ["most", "least"] (ev_var rfl) ev_s2) (fun h => es_retP (ev_orV (ev_eq (ev_var rfl) (ev_var rfl) rfl) fun _ => ev_eq (ev_int (ev_var rfl) (ev_var rfl)) (ev_eq (ev_var rfl) ev_c rfl) rfl) ?_)
    fun h => es_ifR (et_in ["less", "more"] (ev_var rfl) ev_s2) (fun h' => es_retP (ev_andV (ev_ne (ev_var rfl) (ev_var rfl) rfl) fun _ => ev_eq (ev_int (ev_var rfl) (ev_var rfl)) (ev_eq (ev_var rfl) ev_c rfl) rfl) ?_)
      fun h' => es_retP (ev_eq (ev_eq (ev_var rfl) (ev_var rfl) rfl) (ev_eq (ev_var rfl) ev_c rfl) rfl) ?_
  · have h : wIn c.str ["most", "least"] = true := h
    show Dt.v (.bl (decide (V.int i = V.int j) || decide (V.bl (decide (i < j)) = V.bl (decide (V.str c.str = V.str "most"))))) = .v (.bl (cmpI c i j))
    cases c with
    | most => rw [show decide (V.str Cw.most.str = V.str "most") = true by decide +kernel, cmp_a]; rfl
    | least => rw [show decide (V.str Cw.least.str = V.str "most") = false by decide +kernel, cmp_b]; rfl
    | _ => exact absurd h (by decide +kernel)
  · have h' : wIn c.str ["less", "more"] = true := h'
    show Dt.v (.bl (!decide (V.int i = V.int j) && decide (V.bl (decide (i < j)) = V.bl (decide (V.str c.str = V.str "less"))))) = .v (.bl (cmpI c i j))
    cases c with
    | less => rw [show decide (V.str Cw.less.str = V.str "less") = true by decide +kernel, cmp_c]; rfl
    | more => rw [show decide (V.str Cw.more.str = V.str "less") = false by decide +kernel, cmp_d]; rfl
    | _ => exact absurd h' (by decide +kernel)
  · have h : wIn c.str ["most", "least"] = false := h
    have h' : wIn c.str ["less", "more"] = false := h'
    show Dt.v (.bl (decide (V.bl (decide (V.int i = V.int j)) = V.bl (decide (V.str c.str = V.str "same"))))) = .v (.bl (cmpI c i j))
    cases c with
    | same => rw [show decide (V.str Cw.same.str = V.str "same") = true by decide +kernel, cmp_e]; rfl
    | unlike => rw [show decide (V.str Cw.unlike.str = V.str "same") = false by decide +kernel, cmp_f]; rfl
    | most => exact absurd h (by decide +kernel)
    | least => exact absurd h (by decide +kernel)
    | less => exact absurd h' (by decide +kernel)
    | more => exact absurd h' (by decide +kernel)
end EP

/-! ## KF5 -/
namespace EP
open PySem PySem.Spec PyProof.Rows L2
theorem dom_upd {f : En} {k : Key} {j : Int} : ∀ k', andK (dom f) k k' → dom (updE f k j) k' := fun k' h => by
  unfold dom updE
  split
  · rfl
  · rename_i n
    rcases h with h | h
    · exact h
    · exact absurd h n
theorem EnOk.upd {T : Wl} {f : En} (h : EnOk T f) {k : Key} {j : Int} (h0 : 0 ≤ j) (h1 : j ≤ T.n) : EnOk T (updE f k j) := fun k' i e => by
  unfold updE at e
  split at e
  · have z := Option.some.inj e
    omega
  · exact h k' i e
theorem updE_updE (f : En) (k : Key) (a b : Int) : updE (updE f k a) k b = updE f k b := by
  funext k'
  unfold updE
  split <;> rfl
variable {P : Program} {w : World} {K : PySem.W.Frag} {mg : Str → Option Value} {base : Heap}
def spHolds (K : PySem.W.Frag) (m : Nat) : Sp := SpP K (fun a : Wl × Nat × En × Say => [castD a.1, standD a.1, enc a.2.2.2, .env a.2.1 a.2.2.1])
  (fun a => a.1.Ok ∧ EnOk a.1 a.2.2.1 ∧ (∃ q, Wf a.1 q m (dom a.2.2.1) a.2.2.2) ∧ a.2.1 + 100 * m ≤ 5000) (fun a => .v (.bl (sem a.1 a.2.2.1 a.2.2.2)))
def isEvery : Say → Bool
  | .each _ _ | .pairs _ _ _ => true
  | _ => false
def spEvery (K : PySem.W.Frag) (m : Nat) : Sp := SpP K (fun a : Wl × Nat × En × Say => [castD a.1, standD a.1, enc a.2.2.2, .env a.2.1 a.2.2.1])
  (fun a => isEvery a.2.2.2 = true ∧ a.1.Ok ∧ EnOk a.1 a.2.2.1 ∧ (∃ q, Wf a.1 q (m + 1) (dom a.2.2.1) a.2.2.2) ∧ a.2.1 + 100 * (m + 1) ≤ 5000) (fun a => .v (.bl (sem a.1 a.2.2.1 a.2.2.2)))

/-! ### everywhere -/
-- slots of _law_everywhere: 0 _law_cast, 1 _law_standing_here, 2 _law_saying_here, 3 _law_spots, 4 _law_many, 5 _law_k, 6 _law_inner, 7 _law_j
abbrev N_q_everywhere : List Str := ["_law_cast", "_law_standing_here", "_law_saying_here", "_law_spots", "_law_many", "_law_k", "_law_inner", "_law_j"]
theorem sc_q_everywhere : FnScope ["_law_cast", "_law_standing_here", "_law_saying_here", "_law_spots", "_law_many", "_law_k", "_law_inner", "_law_j"] ["_law_cast", "_law_standing_here", "_law_saying_here", "_law_spots"] (defScope s_q_everywhere) := ⟨rfl, rfl, rfl, by decide +kernel, rfl, by decide +kernel, by decide +kernel⟩
theorem ok_everywhere (M : Md K mg) (D : DefAt K mg "_law_everywhere" s_q_everywhere ["_law_cast", "_law_standing_here", "_law_saying_here", "_law_spots"]) (m lv : Nat)
    (C_q_holds : Cal P w K mg base lv "_law_holds" ["_law_cast", "_law_standing_here", "_law_saying_here", "_law_spots"] (spHolds K m)) :
    Cal P w K mg base (lv + 1) "_law_everywhere" ["_law_cast", "_law_standing_here", "_law_saying_here", "_law_spots"] (spEvery K m) := by
  refine D.okP (k := lv) sc_q_everywhere (fun _ => rfl) fun f cdv A outer s H E hr => ?_
  have hu := hu_of hr
  refine ⟨_, (pss_cons (ps_set (i := 4) sc_q_everywhere.nd rfl (by first | exact Or.inl rfl | exact Or.inr rfl) (pe_callB (cb_len K) (by rfl) M.len_ bt_len (pa_cons (pe_ix (ix_all K) (pe_ix (ix_all K) (pv 1) pe_int (fun _ _ => rfl)) pe_int (fun _ _ => rfl)) pa_nil)))
  (pss_cons (ps_for PassesOwn.never rfl (pi_range1 (by rfl) M.range_ (pa_cons (pv 4) pa_nil)) (pg_name (i := 5) sc_q_everywhere.nd rfl (by first | exact Or.inl rfl | exact Or.inr rfl)) (pss_cons (ps_set (i := 6) sc_q_everywhere.nd rfl (by first | exact Or.inl rfl | exact Or.inr rfl) (pe_callTy cb_dict (by rfl) M.dict_ bt_dict (pa_cons (pv 3) pa_nil)))
  (pss_cons (ps_dput hu (pv 6) (pe_ix (ix_all K) (pv 2) pe_int (fun _ _ => rfl)) (pv 5) rfl)
  (pss_cons (ps_if (PW.pt (pw_and (pt_cmpR op_eq (pe_ix (ix_all K) (pv 2) pe_int (fun _ _ => rfl)) pe_str (nomark _)) (pw_and1 (pt_not (pt_val (pe_cal C_q_holds hr (by omega) (by rfl) (pa_cons (pv 0) (pa_cons (pv 1) (pa_cons (pe_ix (ix_all K) (pv 2) pe_int (fun _ _ => rfl)) (pa_cons (pv 6) pa_nil)))))))))) (pss_one (ps_ret pe_bl)) pss_nil)
  (pss_one (ps_for PassesOwn.never rfl (pi_range2 (by rfl) M.range_ (pa_cons (pe_op (op_plus K) (pv 5) pe_int) (pa_cons (pe_op op_mul (pv 4) (pe_callTy cb_int (by rfl) M.int_ bt_int (pa_cons (pe_cmpR op_eq (pe_ix (ix_all K) (pv 2) pe_int (fun _ _ => rfl)) pe_str (nomark _)) pa_nil))) pa_nil))) (pg_name (i := 7) sc_q_everywhere.nd rfl (by first | exact Or.inl rfl | exact Or.inr rfl)) (pss_cons (ps_dput hu (pv 6) (pe_ix (ix_all K) (pv 2) pe_int (fun _ _ => rfl)) (pv 7) rfl)
  (pss_one (ps_if (pt_not (pt_val (pe_cal C_q_holds hr (by omega) (by rfl) (pa_cons (pv 0) (pa_cons (pv 1) (pa_cons (pe_ix (ix_all K) (pv 2) pe_int (fun _ _ => rfl)) (pa_cons (pv 6) pa_nil))))))) (pss_one (ps_ret pe_bl)) pss_nil)))))))))
  (pss_one (ps_ret pe_bl)))), fun W a r hp => ?_⟩
  obtain ⟨T, n, g, S⟩ := a
  have hp' : isEvery S = true ∧ T.Ok ∧ EnOk T g ∧ (∃ q, Wf T q (m + 1) (dom g) S) ∧ n + 100 * (m + 1) ≤ 5000 := hp
  clear hp
  obtain ⟨hj, ok, hg, ⟨q, wf⟩, hn⟩ := hp'
  have small : T.n ≤ 20 := ok.small
  show EvS W _ (startG 8 [castD T, standD T, enc S, .env n g]) r No (fun r' d => r ≤ r' ∧ d = .v (.bl (sem T g S)))
  refine es_asgD (ev_many ok (ev_var rfl)) ?_
  cases S with
  | each x s =>
    simp only [Wf] at wf
    let Γs : Option Dt → Option Dt → Option Dt → Gm := fun a b c => [some (castD T), some (standD T), some (enc (.each x s)), some (.env n g), some (.v (.int T.n)), a, b, c]
    have sm : ∀ i : Nat, i < T.n → sem T (updE g (.inr x) (i : Int)) s = false → sem T g (.each x s) = false := fun i hi e => by
      rw [sem]
      exact List.all_eq_false.mpr ⟨i, List.mem_range.mpr hi, by rw [e]; exact Bool.false_ne_true⟩
    refine es_seq (N1 := fun r' Γ' => r' = r ∧ (∃ a b c, Γ' = Γs a b c) ∧ ∀ i : Nat, i < T.n → sem T (updE g (.inr x) (i : Int)) s = true) (es_forR (Inv := fun k r' Γ' => r' = r ∧ (∃ a b c, Γ' = Γs a b c) ∧ ∀ i : Nat, i < k → sem T (updE g (.inr x) (i : Int)) s = true)
      (er_rng1 (ev_var rfl) (by omega)) ⟨rfl, ⟨_, _, _, rfl⟩, fun i h => absurd h (Nat.not_lt_zero _)⟩ (fun k r' Γ' hk z => ?_) fun r' Γ' z => z) fun r' Γ' z => ?_
    · obtain ⟨rfl, ⟨a, b, c, rfl⟩, hall⟩ := z
      have e0 : (0 : Int) + (k : Int) = (k : Int) := Int.zero_add _
      rw [e0]
      refine ed_copy (ND := fun r'' _ _ Γ' => r'' = r' ∧ (∃ c, Γ' = Γs (some (.v (.int k))) none c) ∧ sem T (updE g (.inr x) (k : Int)) s = true) (ev_var rfl) (ll rfl) ?_ ?_
      · refine ed_put (k := .inr x) (jj := (k : Int)) (ev_var rfl) (ev_ixT (d := .v (.str x)) (ev_var rfl) ev_c rfl) (by omega) (ed_seq (ND1 := fun r'' n' g' Γ' => r'' = r' ∧ Γ' = Γs (some (.v (.int k))) none c ∧ sem T (updE g (.inr x) (k : Int)) s = true)
          (ed_if (et_and (et_is (ev_ixT (d := .v (.str "each")) (ev_var rfl) ev_c rfl)) fun _ => et_not (et_B (ev_cd (T, n + 1, updE g (.inr x) (k : Int), s) (ea_cons (ev_var rfl) (ea_cons (ev_var rfl) (ea_cons (ev_ixT (d := enc s) (ev_var rfl) ev_c rfl) (ea_cons (ev_var rfl) ea_nil)))) ⟨ok, hg.upd (by omega) (by omega), ⟨false, wf.2.2.mono (Nat.le_refl _) (fun z => z) dom_upd⟩, by show n + 1 + 100 * m ≤ 5000; omega⟩)))
            (fun h => es_retP ev_c ?_) fun h => ?_) fun r'' n' g' Γ' z => ?_)
        · have h : (decide (V.str "each" = V.str "each") && !sem T (updE g (.inr x) (k : Int)) s) = true := h
          rw [show decide (V.str "each" = V.str "each") = true by decide +kernel, Bool.true_and] at h
          show Dt.v (.bl false) = .v (.bl (sem T g (.each x s)))
          rw [sm k hk (by simpa using h)]
        · have h : (decide (V.str "each" = V.str "each") && !sem T (updE g (.inr x) (k : Int)) s) = false := h
          rw [show decide (V.str "each" = V.str "each") = true by decide +kernel, Bool.true_and] at h
          exact ⟨rfl, rfl, by simpa using h⟩
        · obtain ⟨rfl, rfl, hs⟩ := z
          have e1 : (if decide (V.str "each" = V.str "pairs") = true then (1 : Int) else 0) = 0 := by rw [show decide (V.str "each" = V.str "pairs") = false by decide +kernel]; rfl
          refine ed_for (m := 0) (Inv := fun _ r3 _ _ Γ' => r3 = r'' ∧ Γ' = Γs (some (.v (.int k))) none c) (er_rng2 (lo := (k : Int) + 1) (hi := T.n * 0) (ev_addI (ev_var rfl) ev_c) (Ev.is (ev_intC (g := fun i j => .int (i * j)) (ev_var rfl) (ev_intB (ev_eq (ev_ixT (d := .v (.str "each")) (ev_var rfl) ev_c rfl) ev_c rfl)) (.inl (by omega))) (by rw [e1])) (by omega) (by omega)) ⟨rfl, rfl⟩ (by decide)
            (fun k' _ _ _ _ h => absurd h (Nat.not_lt_zero _)) fun r3 n3 g3 Γ3 z => ⟨z.1, ⟨c, z.2⟩, hs⟩
      · rintro r'' n' g' Γ' ⟨rfl, ⟨c, rfl⟩, hs⟩
        refine ⟨rfl, ⟨_, _, _, rfl⟩, fun i hi => ?_⟩
        by_cases e : i = k
        · rw [e]
          exact hs
        · exact hall i (by omega)
    · obtain ⟨rfl, ⟨a, b, c, rfl⟩, hall⟩ := z
      refine es_retP ev_c ?_
      show Dt.v (.bl true) = .v (.bl (sem T g (.each x s)))
      rw [sem, List.all_eq_true.mpr fun i hi => hall i (List.mem_range.mp hi)]
  | pairs x y s =>
    simp only [Wf] at wf
    let Γs : Option Dt → Option Dt → Option Dt → Gm := fun a b c => [some (castD T), some (standD T), some (enc (.pairs x y s)), some (.env n g), some (.v (.int T.n)), a, b, c]
    let so : Nat → Nat → Bool := fun i j => sem T (updE (updE g (.inr x) (i : Int)) (.inr y) (j : Int)) s
    have sm : ∀ i j : Nat, i < T.n → j < T.n → i < j → so i j = false → sem T g (.pairs x y s) = false := fun i j hi hj hij e => by
      rw [sem]
      refine List.all_eq_false.mpr ⟨i, List.mem_range.mpr hi, ?_⟩
      rw [Bool.not_eq_true]
      refine List.all_eq_false.mpr ⟨j, List.mem_range.mpr hj, ?_⟩
      rw [show sem T (updE (updE g (.inr x) (i : Int)) (.inr y) (j : Int)) s = false from e, decide_eq_true hij]
      exact Bool.false_ne_true
    refine es_seq (N1 := fun r' Γ' => r' = r ∧ (∃ a b c, Γ' = Γs a b c) ∧ ∀ i j : Nat, i < T.n → j < T.n → i < j → so i j = true) (es_forR (Inv := fun k r' Γ' => r' = r ∧ (∃ a b c, Γ' = Γs a b c) ∧ ∀ i j : Nat, i < k → j < T.n → i < j → so i j = true)
      (er_rng1 (ev_var rfl) (by omega)) ⟨rfl, ⟨_, _, _, rfl⟩, fun i j h => absurd h (Nat.not_lt_zero _)⟩ (fun k r' Γ' hk z => ?_) fun r' Γ' z => z) fun r' Γ' z => ?_
    · obtain ⟨rfl, ⟨a, b, c, rfl⟩, hall⟩ := z
      have e0 : (0 : Int) + (k : Int) = (k : Int) := Int.zero_add _
      rw [e0]
      refine ed_copy (ND := fun r'' _ _ Γ' => r'' = r' ∧ (∃ c, Γ' = Γs (some (.v (.int k))) none c) ∧ ∀ j : Nat, j < T.n → k < j → so k j = true) (ev_var rfl) (ll rfl) ?_ ?_
      · refine ed_put (k := .inr x) (jj := (k : Int)) (ev_var rfl) (ev_ixT (d := .v (.str x)) (ev_var rfl) ev_c rfl) (by omega) (ed_seq (ND1 := fun r'' n' g' Γ' => r'' = r' ∧ n' = n + 1 ∧ g' = updE g (.inr x) (k : Int) ∧ Γ' = Γs (some (.v (.int k))) none c)
          (ed_if (bb := false) (EvT.is (et_and (b := true) (et_is (ev_ixT (d := .v (.str "pairs")) (ev_var rfl) ev_c rfl)) fun h => absurd h (by decide +kernel)) (by rw [show decide (V.str "pairs" = V.str "each") = false by decide +kernel]; rfl))
            (fun h => Bool.noConfusion h) fun h => ⟨rfl, rfl, rfl, rfl⟩) fun r'' n' g' Γ' z => ?_)
        obtain ⟨rfl, rfl, rfl, rfl⟩ := z
        have e1 : (if decide (V.str "pairs" = V.str "pairs") = true then (1 : Int) else 0) = 1 := by rw [show decide (V.str "pairs" = V.str "pairs") = true by decide +kernel]; rfl
        refine ed_for (m := T.n - (k + 1)) (Inv := fun kk r3 n3 g3 Γ' => r3 = r'' ∧ n3 = n + 1 + kk ∧ (∀ j : Int, updE g3 (.inr y) j = updE (updE g (.inr x) (k : Int)) (.inr y) j) ∧ (∃ c, Γ' = Γs (some (.v (.int k))) none c) ∧ ∀ j : Nat, j < k + 1 + kk → k < j → so k j = true)
          (er_rng2 (lo := (k : Int) + 1) (hi := T.n) (ev_addI (ev_var rfl) ev_c) (Ev.is (ev_intC (g := fun i j => .int (i * j)) (ev_var rfl) (ev_intB (ev_eq (ev_ixT (d := .v (.str "pairs")) (ev_var rfl) ev_c rfl) ev_c rfl)) (.inl (by omega))) (by rw [e1, Int.mul_one])) (by omega) (by omega))
          ⟨rfl, rfl, fun _ => rfl, ⟨c, rfl⟩, fun j h1 h2 => by omega⟩ (by decide) (fun kk r3 n3 g3 Γ3 hkk z => ?_) fun r3 n3 g3 Γ3 z => ⟨z.1, z.2.2.2.1, fun j h1 h2 => z.2.2.2.2 j (by omega) h2⟩
        obtain ⟨rfl, rfl, hg3, ⟨c', rfl⟩, hall3⟩ := z
        have e2 : (k : Int) + 1 + (kk : Int) = ((k + 1 + kk : Nat) : Int) := by omega
        rw [e2]
        refine ed_put (k := .inr y) (jj := ((k + 1 + kk : Nat) : Int)) (ev_var rfl) (ev_ixT (d := .v (.str y)) (ev_var rfl) ev_c rfl) (by omega) ?_
        rw [hg3]
        refine ed_if (et_not (et_B (ev_cd (T, n + 1 + kk + 1, updE (updE g (.inr x) (k : Int)) (.inr y) ((k + 1 + kk : Nat) : Int), s) (ea_cons (ev_var rfl) (ea_cons (ev_var rfl) (ea_cons (ev_ixT (d := enc s) (ev_var rfl) ev_c rfl) (ea_cons (ev_var rfl) ea_nil))))
          ⟨ok, (hg.upd (by omega) (by omega)).upd (by omega) (by omega), ⟨false, wf.2.2.2.2.mono (Nat.le_refl _) (fun z => z) fun k' h => dom_upd k' (andK.mono dom_upd _ k' h)⟩, by show n + 1 + kk + 1 + 100 * m ≤ 5000; omega⟩)))
          (fun h => es_retP ev_c ?_) fun h => ⟨rfl, rfl, fun j => updE_updE _ _ _ _, ⟨_, rfl⟩, fun j h1 h2 => ?_⟩
        · have h : (!so k (k + 1 + kk)) = true := h
          show Dt.v (.bl false) = .v (.bl (sem T g (.pairs x y s)))
          rw [sm k (k + 1 + kk) hk (by omega) (by omega) (by simpa using h)]
        · have h : (!so k (k + 1 + kk)) = false := h
          by_cases e : j = k + 1 + kk
          · rw [e]
            simpa using h
          · exact hall3 j (by omega) h2
      · rintro r'' n' g' Γ' ⟨rfl, ⟨c, rfl⟩, hs⟩
        refine ⟨rfl, ⟨_, _, _, rfl⟩, fun i j hi hj hij => ?_⟩
        by_cases e : i = k
        · subst e
          exact hs j hj hij
        · exact hall i j (by omega) hj hij
    · obtain ⟨rfl, ⟨a, b, c, rfl⟩, hall⟩ := z
      refine es_retP ev_c ?_
      show Dt.v (.bl true) = .v (.bl (sem T g (.pairs x y s)))
      rw [sem, List.all_eq_true.mpr fun i hi => List.all_eq_true.mpr fun j hj => ?_]
      by_cases hij : i < j
      · rw [show sem T (updE (updE g (.inr x) (i : Int)) (.inr y) (j : Int)) s = true from hall i j (List.mem_range.mp hi) (List.mem_range.mp hj) hij]
        exact Bool.or_true _
      · rw [decide_eq_false hij]
        rfl
  | _ => exact absurd hj Bool.false_ne_true
end EP

/-! ## KF6 -/
namespace EP
open PySem PySem.Spec PyProof.Rows L2
def blsD (bs : List Bool) : List Dt := bs.map fun b => .v (.bl b)
theorem blsD_flat : ∀ bs : List Bool, (blsD bs).all isV = true
  | [] => rfl
  | _ :: bs => by
    show (true && (blsD bs).all isV) = true
    rw [blsD_flat bs]
    rfl
theorem inD_bls (b : Bool) : ∀ bs : List Bool, inD (.bl b) (blsD bs) = bs.any (· == b)
  | [] => rfl
  | c :: bs => by
    show ((c == b) || inD (.bl b) (blsD bs)) = _
    rw [inD_bls b bs, List.any_cons]
theorem all_of (bs : List Bool) : (!bs.any (· == false)) = bs.all id := by
  induction bs with
  | nil => rfl
  | cons c bs ih =>
    rw [List.any_cons, List.all_cons, Bool.not_or, ih]
    cases c <;> rfl
theorem any_of (bs : List Bool) : bs.any (· == true) = bs.any id := by
  induction bs with
  | nil => rfl
  | cons c bs ih =>
    rw [List.any_cons, List.any_cons, ih]
    cases c <;> rfl
theorem zip_all (c : Int → Int → Bool) : ∀ l : List Int, ((l.dropLast.zip l.tail).map fun p => c p.1 p.2).all id = (List.range (l.length - 1)).all fun i => c (l.getD i 0) (l.getD (i + 1) 0)
  | [] => rfl
  | [a] => rfl
  | a :: b :: l => by
    have ih := zip_all c (b :: l)
    show (c a b && (((b :: l).dropLast.zip (b :: l).tail).map fun p => c p.1 p.2).all id) = (List.range (l.length + 1)).all _
    rw [ih, List.range_succ_eq_map, List.all_cons, List.all_map]
    rfl
theorem cut_tail (ds : List Dt) : cutD ds (some 1) none = ds.tail := by
  unfold cutD
  rw [show HT.sIx ds.length 0 (some 1) = min 1 ds.length from HT.sIx_nat ds.length 0 1, HT.sIx_none]
  cases ds with
  | nil => rfl
  | cons d ds =>
    rw [show min 1 (d :: ds).length = 1 by rw [List.length_cons]; omega]
    show List.take ((d :: ds).length - 1) ds = ds
    rw [List.length_cons, Nat.add_sub_cancel, List.take_length]
theorem cut_init (ds : List Dt) : cutD ds none (some (-1)) = ds.dropLast := by
  unfold cutD
  rw [HT.sIx_none, List.drop_zero, Nat.sub_zero, List.dropLast_eq_take]
  congr 1
  show (if (-1 : Int) < 0 then ((-1 : Int) + (ds.length : Int)).toNat else min (-1 : Int).toNat ds.length) = ds.length - 1
  rw [if_pos (by decide)]
  omega
theorem zip_ints (l : List Int) : zipD (cutD (intsD l) none (some (-1))) (cutD (intsD l) (some 1) none) = (l.dropLast.zip l.tail).map fun p => Dt.tup [.v (.int p.1), .v (.int p.2)] := by
  rw [cut_tail, cut_init]
  unfold zipD intsD
  rw [← List.map_tail, ← List.map_dropLast, List.zip_map, List.map_map]
  rfl
variable {P : Program} {w : World} {K : PySem.W.Frag} {mg : Str → Option Value} {base : Heap}
section
variable {W : Wd K} {Γ : Gm} {r r1 r2 : Nat} {ta tb te : TE}
theorem ev_inB {neg b : Bool} {bs : List Bool} (ha : Ev W ta Γ r r1 (At (.v (.bl b)))) (hb : Ev W tb Γ r1 r2 (At (.lst (blsD bs)))) : Ev W (tOp (rIn K neg) ta tb) Γ r r2 (At (.v (.bl (if neg then !(bs.any (· == b)) else bs.any (· == b))))) :=
  Ev.is (ev_inL ha hb rfl (blsD_flat bs)) (by rw [inD_bls])
end
theorem wfT {T : Wl} {q : Bool} {n : Nat} {D : Key → Prop} {s : Say} (h : Wf T q n D s) : ∃ q, Wf T q n D s := ⟨q, h⟩

/-! ### holds -/
-- slots of _law_holds: 0 _law_cast, 1 _law_standing_here, 2 _law_saying_here, 3 _law_spots, 4 _law_word, 5 _law_one, 6 _law_other, 7 _law_some, 8 _law_found, 9 _law_row, 10 _law_part
abbrev N_q_holds : List Str := ["_law_cast", "_law_standing_here", "_law_saying_here", "_law_spots", "_law_word", "_law_one", "_law_other", "_law_some", "_law_found", "_law_row", "_law_part"]
theorem sc_q_holds : FnScope ["_law_cast", "_law_standing_here", "_law_saying_here", "_law_spots", "_law_word", "_law_one", "_law_other", "_law_some", "_law_found", "_law_row", "_law_part"] ["_law_cast", "_law_standing_here", "_law_saying_here", "_law_spots"] (defScope s_q_holds) := ⟨rfl, rfl, rfl, by decide +kernel, rfl, by decide +kernel, by decide +kernel⟩
theorem ok_holds (M : Md K mg) (D : DefAt K mg "_law_holds" s_q_holds ["_law_cast", "_law_standing_here", "_law_saying_here", "_law_spots"]) (D2 : DefAt K mg "_law_everywhere" s_q_everywhere ["_law_cast", "_law_standing_here", "_law_saying_here", "_law_spots"])
    (C_q_place : Cal P w K mg base 1 "_law_place" ["_law_cast", "_law_standing_here", "_law_spots", "_law_name"] (spPlace K)) (C_q_worth : Cal P w K mg base 2 "_law_worth" ["_law_cast", "_law_standing_here", "_law_spots", "_law_one"] (spWorth K))
    (C_q_compared : Cal P w K mg base 1 "_law_compared" ["_law_word", "_law_one", "_law_other"] (spCompared K)) :
    ∀ m : Nat, Cal P w K mg base (2 * m + 3) "_law_holds" ["_law_cast", "_law_standing_here", "_law_saying_here", "_law_spots"] (spHolds K m)
  | 0 => D.none sc_q_holds (fun _ => rfl) fun a h => by
    obtain ⟨_, _, ⟨_, h⟩, _⟩ := h
    exact wf0 h
  | m + 1 => by
    have C_q_holds := ok_holds M D D2 C_q_place C_q_worth C_q_compared m
    have C_q_everywhere := ok_everywhere M D2 m (2 * m + 3) C_q_holds
    refine D.okP (k := 2 * m + 4) sc_q_holds (fun _ => rfl) fun f cdv A outer s H E hr => ?_
    refine ⟨_, (pss_cons (ps_set (i := 4) sc_q_holds.nd rfl (by first | exact Or.inl rfl | exact Or.inr rfl) (pe_ix (ix_all K) (pv 2) pe_int (fun _ _ => rfl)))
  (pss_cons (ps_if (pt_cmpR (op_inS K) (pv 4) (pe_tup (pa_cons pe_str (pa_cons pe_str (pa_cons pe_str (pa_cons pe_str pa_nil))))) (by rfl)) (pss_cons (ps_asg (pe_lc (own := [("_law_part", 10)]) rfl sc_q_holds.nd (pi_seq K (pe_slice (sl_cut K) (pv 2) (po_some pe_int) po_none)) (blkOk_by (N := N_q_holds) (sc := defScope s_q_holds) (by decide +kernel)) (fun _ _ _ _ _ => (pg_name (i := 10) sc_q_holds.nd rfl (by first | exact Or.inl rfl | exact Or.inr rfl))) (fun _ _ _ _ _ => pts_nil) (fun _ _ _ _ _ => (pe_cal C_q_worth hr (by omega) (by rfl) (pa_cons (pv 0) (pa_cons (pv 1) (pa_cons (pv 3) (pa_cons (pv 10) pa_nil))))))) (pg_unlK K (n := 2) rfl (pgs_cons (pg_name (i := 5) sc_q_holds.nd rfl (by first | exact Or.inl rfl | exact Or.inr rfl)) (pgs_cons (pg_name (i := 6) sc_q_holds.nd rfl (by first | exact Or.inl rfl | exact Or.inr rfl)) pgs_nil))))
  (pss_one (ps_ret (pe_cal C_q_compared hr (by omega) (by rfl) (pa_cons (pv 4) (pa_cons (pv 5) (pa_cons (pv 6) pa_nil))))))) pss_nil)
  (pss_cons (ps_if (pt_cmpR (op_inS K) (pv 4) (pe_tup (pa_cons pe_str (pa_cons pe_str (pa_cons pe_str pa_nil)))) (by rfl)) (pss_cons (ps_asg (pe_lc (own := [("_law_part", 10)]) rfl sc_q_holds.nd (pi_seq K (pe_slice (sl_cut K) (pv 2) (po_some pe_int) po_none)) (blkOk_by (N := N_q_holds) (sc := defScope s_q_holds) (by decide +kernel)) (fun _ _ _ _ _ => (pg_name (i := 10) sc_q_holds.nd rfl (by first | exact Or.inl rfl | exact Or.inr rfl))) (fun _ _ _ _ _ => pts_nil) (fun _ _ _ _ _ => (pe_cal C_q_place hr (by omega) (by rfl) (pa_cons (pv 0) (pa_cons (pv 1) (pa_cons (pv 3) (pa_cons (pv 10) pa_nil))))))) (pg_unlK K (n := 2) rfl (pgs_cons (pg_name (i := 5) sc_q_holds.nd rfl (by first | exact Or.inl rfl | exact Or.inr rfl)) (pgs_cons (pg_name (i := 6) sc_q_holds.nd rfl (by first | exact Or.inl rfl | exact Or.inr rfl)) pgs_nil))))
  (pss_one (ps_ret (pe_ix (ix_all K) (pe_lst (pa_cons (pe_cmpR op_lt (pv 5) (pv 6) (nomark _)) (pa_cons (pe_cmpR op_eq (pv 5) (pv 6) (nomark _)) (pa_cons (pe_cmpR op_eq (pe_op (op_plus K) (pv 5) pe_int) (pv 6) (nomark _)) pa_nil)))) (pe_index K (pe_ftup (pa_cons pe_str (pa_cons pe_str (pa_cons pe_str pa_nil)))) (pa_cons (pv 4) pa_nil)) (fun _ _ => rfl))))) pss_nil)
  (pss_cons (ps_if (pt_cmpR (op_inS K) (pv 4) (pe_tup (pa_cons pe_str (pa_cons pe_str (pa_cons pe_str (pa_cons pe_str pa_nil))))) (by rfl)) (pss_cons (ps_set (i := 7) sc_q_holds.nd rfl (by first | exact Or.inl rfl | exact Or.inr rfl) (pe_ifExp (pt_cmpR (op_inS K) (pv 4) (pe_tup (pa_cons pe_str (pa_cons pe_str pa_nil))) (by rfl)) (pe_ix (ix_all K) (pv 2) pe_int (fun _ _ => rfl)) (pe_slice (sl_cut K) (pv 2) (po_some pe_int) po_none)))
  (pss_cons (ps_setLc (i := 8) (own := [("_law_part", 10)]) rfl sc_q_holds.nd rfl rfl (sw_true rfl rfl rfl (by decide +kernel)) (pi_seq K (pv 7)) (blkOk_by (N := N_q_holds) (sc := defScope s_q_holds) (by decide +kernel)) (fun _ _ _ _ _ => (pg_name (i := 10) sc_q_holds.nd rfl (by first | exact Or.inl rfl | exact Or.inr rfl))) (fun _ _ _ _ _ => pts_nil) (fun _ _ _ _ _ => (pe_cal C_q_holds hr (by omega) (by rfl) (pa_cons (pv 0) (pa_cons (pv 1) (pa_cons (pv 10) (pa_cons (pv 3) pa_nil)))))))
  (pss_cons (ps_if (pt_cmpR (op_inS K) (pv 4) (pe_tup (pa_cons pe_str (pa_cons pe_str pa_nil))) (by rfl)) (pss_one (ps_asg (pe_not (pe_ix (ix_all K) (pv 8) pe_int (fun _ _ => rfl))) (pg_sub (pv 8) pe_int set_list))) pss_nil)
  (pss_one (ps_ret (pe_ifExp (pt_cmpR op_eq (pv 4) pe_str (nomark _)) (pe_cmpR (op_niS K) pe_bl (pv 8) (by rfl)) (pe_cmpR (op_inS K) pe_bl (pv 8) (by rfl)))))))) pss_nil)
  (pss_cons (ps_if (pt_cmpR op_eq (pv 4) pe_str (nomark _)) (pss_cons (ps_set (i := 9) sc_q_holds.nd rfl (by first | exact Or.inl rfl | exact Or.inr rfl) (pe_ix (ix_all K) (pe_ix (ix_all K) (pv 1) pe_int (fun _ _ => rfl)) (pe_index K (pe_ix (ix_all K) (pv 0) pe_int (fun _ _ => rfl)) (pa_cons (pe_ix (ix_all K) (pv 2) pe_int (fun _ _ => rfl)) pa_nil)) (fun _ _ => rfl)))
  (pss_one (ps_ret (pe_cmpR (op_niS K) pe_bl (pe_lc (own := [("_law_one", 5), ("_law_other", 6)]) rfl sc_q_holds.nd (pi_zip2 K (by rfl) M.zip_ (pa_cons (pe_slice (sl_cut K) (pv 9) po_none (po_some (pe_un un_neg pe_int))) (pa_cons (pe_slice (sl_cut K) (pv 9) (po_some pe_int) po_none) pa_nil))) (blkOk_by (N := N_q_holds) (sc := defScope s_q_holds) (by decide +kernel)) (fun _ _ _ _ _ => (pg_tupK K (n := 2) rfl (pgs_cons (pg_name (i := 5) sc_q_holds.nd rfl (by first | exact Or.inl rfl | exact Or.inr rfl)) (pgs_cons (pg_name (i := 6) sc_q_holds.nd rfl (by first | exact Or.inl rfl | exact Or.inr rfl)) pgs_nil)))) (fun _ _ _ _ _ => pts_nil) (fun _ _ _ _ _ => (pe_cal C_q_compared hr (by omega) (by rfl) (pa_cons (pe_ix (ix_all K) (pv 2) pe_int (fun _ _ => rfl)) (pa_cons (pv 5) (pa_cons (pv 6) pa_nil)))))) (by rfl))))) pss_nil)
  (pss_one (ps_ret (pe_cal C_q_everywhere hr (by omega) (by rfl) (pa_cons (pv 0) (pa_cons (pv 1) (pa_cons (pv 2) (pa_cons (pv 3) pa_nil)))))))))))), fun W a r hp => ?_⟩
    obtain ⟨T, n, g, S⟩ := a
    have hp' : T.Ok ∧ EnOk T g ∧ (∃ q, Wf T q (m + 1) (dom g) S) ∧ n + 100 * (m + 1) ≤ 5000 := hp
    clear hp
    obtain ⟨ok, hg, ⟨q, wf⟩, hn⟩ := hp'
    show EvS W _ (startG 11 [castD T, standD T, enc S, .env n g]) r No (fun r' d => r ≤ r' ∧ d = .v (.bl (sem T g S)))
    cases S with
    | cmp c a b =>
      simp only [Wf] at wf
      refine es_asgD (ev_ixT (d := .v (.str c.str)) (ev_var rfl) ev_c rfl) (es_ifT (et_in ["most", "less", "same", "unlike"] (ev_var rfl) ev_s4) (by cases c <;> first | decide +kernel | exact absurd wf.1 Bool.false_ne_true)
        (es_asgG (el_map (l := [a, b]) (gg := encSm) (hh := fun a => .v (.int (wrt T g a))) (ei_sqT (ev_slT (ev_var rfl) (eo_some ev_c) eo_none)) rfl (ll rfl)
          fun W' x r' hx => ⟨_, eg_name (by decide), ev_cd (T, n, g, x) (ea_cons (ev_var rfl) (ea_cons (ev_var rfl) (ea_cons (ev_var rfl) (ea_cons (ev_var rfl) ea_nil)))) ⟨ok, hg, by
            rcases List.mem_cons.mp hx with h | h
            · rw [h]; exact wf.2.1
            · rw [List.mem_singleton.mp h]; exact wf.2.2⟩⟩) (eg_lst2 (vs := [5, 6]) (by decide) (by decide))
          (es_retP (ev_cd (c, wrt T g a, wrt T g b) (ea_cons (ev_var rfl) (ea_cons (ev_var rfl) (ea_cons (ev_var rfl) ea_nil))) trivial) (by rw [sem]))))
    | pl v p k =>
      simp only [Wf] at wf
      refine es_asgD (ev_ixT (d := .v (.str v.str)) (ev_var rfl) ev_c rfl) (es_ifF (et_in ["most", "less", "same", "unlike"] (ev_var rfl) ev_s4) (by cases v <;> decide +kernel) (es_ifT (et_in ["ahead", "here", "next"] (ev_var rfl) ev_s3) (by cases v <;> decide +kernel)
        (es_asgG (el_map (l := [p, k]) (gg := encK) (hh := fun a => .v (.int (plc T g a))) (ei_sqT (ev_slT (ev_var rfl) (eo_some ev_c) eo_none)) rfl (ll rfl)
          fun W' x r' hx => ⟨_, eg_name (by decide), ev_cd (T, n, g, x) (ea_cons (ev_var rfl) (ea_cons (ev_var rfl) (ea_cons (ev_var rfl) (ea_cons (ev_var rfl) ea_nil)))) ⟨ok, by
            rcases List.mem_cons.mp hx with h | h
            · rw [h]; exact wf.1
            · rw [List.mem_singleton.mp h]; exact wf.2⟩⟩) (eg_lst2 (vs := [5, 6]) (by decide) (by decide))
          (es_retP (ev_ixL (d := .v (.bl (plI v (plc T g p) (plc T g k)))) (ev_lst (ea_cons (ev_int (ev_var rfl) (ev_var rfl)) (ea_cons (ev_eq (ev_var rfl) (ev_var rfl) rfl) (ea_cons (ev_eq (ev_addI (ev_var rfl) ev_c) (ev_var rfl) rfl) ea_nil))))
            (ev_index (ys := ["ahead", "here", "next"]) (ev_ftup (ea_cons ev_c (ea_cons ev_c (ea_cons ev_c ea_nil)))) (ev_var rfl) (by cases v <;> decide +kernel)) ?_) (by rw [sem])))))
      have e : ∀ i j : Int, decide (V.int i = V.int j) = decide (i = j) := fun i j => by simp
      rw [e, e]
      cases v with
      | ahead => rw [show List.idxOf Pw.ahead.str ["ahead", "here", "next"] = 0 by decide +kernel]; rfl
      | here => rw [show List.idxOf Pw.here.str ["ahead", "here", "next"] = 1 by decide +kernel]; rfl
      | next => rw [show List.idxOf Pw.next.str ["ahead", "here", "next"] = 2 by decide +kernel]; rfl
    | not s =>
      simp only [Wf] at wf
      refine es_asgD (ev_ixT (d := .v (.str "not")) (ev_var rfl) ev_c rfl) (es_ifF (et_in ["most", "less", "same", "unlike"] (ev_var rfl) ev_s4) (by decide +kernel) (es_ifF (et_in ["ahead", "here", "next"] (ev_var rfl) ev_s3) (by decide +kernel) (es_ifT (et_in ["not", "and", "or", "if"] (ev_var rfl) ev_s4) (by decide +kernel)
        (es_asgD (d := .tup [enc s]) (ev_if (et_in ["and", "or"] (ev_var rfl) ev_s2) (fun h => absurd h (by decide +kernel)) fun _ => ev_slE (ev_var rfl) (eo_some ev_c) eo_none rfl)
        (es_flip (bs := [sem T g s]) (c := true) (b0 := sem T g s) (el_mapF (l := [s]) (gg := enc) (hh := fun s => .v (.bl (sem T g s))) (ei_sqT (ev_var rfl)) rfl (ll rfl)
          fun W' x r' hx => ⟨_, eg_name (by decide), ev_cd (T, n, g, x) (ea_cons (ev_var rfl) (ea_cons (ev_var rfl) (ea_cons (ev_var rfl) (ea_cons (ev_var rfl) ea_nil)))) ⟨ok, hg, by rw [List.mem_singleton.mp hx]; exact wfT wf, by show n + 100 * m ≤ 5000; omega⟩⟩)
          (EvT.is (et_in ["not", "if"] (ev_var rfl) ev_s2) (by decide +kernel)) (fun _ => rfl) (ll rfl)
          (es_ret (ev_if (P := At (.v (.bl (sem T g (.not s))))) (et_is (ev_var rfl)) (fun h => absurd h (by decide +kernel)) fun _ => Ev.is (ev_inB (neg := false) (bs := [!sem T g s]) ev_c (ev_var rfl)) ?_) fun _ e => ⟨Nat.le_refl _, e⟩))))))
      rw [any_of, sem]
      show Dt.v (.bl (!sem T g s || false)) = _
      rw [Bool.or_false]
    | imp s t =>
      simp only [Wf] at wf
      refine es_asgD (ev_ixT (d := .v (.str "if")) (ev_var rfl) ev_c rfl) (es_ifF (et_in ["most", "less", "same", "unlike"] (ev_var rfl) ev_s4) (by decide +kernel) (es_ifF (et_in ["ahead", "here", "next"] (ev_var rfl) ev_s3) (by decide +kernel) (es_ifT (et_in ["not", "and", "or", "if"] (ev_var rfl) ev_s4) (by decide +kernel)
        (es_asgD (d := .tup [enc s, enc t]) (ev_if (et_in ["and", "or"] (ev_var rfl) ev_s2) (fun h => absurd h (by decide +kernel)) fun _ => ev_slE (ev_var rfl) (eo_some ev_c) eo_none rfl)
        (es_flip (bs := [sem T g s, sem T g t]) (c := true) (b0 := sem T g s) (el_mapF (l := [s, t]) (gg := enc) (hh := fun s => .v (.bl (sem T g s))) (ei_sqT (ev_var rfl)) rfl (ll rfl)
          fun W' x r' hx => ⟨_, eg_name (by decide), ev_cd (T, n, g, x) (ea_cons (ev_var rfl) (ea_cons (ev_var rfl) (ea_cons (ev_var rfl) (ea_cons (ev_var rfl) ea_nil)))) ⟨ok, hg, by
            rcases List.mem_cons.mp hx with h | h
            · rw [h]; exact wfT wf.1
            · rw [List.mem_singleton.mp h]; exact wfT wf.2, by show n + 100 * m ≤ 5000; omega⟩⟩)
          (EvT.is (et_in ["not", "if"] (ev_var rfl) ev_s2) (by decide +kernel)) (fun _ => rfl) (ll rfl)
          (es_ret (ev_if (P := At (.v (.bl (sem T g (.imp s t))))) (et_is (ev_var rfl)) (fun h => absurd h (by decide +kernel)) fun _ => Ev.is (ev_inB (neg := false) (bs := [!sem T g s, sem T g t]) ev_c (ev_var rfl)) ?_) fun _ e => ⟨Nat.le_refl _, e⟩))))))
      rw [any_of, sem]
      show Dt.v (.bl (!sem T g s || (sem T g t || false))) = _
      rw [Bool.or_false]
    | and l =>
      simp only [Wf] at wf
      refine es_asgD (ev_ixT (d := .v (.str "and")) (ev_var rfl) ev_c rfl) (es_ifF (et_in ["most", "less", "same", "unlike"] (ev_var rfl) ev_s4) (by decide +kernel) (es_ifF (et_in ["ahead", "here", "next"] (ev_var rfl) ev_s3) (by decide +kernel) (es_ifT (et_in ["not", "and", "or", "if"] (ev_var rfl) ev_s4) (by decide +kernel)
        (es_asgD (d := .tup (encL l)) (ev_if (et_in ["and", "or"] (ev_var rfl) ev_s2) (fun _ => ev_ixT (d := .tup (encL l)) (ev_var rfl) ev_c rfl) fun h => absurd h (by decide +kernel))
        (es_flip (bs := l.map (sem T g)) (c := false) (b0 := false) (by
            rw [List.map_map]
            exact el_mapF (l := l) (gg := enc) (hh := fun s => .v (.bl (sem T g s))) (ei_sqT (ev_var rfl)) (encL_map l) (by omega)
              fun W' x r' hx => ⟨_, eg_name (by decide), ev_cd (T, n, g, x) (ea_cons (ev_var rfl) (ea_cons (ev_var rfl) (ea_cons (ev_var rfl) (ea_cons (ev_var rfl) ea_nil)))) ⟨ok, hg, wfT (wf.2 x hx), by show n + 100 * m ≤ 5000; omega⟩⟩)
          (EvT.is (et_in ["not", "if"] (ev_var rfl) ev_s2) (by decide +kernel)) (fun h => Bool.noConfusion h) (ll rfl)
          (es_ret (ev_if (P := At (.v (.bl (sem T g (.and l))))) (et_is (ev_var rfl)) (fun _ => Ev.is (ev_inB (neg := true) (bs := l.map (sem T g)) ev_c (ev_var rfl)) ?_) fun h => absurd h (by decide +kernel)) fun _ e => ⟨Nat.le_refl _, e⟩))))))
      rw [if_pos rfl, all_of, sem, semA_all, List.all_map]
      rfl
    | or l =>
      simp only [Wf] at wf
      refine es_asgD (ev_ixT (d := .v (.str "or")) (ev_var rfl) ev_c rfl) (es_ifF (et_in ["most", "less", "same", "unlike"] (ev_var rfl) ev_s4) (by decide +kernel) (es_ifF (et_in ["ahead", "here", "next"] (ev_var rfl) ev_s3) (by decide +kernel) (es_ifT (et_in ["not", "and", "or", "if"] (ev_var rfl) ev_s4) (by decide +kernel)
        (es_asgD (d := .tup (encL l)) (ev_if (et_in ["and", "or"] (ev_var rfl) ev_s2) (fun _ => ev_ixT (d := .tup (encL l)) (ev_var rfl) ev_c rfl) fun h => absurd h (by decide +kernel))
        (es_flip (bs := l.map (sem T g)) (c := false) (b0 := false) (by
            rw [List.map_map]
            exact el_mapF (l := l) (gg := enc) (hh := fun s => .v (.bl (sem T g s))) (ei_sqT (ev_var rfl)) (encL_map l) (by omega)
              fun W' x r' hx => ⟨_, eg_name (by decide), ev_cd (T, n, g, x) (ea_cons (ev_var rfl) (ea_cons (ev_var rfl) (ea_cons (ev_var rfl) (ea_cons (ev_var rfl) ea_nil)))) ⟨ok, hg, wfT (wf.2 x hx), by show n + 100 * m ≤ 5000; omega⟩⟩)
          (EvT.is (et_in ["not", "if"] (ev_var rfl) ev_s2) (by decide +kernel)) (fun h => Bool.noConfusion h) (ll rfl)
          (es_ret (ev_if (P := At (.v (.bl (sem T g (.or l))))) (et_is (ev_var rfl)) (fun h => absurd h (by decide +kernel)) fun _ => Ev.is (ev_inB (neg := false) (bs := l.map (sem T g)) ev_c (ev_var rfl)) ?_) fun _ e => ⟨Nat.le_refl _, e⟩))))))
      rw [any_of, sem, semO_any, List.any_map]
      rfl
    | nexts z c =>
      simp only [Wf] at wf
      obtain ⟨h1, h2⟩ := rowV_len ok wf.2.1
      have small : T.n ≤ 20 := ok.small
      refine es_asgD (ev_ixT (d := .v (.str "nexts")) (ev_var rfl) ev_c rfl) (es_ifF (et_in ["most", "less", "same", "unlike"] (ev_var rfl) ev_s4) (by decide +kernel) (es_ifF (et_in ["ahead", "here", "next"] (ev_var rfl) ev_s3) (by decide +kernel) (es_ifF (et_in ["not", "and", "or", "if"] (ev_var rfl) ev_s4) (by decide +kernel)
        (es_ifT (et_is (ev_var rfl)) (by decide +kernel) (es_asgD (d := .tup (intsD (rowV T z))) (ev_ixT (ev_ixT (d := .tup (T.rv.map fun l => .tup (intsD l))) (ev_var rfl) ev_c rfl) (ev_index (ev_ixT (d := .ftup (strsD T.rows)) (ev_var rfl) ev_c rfl) (ev_ixT (d := .v (.str z)) (ev_var rfl) ev_c rfl) wf.2.1) (atI_nat (by rw [List.getElem?_map, h2]; rfl)))
        (es_ret (P := At (.v (.bl (sem T g (.nexts z c))))) (Ev.is (ev_inB (neg := true) (bs := ((rowV T z).dropLast.zip (rowV T z).tail).map fun p => cmpI c p.1 p.2) ev_c (Ev.is (el_map (l := (rowV T z).dropLast.zip (rowV T z).tail) (gg := fun p => .tup [.v (.int p.1), .v (.int p.2)]) (hh := fun p => .v (.bl (cmpI c p.1 p.2)))
            (ei_zipT (ev_slT (ev_var rfl) eo_none (eo_some ev_neg)) (ev_slT (ev_var rfl) (eo_some ev_c) eo_none)) (zip_ints _) ?_
            fun W' x r' hx => ⟨_, eg_tup2 (by decide) (by decide), ev_cd (c, x.1, x.2) (ea_cons (ev_ixT (d := .v (.str c.str)) (ev_var rfl) ev_c rfl) (ea_cons (ev_var rfl) (ea_cons (ev_var rfl) ea_nil))) trivial⟩) ?_)) ?_) fun _ e => ⟨Nat.le_refl _, e⟩))))))
      · rw [List.length_zip, List.length_dropLast, h1]
        omega
      · unfold blsD
        rw [List.map_map]
        rfl
      · rw [if_pos rfl, all_of, sem, zip_all (cmpI c), h1]
    | each x s =>
      exact es_asgD (ev_ixT (d := .v (.str "each")) (ev_var rfl) ev_c rfl) (es_ifF (et_in ["most", "less", "same", "unlike"] (ev_var rfl) ev_s4) (by decide +kernel) (es_ifF (et_in ["ahead", "here", "next"] (ev_var rfl) ev_s3) (by decide +kernel) (es_ifF (et_in ["not", "and", "or", "if"] (ev_var rfl) ev_s4) (by decide +kernel)
        (es_ifF (et_is (ev_var rfl)) (by decide +kernel) (es_retP (ev_cd (T, n, g, .each x s) (ea_cons (ev_var rfl) (ea_cons (ev_var rfl) (ea_cons (ev_var rfl) (ea_cons (ev_var rfl) ea_nil)))) ⟨rfl, ok, hg, ⟨q, wf⟩, hn⟩) rfl)))))
    | pairs x y s =>
      exact es_asgD (ev_ixT (d := .v (.str "pairs")) (ev_var rfl) ev_c rfl) (es_ifF (et_in ["most", "less", "same", "unlike"] (ev_var rfl) ev_s4) (by decide +kernel) (es_ifF (et_in ["ahead", "here", "next"] (ev_var rfl) ev_s3) (by decide +kernel) (es_ifF (et_in ["not", "and", "or", "if"] (ev_var rfl) ev_s4) (by decide +kernel)
        (es_ifF (et_is (ev_var rfl)) (by decide +kernel) (es_retP (ev_cd (T, n, g, .pairs x y s) (ea_cons (ev_var rfl) (ea_cons (ev_var rfl) (ea_cons (ev_var rfl) (ea_cons (ev_var rfl) ea_nil)))) ⟨rfl, ok, hg, ⟨q, wf⟩, hn⟩) rfl)))))
end EP

/-! ## KM3 -/
namespace EP
open PySem PySem.Spec PyProof.Rows L2

/-! ### strange places of a well formed saying are bound -/
theorem intK_wk {T : Wl} {D : Key → Prop} {p : Key} (w : WfK T D p) : ∀ i ∈ intK p, D (.inl i) := fun i hi => by
  cases p with
  | inl j =>
    have e : i = j := List.mem_singleton.mp hi
    subst e
    rcases w with w | w | ⟨z, _, w⟩
    · exact absurd w (fun z => nomatch z)
    · exact w
    · exact absurd w (fun z => nomatch z)
  | inr z => nomatch hi
theorem strB_wb {T : Wl} {D : Key → Prop} {b : Bs} (w : WfB T D b) : ∀ i ∈ strB b, D (.inl i) := fun i hi => by
  cases b with
  | non => nomatch hi
  | num c => nomatch hi
  | «at» q p => exact intK_wk w.2 i hi
theorem strgL_mem : ∀ {l : List Say} {i : Int}, i ∈ strgL l → ∃ s ∈ l, i ∈ strg s
  | [], i, h => by
    rw [strgL] at h
    nomatch h
  | s :: l, i, h => by
    rw [strgL] at h
    rcases List.mem_append.mp h with h | h
    · exact ⟨s, List.mem_cons_self, h⟩
    · obtain ⟨u, hu, hi⟩ := strgL_mem h
      exact ⟨u, List.mem_cons_of_mem _ hu, hi⟩
theorem strg_dom {T : Wl} : ∀ {n : Nat} {q : Bool} {D : Key → Prop} {s : Say}, Wf T q n D s → ∀ i ∈ strg s, D (.inl i)
  | 0, _, _, _, w, _, _ => by simp [Wf] at w
  | n + 1, q, D, s, w, i, hi => by
    cases s with
    | cmp c a b =>
      simp only [Wf] at w
      rw [strg] at hi
      rcases List.mem_append.mp hi with hi | hi
      · exact strB_wb w.2.1 i hi
      · exact strB_wb w.2.2 i hi
    | pl v p k =>
      simp only [Wf] at w
      rw [strg] at hi
      rcases List.mem_append.mp hi with hi | hi
      · exact intK_wk w.1 i hi
      · exact intK_wk w.2 i hi
    | not s =>
      simp only [Wf] at w
      rw [strg] at hi
      exact strg_dom w i hi
    | and l =>
      simp only [Wf] at w
      rw [strg] at hi
      obtain ⟨s, hs, h⟩ := strgL_mem hi
      exact strg_dom (w.2 s hs) i h
    | or l =>
      simp only [Wf] at w
      rw [strg] at hi
      obtain ⟨s, hs, h⟩ := strgL_mem hi
      exact strg_dom (w.2 s hs) i h
    | imp s t =>
      simp only [Wf] at w
      rw [strg] at hi
      rcases List.mem_append.mp hi with hi | hi
      · exact strg_dom w.1 i hi
      · exact strg_dom w.2 i hi
    | each x s =>
      simp only [Wf] at w
      rw [strg] at hi
      rcases strg_dom w.2.2 i hi with h | h
      · exact h
      · nomatch h
    | pairs x y s =>
      simp only [Wf] at w
      rw [strg] at hi
      rcases strg_dom w.2.2.2.2 i hi with (h | h) | h
      · exact h
      · nomatch h
      · nomatch h
    | nexts z c =>
      rw [strg] at hi
      nomatch hi

/-! ### a row and its ways -/
def Ks (s : Int) (row : List (Bool × Say)) (ks : List Int) : Prop := ∀ i, i ∈ ks ↔ i ∈ newOf s row
theorem newOf_mem {s : Int} {row : List (Bool × Say)} {i : Int} : i ∈ newOf s row ↔ (∃ p ∈ row, i ∈ strg p.2) ∧ s ≤ i := by
  unfold newOf
  rw [List.mem_filter, List.mem_flatMap, decide_eq_true_iff]
structure Good (T : Wl) (f : En) (t : Bool) (S : Say) (s : Int) (n : Nat) (o : Opn) : Prop where
  full : factSo T f (t, S) = true → ∃ row ∈ o.rows, ∀ ks, Ks s row ks → ∃ g ∈ exts T.n ks [f], rowSo T g row = true
  sound : ∀ row ∈ o.rows, ∀ ks, Ks s row ks → ∀ g ∈ exts T.n ks [f], rowSo T g row = true → factSo T f (t, S) = true ∨ (t = true ∧ ∃ p q, S = .pl .next p q)
  new : ∀ row ∈ o.rows, ∀ i ∈ newOf s row, i = s ∨ i = s + 1
  wf : ∀ row ∈ o.rows, ∀ ks, Ks s row ks → ∀ g ∈ exts T.n ks [f], EnOk T g ∧ (∀ i, dom g (.inl i) → i < s + 2) ∧ ((∀ z, ¬ dom f (.inr z)) → ∀ z, ¬ dom g (.inr z)) ∧ ∀ p ∈ row, Wf T true (n + 1) (dom g) p.2
section
variable {T : Wl} {f g : En} {t : Bool} {S : Say} {s : Int} {n : Nat} {o : Opn} {row : List (Bool × Say)} {ks : List Int}
theorem old_ks (hs : ∀ i, dom f (.inl i) → i < s) (hw : ∀ p ∈ row, Wf T true (n + 1) (dom f) p.2) (hk : Ks s row ks) : ks = [] := by
  rw [List.eq_nil_iff_forall_not_mem]
  intro i hi
  obtain ⟨⟨p, hp, h⟩, h2⟩ := newOf_mem.mp ((hk i).mp hi)
  have := hs i (strg_dom (hw p hp) i h)
  omega
theorem ext_ok (hf : EnOk T f) (hs : ∀ i, dom f (.inl i) → i < s) (hn : ∀ i ∈ newOf s row, i = s ∨ i = s + 1) (hk : Ks s row ks) (hg : g ∈ exts T.n ks [f]) :
    EnOk T g ∧ (∀ i, dom g (.inl i) → i < s + 2) ∧ ((∀ z, ¬ dom f (.inr z)) → ∀ z, ¬ dom g (.inr z)) ∧ (∀ k, dom f k → dom g k) ∧ (∀ i ∈ newOf s row, dom g (.inl i)) ∧ ∀ k, (dom f k ∨ ∃ z, k = .inr z) → g k = f k := by
  obtain ⟨f', hf', h1, h2⟩ := exts_of hg
  have e : f' = f := List.mem_singleton.mp hf'
  subst e
  have same : ∀ k : Key, (dom f' k ∨ ∃ z, k = Sum.inr z) → g k = f' k := fun k h => h1 k fun i hi e => by
    rcases h with h | ⟨z, h⟩
    · rw [e] at h
      have := hs i h
      have := (newOf_mem.mp ((hk i).mp hi)).2
      omega
    · rw [h] at e
      nomatch e
  have off : ∀ k : Key, (∀ i ∈ ks, k ≠ Sum.inl i) ∨ ∃ i ∈ ks, k = Sum.inl i := fun k => by
    by_cases h : ∃ i ∈ ks, k = .inl i
    · exact .inr h
    · exact .inl fun i hi e => h ⟨i, hi, e⟩
  refine ⟨fun k i e => ?_, fun i hi => ?_, fun h z hz => ?_, fun k hk' => ?_, fun i hi => ?_, same⟩
  · rcases off k with h | ⟨i', hi', rfl⟩
    · rw [h1 k h] at e
      exact hf k i e
    · obtain ⟨j, hj, ej⟩ := h2 i' hi'
      rw [ej] at e
      have z := Option.some.inj e
      omega
  · rcases off (.inl i) with h | ⟨i', hi', e⟩
    · unfold dom at hi
      rw [h1 _ h] at hi
      have := hs i hi
      omega
    · have e' : i = i' := Sum.inl.inj e
      subst e'
      rcases hn i ((hk i).mp hi') with h | h <;> omega
  · unfold dom at hz
    rw [same (.inr z) (.inr ⟨z, rfl⟩)] at hz
    exact h z hz
  · unfold dom
    rw [same k (.inl hk')]
    exact hk'
  · obtain ⟨j, _, ej⟩ := h2 i ((hk i).mpr hi)
    unfold dom
    rw [ej]
    rfl
end
/-! ### neighbours and pairs -/
theorem nx_trans {c : Cw} (h : c.isNx = true) {a b d : Int} (h1 : cmpI c a b = true) (h2 : cmpI c b d = true) : cmpI c a d = true := by
  cases c <;> simp only [cmpI, decide_eq_true_eq] at * <;> first | omega | exact absurd h (by decide)
theorem nx_all {c : Cw} (h : c.isNx = true) (v : Nat → Int) {n : Nat} (ha : ∀ i, i + 1 < n → cmpI c (v i) (v (i + 1)) = true) : ∀ d i : Nat, i + 1 + d < n → cmpI c (v i) (v (i + 1 + d)) = true
  | 0, i, hi => ha i hi
  | d + 1, i, hi => nx_trans h (nx_all h v ha d i (by omega)) (by
    have z := ha (i + 1 + d) (by omega)
    exact z)
end EP

/-! ## KM4 -/
namespace EP
open PySem PySem.Spec PyProof.Rows L2

theorem plc_bd {T : Wl} (hT : T.Ok) {f : En} (hf : EnOk T f) (k : Key) : 0 ≤ plc T f k ∧ plc T f k ≤ T.n := by
  unfold plc
  split
  · omega
  · split
    · rename_i i e
      exact hf k i e
    · cases k with
      | inr z =>
        show 0 ≤ T.pv.getD (T.places.idxOf z) 0 ∧ T.pv.getD (T.places.idxOf z) 0 ≤ T.n
        rw [List.getD_eq_getElem?_getD]
        cases e : T.pv[T.places.idxOf z]? with
        | none =>
          show (0 : Int) ≤ 0 ∧ (0 : Int) ≤ T.n
          omega
        | some i => exact hT.pin i (List.mem_of_getElem? e)
      | inl z =>
        show (0 : Int) ≤ 0 ∧ (0 : Int) ≤ T.n
        omega
theorem rowL_len {T : Wl} (hT : T.Ok) {r : Str} (hr : r ∈ T.rows) : (rowV T r).length = T.n := by
  have h : T.rows.idxOf r < T.rv.length := by
    rw [hT.rlen]
    exact List.idxOf_lt_length_of_mem hr
  unfold rowV
  rw [List.getD_eq_getElem?_getD, List.getElem?_eq_getElem h]
  exact hT.rrow _ (List.getElem_mem h)
theorem factSo_iff {T : Wl} {f : En} {t : Bool} {S : Say} : factSo T f (t, S) = true ↔ sem T f S = t := by
  unfold factSo
  rw [decide_eq_true_iff]
theorem rowSo_nil {T : Wl} {f : En} : rowSo T f [] = true := rfl
theorem rowSo_cons {T : Wl} {f : En} {t : Bool} {S : Say} {l : List (Bool × Say)} : rowSo T f ((t, S) :: l) = true ↔ sem T f S = t ∧ rowSo T f l = true := by
  show (factSo T f (t, S) && rowSo T f l) = true ↔ _
  rw [Bool.and_eq_true, factSo_iff]
theorem rowSo_one {T : Wl} {f : En} {t : Bool} {S : Say} : rowSo T f [(t, S)] = true ↔ sem T f S = t := by
  rw [rowSo_cons]
  exact ⟨fun h => h.1, fun h => ⟨h, rfl⟩⟩
theorem rowSo_map {T : Wl} {f : En} {t : Bool} {l : List Say} : rowSo T f (l.map fun p => (t, p)) = true ↔ ∀ p ∈ l, sem T f p = t := by
  unfold rowSo
  rw [List.all_eq_true]
  constructor
  · intro h p hp
    exact factSo_iff.mp (h (t, p) (List.mem_map.mpr ⟨p, hp, rfl⟩))
  · intro h p hp
    obtain ⟨s, hs, rfl⟩ := List.mem_map.mp hp
    exact factSo_iff.mpr (h s hs)
theorem semA_iff {T : Wl} {f : En} {l : List Say} : sem T f (.and l) = true ↔ ∀ p ∈ l, sem T f p = true := by
  rw [sem, semA_all, List.all_eq_true]
theorem semO_iff {T : Wl} {f : En} {l : List Say} : sem T f (.or l) = false ↔ ∀ p ∈ l, sem T f p = false := by
  rw [sem, semO_any, List.any_eq_false]
  exact ⟨fun h p hp => Bool.eq_false_iff.mpr (h p hp), fun h p hp => Bool.eq_false_iff.mp (h p hp)⟩

/-! ### a row that adds places -/
section
variable {T : Wl} {f g : En} {t : Bool} {S : Say} {s : Int} {n : Nat} {o : Opn} {row : List (Bool × Say)} {ks add : List Int}
def plus (D : Key → Prop) (add : List Int) : Key → Prop := fun k => D k ∨ ∃ i ∈ add, k = .inl i
structure Row (T : Wl) (f : En) (s : Int) (n : Nat) (row : List (Bool × Say)) (add : List Int) : Prop where
  wf : ∀ p ∈ row, Wf T true (n + 1) (plus (dom f) add) p.2
  at' : ∀ i ∈ add, i = s ∨ i = s + 1
  new : ∀ i ∈ add, ∃ p ∈ row, i ∈ strg p.2
theorem Row.newOf (h : Row T f s n row add) (hs : ∀ i, dom f (.inl i) → i < s) : ∀ i ∈ EP.newOf s row, i ∈ add := fun i hi => by
  obtain ⟨⟨p, hp, h1⟩, h2⟩ := newOf_mem.mp hi
  rcases strg_dom (h.wf p hp) i h1 with h3 | ⟨j, hj, h3⟩
  · have := hs i h3
    omega
  · rw [Sum.inl.inj h3]
    exact hj
theorem Row.ofAdd (h : Row T f s n row add) (hk : Ks s row ks) : ∀ i ∈ add, i ∈ ks := fun i hi => (hk i).mpr (newOf_mem.mpr ⟨h.new i hi, by rcases h.at' i hi with h | h <;> omega⟩)
theorem Row.ext (h : Row T f s n row add) (hf : EnOk T f) (hs : ∀ i, dom f (.inl i) → i < s) (hk : Ks s row ks) (hg : g ∈ exts T.n ks [f]) :
    (∀ k, (dom f k ∨ ∃ z, k = .inr z) → g k = f k) ∧ ∀ i ∈ add, ∃ j : Nat, j ≤ T.n ∧ g (.inl i) = some (j : Int) := by
  refine ⟨(ext_ok hf hs (fun i hi => h.at' i (h.newOf hs i hi)) hk hg).2.2.2.2.2, fun i hi => ?_⟩
  obtain ⟨f', hf', h1, h2⟩ := exts_of hg
  exact h2 i (h.ofAdd hk i hi)
theorem Row.wfs (h : Row T f s n row add) (hf : EnOk T f) (hs : ∀ i, dom f (.inl i) → i < s) (hk : Ks s row ks) (hg : g ∈ exts T.n ks [f]) :
    EnOk T g ∧ (∀ i, dom g (.inl i) → i < s + 2) ∧ ((∀ z, ¬ dom f (.inr z)) → ∀ z, ¬ dom g (.inr z)) ∧ ∀ p ∈ row, Wf T true (n + 1) (dom g) p.2 := by
  obtain ⟨a1, a2, a3, a4, a5, a6⟩ := ext_ok hf hs (fun i hi => h.at' i (h.newOf hs i hi)) hk hg
  refine ⟨a1, a2, a3, fun p hp => (h.wf p hp).mono (Nat.le_refl _) (fun z => z) fun k hk' => ?_⟩
  rcases hk' with hk' | ⟨i, hi, rfl⟩
  · exact a4 k hk'
  · exact a5 i ((hk i).mp (h.ofAdd hk i hi))
theorem Row.have (h : Row T f s n row add) (hf : EnOk T f) (hs : ∀ i, dom f (.inl i) → i < s) (hk : Ks s row ks) (a : Int → Nat) (ha : ∀ i, a i ≤ T.n) :
    ∃ g ∈ exts T.n ks [f], (∀ k, (dom f k ∨ ∃ z, k = .inr z) → g k = f k) ∧ ∀ i ∈ add, g (.inl i) = some (a i : Int) := by
  obtain ⟨g, hg, h1, h2⟩ := exts_have (ks := ks) a ha (List.mem_singleton.mpr rfl : f ∈ [f])
  exact ⟨g, hg, (h.ext hf hs hk hg).1, fun i hi => h2 i (h.ofAdd hk i hi)⟩
theorem Row.old (h : Row T f s n row []) (hs : ∀ i, dom f (.inl i) → i < s) (hk : Ks s row ks) : ks = [] := by
  rw [List.eq_nil_iff_forall_not_mem]
  intro i hi
  exact nomatch h.newOf hs i ((hk i).mp hi)
/-- rows of old places -/
def Old (T : Wl) (f : En) (n : Nat) (row : List (Bool × Say)) : Prop := ∀ p ∈ row, Wf T true (n + 1) (dom f) p.2
theorem Old.toRow (h : Old T f n row) : Row T f s n row [] := ⟨fun p hp => (h p hp).mono (Nat.le_refl _) (fun z => z) fun k hk => .inl hk, (fun _ z => nomatch z), fun _ z => nomatch z⟩
theorem Old.full (h : Old T f n row) (hs : ∀ i, dom f (.inl i) → i < s) (hk : Ks s row ks) (e : rowSo T f row = true) : ∃ g ∈ exts T.n ks [f], rowSo T g row = true := by
  rw [(h.toRow (s := s)).old hs hk]
  exact ⟨f, List.mem_singleton.mpr rfl, e⟩
theorem Old.eq (h : Old T f n row) (hs : ∀ i, dom f (.inl i) → i < s) (hk : Ks s row ks) (hg : g ∈ exts T.n ks [f]) : g = f := by
  rw [(h.toRow (s := s)).old hs hk] at hg
  exact List.mem_singleton.mp hg
theorem Row.news (h : Row T f s n row add) (hs : ∀ i, dom f (.inl i) → i < s) : ∀ i ∈ EP.newOf s row, i = s ∨ i = s + 1 := fun i hi => h.at' i (h.newOf hs i hi)
theorem good_simple (hf : EnOk T f) (hs : ∀ i, dom f (.inl i) → i < s) (hw : ∀ row ∈ o.rows, Old T f n row)
    (h1 : sem T f S = t → ∃ row ∈ o.rows, rowSo T f row = true) (h2 : ∀ row ∈ o.rows, rowSo T f row = true → sem T f S = t ∨ (t = true ∧ ∃ p q, S = .pl .next p q)) : Good T f t S s n o := by
  refine ⟨fun h => ?_, fun row hr ks hk g hg h => ?_, fun row hr => ((hw row hr).toRow).news hs, fun row hr ks hk g hg => ?_⟩
  · obtain ⟨row, hr, e⟩ := h1 (factSo_iff.mp h)
    exact ⟨row, hr, fun ks hk => (hw row hr).full hs hk e⟩
  · rw [(hw row hr).eq hs hk hg] at h
    rcases h2 row hr h with h | h
    · exact .inl (factSo_iff.mpr h)
    · exact .inr h
  · exact ((hw row hr).toRow).wfs hf hs hk hg
theorem good_parts (hf : EnOk T f) (hs : ∀ i, dom f (.inl i) → i < s) (hw : Old T f n row) (h : rowSo T f row = true ↔ sem T f S = t) : Good T f t S s n (.parts row) := by
  refine good_simple hf hs (fun r hr => ?_) (fun e => ⟨row, List.mem_singleton.mpr rfl, h.mpr e⟩) fun r hr e => ?_
  · rw [List.mem_singleton.mp hr]
    exact hw
  · rw [List.mem_singleton.mp hr] at e
    exact .inl (h.mp e)
theorem good_new (hf : EnOk T f) (hs : ∀ i, dom f (.inl i) → i < s) (hw : Row T f s n row add)
    (h1 : sem T f S = t → ∃ a : Int → Nat, (∀ i, a i ≤ T.n) ∧ ∀ g : En, (∀ k, (dom f k ∨ ∃ z, k = .inr z) → g k = f k) → (∀ i ∈ add, g (.inl i) = some (a i : Int)) → rowSo T g row = true)
    (h2 : ∀ g : En, (∀ k, (dom f k ∨ ∃ z, k = .inr z) → g k = f k) → (∀ i ∈ add, ∃ j : Nat, j ≤ T.n ∧ g (.inl i) = some (j : Int)) → rowSo T g row = true → sem T f S = t) : Good T f t S s n (.parts row) := by
  refine ⟨fun h => ⟨row, List.mem_singleton.mpr rfl, fun ks hk => ?_⟩, fun r hr ks hk g hg h => ?_, fun r hr => by rw [List.mem_singleton.mp hr]; exact hw.news hs, fun r hr ks hk g hg => ?_⟩
  · obtain ⟨a, ha, h3⟩ := h1 (factSo_iff.mp h)
    obtain ⟨g, hg, h4, h5⟩ := hw.have hf hs hk a ha
    exact ⟨g, hg, h3 g h4 h5⟩
  · have e : r = row := List.mem_singleton.mp hr
    subst e
    obtain ⟨h4, h5⟩ := hw.ext hf hs hk hg
    exact .inl (factSo_iff.mpr (h2 g h4 h5 h))
  · have e : r = row := List.mem_singleton.mp hr
    subst e
    exact hw.wfs hf hs hk hg
end
end EP

/-! ## KM5 -/
namespace EP
open PySem PySem.Spec PyProof.Rows L2
section
variable {T : Wl} {f : En} {s : Int} {n : Nat}
theorem row_mem {α : Type} {P : α → Prop} {a : α} (h : P a) : ∀ p ∈ [a], P p := fun p hp => by
  rw [List.mem_singleton.mp hp]
  exact h
theorem row_mem2 {α : Type} {P : α → Prop} {a b : α} (h : P a) (h2 : P b) : ∀ p ∈ [a, b], P p := fun p hp => by
  rcases List.mem_cons.mp hp with e | e
  · rw [e]
    exact h
  · exact row_mem h2 p e
theorem row_mem3 {α : Type} {P : α → Prop} {a b c : α} (h : P a) (h2 : P b) (h3 : P c) : ∀ p ∈ [a, b, c], P p := fun p hp => by
  rcases List.mem_cons.mp hp with e | e
  · rw [e]
    exact h
  · exact row_mem2 h2 h3 p e
theorem row_map {t : Bool} {l : List Say} {P : Bool × Say → Prop} (h : ∀ s ∈ l, P (t, s)) : ∀ p ∈ l.map (fun q => (t, q)), P p := fun p hp => by
  obtain ⟨a, ha, rfl⟩ := List.mem_map.mp hp
  exact h a ha
theorem wf_cmp {n : Nat} {D : Key → Prop} {c : Cw} {a b : Sm} (hc : c.isCmp = true) (ha : WfB T D a.b) (hb : WfB T D b.b) : Wf T true (n + 1) D (.cmp c a b) := by
  simp only [Wf]
  exact ⟨hc, ha, hb⟩
theorem wf_pl {n : Nat} {D : Key → Prop} {v : Pw} {p q : Key} (hp : WfK T D p) (hq : WfK T D q) : Wf T true (n + 1) D (.pl v p q) := by
  simp only [Wf]
  exact ⟨hp, hq⟩
theorem Wf.up {q : Bool} {n : Nat} {D : Key → Prop} {a : Say} (w : Wf T q n D a) : Wf T true (n + 1) D a := w.mono (Nat.le_succ n) (fun _ => rfl) fun k h => h
theorem cmpI_most (a b : Int) : cmpI .most a b = decide (a ≤ b) := rfl
theorem cmpI_less (a b : Int) : cmpI .less a b = decide (a < b) := rfl

theorem good_not (hf : EnOk T f) (hs : ∀ i, dom f (.inl i) → i < s) {t : Bool} {a : Say} (hw : Wf T true (n + 1) (dom f) (.not a)) : Good T f t (.not a) s n (.parts [(!t, a)]) := by
  simp only [Wf] at hw
  refine good_parts hf hs (row_mem (P := fun p : Bool × Say => Wf T true (n + 1) (dom f) p.2) hw.up) ?_
  rw [rowSo_one, sem]
  cases sem T f a <;> cases t <;> decide
theorem old_l {t : Bool} {l : List Say} (hw : l.length ≤ 100 ∧ ∀ s ∈ l, Wf T true n (dom f) s) : Old T f n (l.map fun p => (t, p)) :=
  row_map (P := fun p : Bool × Say => Wf T true (n + 1) (dom f) p.2) fun s hs => (hw.2 s hs).up
theorem old_c {t : Bool} {l : List Say} (hw : l.length ≤ 100 ∧ ∀ s ∈ l, Wf T true n (dom f) s) : ∀ row ∈ l.map (fun p => [(t, p)]), Old T f n row := fun row hr => by
  obtain ⟨a, ha, rfl⟩ := List.mem_map.mp hr
  exact row_mem (P := fun p : Bool × Say => Wf T true (n + 1) (dom f) p.2) (hw.2 a ha).up
theorem good_andT (hf : EnOk T f) (hs : ∀ i, dom f (.inl i) → i < s) {l : List Say} (hw : Wf T true (n + 1) (dom f) (.and l)) : Good T f true (.and l) s n (.parts (l.map fun p => (true, p))) := by
  simp only [Wf] at hw
  refine good_parts hf hs (old_l hw) ?_
  rw [rowSo_map, semA_iff]
theorem good_orF (hf : EnOk T f) (hs : ∀ i, dom f (.inl i) → i < s) {l : List Say} (hw : Wf T true (n + 1) (dom f) (.or l)) : Good T f false (.or l) s n (.parts (l.map fun p => (false, p))) := by
  simp only [Wf] at hw
  refine good_parts hf hs (old_l hw) ?_
  rw [rowSo_map, semO_iff]
theorem good_andF (hf : EnOk T f) (hs : ∀ i, dom f (.inl i) → i < s) {l : List Say} (hw : Wf T true (n + 1) (dom f) (.and l)) : Good T f false (.and l) s n (.cases (l.map fun p => [(false, p)])) := by
  simp only [Wf] at hw
  refine good_simple hf hs (old_c hw) (fun e => ?_) fun row hr e => ?_
  · by_cases h : ∃ p ∈ l, sem T f p = false
    · obtain ⟨p, hp, h⟩ := h
      exact ⟨_, List.mem_map.mpr ⟨p, hp, rfl⟩, rowSo_one.mpr h⟩
    · rw [semA_iff.mpr fun p hp => Bool.of_not_eq_false fun z => h ⟨p, hp, z⟩] at e
      exact absurd e.symm Bool.false_ne_true
  · obtain ⟨p, hp, rfl⟩ := List.mem_map.mp hr
    refine .inl (Bool.eq_false_iff.mpr fun z => ?_)
    have e' := rowSo_one.mp e
    rw [semA_iff.mp z p hp] at e'
    exact Bool.false_ne_true e'.symm
theorem good_orT (hf : EnOk T f) (hs : ∀ i, dom f (.inl i) → i < s) {l : List Say} (hw : Wf T true (n + 1) (dom f) (.or l)) : Good T f true (.or l) s n (.cases (l.map fun p => [(true, p)])) := by
  simp only [Wf] at hw
  refine good_simple hf hs (old_c hw) (fun e => ?_) fun row hr e => ?_
  · by_cases h : ∃ p ∈ l, sem T f p = true
    · obtain ⟨p, hp, h⟩ := h
      exact ⟨_, List.mem_map.mpr ⟨p, hp, rfl⟩, rowSo_one.mpr h⟩
    · rw [semO_iff.mpr fun p hp => Bool.eq_false_iff.mpr fun z => h ⟨p, hp, z⟩] at e
      exact absurd e Bool.false_ne_true
  · obtain ⟨p, hp, rfl⟩ := List.mem_map.mp hr
    refine .inl (Bool.of_not_eq_false fun z => ?_)
    have e' := rowSo_one.mp e
    rw [semO_iff.mp z p hp] at e'
    exact Bool.false_ne_true e'
theorem good_impF (hf : EnOk T f) (hs : ∀ i, dom f (.inl i) → i < s) {a b : Say} (hw : Wf T true (n + 1) (dom f) (.imp a b)) : Good T f false (.imp a b) s n (.parts [(true, a), (false, b)]) := by
  simp only [Wf] at hw
  refine good_parts hf hs (row_mem2 (P := fun p : Bool × Say => Wf T true (n + 1) (dom f) p.2) hw.1.up hw.2.up) ?_
  rw [rowSo_cons, rowSo_one, sem]
  cases sem T f a <;> cases sem T f b <;> decide
theorem good_impT (hf : EnOk T f) (hs : ∀ i, dom f (.inl i) → i < s) {a b : Say} (hw : Wf T true (n + 1) (dom f) (.imp a b)) : Good T f true (.imp a b) s n (.cases [[(false, a)], [(true, b)]]) := by
  simp only [Wf] at hw
  refine good_simple hf hs (row_mem2 (P := Old T f n) (row_mem (P := fun p : Bool × Say => Wf T true (n + 1) (dom f) p.2) hw.1.up) (row_mem (P := fun p : Bool × Say => Wf T true (n + 1) (dom f) p.2) hw.2.up)) (fun e => ?_) (row_mem2 (P := fun row => rowSo T f row = true → _) (fun e => .inl ?_) fun e => .inl ?_)
  · rw [sem] at e
    cases ha : sem T f a with
    | false => exact ⟨_, List.mem_cons_self, rowSo_one.mpr ha⟩
    | true =>
      rw [ha] at e
      exact ⟨_, List.mem_cons_of_mem _ List.mem_cons_self, rowSo_one.mpr (by simpa using e)⟩
  · rw [sem, rowSo_one.mp e]
    rfl
  · rw [sem, rowSo_one.mp e]
    cases sem T f a <;> rfl
theorem wf_cab {a b : Sm} {c : Cw} (hw : Wf T true (n + 1) (dom f) (.cmp c a b)) (d : Cw) (hd : d.isCmp = true) : Wf T true (n + 1) (dom f) (.cmp d a b) ∧ Wf T true (n + 1) (dom f) (.cmp d b a) := by
  simp only [Wf] at hw ⊢
  exact ⟨⟨hd, hw.2⟩, hd, hw.2.2, hw.2.1⟩
theorem good_eq (hf : EnOk T f) (hs : ∀ i, dom f (.inl i) → i < s) {a b : Sm} {c : Cw} {t : Bool} (hw : Wf T true (n + 1) (dom f) (.cmp c a b)) (h : sem T f (.cmp c a b) = t ↔ wrt T f a = wrt T f b) :
    Good T f t (.cmp c a b) s n (.parts [(true, .cmp .most a b), (true, .cmp .most b a)]) := by
  refine good_parts hf hs (row_mem2 (P := fun p : Bool × Say => Wf T true (n + 1) (dom f) p.2) (wf_cab hw .most rfl).1 (wf_cab hw .most rfl).2) ?_
  rw [rowSo_cons, rowSo_one, h, sem, sem, cmpI_most, cmpI_most, decide_eq_true_iff, decide_eq_true_iff]
  omega
theorem good_ne (hf : EnOk T f) (hs : ∀ i, dom f (.inl i) → i < s) {a b : Sm} {c : Cw} {t : Bool} (hw : Wf T true (n + 1) (dom f) (.cmp c a b)) (h : sem T f (.cmp c a b) = t ↔ ¬ wrt T f a = wrt T f b) :
    Good T f t (.cmp c a b) s n (.cases [[(true, .cmp .less a b)], [(true, .cmp .less b a)]]) := by
  refine good_simple hf hs (row_mem2 (P := Old T f n) (row_mem (P := fun p : Bool × Say => Wf T true (n + 1) (dom f) p.2) (wf_cab hw .less rfl).1) (row_mem (P := fun p : Bool × Say => Wf T true (n + 1) (dom f) p.2) (wf_cab hw .less rfl).2)) (fun e => ?_) (row_mem2 (P := fun row => rowSo T f row = true → _) (fun e => .inl ?_) fun e => .inl ?_)
  · have e' := h.mp e
    by_cases h1 : wrt T f a < wrt T f b
    · refine ⟨_, List.mem_cons_self, rowSo_one.mpr ?_⟩
      rw [sem, cmpI_less, decide_eq_true_iff]
      exact h1
    · refine ⟨_, List.mem_cons_of_mem _ List.mem_cons_self, rowSo_one.mpr ?_⟩
      rw [sem, cmpI_less, decide_eq_true_iff]
      omega
  · have e' := rowSo_one.mp e
    rw [sem, cmpI_less, decide_eq_true_iff] at e'
    exact h.mpr (by omega)
  · have e' := rowSo_one.mp e
    rw [sem, cmpI_less, decide_eq_true_iff] at e'
    exact h.mpr (by omega)
theorem sem_same {a b : Sm} : sem T f (.cmp .same a b) = true ↔ wrt T f a = wrt T f b := by
  rw [sem]
  exact decide_eq_true_iff
theorem sem_sameF {a b : Sm} : sem T f (.cmp .same a b) = false ↔ ¬ wrt T f a = wrt T f b := by
  rw [sem]
  exact decide_eq_false_iff_not
theorem sem_unlike {a b : Sm} : sem T f (.cmp .unlike a b) = true ↔ ¬ wrt T f a = wrt T f b := by
  rw [sem]
  exact decide_eq_true_iff
theorem sem_unlikeF {a b : Sm} : sem T f (.cmp .unlike a b) = false ↔ wrt T f a = wrt T f b := by
  rw [sem]
  refine decide_eq_false_iff_not.trans ?_
  exact Decidable.not_not
theorem sem_ahead {p q : Key} {t : Bool} : sem T f (.pl .ahead p q) = t ↔ decide (plc T f p < plc T f q) = t := by
  rw [sem]
  exact Iff.rfl
theorem good_here (hf : EnOk T f) (hs : ∀ i, dom f (.inl i) → i < s) {p q : Key} (hw : Wf T true (n + 1) (dom f) (.pl .here p q)) :
    Good T f false (.pl .here p q) s n (.cases [[(true, .pl .ahead p q)], [(true, .pl .ahead q p)]]) := by
  simp only [Wf] at hw
  have h : sem T f (.pl .here p q) = false ↔ ¬ plc T f p = plc T f q := by
    rw [sem]
    exact decide_eq_false_iff_not
  refine good_simple hf hs (row_mem2 (P := Old T f n) (row_mem (P := fun p : Bool × Say => Wf T true (n + 1) (dom f) p.2) (wf_pl hw.1 hw.2)) (row_mem (P := fun p : Bool × Say => Wf T true (n + 1) (dom f) p.2) (wf_pl hw.2 hw.1))) (fun e => ?_) (row_mem2 (P := fun row => rowSo T f row = true → _) (fun e => .inl ?_) fun e => .inl ?_)
  · have e' := h.mp e
    by_cases h1 : plc T f p < plc T f q
    · refine ⟨_, List.mem_cons_self, rowSo_one.mpr ?_⟩
      rw [sem_ahead, decide_eq_true_iff]
      exact h1
    · refine ⟨_, List.mem_cons_of_mem _ List.mem_cons_self, rowSo_one.mpr ?_⟩
      rw [sem_ahead, decide_eq_true_iff]
      omega
  · have e' := rowSo_one.mp e
    rw [sem_ahead, decide_eq_true_iff] at e'
    exact h.mpr (by omega)
  · have e' := rowSo_one.mp e
    rw [sem_ahead, decide_eq_true_iff] at e'
    exact h.mpr (by omega)
theorem good_nextT (hf : EnOk T f) (hs : ∀ i, dom f (.inl i) → i < s) {p q : Key} (hw : Wf T true (n + 1) (dom f) (.pl .next p q)) :
    Good T f true (.pl .next p q) s n (.parts [(true, .pl .ahead p q)]) := by
  simp only [Wf] at hw
  refine good_simple hf hs (row_mem (P := Old T f n) (row_mem (P := fun p : Bool × Say => Wf T true (n + 1) (dom f) p.2) (wf_pl hw.1 hw.2))) (fun e => ?_) (row_mem (P := fun row => rowSo T f row = true → _) fun e => .inr ⟨rfl, p, q, rfl⟩)
  refine ⟨_, List.mem_cons_self, rowSo_one.mpr ?_⟩
  rw [sem] at e
  have e' := of_decide_eq_true e
  rw [sem_ahead, decide_eq_true_iff]
  omega
theorem plc_inl {g : En} {i j : Int} (h : g (.inl i) = some j) : plc T g (.inl i) = j := by
  have ne : ¬ (Sum.inl i : Key) = ek := fun z => nomatch z
  unfold plc
  rw [if_neg ne, h]
theorem plc_ek {g : En} : plc T g ek = T.n := by
  unfold plc
  rw [if_pos rfl]
theorem wk_plus {D : Key → Prop} {add : List Int} {k : Key} (h : WfK T D k) : WfK T (plus D add) k := h.mono fun k h => .inl h
theorem wk_new {D : Key → Prop} {add : List Int} {i : Int} (h : i ∈ add) : WfK T (plus D add) (.inl i) := .inr (.inl (.inr ⟨i, h, rfl⟩))
theorem good_nextF (hT : T.Ok) (hf : EnOk T f) (hs : ∀ i, dom f (.inl i) → i < s) {p q : Key} (hw : Wf T true (n + 1) (dom f) (.pl .next p q)) :
    Good T f false (.pl .next p q) s n (.cases [[(false, .pl .ahead p q)], [(true, .pl .ahead p (.inl s)), (true, .pl .ahead (.inl s) q)]]) := by
  simp only [Wf] at hw
  have h : sem T f (.pl .next p q) = false ↔ ¬ plc T f p + 1 = plc T f q := by
    rw [sem]
    exact decide_eq_false_iff_not
  have r1 : Old T f n [(false, .pl .ahead p q)] := row_mem (P := fun p : Bool × Say => Wf T true (n + 1) (dom f) p.2) (wf_pl hw.1 hw.2)
  have r2 : Row T f s n [(true, .pl .ahead p (.inl s)), (true, .pl .ahead (.inl s) q)] [s] := by
    refine ⟨row_mem2 (P := fun p : Bool × Say => Wf T true (n + 1) (plus (dom f) [s]) p.2) (wf_pl (wk_plus hw.1) (wk_new List.mem_cons_self)) (wf_pl (wk_new List.mem_cons_self) (wk_plus hw.2)), row_mem (.inl rfl), row_mem ⟨_, List.mem_cons_self, ?_⟩⟩
    rw [strg]
    exact List.mem_append_right _ List.mem_cons_self
  have hp := plc_bd hT hf p
  have hq := plc_bd hT hf q
  refine ⟨fun e => ?_, fun row hr ks hk g hg e => ?_, row_mem2 (P := fun row : List (Bool × Say) => ∀ i ∈ newOf s row, i = s ∨ i = s + 1) (r1.toRow.news hs) (r2.news hs), fun row hr ks hk g hg => ?_⟩
  · have e' := h.mp (factSo_iff.mp e)
    by_cases h1 : plc T f p < plc T f q
    · refine ⟨_, List.mem_cons_of_mem _ List.mem_cons_self, fun ks hk => ?_⟩
      obtain ⟨g, hg, h2, h3⟩ := r2.have hf hs hk (fun _ => (plc T f p + 1).toNat) (fun _ => by omega)
      have h4 := h3 s List.mem_cons_self
      refine ⟨g, hg, ?_⟩
      rw [rowSo_cons, rowSo_one, sem_ahead, sem_ahead, plc_inl h4, agree_wk h2 hw.1, agree_wk h2 hw.2, decide_eq_true_iff, decide_eq_true_iff]
      omega
    · refine ⟨_, List.mem_cons_self, fun ks hk => r1.full hs hk (rowSo_one.mpr ?_)⟩
      rw [sem_ahead, decide_eq_false_iff_not]
      exact h1
  · refine .inl (factSo_iff.mpr (h.mpr ?_))
    rcases List.mem_cons.mp hr with rfl | hr
    · rw [r1.eq hs hk hg, rowSo_one, sem_ahead, decide_eq_false_iff_not] at e
      omega
    · have e1 := List.mem_singleton.mp hr
      subst e1
      obtain ⟨h2, h3⟩ := r2.ext hf hs hk hg
      obtain ⟨j, _, h4⟩ := h3 s List.mem_cons_self
      rw [rowSo_cons, rowSo_one, sem_ahead, sem_ahead, plc_inl h4, agree_wk h2 hw.1, agree_wk h2 hw.2, decide_eq_true_iff, decide_eq_true_iff] at e
      omega
  · rcases List.mem_cons.mp hr with rfl | hr
    · exact r1.toRow.wfs hf hs hk hg
    · have e1 := List.mem_singleton.mp hr
      subst e1
      exact r2.wfs hf hs hk hg
theorem sem_each {x : Str} {a : Say} : sem T f (.each x a) = false ↔ ∃ k : Nat, k < T.n ∧ sem T (updE f (.inr x) (k : Int)) a = false := by
  rw [sem, List.all_eq_false]
  constructor
  · rintro ⟨k, hk, e⟩
    exact ⟨k, List.mem_range.mp hk, Bool.eq_false_iff.mpr e⟩
  · rintro ⟨k, hk, e⟩
    exact ⟨k, List.mem_range.mpr hk, Bool.eq_false_iff.mp e⟩
theorem good_eachF (hT : T.Ok) (hf : EnOk T f) (hs : ∀ i, dom f (.inl i) → i < s) {x : Str} {a : Say} (hw : Wf T true (n + 1) (dom f) (.each x a)) :
    Good T f false (.each x a) s n (.parts [(true, .pl .ahead (.inl s) ek), (false, put x (.inl s) a)]) := by
  simp only [Wf] at hw
  obtain ⟨_, hx, hw⟩ := hw
  have ne : (Sum.inl s : Key) ≠ ek := fun z => nomatch z
  refine good_new hf hs (add := [s]) ⟨row_mem2 (P := fun p : Bool × Say => Wf T true (n + 1) (plus (dom f) [s]) p.2) (wf_pl (wk_new List.mem_cons_self) (.inl rfl)) (Wf.up (hw.putD hx (.inr ⟨s, List.mem_cons_self, rfl⟩) fun p hp hne => ?_)), row_mem (.inl rfl), row_mem ⟨_, List.mem_cons_self, ?_⟩⟩ (fun e => ?_) fun g hg hj e => ?_
  · rcases hp with hp | hp
    · exact .inl hp
    · exact absurd hp hne
  · rw [strg]
    exact List.mem_append_left _ List.mem_cons_self
  · obtain ⟨k, hk, e⟩ := sem_each.mp e
    refine ⟨fun _ => k, fun _ => Nat.le_of_lt hk, fun g hg hj => ?_⟩
    have h4 : g (.inl s) = some (k : Int) := hj s List.mem_cons_self
    rw [rowSo_cons, rowSo_one, sem_ahead, plc_inl h4, plc_ek, decide_eq_true_iff, sem_put hx ne hw h4, sem_congr hw (agree_upd hg x k)]
    exact ⟨by omega, e⟩
  · obtain ⟨j, _, h4⟩ := hj s List.mem_cons_self
    rw [rowSo_cons, rowSo_one, sem_ahead, plc_inl h4, plc_ek, decide_eq_true_iff, sem_put hx ne hw h4, sem_congr hw (agree_upd hg x j)] at e
    exact sem_each.mpr ⟨j, by omega, e.2⟩
theorem sem_pairs {x y : Str} {a : Say} : sem T f (.pairs x y a) = false ↔ ∃ k j : Nat, k < j ∧ j < T.n ∧ sem T (updE (updE f (.inr x) (k : Int)) (.inr y) (j : Int)) a = false := by
  rw [sem, List.all_eq_false]
  constructor
  · rintro ⟨k, hk, e⟩
    obtain ⟨j, hj, e⟩ := List.all_eq_false.mp (Bool.eq_false_iff.mpr e)
    have e' := Bool.eq_false_iff.mpr e
    by_cases h : k < j
    · rw [decide_eq_true h] at e'
      exact ⟨k, j, h, List.mem_range.mp hj, e'⟩
    · rw [decide_eq_false h] at e'
      exact absurd e'.symm Bool.false_ne_true
  · rintro ⟨k, j, h, hj, e⟩
    refine ⟨k, List.mem_range.mpr (by omega), Bool.eq_false_iff.mp (List.all_eq_false.mpr ⟨j, List.mem_range.mpr hj, Bool.eq_false_iff.mp ?_⟩)⟩
    rw [decide_eq_true h, e]
    rfl
theorem upd_comm (g : En) {x y : Key} (h : x ≠ y) (i j : Int) : updE (updE g y j) x i = updE (updE g x i) y j := by
  funext k
  unfold updE
  by_cases h1 : k = x
  · have h2 : ¬ k = y := fun e => h (h1.symm.trans e)
    rw [if_pos h1, if_neg h2, if_pos h1]
  · rw [if_neg h1, if_neg h1]
theorem sem_put2 {g : En} {x y : Str} {a : Say} {i j u v : Int} (hx : x ≠ "end") (hy : y ≠ "end") (hxy : x ≠ y) (hg : ∀ k, (dom f k ∨ ∃ z, k = .inr z) → g k = f k)
    (hw : Wf T false n (andK (andK (dom f) (.inr x)) (.inr y)) a) (hi : g (.inl i) = some u) (hj : g (.inl j) = some v) : sem T g (put y (.inl j) (put x (.inl i) a)) = sem T (updE (updE f (.inr x) u) (.inr y) v) a := by
  have nei : (Sum.inl i : Key) ≠ ek := fun z => nomatch z
  have nej : (Sum.inl j : Key) ≠ ek := fun z => nomatch z
  have w1 : Wf T false n (andK (plus (dom f) [i]) (.inr y)) (put x (.inl i) a) := hw.putD hx (.inl (.inr ⟨i, List.mem_cons_self, rfl⟩)) fun p hp hne => by
    rcases hp with (hp | hp) | hp
    · exact .inl (.inl hp)
    · exact absurd hp hne
    · exact .inr hp
  have hi' : updE g (.inr y) v (.inl i) = some u := by
    have ne : ¬ (Sum.inl i : Key) = .inr y := fun z => nomatch z
    unfold updE
    rw [if_neg ne]
    exact hi
  have hne : (Sum.inr x : Key) ≠ .inr y := fun z => hxy (Sum.inr.inj z)
  rw [sem_put hy nej w1 hj, sem_put hx nei hw hi', upd_comm g hne]
  exact sem_congr hw (agree_upd (agree_upd hg x u) y v)
theorem good_pairsF (hT : T.Ok) (hf : EnOk T f) (hs : ∀ i, dom f (.inl i) → i < s) {x y : Str} {a : Say} (hw : Wf T true (n + 1) (dom f) (.pairs x y a)) :
    Good T f false (.pairs x y a) s n (.parts [(true, .pl .ahead (.inl s) (.inl (s + 1))), (true, .pl .ahead (.inl (s + 1)) ek), (false, put y (.inl (s + 1)) (put x (.inl s) a))]) := by
  simp only [Wf] at hw
  obtain ⟨_, hx, hy, hxy, hw⟩ := hw
  have m1 : s ∈ [s, s + 1] := List.mem_cons_self
  have m2 : s + 1 ∈ [s, s + 1] := List.mem_cons_of_mem _ List.mem_cons_self
  have w1 : Wf T false n (andK (plus (dom f) [s, s + 1]) (.inr y)) (put x (.inl s) a) := hw.putD hx (.inl (.inr ⟨s, m1, rfl⟩)) fun p hp hne => by
    rcases hp with (hp | hp) | hp
    · exact .inl (.inl hp)
    · exact absurd hp hne
    · exact .inr hp
  refine good_new hf hs (add := [s, s + 1]) ⟨row_mem3 (P := fun p : Bool × Say => Wf T true (n + 1) (plus (dom f) [s, s + 1]) p.2) (wf_pl (wk_new m1) (wk_new m2)) (wf_pl (wk_new m2) (.inl rfl)) (Wf.up (w1.putD hy (.inr ⟨s + 1, m2, rfl⟩) fun p hp hne => ?_)), row_mem2 (.inl rfl) (.inr rfl), row_mem2 ⟨_, List.mem_cons_self, ?_⟩ ⟨_, List.mem_cons_self, ?_⟩⟩ (fun e => ?_) fun g hg hj e => ?_
  · rcases hp with hp | hp
    · exact hp
    · exact absurd hp hne
  · rw [strg]
    exact List.mem_append_left _ List.mem_cons_self
  · rw [strg]
    exact List.mem_append_right _ List.mem_cons_self
  · obtain ⟨k, j, hkj, hj, e⟩ := sem_pairs.mp e
    refine ⟨fun i => if i = s then k else j, fun i => ?_, fun g hg h => ?_⟩
    · show (if i = s then k else j) ≤ T.n
      split <;> omega
    have h1 : g (.inl s) = some (((if s = s then k else j : Nat)) : Int) := h s m1
    have h2 : g (.inl (s + 1)) = some (((if s + 1 = s then k else j : Nat)) : Int) := h (s + 1) m2
    have ne : ¬ s + 1 = s := by omega
    rw [if_pos rfl] at h1
    rw [if_neg ne] at h2
    rw [rowSo_cons, rowSo_cons, rowSo_one, sem_ahead, sem_ahead, plc_inl h1, plc_inl h2, plc_ek, decide_eq_true_iff, decide_eq_true_iff, sem_put2 hx hy hxy hg hw h1 h2]
    exact ⟨by omega, by omega, e⟩
  · obtain ⟨k, _, h1⟩ := hj s m1
    obtain ⟨j, _, h2⟩ := hj (s + 1) m2
    rw [rowSo_cons, rowSo_cons, rowSo_one, sem_ahead, sem_ahead, plc_inl h1, plc_inl h2, plc_ek, decide_eq_true_iff, decide_eq_true_iff, sem_put2 hx hy hxy hg hw h1 h2] at e
    exact sem_pairs.mpr ⟨k, j, by omega, by omega, e.2.2⟩
theorem sem_nexts {r : Str} {c : Cw} : sem T f (.nexts r c) = false ↔ ∃ i : Nat, i + 1 < T.n ∧ cmpI c ((rowV T r).getD i 0) ((rowV T r).getD (i + 1) 0) = false := by
  rw [sem, List.all_eq_false]
  constructor
  · rintro ⟨k, hk, e⟩
    have := List.mem_range.mp hk
    exact ⟨k, by omega, Bool.eq_false_iff.mpr e⟩
  · rintro ⟨k, hk, e⟩
    exact ⟨k, List.mem_range.mpr (by omega), Bool.eq_false_iff.mp e⟩
theorem wrt_at {g : En} {r : Str} {i : Int} {j : Nat} (hT : T.Ok) (hr : r ∈ T.rows) (hj : j < T.n) (h : g (.inl i) = some (j : Int)) : wrt T g ⟨.at r (.inl i), 0⟩ = (rowV T r).getD j 0 := by
  show 0 + (rowV T r ++ [0]).getD (plc T g (.inl i)).toNat 0 = _
  rw [plc_inl h, Int.zero_add, Int.toNat_natCast, List.getD_eq_getElem?_getD, List.getD_eq_getElem?_getD, List.getElem?_append_left (by rw [rowL_len hT hr]; exact hj)]
theorem sem_said {g : En} {r : Str} {c : Cw} {i j : Int} {k l : Nat} (hT : T.Ok) (hr : r ∈ T.rows) (hk : k < T.n) (hl : l < T.n) (h1 : g (.inl i) = some (k : Int)) (h2 : g (.inl j) = some (l : Int)) :
    sem T g (saidBy r c (.inl i) (.inl j)) = cmpI c ((rowV T r).getD k 0) ((rowV T r).getD l 0) := by
  cases c <;> (unfold saidBy; rw [sem, wrt_at hT hr hk h1, wrt_at hT hr hl h2]; try rfl)
theorem good_nextsF (hT : T.Ok) (hf : EnOk T f) (hs : ∀ i, dom f (.inl i) → i < s) {r : Str} {c : Cw} (hw : Wf T true (n + 1) (dom f) (.nexts r c)) :
    Good T f false (.nexts r c) s n (.parts [(true, .pl .ahead (.inl s) (.inl (s + 1))), (true, .pl .ahead (.inl (s + 1)) ek), (false, saidBy r c (.inl s) (.inl (s + 1)))]) := by
  simp only [Wf] at hw
  obtain ⟨_, hr, hc⟩ := hw
  have m1 : s ∈ [s, s + 1] := List.mem_cons_self
  have m2 : s + 1 ∈ [s, s + 1] := List.mem_cons_of_mem _ List.mem_cons_self
  have wb1 : WfB T (plus (dom f) [s, s + 1]) (.at r (.inl s)) := ⟨hr, wk_new m1⟩
  have wb2 : WfB T (plus (dom f) [s, s + 1]) (.at r (.inl (s + 1))) := ⟨hr, wk_new m2⟩
  have ws : Wf T true (n + 1) (plus (dom f) [s, s + 1]) (saidBy r c (.inl s) (.inl (s + 1))) := by
    cases c <;> first | exact wf_cmp rfl wb1 wb2 | exact wf_cmp rfl wb2 wb1
  refine good_new hf hs (add := [s, s + 1]) ⟨row_mem3 (P := fun p : Bool × Say => Wf T true (n + 1) (plus (dom f) [s, s + 1]) p.2) (wf_pl (wk_new m1) (wk_new m2)) (wf_pl (wk_new m2) (.inl rfl)) ws, row_mem2 (.inl rfl) (.inr rfl), row_mem2 ⟨_, List.mem_cons_self, ?_⟩ ⟨_, List.mem_cons_self, ?_⟩⟩ (fun e => ?_) fun g hg hj e => ?_
  · rw [strg]
    exact List.mem_append_left _ List.mem_cons_self
  · rw [strg]
    exact List.mem_append_right _ List.mem_cons_self
  · obtain ⟨k, hk, e⟩ := sem_nexts.mp e
    refine ⟨fun i => if i = s then k else k + 1, fun i => ?_, fun g hg h => ?_⟩
    · show (if i = s then k else k + 1) ≤ T.n
      split <;> omega
    have h1 : g (.inl s) = some (((if s = s then k else k + 1 : Nat)) : Int) := h s m1
    have h2 : g (.inl (s + 1)) = some (((if s + 1 = s then k else k + 1 : Nat)) : Int) := h (s + 1) m2
    have ne : ¬ s + 1 = s := by omega
    rw [if_pos rfl] at h1
    rw [if_neg ne] at h2
    rw [rowSo_cons, rowSo_cons, rowSo_one, sem_ahead, sem_ahead, plc_inl h1, plc_inl h2, plc_ek, decide_eq_true_iff, decide_eq_true_iff, sem_said hT hr (by omega) hk h1 h2]
    exact ⟨by omega, by omega, e⟩
  · obtain ⟨k, _, h1⟩ := hj s m1
    obtain ⟨j, _, h2⟩ := hj (s + 1) m2
    rw [rowSo_cons, rowSo_cons, rowSo_one, sem_ahead, sem_ahead, plc_inl h1, plc_inl h2, plc_ek, decide_eq_true_iff, decide_eq_true_iff] at e
    obtain ⟨e1, e2, e3⟩ := e
    rw [sem_said hT hr (by omega) (by omega) h1 h2] at e3
    refine Bool.of_not_eq_true fun z => ?_
    have all : ∀ i, i + 1 < T.n → cmpI c ((rowV T r).getD i 0) ((rowV T r).getD (i + 1) 0) = true := fun i hi => Bool.of_not_eq_false fun e => by
      rw [sem_nexts.mpr ⟨i, hi, e⟩] at z
      exact Bool.false_ne_true z
    have e4 := nx_all hc (fun i => (rowV T r).getD i 0) all (j - (k + 1)) k (by omega)
    have e5 : k + 1 + (j - (k + 1)) = j := by omega
    rw [e5] at e4
    exact Bool.false_ne_true (e3.symm.trans e4)
theorem opn_good (hT : T.Ok) (hf : EnOk T f) (hs : ∀ i, dom f (.inl i) → i < s) {t : Bool} {S : Say} {o : Opn} (hw : Wf T true (n + 1) (dom f) S) (ho : opn t S s = some o) : Good T f t S s n o := by
  cases S with
  | cmp c a b =>
    cases c <;> cases t <;> first
      | (cases ho; done)
      | (cases ho; first
          | exact good_eq hf hs hw sem_same
          | exact good_ne hf hs hw sem_sameF
          | exact good_ne hf hs hw sem_unlike
          | exact good_eq hf hs hw sem_unlikeF)
  | pl v p q =>
    cases v <;> cases t <;> first
      | (cases ho; done)
      | (cases ho; first
          | exact good_nextT hf hs hw
          | exact good_nextF hT hf hs hw
          | exact good_here hf hs hw)
  | not a =>
    cases t <;> (cases ho; exact good_not hf hs hw)
  | and l =>
    cases t <;> (cases ho; first | exact good_andT hf hs hw | exact good_andF hf hs hw)
  | or l =>
    cases t <;> (cases ho; first | exact good_orT hf hs hw | exact good_orF hf hs hw)
  | imp a b =>
    cases t <;> (cases ho; first | exact good_impT hf hs hw | exact good_impF hf hs hw)
  | each x a =>
    cases t with
    | true => exact nomatch ho
    | false =>
      cases ho
      exact good_eachF hT hf hs hw
  | pairs x y a =>
    cases t with
    | true => exact nomatch ho
    | false =>
      cases ho
      exact good_pairsF hT hf hs hw
  | nexts r c =>
    cases t with
    | true => exact nomatch ho
    | false =>
      cases ho
      exact good_nextsF hT hf hs hw
end
end EP

/-! ## KM6 -/
namespace EP
open PySem PySem.Spec PyProof.Rows L2
/-! ### how many places -/
mutual
def sl : Say → Nat
  | .cmp _ _ _ => 2
  | .pl _ _ _ => 2
  | .not s => sl s
  | .and l => slL l
  | .or l => slL l
  | .imp s t => sl s + sl t
  | .each _ s => sl s
  | .pairs _ _ s => sl s
  | .nexts _ _ => 2
def slL : List Say → Nat
  | [] => 0
  | s :: l => sl s + slL l
end
theorem strB_len (b : Bs) : (strB b).length ≤ 1 := by
  cases b with
  | non => exact Nat.zero_le _
  | num c => exact Nat.zero_le _
  | «at» r p => cases p <;> exact Nat.le_of_ble_eq_true rfl
theorem intK_len (p : Key) : (intK p).length ≤ 1 := by
  cases p <;> simp [intK]
mutual
theorem strg_len : ∀ s : Say, (strg s).length ≤ sl s
  | .cmp _ a b => by
    rw [strg, sl, List.length_append]
    have := strB_len a.b
    have := strB_len b.b
    omega
  | .pl _ p q => by
    rw [strg, sl, List.length_append]
    have := intK_len p
    have := intK_len q
    omega
  | .not s => by
    rw [strg, sl]
    exact strg_len s
  | .and l => by
    rw [strg, sl]
    exact strgL_len l
  | .or l => by
    rw [strg, sl]
    exact strgL_len l
  | .imp s t => by
    rw [strg, sl, List.length_append]
    have := strg_len s
    have := strg_len t
    omega
  | .each _ s => by
    rw [strg, sl]
    exact strg_len s
  | .pairs _ _ s => by
    rw [strg, sl]
    exact strg_len s
  | .nexts _ _ => by
    rw [strg, sl]
    exact Nat.zero_le _
theorem strgL_len : ∀ l : List Say, (strgL l).length ≤ slL l
  | [] => Nat.le_refl _
  | s :: l => by
    rw [strgL, slL, List.length_append]
    have := strg_len s
    have := strgL_len l
    omega
end
mutual
theorem sl_put (x : Str) (k : Key) : ∀ s : Say, sl (put x k s) = sl s
  | .cmp _ a b => by rw [put, sl, sl]
  | .pl _ p q => by rw [put, sl, sl]
  | .not s => by rw [put, sl, sl, sl_put x k s]
  | .and l => by rw [put, sl, sl, slL_put x k l]
  | .or l => by rw [put, sl, sl, slL_put x k l]
  | .imp s t => by rw [put, sl, sl, sl_put x k s, sl_put x k t]
  | .each _ s => by rw [put] <;> intros <;> contradiction
  | .pairs _ _ s => by rw [put] <;> intros <;> contradiction
  | .nexts _ _ => by rw [put] <;> intros <;> contradiction
theorem slL_put (x : Str) (k : Key) : ∀ l : List Say, slL (putL x k l) = slL l
  | [] => by rw [putL]
  | s :: l => by rw [putL, slL, slL, sl_put x k s, slL_put x k l]
end
def slF : List (Bool × Say) → Nat
  | [] => 0
  | p :: l => sl p.2 + slF l
theorem slF_map (t : Bool) : ∀ l : List Say, slF (l.map fun p => (t, p)) = slL l
  | [] => rfl
  | s :: l => by rw [List.map_cons, slF, slL, slF_map t l]
theorem sl_mem : ∀ {l : List Say} {s : Say}, s ∈ l → sl s ≤ slL l
  | a :: l, s, h => by
    rw [slL]
    rcases List.mem_cons.mp h with rfl | h
    · omega
    · have := sl_mem h
      omega
theorem slF_mem : ∀ {l : List (Bool × Say)} {p : Bool × Say}, p ∈ l → sl p.2 ≤ slF l
  | a :: l, s, h => by
    rw [slF]
    rcases List.mem_cons.mp h with rfl | h
    · omega
    · have := slF_mem h
      omega
theorem opn_sl {t : Bool} {S : Say} {s : Int} {o : Opn} (ho : opn t S s = some o) : ∀ row ∈ o.rows, slF row ≤ sl S + 4 := by
  have f1 : ∀ {a : Bool × Say}, slF [a] = sl a.2 := fun {a} => rfl
  have f2 : ∀ {a b : Bool × Say}, slF [a, b] = sl a.2 + sl b.2 := fun {a b} => rfl
  have f3 : ∀ {a b c : Bool × Say}, slF [a, b, c] = sl a.2 + (sl b.2 + sl c.2) := fun {a b c} => rfl
  have fc : ∀ {c a b}, sl (.cmp c a b) = 2 := fun {c a b} => by rw [sl]
  have fp : ∀ {c a b}, sl (.pl c a b) = 2 := fun {c a b} => by rw [sl]
  have cl : ∀ {t : Bool} {l : List Say} {k : Nat}, slL l ≤ k → ∀ row ∈ l.map (fun p => [(t, p)]), slF row ≤ k := fun {t l k} h row hr => by
    obtain ⟨p, hp, rfl⟩ := List.mem_map.mp hr
    rw [f1]
    exact Nat.le_trans (sl_mem hp) h
  cases S with
  | cmp c a b =>
    have g1 : ∀ {x y : Bool} {c d : Cw} {a b a' b' : Sm}, slF [(x, .cmp c a b), (y, .cmp d a' b')] ≤ 6 := fun {x y c d a b a' b'} => by
      rw [f2, fc, fc]
      omega
    have g2 : ∀ {x : Bool} {c : Cw} {a b : Sm}, slF [(x, .cmp c a b)] ≤ 6 := fun {x c a b} => by
      rw [f1, fc]
      omega
    rw [fc]
    cases c <;> cases t <;> first | (cases ho; done) | (cases ho; first | exact row_mem (P := fun row => slF row ≤ 6) g1 | exact row_mem2 (P := fun row => slF row ≤ 6) g2 g2)
  | pl v p q =>
    have g1 : ∀ {x y : Bool} {c d : Pw} {a b a' b' : Key}, slF [(x, .pl c a b), (y, .pl d a' b')] ≤ 6 := fun {x y c d a b a' b'} => by
      rw [f2, fp, fp]
      omega
    have g2 : ∀ {x : Bool} {c : Pw} {a b : Key}, slF [(x, .pl c a b)] ≤ 6 := fun {x c a b} => by
      rw [f1, fp]
      omega
    rw [fp]
    cases v <;> cases t <;> first | (cases ho; done) | (cases ho; first | exact row_mem (P := fun row => slF row ≤ 6) g2 | exact row_mem2 (P := fun row => slF row ≤ 6) g2 g2 | exact row_mem2 (P := fun row => slF row ≤ 6) g2 g1)
  | not a =>
    have g : slF [(!t, a)] ≤ sl (.not a) + 4 := by
      rw [f1, sl]
      show sl a ≤ sl a + 4
      omega
    cases t <;> (cases ho; exact row_mem (P := fun row => slF row ≤ sl (.not a) + 4) g)
  | and l =>
    have e : sl (.and l) = slL l := by rw [sl]
    have g : ∀ t : Bool, slF (l.map fun p => (t, p)) ≤ sl (.and l) + 4 := fun t => by
      rw [slF_map]
      omega
    cases t <;> (cases ho; first | exact row_mem (P := fun row => slF row ≤ sl (.and l) + 4) (g _) | exact cl (by omega))
  | or l =>
    have e : sl (.or l) = slL l := by rw [sl]
    have g : ∀ t : Bool, slF (l.map fun p => (t, p)) ≤ sl (.or l) + 4 := fun t => by
      rw [slF_map]
      omega
    cases t <;> (cases ho; first | exact row_mem (P := fun row => slF row ≤ sl (.or l) + 4) (g _) | exact cl (by omega))
  | imp a b =>
    have e : sl (.imp a b) = sl a + sl b := by rw [sl]
    have g1 : ∀ x y : Bool, slF [(x, a), (y, b)] ≤ sl (.imp a b) + 4 := fun x y => by
      rw [f2, e]
      exact Nat.le_add_right _ _
    have g2 : ∀ x : Bool, slF [(x, a)] ≤ sl (.imp a b) + 4 := fun x => by
      rw [f1]
      show sl a ≤ _
      omega
    have g3 : ∀ x : Bool, slF [(x, b)] ≤ sl (.imp a b) + 4 := fun x => by
      rw [f1]
      show sl b ≤ _
      omega
    cases t <;> (cases ho; first | exact row_mem (P := fun row => slF row ≤ sl (.imp a b) + 4) (g1 _ _) | exact row_mem2 (P := fun row => slF row ≤ sl (.imp a b) + 4) (g2 _) (g3 _))
  | each x a =>
    cases t with
    | true => cases ho
    | false =>
      cases ho
      refine row_mem (P := fun row => slF row ≤ sl (.each x a) + 4) ?_
      rw [f2, fp, sl_put, sl]
      omega
  | pairs x y a =>
    cases t with
    | true => cases ho
    | false =>
      cases ho
      refine row_mem (P := fun row => slF row ≤ sl (.pairs x y a) + 4) ?_
      rw [f3, fp, fp, sl_put, sl_put, sl]
      omega
  | nexts r c =>
    cases t with
    | true => cases ho
    | false =>
      cases ho
      refine row_mem (P := fun row => slF row ≤ sl (.nexts r c) + 4) ?_
      have e : sl (saidBy r c (.inl s) (.inl (s + 1))) = 2 := by cases c <;> (unfold saidBy; exact fc)
      rw [f3, fp, fp, e, sl]
      omega
/-- no more than a hundred -/
theorem opn_many {T : Wl} {D : Key → Prop} {n : Nat} {t : Bool} {S : Say} {s : Int} {o : Opn} (hw : Wf T true (n + 1) D S) (ho : opn t S s = some o) : o.rows.length ≤ 100 ∧ ∀ row ∈ o.rows, row.length ≤ 100 := by
  have hl : ∀ {l : List Say} {t : Bool}, l.length ≤ 100 → (l.map fun p => (t, p)).length ≤ 100 := fun {l t} h => by
    rw [List.length_map]
    exact h
  have hc : ∀ {l : List Say} {t : Bool}, l.length ≤ 100 → (l.map fun p => [(t, p)]).length ≤ 100 ∧ ∀ row ∈ l.map (fun p => [(t, p)]), row.length ≤ 100 := fun {l t} h => by
    refine ⟨by rw [List.length_map]; exact h, fun row hr => ?_⟩
    obtain ⟨p, hp, rfl⟩ := List.mem_map.mp hr
    exact Nat.le_of_ble_eq_true rfl
  cases S with
  | cmp c a b =>
    cases c <;> cases t <;> first | (cases ho; done) | (cases ho; first | exact ⟨by show 1 ≤ 100; omega, row_mem (P := fun row : List (Bool × Say) => row.length ≤ 100) (by show 2 ≤ 100; omega)⟩ | exact ⟨by show 2 ≤ 100; omega, row_mem2 (P := fun row : List (Bool × Say) => row.length ≤ 100) (by show 1 ≤ 100; omega) (by show 1 ≤ 100; omega)⟩)
  | pl v p q =>
    cases v <;> cases t <;> first | (cases ho; done) | (cases ho; first | exact ⟨by show 1 ≤ 100; omega, row_mem (P := fun row : List (Bool × Say) => row.length ≤ 100) (by show 1 ≤ 100; omega)⟩ | exact ⟨by show 2 ≤ 100; omega, row_mem2 (P := fun row : List (Bool × Say) => row.length ≤ 100) (by show 1 ≤ 100; omega) (by show 1 ≤ 100; omega)⟩ | exact ⟨by show 2 ≤ 100; omega, row_mem2 (P := fun row : List (Bool × Say) => row.length ≤ 100) (by show 1 ≤ 100; omega) (by show 2 ≤ 100; omega)⟩)
  | not a => cases t <;> (cases ho; exact ⟨by show 1 ≤ 100; omega, row_mem (P := fun row : List (Bool × Say) => row.length ≤ 100) (by show 1 ≤ 100; omega)⟩)
  | and l =>
    simp only [Wf] at hw
    cases t <;> (cases ho; first | exact ⟨by show 1 ≤ 100; omega, row_mem (P := fun row : List (Bool × Say) => row.length ≤ 100) (hl hw.1)⟩ | exact hc hw.1)
  | or l =>
    simp only [Wf] at hw
    cases t <;> (cases ho; first | exact ⟨by show 1 ≤ 100; omega, row_mem (P := fun row : List (Bool × Say) => row.length ≤ 100) (hl hw.1)⟩ | exact hc hw.1)
  | imp a b =>
    cases t <;> (cases ho; first | exact ⟨by show 1 ≤ 100; omega, row_mem (P := fun row : List (Bool × Say) => row.length ≤ 100) (by show 2 ≤ 100; omega)⟩ | exact ⟨by show 2 ≤ 100; omega, row_mem2 (P := fun row : List (Bool × Say) => row.length ≤ 100) (by show 1 ≤ 100; omega) (by show 1 ≤ 100; omega)⟩)
  | each x a =>
    cases t with
    | true => cases ho
    | false =>
      cases ho
      exact ⟨by show 1 ≤ 100; omega, row_mem (P := fun row : List (Bool × Say) => row.length ≤ 100) (by show 2 ≤ 100; omega)⟩
  | pairs x y a =>
    cases t with
    | true => cases ho
    | false =>
      cases ho
      exact ⟨by show 1 ≤ 100; omega, row_mem (P := fun row : List (Bool × Say) => row.length ≤ 100) (by show 3 ≤ 100; omega)⟩
  | nexts r c =>
    cases t with
    | true => cases ho
    | false =>
      cases ho
      exact ⟨by show 1 ≤ 100; omega, row_mem (P := fun row : List (Bool × Say) => row.length ≤ 100) (by show 3 ≤ 100; omega)⟩
end EP

/-! ## KF7 -/
namespace EP
open PySem PySem.Spec PyProof.Rows L2
def isIK : Key → Bool
  | .inl _ => true
  | .inr _ => false
def isAtB : Bs → Bool
  | .at _ _ => true
  | _ => false
def kOfB : Bs → Key
  | .at _ p => p
  | _ => .inr ""
def joins : Say → Bool
  | .cmp _ _ _ | .pl _ _ _ | .nexts _ _ => false
  | _ => true
def dsOf (S : Say) : List Dt := match enc S with
  | .tup l => l
  | _ => []
def wordS : Say → Str
  | .cmp c _ _ => c.str
  | .pl w _ _ => w.str
  | .not _ => "not"
  | .and _ => "and"
  | .or _ => "or"
  | .imp _ _ => "if"
  | .each _ _ => "each"
  | .pairs _ _ _ => "pairs"
  | .nexts _ _ => "nexts"
def partsOf : Say → List (Str ⊕ Say)
  | .not s => [.inr s]
  | .and l => l.map .inr
  | .or l => l.map .inr
  | .imp s t => [.inr s, .inr t]
  | .each x s => [.inl x, .inr s]
  | .pairs x y s => [.inl x, .inl y, .inr s]
  | _ => []
def encP : Str ⊕ Say → Dt
  | .inl x => .v (.str x)
  | .inr s => enc s
def cP : Str ⊕ Say → List Int
  | .inl _ => []
  | .inr s => strg s
theorem enc_ds (S : Say) : enc S = .tup (dsOf S) := by cases S <;> rfl
theorem word_at (S : Say) : atI (dsOf S) 0 = some (.v (.str (wordS S))) := by cases S <;> rfl
theorem ty_enc (S : Say) : tyD (enc S) = "tuple" := by cases S <;> rfl
theorem encL_parts (l : List Say) : encL l = (l.map (Sum.inr : Say → Str ⊕ Say)).map encP := by
  rw [encL_map, List.map_map]
  rfl
theorem parts_at {S : Say} (h : wIn (wordS S) ["and", "or"] = true) : joins S = true → atI (dsOf S) 1 = some (.tup ((partsOf S).map encP)) := fun hj => by
  cases S with
  | and l => exact congrArg (fun z => some (Dt.tup z)) (encL_parts l)
  | or l => exact congrArg (fun z => some (Dt.tup z)) (encL_parts l)
  | not s => exact absurd h (show ¬ wIn "not" ["and", "or"] = true by decide +kernel)
  | imp s t => exact absurd h (show ¬ wIn "if" ["and", "or"] = true by decide +kernel)
  | each x s => exact absurd h (show ¬ wIn "each" ["and", "or"] = true by decide +kernel)
  | pairs x y s => exact absurd h (show ¬ wIn "pairs" ["and", "or"] = true by decide +kernel)
  | cmp c a b => exact absurd hj Bool.false_ne_true
  | pl c a b => exact absurd hj Bool.false_ne_true
  | nexts c a => exact absurd hj Bool.false_ne_true
theorem parts_cut {S : Say} (h : wIn (wordS S) ["and", "or"] = false) : joins S = true → cutD (dsOf S) (some 1) none = (partsOf S).map encP := fun hj => by
  rw [cut_tail]
  cases S with
  | and l => exact absurd h (show ¬ wIn "and" ["and", "or"] = false by decide +kernel)
  | or l => exact absurd h (show ¬ wIn "or" ["and", "or"] = false by decide +kernel)
  | not s => rfl
  | imp s t => rfl
  | each x s => rfl
  | pairs x y s => rfl
  | cmp c a b => exact absurd hj Bool.false_ne_true
  | pl c a b => exact absurd hj Bool.false_ne_true
  | nexts c a => exact absurd hj Bool.false_ne_true
theorem strgL_flat : ∀ l : List Say, strgL l = (l.map (Sum.inr : Say → Str ⊕ Say)).flatMap cP
  | [] => rfl
  | s :: l => by
    rw [strgL, strgL_flat l, List.map_cons, List.flatMap_cons]
    rfl
theorem strg_parts {S : Say} (hj : joins S = true) : strg S = (partsOf S).flatMap cP := by
  cases S with
  | and l => rw [strg, strgL_flat]; rfl
  | or l => rw [strg, strgL_flat]; rfl
  | not s => rw [strg]; exact (List.append_nil _).symm
  | imp s t => rw [strg]; show _ = strg s ++ (strg t ++ []); rw [List.append_nil]
  | each x s => rw [strg]; show _ = [] ++ (strg s ++ []); rw [List.append_nil, List.nil_append]
  | pairs x y s => rw [strg]; show _ = [] ++ ([] ++ (strg s ++ [])); rw [List.append_nil, List.nil_append, List.nil_append]
  | cmp c a b => exact absurd hj Bool.false_ne_true
  | pl c a b => exact absurd hj Bool.false_ne_true
  | nexts c a => exact absurd hj Bool.false_ne_true
theorem part_wf {T : Wl} {q : Bool} {n : Nat} {D : Key → Prop} {S s : Say} (w : Wf T q (n + 1) D S) (h : (.inr s : Str ⊕ Say) ∈ partsOf S) : (∃ T q D, Wf T q n D s) ∧ sl s ≤ sl S := by
  have inj : ∀ {a b : Say}, (.inr a : Str ⊕ Say) = .inr b → a = b := fun e => Sum.inr.inj e
  have one : ∀ {a : Say}, (.inr s : Str ⊕ Say) ∈ [.inr a] → s = a := fun h => inj (List.mem_singleton.mp h)
  cases S with
  | and l =>
    obtain ⟨a, ha, e⟩ := List.mem_map.mp h
    have e := inj e
    subst e
    simp only [Wf] at w
    rw [sl]
    exact ⟨⟨T, q, D, w.2 a ha⟩, sl_mem ha⟩
  | or l =>
    obtain ⟨a, ha, e⟩ := List.mem_map.mp h
    have e := inj e
    subst e
    simp only [Wf] at w
    rw [sl]
    exact ⟨⟨T, q, D, w.2 a ha⟩, sl_mem ha⟩
  | not a =>
    rw [one h]
    simp only [Wf] at w
    rw [sl]
    exact ⟨⟨T, q, D, w⟩, Nat.le_refl _⟩
  | imp a b =>
    simp only [Wf] at w
    rw [sl]
    rcases List.mem_cons.mp h with h | h
    · rw [inj h]
      exact ⟨⟨T, q, D, w.1⟩, by omega⟩
    · rw [one h]
      exact ⟨⟨T, q, D, w.2⟩, by omega⟩
  | each x a =>
    simp only [Wf] at w
    rw [sl]
    rcases List.mem_cons.mp h with h | h
    · exact nomatch h
    · rw [one h]
      exact ⟨⟨T, _, _, w.2.2⟩, Nat.le_refl _⟩
  | pairs x y a =>
    simp only [Wf] at w
    rw [sl]
    rcases List.mem_cons.mp h with h | h
    · exact nomatch h
    · rcases List.mem_cons.mp h with h | h
      · exact nomatch h
      · rw [one h]
        exact ⟨⟨T, _, _, w.2.2.2.2⟩, Nat.le_refl _⟩
  | cmp c a b => exact nomatch h
  | pl c a b => exact nomatch h
  | nexts c a => exact nomatch h
theorem no_atom {S : Say} (hj : joins S = true) : wIn (wordS S) ["ahead", "here", "next"] = false ∧ wIn (wordS S) ["most", "less", "same", "unlike"] = false ∧ decide (V.str (wordS S) = V.str "nexts") = false := by
  cases S with
  | and l => exact show wIn "and" ["ahead", "here", "next"] = false ∧ wIn "and" ["most", "less", "same", "unlike"] = false ∧ decide (V.str "and" = V.str "nexts") = false by decide +kernel
  | or l => exact show wIn "or" ["ahead", "here", "next"] = false ∧ wIn "or" ["most", "less", "same", "unlike"] = false ∧ decide (V.str "or" = V.str "nexts") = false by decide +kernel
  | not s => exact show wIn "not" ["ahead", "here", "next"] = false ∧ wIn "not" ["most", "less", "same", "unlike"] = false ∧ decide (V.str "not" = V.str "nexts") = false by decide +kernel
  | imp s t => exact show wIn "if" ["ahead", "here", "next"] = false ∧ wIn "if" ["most", "less", "same", "unlike"] = false ∧ decide (V.str "if" = V.str "nexts") = false by decide +kernel
  | each x s => exact show wIn "each" ["ahead", "here", "next"] = false ∧ wIn "each" ["most", "less", "same", "unlike"] = false ∧ decide (V.str "each" = V.str "nexts") = false by decide +kernel
  | pairs x y s => exact show wIn "pairs" ["ahead", "here", "next"] = false ∧ wIn "pairs" ["most", "less", "same", "unlike"] = false ∧ decide (V.str "pairs" = V.str "nexts") = false by decide +kernel
  | cmp c a b => exact absurd hj Bool.false_ne_true
  | pl c a b => exact absurd hj Bool.false_ne_true
  | nexts c a => exact absurd hj Bool.false_ne_true
variable {P : Program} {w : World} {K : PySem.W.Frag} {mg : Str → Option Value} {base : Heap}
def spStrange (K : PySem.W.Frag) (m : Nat) : Sp := SpP K (fun S : Say => [enc S]) (fun S => (∃ T q D, Wf T q m D S) ∧ sl S ≤ 60) (fun S => .lst (intsD (strg S)))
-- slots of _law_strange: 0 _law_thing, 1 _law_bases, 2 _law_found, 3 _law_part, 4 _law_one, 5 _law_base
abbrev N_q_strange : List Str := ["_law_thing", "_law_bases", "_law_found", "_law_part", "_law_one", "_law_base"]
theorem sc_q_strange : FnScope ["_law_thing", "_law_bases", "_law_found", "_law_part", "_law_one", "_law_base"] ["_law_thing"] (defScope s_q_strange) := ⟨rfl, rfl, rfl, by decide +kernel, rfl, by decide +kernel, by decide +kernel⟩
theorem ok_strange (M : Md K mg) (D : DefAt K mg "_law_strange" s_q_strange ["_law_thing"]) : ∀ m : Nat, Cal P w K mg base (m + 1) "_law_strange" ["_law_thing"] (spStrange K m)
  | 0 => D.none sc_q_strange (fun _ => rfl) fun a h => by
    obtain ⟨⟨_, _, _, h⟩, _⟩ := h
    exact wf0 h
  | m + 1 => by
    have C_q_strange := ok_strange M D m
    refine D.okP (k := m + 1) sc_q_strange (fun _ => rfl) fun f cdv A outer s H E hr => ⟨_, (pss_cons (ps_if (pt_cmpR (op_inS K) (pe_ix (ix_all K) (pv 0) pe_int (fun _ _ => rfl)) (pe_tup (pa_cons pe_str (pa_cons pe_str (pa_cons pe_str pa_nil)))) (by rfl)) (pss_one (ps_ret (pe_lc (own := [("_law_one", 4)]) rfl sc_q_strange.nd (pi_seq K (pe_slice (sl_cut K) (pv 0) (po_some pe_int) po_none)) (blkOk_by (N := N_q_strange) (sc := defScope s_q_strange) (by decide +kernel)) (fun _ _ _ _ _ => (pg_name (i := 4) sc_q_strange.nd rfl (by first | exact Or.inl rfl | exact Or.inr rfl))) (fun _ _ _ _ _ => (pts_one (pt_val (pe_callB (cb_isi K) (by rfl) M.isinstance_ bt_isinstance (pa_cons (pv 4) (pa_cons (pe_bltn (v := .ty "int") (by rfl) M.int_ bt_int rfl) pa_nil)))))) (fun _ _ _ _ _ => (pv 4))))) pss_nil)
  (pss_cons (ps_if (pt_cmpR (op_inS K) (pe_ix (ix_all K) (pv 0) pe_int (fun _ _ => rfl)) (pe_tup (pa_cons pe_str (pa_cons pe_str (pa_cons pe_str (pa_cons pe_str pa_nil))))) (by rfl)) (pss_cons (ps_setLc (i := 1) (own := [("_law_one", 4)]) rfl sc_q_strange.nd rfl rfl (sw_true rfl rfl rfl (by decide +kernel)) (pi_seq K (pe_slice (sl_cut K) (pv 0) (po_some pe_int) po_none)) (blkOk_by (N := N_q_strange) (sc := defScope s_q_strange) (by decide +kernel)) (fun _ _ _ _ _ => (pg_name (i := 4) sc_q_strange.nd rfl (by first | exact Or.inl rfl | exact Or.inr rfl))) (fun _ _ _ _ _ => (pts_one (pt_val (pe_callB (cb_isi K) (by rfl) M.isinstance_ bt_isinstance (pa_cons (pe_ix (ix_all K) (pv 4) pe_int (fun _ _ => rfl)) (pa_cons (pe_bltn (v := .ty "tuple") (by rfl) M.tuple_ bt_tuple rfl) pa_nil)))))) (fun _ _ _ _ _ => (pe_ix (ix_all K) (pv 4) pe_int (fun _ _ => rfl))))
  (pss_one (ps_ret (pe_lc (own := [("_law_base", 5)]) rfl sc_q_strange.nd (pi_seq K (pv 1)) (blkOk_by (N := N_q_strange) (sc := defScope s_q_strange) (by decide +kernel)) (fun _ _ _ _ _ => (pg_name (i := 5) sc_q_strange.nd rfl (by first | exact Or.inl rfl | exact Or.inr rfl))) (fun _ _ _ _ _ => (pts_one (pt_val (pe_callB (cb_isi K) (by rfl) M.isinstance_ bt_isinstance (pa_cons (pe_ix (ix_all K) (pv 5) pe_int (fun _ _ => rfl)) (pa_cons (pe_bltn (v := .ty "int") (by rfl) M.int_ bt_int rfl) pa_nil)))))) (fun _ _ _ _ _ => (pe_ix (ix_all K) (pv 5) pe_int (fun _ _ => rfl))))))) pss_nil)
  (pss_cons (ps_if (pt_cmpR op_eq (pe_ix (ix_all K) (pv 0) pe_int (fun _ _ => rfl)) pe_str (nomark _)) (pss_one (ps_ret (pe_lst pa_nil))) pss_nil)
  (pss_cons (ps_set (i := 2) sc_q_strange.nd rfl (by first | exact Or.inl rfl | exact Or.inr rfl) (pe_lst pa_nil))
  (pss_cons (ps_for PassesOwn.never rfl (pi_seq K (pe_ifExp (pt_cmpR (op_inS K) (pe_ix (ix_all K) (pv 0) pe_int (fun _ _ => rfl)) (pe_tup (pa_cons pe_str (pa_cons pe_str pa_nil))) (by rfl)) (pe_ix (ix_all K) (pv 0) pe_int (fun _ _ => rfl)) (pe_slice (sl_cut K) (pv 0) (po_some pe_int) po_none))) (pg_name (i := 3) sc_q_strange.nd rfl (by first | exact Or.inl rfl | exact Or.inr rfl)) (pss_one (ps_if (pt_val (pe_callB (cb_isi K) (by rfl) M.isinstance_ bt_isinstance (pa_cons (pv 3) (pa_cons (pe_bltn (v := .ty "tuple") (by rfl) M.tuple_ bt_tuple rfl) pa_nil)))) (pss_one (ps_set (i := 2) sc_q_strange.nd rfl (by first | exact Or.inl rfl | exact Or.inr rfl) (pe_op (op_plus K) (pv 2) (pe_cal C_q_strange hr (by omega) (by rfl) (pa_cons (pv 3) pa_nil))))) pss_nil)))
  (pss_one (ps_ret (pv 2)))))))), fun W S r hp => ?_⟩
    have hp' : (∃ T q D, Wf T q (m + 1) D S) ∧ sl S ≤ 60 := hp
    clear hp
    obtain ⟨⟨T, q, D', wf⟩, hsl⟩ := hp'
    have hlen := strg_len S
    show EvS W _ (startG 6 [enc S]) r No (fun r' d => r ≤ r' ∧ d = .lst (intsD (strg S)))
    by_cases hj : joins S = true
    · rw [enc_ds S]
      refine es_ifF (et_in ["ahead", "here", "next"] (ev_ixT (d := .v (.str (wordS S))) (ev_var rfl) ev_c (word_at S)) ev_s3) (no_atom hj).1
        (es_ifF (et_in ["most", "less", "same", "unlike"] (ev_ixT (d := .v (.str (wordS S))) (ev_var rfl) ev_c (word_at S)) ev_s4) (no_atom hj).2.1
        (es_ifF (et_is (ev_ixT (d := .v (.str (wordS S))) (ev_var rfl) ev_c (word_at S))) (no_atom hj).2.2
        (es_asgD (ev_lst ea_nil) (es_seq (N1 := fun r' Γ' => r' = r ∧ ∃ a, Γ' = [some (.tup (dsOf S)), none, some (.lst (intsD (strg S))), a, none, none]) (es_for (vs := [3]) (Inv := fun i r' Γ' => r' = r ∧ ∃ a, Γ' = [some (.tup (dsOf S)), none, some (.lst (intsD (((partsOf S).take i).flatMap cP))), a, none, none])
          (ei_sqT (ds := (partsOf S).map encP) (ev_if (et_in ["and", "or"] (ev_ixT (d := .v (.str (wordS S))) (ev_var rfl) ev_c (word_at S)) ev_s2) (fun h => ev_ixT (ev_var rfl) ev_c (parts_at h hj)) fun h => ev_slE (ev_var rfl) (eo_some ev_c) eo_none (parts_cut h hj)))
          ⟨rfl, _, rfl⟩ (fun i d r' Γ' hd z => ?_) fun r' Γ' z => ?_) fun r' Γ' z => ?_))))
      · obtain ⟨rfl, a, rfl⟩ := z
        rw [List.getElem?_map] at hd
        obtain ⟨p, hp, rfl⟩ := Option.map_eq_some_iff.mp hd
        have htk : (partsOf S).take (i + 1) = (partsOf S).take i ++ [p] := by rw [List.take_add_one, hp]; rfl
        have hmem := List.mem_of_getElem? hp
        have hall : (((partsOf S).take (i + 1)).flatMap cP).length ≤ 60 := by
          have e := strg_parts hj
          rw [← List.take_append_drop (i + 1) (partsOf S), List.flatMap_append] at e
          rw [e, List.length_append] at hlen
          omega
        rw [htk, List.flatMap_append, List.length_append] at hall
        refine ⟨_, eg_name (vs := [3]) (by decide), ?_⟩
        rw [htk, List.flatMap_append]
        cases p with
        | inl x =>
          refine es_if (et_B (ev_isi (T := "str") (b := false) (d := .v (.str x)) (ev_var rfl) rfl (by decide +kernel))) (fun h => absurd h.symm Bool.false_ne_true) fun _ => es_next ⟨rfl, some (.v (.str x)), ?_⟩
          show _ = ([some (.tup (dsOf S)), none, some (.lst (intsD (((partsOf S).take i).flatMap cP ++ []))), some (.v (.str x)), none, none] : Gm)
          rw [List.append_nil]
          rfl
        | inr t =>
          obtain ⟨h1, h2⟩ := part_wf wf hmem
          have e1 : [(Sum.inr t : Str ⊕ Say)].flatMap cP = strg t := List.append_nil _
          rw [e1] at hall ⊢
          refine es_if (et_B (ev_isi (T := "tuple") (b := true) (d := enc t) (ev_var rfl) (ty_enc t) (by decide +kernel))) (fun h => es_last (ev_catL (ev_var rfl) (ev_cd t (ea_cons (ev_var rfl) ea_nil) ⟨h1, by omega⟩) ?_) ⟨rfl, some (enc t), ?_⟩) fun h => absurd h Bool.false_ne_true
          · unfold intsD
            rw [List.length_map, List.length_map, sizeLine_eq]
            omega
          · show ([some (.tup (dsOf S)), none, some (.lst (intsD (((partsOf S).take i).flatMap cP) ++ intsD (strg t))), some (enc t), none, none] : Gm) = _
            unfold intsD
            rw [List.map_append]
      · obtain ⟨rfl, a, rfl⟩ := z
        refine ⟨rfl, a, ?_⟩
        rw [strg_parts hj, List.length_map, List.take_length]
      · obtain ⟨rfl, a, rfl⟩ := z
        exact es_retP (ev_var rfl) rfl
    · cases S with
      | pl v p k =>
        refine es_ifT (et_in ["ahead", "here", "next"] (ev_ixT (d := .v (.str v.str)) (ev_var rfl) ev_c rfl) ev_s3) (by cases v <;> decide +kernel) (es_retP (el_flt (l := [p, k]) (gg := encK) (hh := encK) (p := isIK) (ei_sqT (ev_slT (ev_var rfl) (eo_some ev_c) eo_none)) rfl (ll rfl) fun W' a r' ha => ⟨_, eg_name (by decide), ?_, fun _ => ev_var rfl⟩) ?_)
        · cases a with
          | inl i => exact et_B (ev_isi (T := "int") (b := true) (d := encK (.inl i)) (ev_var rfl) rfl (by decide +kernel))
          | inr z => exact et_B (ev_isi (T := "str") (b := false) (d := encK (.inr z)) (ev_var rfl) rfl (by decide +kernel))
        · rw [strg]
          cases p <;> cases k <;> rfl
      | cmp c a b =>
        simp only [Wf] at wf
        refine es_ifF (et_in ["ahead", "here", "next"] (ev_ixT (d := .v (.str c.str)) (ev_var rfl) ev_c rfl) ev_s3) (by cases c <;> decide +kernel)
          (es_ifT (et_in ["most", "less", "same", "unlike"] (ev_ixT (d := .v (.str c.str)) (ev_var rfl) ev_c rfl) ev_s4) (by cases c <;> first | decide +kernel | exact absurd wf.1 Bool.false_ne_true)
          (es_asgD (el_flt (l := [a, b]) (gg := encSm) (hh := fun a => encB a.b) (p := fun a => isAtB a.b) (ei_sqT (ev_slT (ev_var rfl) (eo_some ev_c) eo_none)) rfl (ll rfl) fun W' a r' ha => ⟨_, eg_name (by decide), ?_, fun _ => ev_ixT (d := encB a.b) (ev_var rfl) ev_c rfl⟩)
          (es_retP (el_flt (l := [a, b].filter fun a => isAtB a.b) (gg := fun a => encB a.b) (hh := fun a => encK (kOfB a.b)) (p := fun a => isIK (kOfB a.b)) (ei_sqL (ev_var rfl)) rfl (Nat.le_trans (List.length_filter_le _ _) (ll rfl)) fun W' a r' ha => ⟨_, eg_name (by decide), ?_, fun _ => ?_⟩) ?_)))
        · obtain ⟨b, m⟩ := a
          cases b with
          | non => exact et_B (ev_isi (T := "NoneType") (b := false) (ev_ixT (d := .v .non) (ev_var rfl) ev_c rfl) rfl (by decide +kernel))
          | num z => exact et_B (ev_isi (T := "str") (b := false) (ev_ixT (d := .v (.str z)) (ev_var rfl) ev_c rfl) rfl (by decide +kernel))
          | «at» z p => exact et_B (ev_isi (T := "tuple") (b := true) (ev_ixT (d := encB (.at z p)) (ev_var rfl) ev_c rfl) rfl (by decide +kernel))
        · have hat := (List.mem_filter.mp ha).2
          obtain ⟨b, m⟩ := a
          cases b with
          | non => exact absurd hat Bool.false_ne_true
          | num z => exact absurd hat Bool.false_ne_true
          | «at» z p =>
            cases p with
            | inl i => exact et_B (ev_isi (T := "int") (b := true) (ev_ixT (d := encK (.inl i)) (ev_var (d := .tup [.v (.str z), encK (.inl i)]) rfl) ev_c rfl) rfl (by decide +kernel))
            | inr y => exact et_B (ev_isi (T := "str") (b := false) (ev_ixT (d := encK (.inr y)) (ev_var (d := .tup [.v (.str z), encK (.inr y)]) rfl) ev_c rfl) rfl (by decide +kernel))
        · have hat := (List.mem_filter.mp ha).2
          obtain ⟨b, m⟩ := a
          cases b with
          | non => exact absurd hat Bool.false_ne_true
          | num z => exact absurd hat Bool.false_ne_true
          | «at» z p => exact ev_ixT (d := encK p) (ev_var (d := .tup [.v (.str z), encK p]) rfl) ev_c rfl
        · rw [strg]
          obtain ⟨a, m⟩ := a
          obtain ⟨b, n⟩ := b
          have z : ∀ a : Bs, ([a].filter isAtB).filter (fun a => isIK (kOfB a)) = [a].filter (fun a => isIK (kOfB a)) := fun a => by
            cases a <;> rfl
          cases a with
          | non => cases b with
            | non => rfl
            | num z => rfl
            | «at» z p => cases p <;> rfl
          | num y => cases b with
            | non => rfl
            | num z => rfl
            | «at» z p => cases p <;> rfl
          | «at» y k => cases b with
            | non => cases k <;> rfl
            | num z => cases k <;> rfl
            | «at» z p => cases k <;> cases p <;> rfl
      | nexts z c =>
        exact es_ifF (et_in ["ahead", "here", "next"] (ev_ixT (d := .v (.str "nexts")) (ev_var rfl) ev_c rfl) ev_s3) (by decide +kernel)
          (es_ifF (et_in ["most", "less", "same", "unlike"] (ev_ixT (d := .v (.str "nexts")) (ev_var rfl) ev_c rfl) ev_s4) (by decide +kernel)
          (es_ifT (et_is (ev_ixT (d := .v (.str "nexts")) (ev_var rfl) ev_c rfl)) (by decide +kernel) (es_retP (ev_lst ea_nil) (by rw [strg]; rfl))))
      | not s => exact absurd rfl hj
      | and s => exact absurd rfl hj
      | or s => exact absurd rfl hj
      | imp s t => exact absurd rfl hj
      | each x s => exact absurd rfl hj
      | pairs x y s => exact absurd rfl hj
end EP

/-! ## KF8 -/
namespace EP
open PySem PySem.Spec PyProof.Rows L2
variable {P : Program} {w : World} {K : PySem.W.Frag} {mg : Str → Option Value} {base : Heap}
/-! ### is_so -/
def fD (b : Bool) (l : List (Bool × Say)) : Dt := if b then encR l else .lst (l.map encF)
def spSo (K : PySem.W.Frag) (m : Nat) (b : Bool) : Sp := SpP K (fun a : Wl × Nat × En × List (Bool × Say) => [castD a.1, standD a.1, .env a.2.1 a.2.2.1, fD b a.2.2.2])
  (fun a => a.1.Ok ∧ EnOk a.1 a.2.2.1 ∧ (∀ p ∈ a.2.2.2, ∃ q, Wf a.1 q m (dom a.2.2.1) p.2) ∧ a.2.1 + 100 * m ≤ 5000 ∧ a.2.2.2.length ≤ 100) (fun a => .v (.bl (rowSo a.1 a.2.2.1 a.2.2.2)))
-- slots of _law_is_so: 0 _law_cast, 1 _law_standing_here, 2 _law_spots, 3 _law_facts, 4 _law_truth, 5 _law_saying_here
abbrev N_q_is_so : List Str := ["_law_cast", "_law_standing_here", "_law_spots", "_law_facts", "_law_truth", "_law_saying_here"]
theorem sc_q_is_so : FnScope ["_law_cast", "_law_standing_here", "_law_spots", "_law_facts", "_law_truth", "_law_saying_here"] ["_law_cast", "_law_standing_here", "_law_spots", "_law_facts"] (defScope s_q_is_so) := ⟨rfl, rfl, rfl, by decide +kernel, rfl, by decide +kernel, by decide +kernel⟩
def spHoldsB (K : PySem.W.Frag) : Sp := spHolds K 0
theorem ok_is_so (M : Md K mg) (D : DefAt K mg "_law_is_so" s_q_is_so ["_law_cast", "_law_standing_here", "_law_spots", "_law_facts"]) (m lv : Nat) (b : Bool)
    (C_q_holds : Cal P w K mg base lv "_law_holds" ["_law_cast", "_law_standing_here", "_law_saying_here", "_law_spots"] (spHolds K m)) :
    Cal P w K mg base (lv + 1) "_law_is_so" ["_law_cast", "_law_standing_here", "_law_spots", "_law_facts"] (spSo K m b) := by
  refine D.okP (k := lv) sc_q_is_so (fun _ => rfl) fun f cdv A outer s H E hr => ⟨_, (pss_one (ps_ret (pe_cmpR (op_niS K) pe_bl (pe_lc (own := [("_law_truth", 4), ("_law_saying_here", 5)]) rfl sc_q_is_so.nd (pi_seq K (pv 3)) (blkOk_by (N := N_q_is_so) (sc := defScope s_q_is_so) (by decide +kernel)) (fun _ _ _ _ _ => (pg_tupK K (n := 2) rfl (pgs_cons (pg_name (i := 4) sc_q_is_so.nd rfl (by first | exact Or.inl rfl | exact Or.inr rfl)) (pgs_cons (pg_name (i := 5) sc_q_is_so.nd rfl (by first | exact Or.inl rfl | exact Or.inr rfl)) pgs_nil)))) (fun _ _ _ _ _ => pts_nil) (fun _ _ _ _ _ => (pe_cmpR op_eq (pe_cal C_q_holds hr (by omega) (by rfl) (pa_cons (pv 0) (pa_cons (pv 1) (pa_cons (pv 5) (pa_cons (pv 2) pa_nil))))) (pv 4) (nomark _)))) (by rfl)))), fun W a r hp => ?_⟩
  obtain ⟨T, n, g, l⟩ := a
  have hp' : T.Ok ∧ EnOk T g ∧ (∀ p ∈ l, ∃ q, Wf T q m (dom g) p.2) ∧ n + 100 * m ≤ 5000 ∧ l.length ≤ 100 := hp
  clear hp
  obtain ⟨ok, hg, wf, hn, hl⟩ := hp'
  show EvS W _ (startG 6 [castD T, standD T, .env n g, fD b l]) r No (fun r' d => r ≤ r' ∧ d = .v (.bl (rowSo T g l)))
  refine es_ret (P := At (.v (.bl (rowSo T g l)))) (Ev.is (ev_inB (neg := true) (bs := l.map fun p => decide (V.bl (sem T g p.2) = V.bl p.1)) ev_c (Ev.is (el_map (ds := l.map encF) (l := l) (gg := encF) (hh := fun p => .v (.bl (decide (V.bl (sem T g p.2) = V.bl p.1)))) ?_ rfl (by omega)
    fun W' x r' hx => ⟨_, eg_tup2 (by decide) (by decide), ev_eq (ev_cd (T, n, g, x.2) (ea_cons (ev_var rfl) (ea_cons (ev_var rfl) (ea_cons (ev_var rfl) (ea_cons (ev_var rfl) ea_nil)))) ⟨ok, hg, wf x hx, hn⟩) (ev_var rfl) rfl⟩) ?_)) ?_) fun _ e => ⟨Nat.le_refl _, e⟩
  · cases b with
    | true => exact ei_sqT (ev_var rfl)
    | false => exact ei_sqL (ev_var rfl)
  · unfold blsD
    rw [List.map_map]
    rfl
  · rw [if_pos rfl, all_of, List.all_map]
    congr 2
    unfold rowSo
    congr 1
    funext p
    show decide (V.bl (sem T g p.2) = V.bl p.1) = decide (sem T g p.2 = p.1)
    simp
/-! ### all ways for new places -/
theorem exts_append (n : Nat) : ∀ (ks ls : List Int) (fs : List En), exts n (ks ++ ls) fs = exts n ls (exts n ks fs)
  | [], _, _ => rfl
  | _ :: ks, ls, fs => exts_append n ks ls _
def stepE (n : Nat) (k : Int) (f : En) : List En := (List.range (n + 1)).map fun (i : Nat) => updE f (.inl k) (i : Int)
theorem exts_one (n : Nat) (k : Int) (fs : List En) : exts n [k] fs = fs.flatMap (stepE n k) := rfl
theorem flat_len (n : Nat) (k : Int) : ∀ fs : List En, (fs.flatMap (stepE n k)).length = fs.length * (n + 1)
  | [] => (Nat.zero_mul _).symm
  | f :: fs => by
    rw [List.flatMap_cons, List.length_append, flat_len n k fs, List.length_cons, Nat.succ_mul]
    unfold stepE
    rw [List.length_map, List.length_range]
    omega
theorem exts_len (n : Nat) : ∀ (ks : List Int) (fs : List En), (exts n ks fs).length = fs.length * (n + 1) ^ ks.length
  | [], fs => by
    show fs.length = fs.length * 1
    omega
  | k :: ks, fs => by
    show (exts n ks (fs.flatMap (stepE n k))).length = _
    rw [exts_len n ks, flat_len, List.length_cons, Nat.pow_succ, Nat.mul_assoc, Nat.mul_comm (n + 1)]
theorem intsD_inj {a b : List Int} (h : intsD a = intsD b) : a = b := by
  unfold intsD at h
  exact (List.map_inj_right fun x y e => V.int.inj (Dt.v.inj e)).mp h
def waysD (c : Nat) (fs : List En) : Dt := .lst (fs.map fun f => .env c f)
def spBy (K : PySem.W.Frag) (m : Nat) : Sp := SpW (fun W : Wd K => W) (fun _ (a : Wl × Nat × En × List (Bool × Say) × Int) => [castD a.1, standD a.1, .env a.2.1 a.2.2.1, encR a.2.2.2.1, .v (.int a.2.2.2.2)])
  (fun a => a.1.Ok ∧ (∀ p ∈ a.2.2.2.1, ∃ T q D, Wf T q m D p.2) ∧ slF a.2.2.2.1 ≤ 60 ∧ a.2.2.2.1.length ≤ 100 ∧ (∀ i ∈ newOf a.2.2.2.2 a.2.2.2.1, i = a.2.2.2.2 ∨ i = a.2.2.2.2 + 1) ∧ a.2.1 ≤ 1000) (fun _ => 0)
  (fun a d => ∃ ks, Ks a.2.2.2.2 a.2.2.2.1 ks ∧ ks.length ≤ 2 ∧ d = waysD (a.2.1 + ks.length) (exts a.1.n ks [a.2.2.1]))
theorem few {s : Int} {ks : List Int} (h : ks.Pairwise (· < ·)) (hm : ∀ i ∈ ks, i = s ∨ i = s + 1) : ks.length ≤ 2 := by
  match ks, h, hm with
  | [], _, _ => exact Nat.zero_le _
  | [_], _, _ => exact Nat.le_of_ble_eq_true rfl
  | [_, _], _, _ => exact Nat.le_refl _
  | a :: b :: c :: l, h, hm =>
    have h1 := List.pairwise_cons.mp h
    have h2 := List.pairwise_cons.mp h1.2
    have e1 := h1.1 b List.mem_cons_self
    have e2 := h2.1 c List.mem_cons_self
    have ha := hm a List.mem_cons_self
    have hb := hm b (List.mem_cons_of_mem _ List.mem_cons_self)
    have hc := hm c (List.mem_cons_of_mem _ (List.mem_cons_of_mem _ List.mem_cons_self))
    omega
-- slots of _law_spots_by: 0 _law_cast, 1 _law_standing_here, 2 _law_spots, 3 _law_facts, 4 _law_strange_here, 5 _law_new, 6 _law_truth, 7 _law_saying_here, 8 _law_found, 9 _law_one, 10 _law_longer, 11 _law_some, 12 _law_place_here, 13 _law_inner
abbrev N_q_spots_by : List Str := ["_law_cast", "_law_standing_here", "_law_spots", "_law_facts", "_law_strange_here", "_law_new", "_law_truth", "_law_saying_here", "_law_found", "_law_one", "_law_longer", "_law_some", "_law_place_here", "_law_inner"]
theorem sc_q_spots_by : FnScope ["_law_cast", "_law_standing_here", "_law_spots", "_law_facts", "_law_strange_here", "_law_new", "_law_truth", "_law_saying_here", "_law_found", "_law_one", "_law_longer", "_law_some", "_law_place_here", "_law_inner"] ["_law_cast", "_law_standing_here", "_law_spots", "_law_facts", "_law_strange_here"] (defScope s_q_spots_by) := ⟨rfl, rfl, rfl, by decide +kernel, rfl, by decide +kernel, by decide +kernel⟩
theorem newOf_take {s : Int} {row : List (Bool × Say)} {i : Nat} {p : Bool × Say} (h : row[i]? = some p) : newOf s (row.take (i + 1)) = newOf s (row.take i) ++ (strg p.2).filter fun i => decide (s ≤ i) := by
  have e : row.take (i + 1) = row.take i ++ [p] := by rw [List.take_add_one, h]; rfl
  unfold newOf
  rw [e, List.flatMap_append, List.filter_append]
  congr 2
  exact List.append_nil _
theorem slF_take : ∀ (row : List (Bool × Say)) (i : Nat), (newOf 0 []).length = 0 ∧ ∀ s, (newOf s (row.take i)).length ≤ slF row
  | [], i => ⟨rfl, fun s => by rw [List.take_nil]; exact Nat.zero_le _⟩
  | p :: row, 0 => ⟨rfl, fun s => Nat.zero_le _⟩
  | p :: row, i + 1 => ⟨rfl, fun s => by
    have ih := (slF_take row i).2 s
    have h1 := strg_len p.2
    rw [List.take_succ_cons, slF]
    unfold newOf at ih ⊢
    rw [List.flatMap_cons, List.filter_append, List.length_append]
    have h2 := List.length_filter_le (fun i => decide (s ≤ i)) (strg p.2)
    omega⟩
theorem ok_spots_by (M : Md K mg) (D : DefAt K mg "_law_spots_by" s_q_spots_by ["_law_cast", "_law_standing_here", "_law_spots", "_law_facts", "_law_strange_here"]) (m lv : Nat)
    (C_q_strange : Cal P w K mg base lv "_law_strange" ["_law_thing"] (spStrange K m)) :
    Cal P w K mg base (lv + 1) "_law_spots_by" ["_law_cast", "_law_standing_here", "_law_spots", "_law_facts", "_law_strange_here"] (spBy K m) := by
  refine D.okW (k := lv) sc_q_spots_by (fun _ _ => rfl) fun f cdv A outer s H E hr => ?_
  have hu := hu_of hr
  refine ⟨_, (pss_cons (ps_set (i := 5) sc_q_spots_by.nd rfl (by first | exact Or.inl rfl | exact Or.inr rfl) (pe_lst pa_nil))
  (pss_cons (ps_for PassesOwn.never rfl (pi_seq K (pv 3)) (pg_tupK K (n := 2) rfl (pgs_cons (pg_name (i := 6) sc_q_spots_by.nd rfl (by first | exact Or.inl rfl | exact Or.inr rfl)) (pgs_cons (pg_name (i := 7) sc_q_spots_by.nd rfl (by first | exact Or.inl rfl | exact Or.inr rfl)) pgs_nil))) (pss_one (ps_set (i := 5) sc_q_spots_by.nd rfl (by first | exact Or.inl rfl | exact Or.inr rfl) (pe_op (op_plus K) (pv 5) (pe_lc (own := [("_law_one", 9)]) rfl sc_q_spots_by.nd (pi_seq K (pe_cal C_q_strange hr (by omega) (by rfl) (pa_cons (pv 7) pa_nil))) (blkOk_by (N := N_q_spots_by) (sc := defScope s_q_spots_by) (by decide +kernel)) (fun _ _ _ _ _ => (pg_name (i := 9) sc_q_spots_by.nd rfl (by first | exact Or.inl rfl | exact Or.inr rfl))) (fun _ _ _ _ _ => (pts_one (pt_cmpR op_ge (pv 9) (pv 4) (nomark _)))) (fun _ _ _ _ _ => (pv 9)))))))
  (pss_cons (ps_set (i := 8) sc_q_spots_by.nd rfl (by first | exact Or.inl rfl | exact Or.inr rfl) (pe_lst (pa_cons (pv 2) pa_nil)))
  (pss_cons (ps_for PassesOwn.never rfl (pi_seq K (pe_callB (cb_sortedSet w) (by rfl) M.sorted_ bt_sorted (pa_cons (pe_callTy (cb_set K w) (by rfl) M.set_ bt_set (pa_cons (pv 5) pa_nil)) pa_nil))) (pg_name (i := 9) sc_q_spots_by.nd rfl (by first | exact Or.inl rfl | exact Or.inr rfl)) (pss_cons (ps_set (i := 10) sc_q_spots_by.nd rfl (by first | exact Or.inl rfl | exact Or.inr rfl) (pe_lst pa_nil))
  (pss_cons (ps_for PassesOwn.never rfl (pi_seq K (pv 8)) (pg_name (i := 11) sc_q_spots_by.nd rfl (by first | exact Or.inl rfl | exact Or.inr rfl)) (pss_one (ps_for PassesOwn.never rfl (pi_range1 (by rfl) M.range_ (pa_cons (pe_op (op_plus K) (pe_callB (cb_len K) (by rfl) M.len_ bt_len (pa_cons (pe_ix (ix_all K) (pe_ix (ix_all K) (pv 1) pe_int (fun _ _ => rfl)) pe_int (fun _ _ => rfl)) pa_nil)) pe_int) pa_nil)) (pg_name (i := 12) sc_q_spots_by.nd rfl (by first | exact Or.inl rfl | exact Or.inr rfl)) (pss_cons (ps_set (i := 13) sc_q_spots_by.nd rfl (by first | exact Or.inl rfl | exact Or.inr rfl) (pe_callTy cb_dict (by rfl) M.dict_ bt_dict (pa_cons (pv 11) pa_nil)))
  (pss_cons (ps_dput hu (pv 13) (pv 9) (pv 12) rfl)
  (pss_one (ps_expr (pe_bm PySem.F.plainAttrs_list PySem.F.slot_list_append PySem.F.type_list_append mt_append (pv 10) (pa_cons (pv 13) pa_nil)))))))))
  (pss_one (ps_set (i := 8) sc_q_spots_by.nd rfl (by first | exact Or.inl rfl | exact Or.inr rfl) (pv 10))))))
  (pss_one (ps_ret (pv 8))))))), fun W a r hp => ?_⟩
  obtain ⟨T, n, g, row, s⟩ := a
  have hp' : T.Ok ∧ (∀ p ∈ row, ∃ T q D, Wf T q m D p.2) ∧ slF row ≤ 60 ∧ row.length ≤ 100 ∧ (∀ i ∈ newOf s row, i = s ∨ i = s + 1) ∧ n ≤ 1000 := hp
  clear hp
  obtain ⟨ok, wf, hsl, hrow, hnew, hn⟩ := hp'
  have small : T.n ≤ 20 := ok.small
  show EvS W _ (startG 14 [castD T, standD T, .env n g, encR row, .v (.int s)]) r No (fun r' d => r ≤ r' ∧ ∃ ks, Ks s row ks ∧ ks.length ≤ 2 ∧ d = waysD (n + ks.length) (exts T.n ks [g]))
  let Gs : List Int → Option Dt → Option Dt → Option Dt → Option Dt → Option Dt → Option Dt → Option Dt → Option Dt → Gm := fun nw a b f o l u v x => [some (castD T), some (standD T), some (.env n g), some (encR row), some (.v (.int s)), some (.lst (intsD nw)), a, b, f, o, l, u, v, x]
  refine es_asgD (ev_lst ea_nil) (es_seq (N1 := fun r' Γ' => r' = r ∧ ∃ a b, Γ' = Gs (newOf s row) a b none none none none none none) (es_for (vs := [6, 7]) (Inv := fun i r' Γ' => r' = r ∧ ∃ a b, Γ' = Gs (newOf s (row.take i)) a b none none none none none none)
    (ei_sqT (ds := row.map encF) (ev_var rfl)) ⟨rfl, none, none, rfl⟩ (fun i d r' Γ' hd z => ?_) fun r' Γ' z => ?_) fun r' Γ' z => ?_)
  · obtain ⟨rfl, a, b, rfl⟩ := z
    rw [List.getElem?_map] at hd
    obtain ⟨p, hp, rfl⟩ := Option.map_eq_some_iff.mp hd
    have hmem := List.mem_of_getElem? hp
    have hall := (slF_take row (i + 1)).2 s
    rw [newOf_take hp] at hall ⊢
    rw [List.length_append] at hall
    have hps := slF_mem hmem
    have hst := strg_len p.2
    refine ⟨_, eg_tup2 (by decide) (by decide), es_last (ev_catL (ev_var rfl) (el_flt (l := strg p.2) (gg := fun i => .v (.int i)) (hh := fun i => .v (.int i)) (p := fun i => decide (s ≤ i)) (ei_sqL (ev_cd p.2 (ea_cons (ev_var rfl) ea_nil) ⟨wf p hmem, by omega⟩)) rfl (by omega)
      fun W' a r' ha => ⟨_, eg_name (by decide), et_T (ev_int (ev_var rfl) (ev_var rfl)), fun _ => ev_var rfl⟩) ?_) ⟨rfl, some (.v (.bl p.1)), some (enc p.2), ?_⟩⟩
    · unfold intsD
      rw [List.length_map, List.length_map, sizeLine_eq]
      omega
    · have e : ∀ x y : List Int, intsD (x ++ y) = intsD x ++ y.map fun i => .v (.int i) := fun x y => by
        unfold intsD
        rw [List.map_append]
      show _ = ([some (castD T), some (standD T), some (.env n g), some (encR row), some (.v (.int s)), some (.lst (intsD (newOf s (row.take i) ++ (strg p.2).filter fun i => decide (s ≤ i)))), some (.v (.bl p.1)), some (enc p.2), none, none, none, none, none, none] : Gm)
      rw [e]
      rfl
  · obtain ⟨rfl, a, b, rfl⟩ := z
    refine ⟨rfl, a, b, ?_⟩
    rw [List.length_map, List.take_length]
  · obtain ⟨rfl, a, b, rfl⟩ := z
    have hlen : (newOf s row).length ≤ 60 := by
      have := (slF_take row row.length).2 s
      rw [List.take_length] at this
      omega
    refine es_asgD (ev_lst (ea_cons (ev_var rfl) ea_nil)) (es_seq (N1 := fun r'' Γ' => r'' = r' ∧ ∃ ks, Ks s row ks ∧ ks.length ≤ 2 ∧ ∃ o l u v x, Γ' = Gs (newOf s row) a b (some (waysD (n + ks.length) (exts T.n ks [g]))) o l u v x)
      (es_forP (vs := [9]) (PL := fun ds => ∃ ks, Ks s row ks ∧ ks.length ≤ 2 ∧ ds = intsD ks)
        (Inv := fun ds i r'' Γ' => ∀ ks, Ks s row ks → ks.length ≤ 2 → ds = intsD ks → r'' = r' ∧ ∃ o l u v x, Γ' = Gs (newOf s row) a b (some (waysD (n + min i ks.length) (exts T.n (ks.take i) [g]))) o l u v x)
        (ei_sqLP (ev_sortedSet (P := fun d => ∃ ks, Ks s row ks ∧ ks.length ≤ 2 ∧ d = .lst (intsD ks)) (ns := newOf s row) (ev_var rfl) hlen fun ks _ h1 h2 => ⟨ks, h2, few h1 fun i hi => hnew i ((h2 i).mp hi), rfl⟩) fun d z => ?_)
        (fun ds _ ks _ _ _ => ⟨rfl, none, none, none, none, none, ?_⟩) (fun ds pl i d r'' Γ' hd z => ?_) fun ds pl r'' Γ' z => ?_) fun r'' Γ' z => ?_)
    · obtain ⟨ks, h1, h2, e⟩ := z
      exact ⟨intsD ks, e, ks, h1, h2, rfl⟩
    · rw [Nat.zero_min]
      rfl
    · obtain ⟨ks, h1, h2, rfl⟩ := pl
      obtain ⟨rfl, o, l, u, v, x, rfl⟩ := z ks h1 h2 rfl
      unfold intsD at hd
      rw [List.getElem?_map] at hd
      obtain ⟨k, hk, rfl⟩ := Option.map_eq_some_iff.mp hd
      have hi : i < ks.length := by
        obtain ⟨h, _⟩ := List.getElem?_eq_some_iff.mp hk
        exact h
      have hmin : min i ks.length = i := by omega
      rw [hmin]
      have htk : ks.take (i + 1) = ks.take i ++ [k] := by rw [List.take_add_one, hk]; rfl
      let fs := exts T.n (ks.take i) [g]
      have hfs : fs.length ≤ 21 := by
        show (exts T.n (ks.take i) [g]).length ≤ 21
        rw [exts_len, List.length_take, hmin]
        have h3 : i = 0 ∨ i = 1 := by omega
        rcases h3 with h3 | h3
        · subst h3
          show 1 * 1 ≤ 21
          omega
        · subst h3
          show 1 * (T.n + 1) ^ 1 ≤ 21
          rw [Nat.pow_one]
          omega
      have hflat : ∀ j, ((fs.take j).flatMap (stepE T.n k)).length ≤ 441 := fun j => by
        rw [flat_len, List.length_take]
        have h3 : min j fs.length ≤ 21 := by omega
        exact Nat.le_trans (Nat.mul_le_mul h3 (show T.n + 1 ≤ 21 by omega)) (Nat.le_refl _)
      refine ⟨_, eg_name (by decide), es_own (NL := fun r3 ds' Γ' => r3 = r'' ∧ ds' = (fs.flatMap (stepE T.n k)).map (fun f => .env (n + i + 1) f) ∧ ∃ z u v x, Γ' = Gs (newOf s row) a b (some (waysD (n + i) fs)) (some (.v (.int k))) z u v x) (ll rfl)
        (ev_lForL (es := fs.map fun f => .env (n + i) f) (Inv := fun j r3 ds' Γ' => r3 = r'' ∧ ds' = ((fs.take j).flatMap (stepE T.n k)).map (fun f => .env (n + i + 1) f) ∧ ∃ z u v x, Γ' = Gs (newOf s row) a b (some (waysD (n + i) fs)) (some (.v (.int k))) z u v x)
          (fun p xs => ev_var rfl) ⟨rfl, rfl, _, _, _, _, rfl⟩ (by decide) (fun j d r3 ds' Γ' hd z => ?_) fun r3 ds' Γ' z => ?_) (fun r3 ds' Γ' z => ?_) fun r3 ds' Γ' z => ?_⟩
      · obtain ⟨rfl, rfl, z, u, v, x, rfl⟩ := z
        rw [List.getElem?_map] at hd
        obtain ⟨f, hf, rfl⟩ := Option.map_eq_some_iff.mp hd
        have htf : fs.take (j + 1) = fs.take j ++ [f] := by rw [List.take_add_one, hf]; rfl
        have eF : (fs.take (j + 1)).flatMap (stepE T.n k) = (fs.take j).flatMap (stepE T.n k) ++ stepE T.n k f := by
          rw [htf, List.flatMap_append]
          congr 1
          exact List.append_nil _
        rw [eF]
        have hj := hflat j
        refine ev_lForR (m := T.n + 1) (Inv := fun c r4 ds' Γ' => r4 = r3 ∧ ds' = ((fs.take j).flatMap (stepE T.n k) ++ (stepE T.n k f).take c).map (fun f => .env (n + i + 1) f) ∧ ∃ z v x, Γ' = Gs (newOf s row) a b (some (waysD (n + i) fs)) (some (.v (.int k))) z (some (.env (n + i) f)) v x)
          (fun p xs => er_rng1 (Ev.is (ev_addI (ev_many ok (ev_var rfl)) ev_c) rfl) (by omega)) ⟨rfl, ?_, _, _, _, rfl⟩ (by decide) (fun c r4 ds' Γ' hc z => ?_) fun r4 ds' Γ' z => ?_
        · rw [List.take_zero, List.append_nil]
        · obtain ⟨rfl, rfl, z, v, x, rfl⟩ := z
          have e0 : (0 : Int) + (c : Int) = (c : Int) := Int.zero_add _
          rw [e0]
          have hst : (stepE T.n k f)[c]? = some (updE f (.inl k) (c : Int)) := by
            unfold stepE
            rw [List.getElem?_map, List.getElem?_range hc]
            rfl
          have htc : (stepE T.n k f).take (c + 1) = (stepE T.n k f).take c ++ [updE f (.inl k) (c : Int)] := by rw [List.take_add_one, hst]; rfl
          refine ev_lS (r1 := r4) (Γ1 := Gs (newOf s row) a b (some (waysD (n + i) fs)) (some (.v (.int k))) none (some (.env (n + i) f)) (some (.v (.int (c : Int)))) (some (.env (n + i + 1) (updE f (.inl k) (c : Int)))))
            (fun p xs => es_newput (n := n + i) (f := f) (k := .inl k) (jj := (c : Int)) (ev_var rfl) (ev_var rfl) (ev_var rfl) (by omega) (ll rfl) (es_next ⟨rfl, rfl⟩)) (ev_lApp (d := .env (n + i + 1) (updE f (.inl k) (c : Int))) (ll rfl) (fun p xs => ev_var rfl) ?_ ⟨rfl, ?_, _, _, _, rfl⟩)
          · rw [List.length_map, List.length_append, List.length_take]
            omega
          · rw [htc, ← List.append_assoc, List.map_append (l₂ := [_])]
            rfl
        · obtain ⟨rfl, rfl, z, v, x, rfl⟩ := z
          refine ⟨rfl, ?_, _, _, _, _, rfl⟩
          have hl : (stepE T.n k f).length = T.n + 1 := by
            unfold stepE
            rw [List.length_map, List.length_range]
          rw [← hl, List.take_length]
      · obtain ⟨rfl, rfl, z, u, v, x, rfl⟩ := z
        refine ⟨rfl, ?_, _, _, _, _, rfl⟩
        rw [List.length_map, List.take_length]
      · obtain ⟨rfl, rfl, z, u, v, x, rfl⟩ := z
        exact ll rfl
      · obtain ⟨rfl, rfl, z, u, v, x, rfl⟩ := z
        refine es_last (ev_var rfl) fun ks' h1' h2' e' => ?_
        have ek := intsD_inj e'
        subst ek
        refine ⟨rfl, some (.v (.int k)), some (.lst ((fs.flatMap (stepE T.n k)).map fun f => .env (n + i + 1) f)), u, v, x, ?_⟩
        have hm2 : min (i + 1) ks.length = i + 1 := by omega
        rw [hm2, htk, exts_append, exts_one]
        rfl
    · obtain ⟨ks, h1, h2, rfl⟩ := pl
      obtain ⟨rfl, o, l, u, v, x, rfl⟩ := z ks h1 h2 rfl
      refine ⟨rfl, ks, h1, h2, o, l, u, v, x, ?_⟩
      have e1 : (intsD ks).length = ks.length := by
        unfold intsD
        rw [List.length_map]
      rw [e1, Nat.min_self, List.take_length]
    · obtain ⟨rfl, ks, h1, h2, o, l, u, v, x, rfl⟩ := z
      exact es_ret (P := At (waysD (n + ks.length) (exts T.n ks [g]))) (ev_var rfl) fun d e => ⟨Nat.le_refl _, ks, h1, h2, e⟩
end EP

/-! ## KF9 -/
namespace EP
open PySem PySem.Spec PyProof.Rows L2
variable {P : Program} {w : World} {K : PySem.W.Frag} {mg : Str → Option Value} {base : Heap}
section
variable {Γ : Gm} {r r1 : Nat} {tl : TA}
theorem ev_cdW {δ α : Type} {Wf : δ → Wd K} {args : δ → α → List Dt} {pre : α → Prop} {cost : α → Nat} {post : α → Dt → Prop} {E : XK} (w : δ) (a : α) (h : EvA (Wf w) tl Γ r (r1 + cost a) (AtL (args w a))) (hp : pre a) :
    Ev (Wf w) (tCall (SpW Wf args pre cost post) [] E tl) Γ r r1 (post a) := ev_call w a h (fun ds e => e) hp fun d e => e
end
/-! ### some_way -/
def wayL (T : Wl) (g : En) (row : List (Bool × Say)) (ks : List Int) : List En := (exts T.n ks [g]).filter fun h => rowSo T h row
def spWay (K : PySem.W.Frag) (m : Nat) : Sp := SpW (fun W : Wd K => W) (fun _ (a : Wl × Nat × En × List (Bool × Say) × Int) => [castD a.1, standD a.1, .env a.2.1 a.2.2.1, encR a.2.2.2.1, .v (.int a.2.2.2.2)])
  (fun a => a.1.Ok ∧ (∀ p ∈ a.2.2.2.1, ∃ T q D, Wf T q m D p.2) ∧ slF a.2.2.2.1 ≤ 60 ∧ a.2.2.2.1.length ≤ 100 ∧ (∀ i ∈ newOf a.2.2.2.2 a.2.2.2.1, i = a.2.2.2.2 ∨ i = a.2.2.2.2 + 1) ∧ a.2.1 ≤ 1000 ∧ a.2.1 + 2 + 100 * m ≤ 5000 ∧
    ∀ ks, Ks a.2.2.2.2 a.2.2.2.1 ks → ∀ h ∈ exts a.1.n ks [a.2.2.1], EnOk a.1 h ∧ ∀ p ∈ a.2.2.2.1, ∃ q, Wf a.1 q m (dom h) p.2) (fun _ => 0)
  (fun a d => ∃ ks, Ks a.2.2.2.2 a.2.2.2.1 ks ∧ ks.length ≤ 2 ∧ d = waysD (a.2.1 + ks.length) (wayL a.1 a.2.2.1 a.2.2.2.1 ks))
-- slots of _law_some_way: 0 _law_cast, 1 _law_standing_here, 2 _law_spots, 3 _law_facts, 4 _law_strange_here, 5 _law_ways, 6 _law_way
abbrev N_q_some_way : List Str := ["_law_cast", "_law_standing_here", "_law_spots", "_law_facts", "_law_strange_here", "_law_ways", "_law_way"]
theorem sc_q_some_way : FnScope ["_law_cast", "_law_standing_here", "_law_spots", "_law_facts", "_law_strange_here", "_law_ways", "_law_way"] ["_law_cast", "_law_standing_here", "_law_spots", "_law_facts", "_law_strange_here"] (defScope s_q_some_way) := ⟨rfl, rfl, rfl, by decide +kernel, rfl, by decide +kernel, by decide +kernel⟩
theorem ok_some_way (M : Md K mg) (D : DefAt K mg "_law_some_way" s_q_some_way ["_law_cast", "_law_standing_here", "_law_spots", "_law_facts", "_law_strange_here"]) (m lv : Nat)
    (C_q_spots_by : Cal P w K mg base lv "_law_spots_by" ["_law_cast", "_law_standing_here", "_law_spots", "_law_facts", "_law_strange_here"] (spBy K m))
    (C_q_is_so : Cal P w K mg base lv "_law_is_so" ["_law_cast", "_law_standing_here", "_law_spots", "_law_facts"] (spSo K m true)) :
    Cal P w K mg base (lv + 1) "_law_some_way" ["_law_cast", "_law_standing_here", "_law_spots", "_law_facts", "_law_strange_here"] (spWay K m) := by
  refine D.okW (k := lv) sc_q_some_way (fun _ _ => rfl) fun f cdv A outer s H E hr => ?_
  refine ⟨_, (pss_cons (ps_set (i := 5) sc_q_some_way.nd rfl (by first | exact Or.inl rfl | exact Or.inr rfl) (pe_cal C_q_spots_by hr (by omega) (by rfl) (pa_cons (pv 0) (pa_cons (pv 1) (pa_cons (pv 2) (pa_cons (pv 3) (pa_cons (pv 4) pa_nil)))))))
  (pss_one (ps_ret (pe_lc (own := [("_law_way", 6)]) rfl sc_q_some_way.nd (pi_seq K (pv 5)) (blkOk_by (N := N_q_some_way) (sc := defScope s_q_some_way) (by decide +kernel)) (fun _ _ _ _ _ => (pg_name (i := 6) sc_q_some_way.nd rfl (by first | exact Or.inl rfl | exact Or.inr rfl))) (fun _ _ _ _ _ => (pts_one (pt_val (pe_cal C_q_is_so hr (by omega) (by rfl) (pa_cons (pv 0) (pa_cons (pv 1) (pa_cons (pv 6) (pa_cons (pv 3) pa_nil)))))))) (fun _ _ _ _ _ => (pv 6)))))), fun W a r hp => ?_⟩
  obtain ⟨T, n, g, row, s⟩ := a
  have hp' : T.Ok ∧ (∀ p ∈ row, ∃ T q D, Wf T q m D p.2) ∧ slF row ≤ 60 ∧ row.length ≤ 100 ∧ (∀ i ∈ newOf s row, i = s ∨ i = s + 1) ∧ n ≤ 1000 ∧ n + 2 + 100 * m ≤ 5000 ∧
    ∀ ks, Ks s row ks → ∀ h ∈ exts T.n ks [g], EnOk T h ∧ ∀ p ∈ row, ∃ q, Wf T q m (dom h) p.2 := hp
  clear hp
  obtain ⟨ok, wf, hsl, hrow, hnew, hn, hn2, hw⟩ := hp'
  have small : T.n ≤ 20 := ok.small
  show EvS W _ (startG 7 [castD T, standD T, .env n g, encR row, .v (.int s)]) r No (fun r' d => r ≤ r' ∧ ∃ ks, Ks s row ks ∧ ks.length ≤ 2 ∧ d = waysD (n + ks.length) (wayL T g row ks))
  refine es_asg (ev_cdW (Wf := fun W : Wd K => W) W (T, n, g, row, s) (ea_cons (ev_var rfl) (ea_cons (ev_var rfl) (ea_cons (ev_var rfl) (ea_cons (ev_var rfl) (ea_cons (ev_var rfl) ea_nil))))) (by exact ⟨ok, wf, hsl, hrow, hnew, hn⟩)) fun d e => ?_
  obtain ⟨ks, h1, h2, rfl⟩ := e
  have hlen : (exts T.n ks [g]).length ≤ 441 := by
    rw [exts_len]
    have h3 : ks.length = 0 ∨ ks.length = 1 ∨ ks.length = 2 := by
      have h2 : ks.length ≤ 2 := h2
      omega
    rcases h3 with h3 | h3 | h3
    · rw [h3]
      show 1 * 1 ≤ 441
      omega
    · rw [h3]
      show 1 * (T.n + 1) ^ 1 ≤ 441
      rw [Nat.pow_one]
      omega
    · rw [h3]
      show 1 * (T.n + 1) ^ 2 ≤ 441
      rw [Nat.pow_two]
      have := Nat.mul_le_mul (show T.n + 1 ≤ 21 by omega) (show T.n + 1 ≤ 21 by omega)
      omega
  refine es_ret (P := At (waysD (n + ks.length) (wayL T g row ks))) (el_flt (l := exts T.n ks [g]) (gg := fun f => .env (n + ks.length) f) (hh := fun f => .env (n + ks.length) f) (p := fun h => rowSo T h row) (ei_sqL (ev_var rfl)) rfl (by omega)
    fun W' h r' hh => ⟨_, eg_name (by decide), et_B (ev_cd (T, n + ks.length, h, row) (ea_cons (ev_var rfl) (ea_cons (ev_var rfl) (ea_cons (ev_var rfl) (ea_cons (ev_var rfl) ea_nil)))) ⟨ok, (hw ks h1 h hh).1, (hw ks h1 h hh).2, ?_, hrow⟩), fun _ => ev_var rfl⟩) fun d e => ⟨Nat.le_refl _, ks, h1, h2, e⟩
  show n + ks.length + 100 * m ≤ 5000
  have h2 : ks.length ≤ 2 := h2
  omega
/-! ### as_much -/
theorem col_pairs {α β : Type} {F : α × β → Dt} {Q : α × β → Prop} : ∀ {l : List α} {es : List Dt}, Col (fun _ => true) (fun a e => ∃ b, Q (a, b) ∧ e = F (a, b)) l es → ∃ L : List (α × β), L.map (·.1) = l ∧ (∀ x ∈ L, Q x) ∧ es = L.map F
  | [], es, h => ⟨[], rfl, (fun _ z => nomatch z), h⟩
  | a :: l, es, h => by
    rcases h with ⟨_, e, es', rfl, ⟨b, q, rfl⟩, h⟩ | ⟨h, _⟩
    · obtain ⟨L, h1, h2, h3⟩ := col_pairs h
      refine ⟨(a, b) :: L, by rw [List.map_cons, h1], fun x hx => ?_, by rw [List.map_cons, h3]⟩
      rcases List.mem_cons.mp hx with e | hx
      · rw [e]
        exact q
      · exact h2 x hx
    · exact absurd h.symm Bool.false_ne_true
def spMuch (K : PySem.W.Frag) (k t : Nat) : Sp := SpP K (fun a : Wl × Nat × En × (Bool × Say) × Int => [castD a.1, standD a.1, .env a.2.1 a.2.2.1, encF a.2.2.2.1, .v (.int a.2.2.2.2), .v (.int (t : Int))])
  (fun a => a.1.Ok ∧ EnOk a.1 a.2.2.1 ∧ (∀ i, dom a.2.2.1 (.inl i) → i < a.2.2.2.2) ∧ Wf a.1 true (k + 1) (dom a.2.2.1) a.2.2.2.1.2 ∧ sl a.2.2.2.1.2 + 4 * t ≤ 60 ∧ a.2.1 + 2 * t ≤ 900) (fun _ => .v (.bl true))
-- slots of _law_as_much: 0 _law_cast, 1 _law_standing_here, 2 _law_spots, 3 _law_fact, 4 _law_strange_here, 5 _law_turns, 6 _law_told, 7 _law_rows, 8 _law_so, 9 _law_open_ways, 10 _law_some, 11 _law_row, 12 _law_ways, 13 _law_one, 14 _law_way
abbrev N_q_as_much : List Str := ["_law_cast", "_law_standing_here", "_law_spots", "_law_fact", "_law_strange_here", "_law_turns", "_law_told", "_law_rows", "_law_so", "_law_open_ways", "_law_some", "_law_row", "_law_ways", "_law_one", "_law_way"]
theorem sc_q_as_much : FnScope ["_law_cast", "_law_standing_here", "_law_spots", "_law_fact", "_law_strange_here", "_law_turns", "_law_told", "_law_rows", "_law_so", "_law_open_ways", "_law_some", "_law_row", "_law_ways", "_law_one", "_law_way"] ["_law_cast", "_law_standing_here", "_law_spots", "_law_fact", "_law_strange_here", "_law_turns"] (defScope s_q_as_much) := ⟨rfl, rfl, rfl, by decide +kernel, rfl, by decide +kernel, by decide +kernel⟩
theorem ok_as_much (M : Md K mg) (D : DefAt K mg "_law_as_much" s_q_as_much ["_law_cast", "_law_standing_here", "_law_spots", "_law_fact", "_law_strange_here", "_law_turns"]) (k lv : Nat) (hk : k ≤ 30) (hlv : 1 ≤ lv)
    (C_opened : Cal P w K mg base lv "opened" ["fact", "strange"] (spOpened K k))
    (C_q_some_way : Cal P w K mg base lv "_law_some_way" ["_law_cast", "_law_standing_here", "_law_spots", "_law_facts", "_law_strange_here"] (spWay K (k + 1)))
    (C_q_is_so : Cal P w K mg base lv "_law_is_so" ["_law_cast", "_law_standing_here", "_law_spots", "_law_facts"] (spSo K (k + 1) false)) :
    ∀ t : Nat, Cal P w K mg base (lv + t + 1) "_law_as_much" ["_law_cast", "_law_standing_here", "_law_spots", "_law_fact", "_law_strange_here", "_law_turns"] (spMuch K k t)
  | 0 => by
    have C_q_as_much : Cal P w K mg base (0 + 1) "_law_as_much" ["_law_cast", "_law_standing_here", "_law_spots", "_law_fact", "_law_strange_here", "_law_turns"] (SpP K (fun _ : Unit => [.v .non, .v .non, .v .non, .v .non, .v .non, .v .non]) (fun _ => False) (fun _ => .v .non)) :=
      D.none sc_q_as_much (fun _ => rfl) fun _ h => h
    refine D.okP (k := lv) sc_q_as_much (fun _ => rfl) fun f cdv A outer s H E hr => ⟨_, (pss_cons (ps_set (i := 6) sc_q_as_much.nd rfl (by first | exact Or.inl rfl | exact Or.inr rfl) (pe_cal C_opened hr (by omega) (by rfl) (pa_cons (pv 3) (pa_cons (pv 4) pa_nil))))
  (pss_cons (ps_if (PW.pt (pw_or (pt_cmp (pc_isN (pv 6)) (by rfl)) (pw_or1 (pt_cmpR op_eq (pv 5) pe_int (nomark _))))) (pss_one (ps_ret pe_bl)) pss_nil)
  (pss_cons (ps_set (i := 7) sc_q_as_much.nd rfl (by first | exact Or.inl rfl | exact Or.inr rfl) (pe_ifExp (pt_cmpR op_eq (pe_ix (ix_all K) (pv 6) pe_int (fun _ _ => rfl)) pe_str (nomark _)) (pe_lst (pa_cons (pe_ix (ix_all K) (pv 6) pe_int (fun _ _ => rfl)) pa_nil)) (pe_callTy (cb_list K) (by rfl) M.list_ bt_list (pa_cons (pe_ix (ix_all K) (pv 6) pe_int (fun _ _ => rfl)) pa_nil))))
  (pss_cons (ps_set (i := 8) sc_q_as_much.nd rfl (by first | exact Or.inl rfl | exact Or.inr rfl) (pe_cal C_q_is_so hr (by omega) (by rfl) (pa_cons (pv 0) (pa_cons (pv 1) (pa_cons (pv 2) (pa_cons (pe_lst (pa_cons (pv 3) pa_nil)) pa_nil))))))
  (pss_cons (ps_setLc (i := 9) (own := [("_law_row", 11)]) rfl sc_q_as_much.nd rfl rfl (sw_true rfl rfl rfl (by decide +kernel)) (pi_seq K (pv 7)) (blkOk_by (N := N_q_as_much) (sc := defScope s_q_as_much) (by decide +kernel)) (fun _ _ _ _ _ => (pg_name (i := 11) sc_q_as_much.nd rfl (by first | exact Or.inl rfl | exact Or.inr rfl))) (fun _ _ _ _ _ => pts_nil) (fun _ _ _ _ _ => (pe_cal C_q_some_way hr (by omega) (by rfl) (pa_cons (pv 0) (pa_cons (pv 1) (pa_cons (pv 2) (pa_cons (pv 11) (pa_cons (pv 4) pa_nil))))))))
  (pss_cons (ps_setLc (i := 10) (own := [("_law_ways", 12)]) rfl sc_q_as_much.nd rfl rfl (sw_true rfl rfl rfl (by decide +kernel)) (pi_seq K (pv 9)) (blkOk_by (N := N_q_as_much) (sc := defScope s_q_as_much) (by decide +kernel)) (fun _ _ _ _ _ => (pg_name (i := 12) sc_q_as_much.nd rfl (by first | exact Or.inl rfl | exact Or.inr rfl))) (fun _ _ _ _ _ => (pts_one (pt_cmpR (op_neE K hr.units) (pv 12) (pe_lst pa_nil) (nomark _)))) (fun _ _ _ _ _ => (pv 12)))
  (pss_cons (ps_if (PW.pt (pw_and (pt_cmpR op_ne (pe_cmpR (op_neE K hr.units) (pv 10) (pe_lst pa_nil) (nomark _)) (pv 8) (nomark _)) (pw_and1 (PW.pt (pw_or (pt_val (pv 8)) (pw_or (pt_cmpR op_ne (pe_ix (ix_all K) (pe_ix (ix_all K) (pv 3) pe_int (fun _ _ => rfl)) pe_int (fun _ _ => rfl)) pe_str (nomark _)) (pw_or1 (pt_not (pt_val (pe_ix (ix_all K) (pv 3) pe_int (fun _ _ => rfl))))))))))) (pss_one (ps_ret pe_bl)) pss_nil)
  (pss_cons (ps_for PassesOwn.never rfl (pi_zip2 K (by rfl) M.zip_ (pa_cons (pv 7) (pa_cons (pv 9) pa_nil))) (pg_tupK K (n := 2) rfl (pgs_cons (pg_name (i := 11) sc_q_as_much.nd rfl (by first | exact Or.inl rfl | exact Or.inr rfl)) (pgs_cons (pg_name (i := 12) sc_q_as_much.nd rfl (by first | exact Or.inl rfl | exact Or.inr rfl)) pgs_nil))) (pss_one (ps_for PassesOwn.never rfl (pi_seq K (pv 11)) (pg_name (i := 13) sc_q_as_much.nd rfl (by first | exact Or.inl rfl | exact Or.inr rfl)) (pss_one (ps_for PassesOwn.never rfl (pi_seq K (pe_slice (sl_cut K) (pv 12) po_none (po_some pe_int))) (pg_name (i := 14) sc_q_as_much.nd rfl (by first | exact Or.inl rfl | exact Or.inr rfl)) (pss_one (ps_if (pt_not (pt_val (pe_cal C_q_as_much hr (by omega) (by rfl) (pa_cons (pv 0) (pa_cons (pv 1) (pa_cons (pv 14) (pa_cons (pv 13) (pa_cons (pe_op (op_plus K) (pv 4) pe_int) (pa_cons (pe_op op_sub (pv 5) pe_int) pa_nil))))))))) (pss_one (ps_ret pe_bl)) pss_nil)))))))
  (pss_one (ps_ret pe_bl)))))))))), fun W a r hp => ?_⟩
    obtain ⟨T, n, g, ⟨tr, S⟩, s⟩ := a
    have hp' : T.Ok ∧ EnOk T g ∧ (∀ i, dom g (.inl i) → i < s) ∧ Wf T true (k + 1) (dom g) S ∧ sl S + 4 * 0 ≤ 60 ∧ n + 2 * 0 ≤ 900 := hp
    clear hp
    obtain ⟨ok, hg, hs, wf, hsl, hn⟩ := hp'
    show EvS W _ (startG 15 [castD T, standD T, .env n g, encF (tr, S), .v (.int s), .v (.int 0)]) r No (fun r' d => r ≤ r' ∧ d = .v (.bl true))
    refine es_asgD (ev_cd ((tr, S), s) (ea_cons (ev_var rfl) (ea_cons (ev_var rfl) ea_nil)) ⟨T, dom g, wf⟩) ?_
    show EvS W _ ([some (castD T), some (standD T), some (.env n g), some (encF (tr, S)), some (.v (.int s)), some (.v (.int 0)), some (encO (opn tr S s)), none, none, none, none, none, none, none, none] : Gm) r No (fun r' d => r ≤ r' ∧ d = .v (.bl true))
    cases opn tr S s with
    | none => exact es_ifT (et_or (b := true) (et_B (ev_isNon (ev_var rfl))) fun h => absurd h.symm Bool.false_ne_true) rfl (es_retP ev_c rfl)
    | some o => exact es_ifT (et_or (et_B (ev_isNonI (d := encO (some o)) (ev_var rfl) fun H z => by cases o <;> cases z)) fun _ => et_T (ev_eq (ev_var rfl) ev_c rfl)) (by decide +kernel) (es_retP ev_c rfl)
  | t + 1 => by
    have C_q_as_much := ok_as_much M D k lv hk hlv C_opened C_q_some_way C_q_is_so t
    refine D.okP (k := lv + t + 1) sc_q_as_much (fun _ => rfl) fun f cdv A outer s H E hr => ⟨_, (pss_cons (ps_set (i := 6) sc_q_as_much.nd rfl (by first | exact Or.inl rfl | exact Or.inr rfl) (pe_cal C_opened hr (by omega) (by rfl) (pa_cons (pv 3) (pa_cons (pv 4) pa_nil))))
  (pss_cons (ps_if (PW.pt (pw_or (pt_cmp (pc_isN (pv 6)) (by rfl)) (pw_or1 (pt_cmpR op_eq (pv 5) pe_int (nomark _))))) (pss_one (ps_ret pe_bl)) pss_nil)
  (pss_cons (ps_set (i := 7) sc_q_as_much.nd rfl (by first | exact Or.inl rfl | exact Or.inr rfl) (pe_ifExp (pt_cmpR op_eq (pe_ix (ix_all K) (pv 6) pe_int (fun _ _ => rfl)) pe_str (nomark _)) (pe_lst (pa_cons (pe_ix (ix_all K) (pv 6) pe_int (fun _ _ => rfl)) pa_nil)) (pe_callTy (cb_list K) (by rfl) M.list_ bt_list (pa_cons (pe_ix (ix_all K) (pv 6) pe_int (fun _ _ => rfl)) pa_nil))))
  (pss_cons (ps_set (i := 8) sc_q_as_much.nd rfl (by first | exact Or.inl rfl | exact Or.inr rfl) (pe_cal C_q_is_so hr (by omega) (by rfl) (pa_cons (pv 0) (pa_cons (pv 1) (pa_cons (pv 2) (pa_cons (pe_lst (pa_cons (pv 3) pa_nil)) pa_nil))))))
  (pss_cons (ps_setLc (i := 9) (own := [("_law_row", 11)]) rfl sc_q_as_much.nd rfl rfl (sw_true rfl rfl rfl (by decide +kernel)) (pi_seq K (pv 7)) (blkOk_by (N := N_q_as_much) (sc := defScope s_q_as_much) (by decide +kernel)) (fun _ _ _ _ _ => (pg_name (i := 11) sc_q_as_much.nd rfl (by first | exact Or.inl rfl | exact Or.inr rfl))) (fun _ _ _ _ _ => pts_nil) (fun _ _ _ _ _ => (pe_cal C_q_some_way hr (by omega) (by rfl) (pa_cons (pv 0) (pa_cons (pv 1) (pa_cons (pv 2) (pa_cons (pv 11) (pa_cons (pv 4) pa_nil))))))))
  (pss_cons (ps_setLc (i := 10) (own := [("_law_ways", 12)]) rfl sc_q_as_much.nd rfl rfl (sw_true rfl rfl rfl (by decide +kernel)) (pi_seq K (pv 9)) (blkOk_by (N := N_q_as_much) (sc := defScope s_q_as_much) (by decide +kernel)) (fun _ _ _ _ _ => (pg_name (i := 12) sc_q_as_much.nd rfl (by first | exact Or.inl rfl | exact Or.inr rfl))) (fun _ _ _ _ _ => (pts_one (pt_cmpR (op_neE K hr.units) (pv 12) (pe_lst pa_nil) (nomark _)))) (fun _ _ _ _ _ => (pv 12)))
  (pss_cons (ps_if (PW.pt (pw_and (pt_cmpR op_ne (pe_cmpR (op_neE K hr.units) (pv 10) (pe_lst pa_nil) (nomark _)) (pv 8) (nomark _)) (pw_and1 (PW.pt (pw_or (pt_val (pv 8)) (pw_or (pt_cmpR op_ne (pe_ix (ix_all K) (pe_ix (ix_all K) (pv 3) pe_int (fun _ _ => rfl)) pe_int (fun _ _ => rfl)) pe_str (nomark _)) (pw_or1 (pt_not (pt_val (pe_ix (ix_all K) (pv 3) pe_int (fun _ _ => rfl))))))))))) (pss_one (ps_ret pe_bl)) pss_nil)
  (pss_cons (ps_for PassesOwn.never rfl (pi_zip2 K (by rfl) M.zip_ (pa_cons (pv 7) (pa_cons (pv 9) pa_nil))) (pg_tupK K (n := 2) rfl (pgs_cons (pg_name (i := 11) sc_q_as_much.nd rfl (by first | exact Or.inl rfl | exact Or.inr rfl)) (pgs_cons (pg_name (i := 12) sc_q_as_much.nd rfl (by first | exact Or.inl rfl | exact Or.inr rfl)) pgs_nil))) (pss_one (ps_for PassesOwn.never rfl (pi_seq K (pv 11)) (pg_name (i := 13) sc_q_as_much.nd rfl (by first | exact Or.inl rfl | exact Or.inr rfl)) (pss_one (ps_for PassesOwn.never rfl (pi_seq K (pe_slice (sl_cut K) (pv 12) po_none (po_some pe_int))) (pg_name (i := 14) sc_q_as_much.nd rfl (by first | exact Or.inl rfl | exact Or.inr rfl)) (pss_one (ps_if (pt_not (pt_val (pe_cal C_q_as_much hr (by omega) (by rfl) (pa_cons (pv 0) (pa_cons (pv 1) (pa_cons (pv 14) (pa_cons (pv 13) (pa_cons (pe_op (op_plus K) (pv 4) pe_int) (pa_cons (pe_op op_sub (pv 5) pe_int) pa_nil))))))))) (pss_one (ps_ret pe_bl)) pss_nil)))))))
  (pss_one (ps_ret pe_bl)))))))))), fun W a r hp => ?_⟩
    obtain ⟨T, n, g, ⟨tr, S⟩, s⟩ := a
    have hp' : T.Ok ∧ EnOk T g ∧ (∀ i, dom g (.inl i) → i < s) ∧ Wf T true (k + 1) (dom g) S ∧ sl S + 4 * (t + 1) ≤ 60 ∧ n + 2 * (t + 1) ≤ 900 := hp
    clear hp
    obtain ⟨ok, hg, hs, wf, hsl, hn⟩ := hp'
    show EvS W _ (startG 15 [castD T, standD T, .env n g, encF (tr, S), .v (.int s), .v (.int ((t + 1 : Nat) : Int))]) r No (fun r' d => r ≤ r' ∧ d = .v (.bl true))
    refine es_asgD (ev_cd ((tr, S), s) (ea_cons (ev_var rfl) (ea_cons (ev_var rfl) ea_nil)) ⟨T, dom g, wf⟩) ?_
    show EvS W _ ([some (castD T), some (standD T), some (.env n g), some (encF (tr, S)), some (.v (.int s)), some (.v (.int ((t + 1 : Nat) : Int))), some (encO (opn tr S s)), none, none, none, none, none, none, none, none] : Gm) r No (fun r' d => r ≤ r' ∧ d = .v (.bl true))
    cases ho : opn tr S s with
    | none => exact es_ifT (et_or (b := true) (et_B (ev_isNon (ev_var rfl))) fun h => absurd h.symm Bool.false_ne_true) rfl (es_retP ev_c rfl)
    | some o =>
      have G := opn_good (n := k) ok hg hs wf ho
      have hsl2 := opn_sl ho
      have hmany := opn_many wf ho
      have e0 : decide (V.int ((t + 1 : Nat) : Int) = V.int 0) = false := decide_eq_false fun z => by
        have z := V.int.inj z
        omega
      refine es_ifF (et_or (et_B (ev_isNonI (d := encO (some o)) (ev_var rfl) fun H z => by cases o <;> cases z)) fun _ => et_T (ev_eq (ev_var rfl) ev_c rfl)) (by rw [e0]; rfl)
        (es_asgD (d := .lst (o.rows.map encR)) (r1 := r) ?_ (es_asgD (ev_cd (T, n, g, [(tr, S)]) (ea_cons (ev_var rfl) (ea_cons (ev_var rfl) (ea_cons (ev_var rfl) (ea_cons (ev_lst (ea_cons (ev_var rfl) ea_nil)) ea_nil)))) ⟨ok, hg, row_mem (P := fun p : Bool × Say => ∃ q, Wf T q (k + 1) (dom g) p.2) ⟨true, wf⟩, ?_, ll rfl⟩) ?_))
      · cases o with
        | parts l => exact ev_if (et_is (ev_ixT (d := .v (.str "parts")) (ev_var rfl) ev_c rfl)) (fun _ => ev_lst (ea_cons (ev_ixT (d := encR l) (ev_var rfl) ev_c rfl) ea_nil)) fun h => absurd h (by decide +kernel)
        | cases l => exact ev_if (et_is (ev_ixT (d := .v (.str "cases")) (ev_var rfl) ev_c rfl)) (fun h => absurd h (by decide +kernel)) fun _ => ev_listOf (ev_ixT (d := .tup (l.map encR)) (ev_var rfl) ev_c rfl)
      · show n + 100 * (k + 1) ≤ 5000
        omega
      · show EvS W _ ([some (castD T), some (standD T), some (.env n g), some (encF (tr, S)), some (.v (.int s)), some (.v (.int ((t + 1 : Nat) : Int))), some (encO (some o)), some (.lst (o.rows.map encR)), some (.v (.bl (rowSo T g [(tr, S)]))), none, none, none, none, none, none] : Gm) r No (fun r' d => r ≤ r' ∧ d = .v (.bl true))
        let R := List (Bool × Say)
        let wL : R × List Int → List En := fun x => wayL T g x.1 x.2
        let wD : R × List Int → Dt := fun x => waysD (n + x.2.length) (wL x)
        refine es_asg (P := fun d => ∃ L : List (R × List Int), L.map (·.1) = o.rows ∧ (∀ x ∈ L, Ks s x.1 x.2 ∧ x.2.length ≤ 2) ∧ d = .lst (L.map wD)) (EvF.ev (el_lcF (c := 0) (r1 := r) encR (PA := fun l => l = o.rows) (p := fun _ => true) (G1 := fun row e => ∃ ks, (Ks s row ks ∧ ks.length ≤ 2) ∧ e = wD (row, ks)) (PQ := fun es => ∃ L : List (R × List Int), L.map (·.1) = o.rows ∧ (∀ x ∈ L, Ks s x.1 x.2 ∧ x.2.length ≤ 2) ∧ es = L.map wD)
          (fun σ H R s I q => ei_sqL (ev_var (d := .lst (o.rows.map encR)) rfl) σ H R s I fun J H' ds e i p wk => q J H' ds e i ⟨o.rows, p, rfl⟩ wk) (fun l e => ?_) (fun l e => ⟨0, Nat.le_refl _, fun W' row r' _ ha => ⟨_, eg_name (by decide), et_yes, fun _ => ?_⟩⟩) (fun l es e c => ?_)) fun ds z => ?_) fun d z => ?_
        · rw [e, sizeLine_eq]
          have := hmany.1
          omega
        · subst e
          refine (ev_cdW (Wf := fun W : Wd K => W) W' (T, n, g, row, s) (ea_cons (ev_var rfl) (ea_cons (ev_var rfl) (ea_cons (ev_var rfl) (ea_cons (ev_var rfl) (ea_cons (ev_var rfl) ea_nil))))) ?_).imp fun d z => ?_
          · have h1 := hsl2 row ha
            refine ⟨ok, fun p hp => ?_, show slF row ≤ 60 by omega, hmany.2 row ha, G.new row ha, show n ≤ 1000 by omega, show n + 2 + 100 * (k + 1) ≤ 5000 by omega, fun ks hks h hh => ?_⟩
            · have hnd : Ks s row (newOf s row) := fun i => Iff.rfl
              cases hx : exts T.n (newOf s row) [g] with
              | nil =>
                have := exts_len T.n (newOf s row) [g]
                rw [hx] at this
                have hpos : 0 < [g].length * (T.n + 1) ^ (newOf s row).length := Nat.mul_pos (Nat.succ_pos _) (Nat.pow_pos (Nat.succ_pos _))
                rw [← this] at hpos
                exact absurd hpos (Nat.lt_irrefl _)
              | cons h l => exact ⟨T, true, dom h, (G.wf row ha _ hnd h (by rw [hx]; exact List.mem_cons_self)).2.2.2 p hp⟩
            · have z := G.wf row ha ks hks h hh
              exact ⟨z.1, fun p hp => ⟨true, z.2.2.2 p hp⟩⟩
          · obtain ⟨ks, h1, h2, e⟩ := z
            exact ⟨ks, ⟨h1, h2⟩, e⟩
        · subst e
          exact col_pairs (F := wD) (Q := fun x => Ks s x.1 x.2 ∧ x.2.length ≤ 2) c
        · obtain ⟨L, h1, h2, h3⟩ := z
          exact ⟨L, h1, h2, congrArg Dt.lst h3⟩
        · obtain ⟨L, hL, hL2, rfl⟩ := z
          have hlen : L.length ≤ 100 := by
            have := congrArg List.length hL
            rw [List.length_map] at this
            rw [this]
            exact hmany.1
          have hrow : ∀ x ∈ L, x.1 ∈ o.rows := fun x hx => by
            rw [← hL]
            exact List.mem_map.mpr ⟨x, hx, rfl⟩
          have hR : o.rows.map encR = L.map fun x => encR x.1 := by
            rw [← hL, List.map_map]
            rfl
          rw [hR]
          let pe : R × List Int → Bool := fun x => !((wL x).map fun f => Dt.env (n + x.2.length) f).isEmpty
          have pe_iff : ∀ x, pe x = true ↔ ∃ h, h ∈ wL x := fun x => by
            show (!((wL x).map fun f => Dt.env (n + x.2.length) f).isEmpty) = true ↔ _
            cases wL x with
            | nil => exact ⟨fun h => absurd h Bool.false_ne_true, fun ⟨_, h⟩ => nomatch h⟩
            | cons h l => exact ⟨fun _ => ⟨h, List.mem_cons_self⟩, fun _ => rfl⟩
          refine es_asgD (el_flt (l := L) (gg := wD) (hh := wD) (p := pe) (ei_sqL (ev_var rfl)) rfl (by omega) fun W' x r' hx => ⟨_, eg_name (by decide), et_T (ev_neL (ev_var rfl) (ev_lst ea_nil)), fun _ => ev_var rfl⟩) ?_
          let A : Bool := !((L.filter pe).map wD).isEmpty
          have A_iff : A = true ↔ ∃ x ∈ L, pe x = true := by
            show (!((L.filter pe).map wD).isEmpty) = true ↔ _
            cases hf : L.filter pe with
            | nil =>
              refine ⟨fun h => absurd h Bool.false_ne_true, fun ⟨x, hx, h⟩ => ?_⟩
              have : x ∈ L.filter pe := List.mem_filter.mpr ⟨hx, h⟩
              rw [hf] at this
              exact nomatch this
            | cons x l =>
              refine ⟨fun _ => ?_, fun _ => rfl⟩
              have : x ∈ L.filter pe := by
                rw [hf]
                exact List.mem_cons_self
              exact ⟨x, (List.mem_filter.mp this).1, (List.mem_filter.mp this).2⟩
          have hB : ∀ {b : Bool}, rowSo T g [(tr, S)] = b ↔ factSo T g (tr, S) = b := fun {b} => by
            show (factSo T g (tr, S) && true) = b ↔ _
            rw [Bool.and_true]
          have full : rowSo T g [(tr, S)] = true → A = true := fun h => by
            obtain ⟨row, hr, h2⟩ := G.full (hB.mp h)
            rw [← hL] at hr
            obtain ⟨x, hx, rfl⟩ := List.mem_map.mp hr
            obtain ⟨h3, h4, h5⟩ := h2 x.2 (hL2 x hx).1
            exact A_iff.mpr ⟨x, hx, (pe_iff x).mpr ⟨h3, List.mem_filter.mpr ⟨h4, h5⟩⟩⟩
          have sound : A = true → rowSo T g [(tr, S)] = true ∨ (tr = true ∧ ∃ p q, S = .pl .next p q) := fun h => by
            obtain ⟨x, hx, h2⟩ := A_iff.mp h
            obtain ⟨h3, h4⟩ := (pe_iff x).mp h2
            have h5 := List.mem_filter.mp h4
            rcases G.sound x.1 (hrow x hx) x.2 (hL2 x hx).1 h3 h5.1 h5.2 with h | h
            · exact .inl (hB.mpr h)
            · exact .inr h
          refine es_ifF (et_and (et_T (ev_ne (ev_neL (ev_var rfl) (ev_lst ea_nil)) (ev_var rfl) rfl)) fun _ => et_or (et_B (ev_var rfl)) fun _ => et_or (et_T (ev_ne (ev_ixT (d := .v (.str (wordS S))) (ev_ixT (d := .tup (dsOf S)) (ev_var rfl) ev_c (by rw [← enc_ds]; rfl)) ev_c (word_at S)) ev_c rfl)) fun _ => et_not (et_B (ev_ixT (d := .v (.bl tr)) (ev_var rfl) ev_c rfl)))
            ?_ (es_seq (N1 := fun r' Γ' => r' = r) (es_for (vs := [11, 12]) (Inv := fun i r' Γ' => r' = r ∧ ∃ a b c d, Γ' = [some (castD T), some (standD T), some (.env n g), some (encF (tr, S)), some (.v (.int s)), some (.v (.int ((t + 1 : Nat) : Int))), some (encO (some o)), some (.lst (L.map fun x => encR x.1)), some (.v (.bl (rowSo T g [(tr, S)]))), some (.lst (L.map wD)), some (.lst ((L.filter pe).map wD)), a, b, c, d])
              (ei_zipL (ev_var rfl) (ev_var rfl)) ⟨rfl, _, _, _, _, rfl⟩ (fun i d r' Γ' hd z => ?_) fun r' Γ' z => z.1) fun r' Γ' z => ?_)
          · show (!decide (V.bl A = V.bl (rowSo T g [(tr, S)])) && (rowSo T g [(tr, S)] || (!decide (V.str (wordS S) = V.str "next") || !tr))) = false
            cases hA : A with
            | false =>
              cases hBB : rowSo T g [(tr, S)] with
              | false => rfl
              | true =>
                rw [full hBB] at hA
                exact absurd hA.symm Bool.false_ne_true
            | true =>
              rcases sound hA with h | ⟨h, p, q, rfl⟩
              · rw [h]
                rfl
              · subst h
                cases hBB : rowSo T g [(true, .pl .next p q)] with
                | true => rfl
                | false =>
                  show (!decide (V.bl true = V.bl false) && (false || (!decide (V.str "next" = V.str "next") || !true))) = false
                  decide +kernel
          · obtain ⟨rfl, a, b, c, e, rfl⟩ := z
            have hz : zipD (L.map fun x => encR x.1) (L.map wD) = L.map fun x => Dt.tup [encR x.1, wD x] := by
              unfold zipD
              rw [List.zip_map', List.map_map]
              rfl
            rw [hz, List.getElem?_map] at hd
            obtain ⟨x, hx, rfl⟩ := Option.map_eq_some_iff.mp hd
            have hxL := List.mem_of_getElem? hx
            refine ⟨_, eg_tup2 (by decide) (by decide), es_for (vs := [13]) (Inv := fun _ r'' Γ' => r'' = r' ∧ ∃ c d, Γ' = [some (castD T), some (standD T), some (.env n g), some (encF (tr, S)), some (.v (.int s)), some (.v (.int ((t + 1 : Nat) : Int))), some (encO (some o)), some (.lst (L.map fun x => encR x.1)), some (.v (.bl (rowSo T g [(tr, S)]))), some (.lst (L.map wD)), some (.lst ((L.filter pe).map wD)), some (encR x.1), some (wD x), c, d])
              (ei_sqT (ds := x.1.map encF) (ev_var rfl)) ⟨rfl, _, _, rfl⟩ (fun j d r'' Γ' hd z => ?_) fun r'' Γ' z => ?_⟩
            · obtain ⟨rfl, c, e, rfl⟩ := z
              rw [List.getElem?_map] at hd
              obtain ⟨⟨tr2, S2⟩, hp, rfl⟩ := Option.map_eq_some_iff.mp hd
              have hpm := List.mem_of_getElem? hp
              refine ⟨_, eg_name (by decide), es_for (vs := [14]) (Inv := fun _ r3 Γ' => r3 = r'' ∧ ∃ d, Γ' = [some (castD T), some (standD T), some (.env n g), some (encF (tr, S)), some (.v (.int s)), some (.v (.int ((t + 1 : Nat) : Int))), some (encO (some o)), some (.lst (L.map fun x => encR x.1)), some (.v (.bl (rowSo T g [(tr, S)]))), some (.lst (L.map wD)), some (.lst ((L.filter pe).map wD)), some (encR x.1), some (wD x), some (encF (tr2, S2)), d])
                (ei_sqL (ev_slL (ds := (wL x).map fun f => .env (n + x.2.length) f) (ev_var rfl) eo_none (eo_some ev_c))) ⟨rfl, _, rfl⟩ (fun i2 d r3 Γ' hd z => ?_) fun r3 Γ' z => ?_⟩
              · obtain ⟨rfl, e, rfl⟩ := z
                have hdm : d ∈ (wL x).map fun f => Dt.env (n + x.2.length) f := List.mem_of_mem_drop (List.mem_of_mem_take (List.mem_of_getElem? hd))
                obtain ⟨h, hh, rfl⟩ := List.mem_map.mp hdm
                have hex := (List.mem_filter.mp hh).1
                obtain ⟨w1, w2, _, w4⟩ := G.wf x.1 (hrow x hxL) x.2 (hL2 x hxL).1 h hex
                have hks := (hL2 x hxL).2
                have h5 := slF_mem hpm
                have h6 := hsl2 x.1 (hrow x hxL)
                refine ⟨_, eg_name (by decide), es_if (et_not (et_B (ev_cd (T, n + x.2.length, h, (tr2, S2), s + 2) (ea_cons (ev_var rfl) (ea_cons (ev_var rfl) (ea_cons (ev_var rfl) (ea_cons (ev_var rfl) (ea_cons (ev_addI (ev_var rfl) ev_c) (ea_cons (Ev.is (ev_int (ev_var rfl) ev_c) ?_) ea_nil)))))) ⟨ok, w1, w2, w4 _ hpm, ?_, ?_⟩))) (fun h => ?_) fun _ => es_next ⟨rfl, _, rfl⟩⟩
                · show Dt.v (.int (((t + 1 : Nat) : Int) - 1)) = .v (.int (t : Int))
                  congr 2
                  omega
                · have h5 : sl S2 ≤ slF x.1 := h5
                  show sl S2 + 4 * t ≤ 60
                  omega
                · show n + x.2.length + 2 * t ≤ 900
                  omega
                · have h : true = !true := h
                  exact absurd h.symm Bool.false_ne_true
              · obtain ⟨rfl, e, rfl⟩ := z
                exact ⟨rfl, _, _, rfl⟩
            · obtain ⟨rfl, c, e, rfl⟩ := z
              exact ⟨rfl, _, _, _, _, rfl⟩
          · subst z
            exact es_retP ev_c rfl
end EP

/-! ## KF10 -/
namespace EP
open PySem PySem.Spec PyProof.Rows L2
variable {P : Program} {w : World} {K : PySem.W.Frag} {mg : Str → Option Value} {base : Heap}
/-! ### draw -/
def spDraw (K : PySem.W.Frag) : Sp := SpW (fun W : Wd K => W) (fun W (m : Int) => [.v (.ref W.dk), .v (.int m)]) (fun m => 1 ≤ m ∧ m ≤ 10000000) (fun _ => 1) (fun m => In fun v => 0 ≤ v ∧ v < m)
theorem dk_ix {W : Wd K} {σ : L2.St} {H : Hp} {Q : VK} {l : List V} {i : Int} {x : V} (h0 : σ[0]? = some (some (.ref W.dk))) (hD : H W.dk = some (.lst l)) (hx : atI l i = some x) (q : Q x H) : (tOp (rIx K) (tVar 0) (tC (.int i))) σ H Q :=
  ⟨_, h0, .inl ⟨_, _, _, _, rfl, rfl, SqL.of hD, hx, q⟩⟩
-- slots of _law_draw: 0 _law_deck_here, 1 _law_most, 2 _law_found, 3 _law_mixed
abbrev N_q_draw : List Str := ["_law_deck_here", "_law_most", "_law_found", "_law_mixed"]
theorem sc_q_draw : FnScope ["_law_deck_here", "_law_most", "_law_found", "_law_mixed"] ["_law_deck_here", "_law_most"] (defScope s_q_draw) := ⟨rfl, rfl, rfl, by decide +kernel, rfl, by decide +kernel, by decide +kernel⟩
theorem ok_draw (M : Md K mg) (D : DefAt K mg "_law_draw" s_q_draw ["_law_deck_here", "_law_most"]) : Cal P w K mg base 1 "_law_draw" ["_law_deck_here", "_law_most"] (spDraw K) := by
  refine D.okW (k := 0) sc_q_draw (fun _ _ => rfl) fun f cdv A outer s H E hr => ⟨_, (pss_cons (ps_if (pt_cmpR op_gt (pe_ix (ix_all K) (pv 0) pe_int (fun _ _ => rfl)) pe_int (nomark _)) (pss_cons (ps_set (i := 2) sc_q_draw.nd rfl (by first | exact Or.inl rfl | exact Or.inr rfl) (pe_op op_mod (pe_ix (ix_all K) (pv 0) pe_int (fun _ _ => rfl)) (pv 1)))
  (pss_cons (ps_asg (pe_op op_fdiv (pe_ix (ix_all K) (pv 0) pe_int (fun _ _ => rfl)) (pv 1)) (pg_sub (pv 0) pe_int set_list))
  (pss_one (ps_ret (pv 2))))) pss_nil)
  (pss_cons (ps_asg (pe_op (op_plus K) (pe_ix (ix_all K) (pv 0) pe_int (fun _ _ => rfl)) pe_int) (pg_sub (pv 0) pe_int set_list))
  (pss_cons (ps_set (i := 3) sc_q_draw.nd rfl (by first | exact Or.inl rfl | exact Or.inr rfl) (pe_op op_mod (pe_op op_mul (pe_op (op_plus K) (pe_ix (ix_all K) (pv 0) pe_int (fun _ _ => rfl)) (pe_op op_mul (pe_op op_mul pe_int (pe_ix (ix_all K) (pv 0) pe_int (fun _ _ => rfl))) (pe_ix (ix_all K) (pv 0) pe_int (fun _ _ => rfl)))) pe_int) pe_int))
  (pss_one (ps_ret (pe_op op_mod (pe_op op_fdiv (pe_op op_mod (pe_op op_mul (pv 3) (pe_op (op_plus K) (pv 3) pe_int)) pe_int) pe_int) (pv 1))))))), fun W m r hp => ?_⟩
  obtain ⟨hm, hm2⟩ := hp
  have hm : 1 ≤ m := hm
  have hm2 : m ≤ 10000000 := hm2
  show EvS W _ (startG 4 [.v (.ref W.dk), .v (.int m)]) (r + 1) No (fun r' d => r ≤ r' ∧ In (fun v => 0 ≤ v ∧ v < m) d)
  intro σ H E s I hnx hrt
  obtain ⟨x0, h0, d0⟩ := s.get (j := 0) (d := .v (.ref W.dk)) rfl
  obtain ⟨x1, h1, d1⟩ := s.get (j := 1) (d := .v (.int m)) rfl
  have e0 := d0.v_eq
  have e1 := d1.v_eq
  subst e0 e1
  have hl : σ.length = 4 := s.len
  obtain ⟨hM, n0, n1, n2, hD, b0, b1, b2, b3, b4, up⟩ := W.draw r H I
  have ex : ∀ o, W.Ex H (L2.upd H W.dk o) := fun o a u m z => by
    rw [upd_ne fun e => m (by rw [e]; exact hM)]
    exact z
  refine dk_ix h0 hD rfl ⟨n0, 0, rfl, rfl, _, rfl, ?_⟩
  by_cases hn : 0 < n0
  · rw [decide_eq_true hn]
    refine iteT (dk_ix h0 hD rfl ⟨_, h1, n0, m, rfl, rfl, by omega, ?_⟩)
    have h0' : (σ.set 2 (some (.int (n0 % m))))[0]? = some (some (.ref W.dk)) := by
      rw [List.getElem?_set_ne (by decide)]
      exact h0
    have h1' : (σ.set 2 (some (.int (n0 % m))))[1]? = some (some (.int m)) := by
      rw [List.getElem?_set_ne (by decide)]
      exact h1
    have h2' : (σ.set 2 (some (.int (n0 % m))))[2]? = some (some (.int (n0 % m))) := set_get (by rw [hl]; decide)
    refine dk_ix h0' hD rfl ⟨_, h1', n0, m, rfl, rfl, ⟨by omega, by omega⟩, ?_⟩
    refine ⟨_, h0', W.dk, _, 0, 0, rfl, rfl, hD, rfl, _, h2', ?_⟩
    refine hrt _ _ r (.v (.int (n0 % m))) (ex _) (up (n0 / m) n1 (Int.ediv_nonneg b0 (by omega)) (.inl rfl)) ⟨Nat.le_refl _, _, rfl, Int.emod_nonneg _ (by omega), Int.emod_lt_of_pos _ (by omega)⟩ (.v _)
  · rw [decide_eq_false hn]
    refine iteF (dk_ix h0 hD rfl (.inl (.inl (.inl ⟨n1, 1, rfl, rfl, _, h0, W.dk, _, 1, 1, rfl, rfl, hD, rfl, ?_⟩))))
    have hD1 : (L2.upd H W.dk (Deck n0 (n1 + 1) n2)) W.dk = some (.lst [.int n0, .int (n1 + 1), .int n2]) := upd_same
    have I1 := up n0 (n1 + 1) b0 (.inr rfl)
    refine dk_ix h0 hD1 rfl (dk_ix h0 hD1 rfl ⟨7919, n1 + 1, rfl, rfl, .inl ⟨by decide, by decide⟩, dk_ix h0 hD1 rfl ⟨7919 * (n1 + 1), n1 + 1, rfl, rfl, .inr ⟨by omega, by omega⟩, .inl (.inl (.inl ⟨n2, _, rfl, rfl, _, 48271, rfl, rfl, .inr ⟨by decide, by decide⟩, _, 2147483647, rfl, rfl, (show (0 : Int) < 2147483647 by decide), ?_⟩))⟩⟩)
    obtain ⟨mx, hmx⟩ : ∃ mx, (n2 + 7919 * (n1 + 1) * (n1 + 1)) * 48271 % 2147483647 = mx := ⟨_, rfl⟩
    have m0 : 0 ≤ mx := by
      rw [← hmx]
      exact Int.emod_nonneg _ (by decide)
    have m1 : mx < 2147483647 := by
      rw [← hmx]
      exact Int.emod_lt_of_pos _ (by decide)
    have h1' : (σ.set 3 (some (.int ((n2 + 7919 * (n1 + 1) * (n1 + 1)) * 48271 % 2147483647))))[1]? = some (some (.int m)) := by
      rw [List.getElem?_set_ne (by decide)]
      exact h1
    have h3' : (σ.set 3 (some (.int ((n2 + 7919 * (n1 + 1) * (n1 + 1)) * 48271 % 2147483647))))[3]? = some (some (.int mx)) := by
      rw [hmx]
      exact set_get (by rw [hl]; decide)
    refine ⟨_, h3', _, h3', .inl (.inl (.inl ⟨mx, 69621, rfl, rfl, mx, mx + 69621, rfl, rfl, .inl ⟨by omega, by omega⟩, _, 2147483629, rfl, rfl, (show (0 : Int) < 2147483629 by decide), _, 8, rfl, rfl, ⟨by decide, by decide⟩, _, h1', _, m, rfl, rfl, by omega, ?_⟩))⟩
    exact hrt _ _ r (.v (.int _)) (ex _) I1 ⟨Nat.le_refl _, _, rfl, Int.emod_nonneg _ (by omega), Int.emod_lt_of_pos _ (by omega)⟩ (.v _)
end EP

/-! ## KM7 -/
/-! the names that are drawn -/
namespace EP
open PySem PySem.Spec PyProof.Rows L2
def sO (cs : List Nat) : Str := ⟨cs.toArray⟩
def barT : Str := ("end most less same unlike ahead here next not and or if each pairs nexts least more row" ++ " place number put swap set stand begin go while kept behind changed exchanged") ++ " turned moved front back"
def barL : List Str := Txt.split barT " "
def bar (z : Str) : Bool := inV (.str z) (barL.map V.str)
theorem bar_eq (z : Str) : bar z = barL.any fun y => y == z := by
  unfold bar inV
  rw [List.any_map]
  rfl
theorem bar_few : (List.range 9).all (fun n => Nat.ble ((barL.filter fun z => z.length == n).length) 10) = true := by decide +kernel
theorem bar_end : bar "end" = true := by decide +kernel
theorem sO_len (cs : List Nat) : (sO cs).length = cs.length := rfl
theorem sO_inj {a b : List Nat} (h : sO a = sO b) : a = b := by
  have := congrArg (fun z : Str => z.cps.toList) h
  exact this
def lt26 (i : Nat) : Nat := 97 + i % 26
def wd (cs : List Nat) (a t j : Nat) : Str := sO (cs.set a (lt26 (t + j)))
def wds (cs : List Nat) (a t j : Nat) : List Str := (List.range j).map (wd cs a t)
def fnd (cs : List Nat) (a t j : Nat) : List Str := (wds cs a t j).filter fun z => !bar z
theorem wd_inj {cs : List Nat} {a t i j : Nat} (ha : a < cs.length) (hi : i < 26) (hj : j < 26) (h : wd cs a t i = wd cs a t j) : i = j := by
  have e := congrArg (fun l => l[a]?) (sO_inj h)
  have e2 : (cs.set a (lt26 (t + i)))[a]? = (cs.set a (lt26 (t + j)))[a]? := e
  rw [List.getElem?_set_self ha, List.getElem?_set_self ha] at e2
  have e3 := Option.some.inj e2
  unfold lt26 at e3
  omega
theorem wds_nodup {cs : List Nat} {a t j : Nat} (ha : a < cs.length) (hj : j ≤ 26) : (wds cs a t j).Nodup := by
  unfold wds List.Nodup
  rw [List.pairwise_map]
  refine (List.pairwise_lt_range (n := j)).imp_of_mem fun {x y} hx hy h e => ?_
  have h1 := List.mem_range.mp hx
  have h2 := List.mem_range.mp hy
  have := wd_inj ha (by omega) (by omega) e
  omega
theorem fnd_nodup {cs : List Nat} {a t j : Nat} (ha : a < cs.length) (hj : j ≤ 26) : (fnd cs a t j).Nodup := (wds_nodup ha hj).filter _
theorem split_len {α : Type} (p : α → Bool) : ∀ l : List α, l.length = (l.filter p).length + (l.filter fun z => !p z).length
  | [] => rfl
  | x :: l => by
    have ih := split_len p l
    cases h : p x with
    | true =>
      rw [List.filter_cons_of_pos h, List.filter_cons_of_neg (by rw [h]; decide), List.length_cons, List.length_cons]
      omega
    | false =>
      rw [List.filter_cons_of_neg (by rw [h]; decide), List.filter_cons_of_pos (by rw [h]; rfl), List.length_cons, List.length_cons]
      omega
theorem fnd_many {cs : List Nat} {a t j : Nat} (ha : a < cs.length) (hn : cs.length ≤ 8) (hj : j ≤ 26) : j ≤ (fnd cs a t j).length + 10 := by
  have h1 : ((wds cs a t j).filter bar).length ≤ 10 := by
    have hb := List.all_eq_true.mp bar_few cs.length (List.mem_range.mpr (by omega))
    refine Nat.le_trans (List.Nodup.length_le_of_subset ((wds_nodup ha hj).filter _) fun z hz => ?_) (Nat.le_of_ble_eq_true hb)
    obtain ⟨h2, h3⟩ := List.mem_filter.mp hz
    refine List.mem_filter.mpr ⟨?_, ?_⟩
    · rw [bar_eq] at h3
      obtain ⟨y, hy, e⟩ := List.any_eq_true.mp h3
      rw [← eq_of_beq e]
      exact hy
    · obtain ⟨i, _, rfl⟩ := List.mem_map.mp h2
      show ((cs.set a (lt26 (t + i))).length == cs.length) = true
      rw [List.length_set]
      exact beq_self_eq_true _
  have h2 : (wds cs a t j).length = ((wds cs a t j).filter bar).length + (fnd cs a t j).length := split_len bar _
  unfold wds at h2
  rw [List.length_map, List.length_range] at h2
  unfold wds at h1
  omega
theorem fnd_succ {cs : List Nat} {a t j : Nat} : fnd cs a t (j + 1) = fnd cs a t j ++ if bar (wd cs a t j) then [] else [wd cs a t j] := by
  unfold fnd wds
  rw [List.range_succ, List.map_append, List.filter_append]
  congr 1
  show List.filter _ [wd cs a t j] = _
  cases h : bar (wd cs a t j) with
  | true => rw [if_pos rfl, List.filter_cons_of_neg (by rw [h]; decide)]; rfl
  | false => rw [if_neg Bool.false_ne_true, List.filter_cons_of_pos (by rw [h]; rfl)]; rfl
theorem fnd_ok {cs : List Nat} {a t j : Nat} {z : Str} (h : z ∈ fnd cs a t j) : z ≠ "end" := fun e => by
  have h2 := (List.mem_filter.mp h).2
  rw [e, bar_end] at h2
  exact Bool.false_ne_true h2
theorem join_one (cs : List Nat) : Txt.join "" (cs.map fun c => sO [c]) = sO cs := by
  have h : ∀ cs : List Nat, TL.joinL [] (cs.map fun c => [c]) = cs := fun cs => by
    induction cs with
    | nil => rfl
    | cons c cs ih =>
      cases cs with
      | nil => rfl
      | cons d cs =>
        show [c] ++ ([] ++ TL.joinL [] ((d :: cs).map fun c => [c])) = _
        rw [ih]
        rfl
  rw [TL.join_eq]
  refine TL.ext_tl ?_
  rw [TL.tl_join, List.map_map]
  exact h cs
theorem letters_at (i : Nat) : atI ("abcdefghijklmnopqrstuvwxyz" : Str).cps.toList ((i % 26 : Nat) : Int) = some (lt26 i) := by
  have h : (List.range 26).all (fun k => atI ("abcdefghijklmnopqrstuvwxyz" : Str).cps.toList ((k : Nat) : Int) == some (97 + k)) = true := by decide +kernel
  exact eq_of_beq (List.all_eq_true.mp h (i % 26) (List.mem_range.mpr (Nat.mod_lt _ (by decide))))
end EP

/-! ## KF11 -/
namespace EP
open PySem PySem.Spec PyProof.Rows L2
variable {P : Program} {w : World} {K : PySem.W.Frag} {mg : Str → Option Value} {base : Heap}
section
variable {W : Wd K} {Γ : Gm} {r : Nat} {td tm : TE} {m : Int}
/-- a draw -/
theorem ev_draw (hd : Ev W td Γ (r + 1) (r + 1) (At (.v (.ref W.dk)))) (hm : Ev W tm Γ (r + 1) (r + 1) (At (.v (.int m)))) (h1 : 1 ≤ m) (h2 : m ≤ 10000000) : Ev W (tCall (spDraw K) [] E0 (tCons td (tCons tm tNil))) Γ (r + 1) r (In fun v => 0 ≤ v ∧ v < m) :=
  ev_cdW (Wf := fun W : Wd K => W) W m (ea_cons hd (ea_cons hm ea_nil)) ⟨h1, h2⟩
end
section
variable {W : Wd K} {Γ : Gm} {r r1 i : Nat} {te : TE} {PL : List Dt → Prop} {P1 : Dt → Prop} {s2 : TS} {N : Nat → Gm → Prop} {R : Nat → Dt → Prop}
theorem es_fresh (h : EvF W te Γ r r1 PL) (k : ∀ (σ : L2.St) (H H1 : Hp) (E : Ends) (p : Addr) (xs : List V) (ds : List Dt), W.Ex H H1 → W.I r1 H1 → PL ds → H p = none → ¬ W.M p → H1 p = some (.lst xs) → DatL W H1 xs ds → Sl W H1 (σ.set i (some (.ref p))) (Γ.set i (some (.lst ds))) →
    (∀ v H' r' d, W.Ex H H' → W.I r' H' → R r' d → Dat W H' v d → E.rt v H') → s2 E (σ.set i (some (.ref p))) H1) : EvS W (tSeq (tAsg te (gName i)) s2) Γ r N R := fun σ H E s I hnx hrt =>
  h σ H _ s I fun p H1 xs ds e1 I1 pl np nM hp l => k σ H H1 E p xs ds e1 I1 pl np nM hp l ((s.mono I e1).set i (.lst nM hp l)) hrt
theorem as_use {σ : L2.St} {H : Hp} {E : Ends} (h : Ev W te Γ r r1 P1) (sl : Sl W H σ Γ) (I : W.I r H) (k : ∀ v H' d, W.Ex H H' → W.I r1 H' → P1 d → Dat W H' v d → Sl W H' (σ.set i (some v)) (Γ.set i (some d)) → s2 E (σ.set i (some v)) H') :
    (tSeq (tAsg te (gName i)) s2) E σ H := h σ H _ sl I fun v H' d e I' p a => k v H' d e I' p a ((sl.mono I e).set i a)
end
/-! ### names -/
structure NmI (W : Wd K) (H0 : Hp) (r : Nat) (ps pf : Addr) (cs : List Nat) (a t many j : Nat) (σ : L2.St) (H : Hp) : Prop where
  ex : W.Ex H0 H
  I : W.I r H
  ne : ps ≠ pf
  stem : ∃ cs' : List Nat, cs'.length = cs.length ∧ (∀ x, cs'.set a x = cs.set a x) ∧ H ps = some (.lst (cs'.map fun c => V.str (sO [c])))
  fd : H pf = some (.lst ((fnd cs a t j).map V.str))
  s1 : σ[1]? = some (some (.int (many : Int)))
  s2 : σ[2]? = some (some (.str "abcdefghijklmnopqrstuvwxyz"))
  s3 : σ[3]? = some (some (.str barT))
  s4 : σ[4]? = some (some (.ref ps))
  s5 : σ[5]? = some (some (.int (a : Int)))
  s6 : σ[6]? = some (some (.int ((t + j : Nat) : Int)))
  s7 : σ[7]? = some (some (.ref pf))
  len : σ.length = 9
  le : (fnd cs a t j).length ≤ many
  j26 : j ≤ 26
def spNames (K : PySem.W.Frag) : Sp := SpW (fun W : Wd K => W) (fun W (n : Nat) => [.v (.ref W.dk), .v (.int (n : Int))]) (fun n => n ≤ 15) (fun _ => 11)
  (fun n d => ∃ ys : List Str, d = .lst (strsD ys) ∧ ys.length = n ∧ ys.Nodup ∧ ∀ z ∈ ys, z ≠ "end")
-- slots of _law_names: 0 _law_deck_here, 1 _law_many, 2 _law_letters, 3 _law_barred, 4 _law_stem, 5 _law_at, 6 _law_turn, 7 _law_found, 8 _law_k
abbrev N_q_names : List Str := ["_law_deck_here", "_law_many", "_law_letters", "_law_barred", "_law_stem", "_law_at", "_law_turn", "_law_found", "_law_k"]
theorem sc_q_names : FnScope ["_law_deck_here", "_law_many", "_law_letters", "_law_barred", "_law_stem", "_law_at", "_law_turn", "_law_found", "_law_k"] ["_law_deck_here", "_law_many"] (defScope s_q_names) := ⟨rfl, rfl, rfl, by decide +kernel, rfl, by decide +kernel, by decide +kernel⟩
theorem ok_names (M : Md K mg) (D : DefAt K mg "_law_names" s_q_names ["_law_deck_here", "_law_many"]) (C_q_draw : Cal P w K mg base 1 "_law_draw" ["_law_deck_here", "_law_most"] (spDraw K)) : Cal P w K mg base 2 "_law_names" ["_law_deck_here", "_law_many"] (spNames K) := by
  refine D.okW (k := 1) sc_q_names (fun _ _ => rfl) fun f cdv A outer s H E hr => ⟨_, (pss_cons (ps_set (i := 2) sc_q_names.nd rfl (by first | exact Or.inl rfl | exact Or.inr rfl) pe_str)
  (pss_cons (ps_set (i := 3) sc_q_names.nd rfl (by first | exact Or.inl rfl | exact Or.inr rfl) pe_str)
  (pss_cons (ps_set (i := 3) sc_q_names.nd rfl (by first | exact Or.inl rfl | exact Or.inr rfl) (pe_op (op_plus K) (pv 3) pe_str))
  (pss_cons (ps_set (i := 3) sc_q_names.nd rfl (by first | exact Or.inl rfl | exact Or.inr rfl) (pe_op (op_plus K) (pv 3) pe_str))
  (pss_cons (ps_setLc (i := 4) (own := [("_law_k", 8)]) rfl sc_q_names.nd rfl rfl (sw_true rfl rfl rfl (by decide +kernel)) (pi_range1 (by rfl) M.range_ (pa_cons (pe_op (op_plus K) pe_int (pe_cal C_q_draw hr (by omega) (by rfl) (pa_cons (pv 0) (pa_cons pe_int pa_nil)))) pa_nil)) (blkOk_by (N := N_q_names) (sc := defScope s_q_names) (by decide +kernel)) (fun _ _ _ _ _ => (pg_name (i := 8) sc_q_names.nd rfl (by first | exact Or.inl rfl | exact Or.inr rfl))) (fun _ _ _ _ _ => pts_nil) (fun _ _ _ _ _ => (pe_ix (ix_all K) (pv 2) (pe_cal C_q_draw hr (by omega) (by rfl) (pa_cons (pv 0) (pa_cons pe_int pa_nil))) (fun _ _ => rfl))))
  (pss_cons (ps_set (i := 5) sc_q_names.nd rfl (by first | exact Or.inl rfl | exact Or.inr rfl) (pe_cal C_q_draw hr (by omega) (by rfl) (pa_cons (pv 0) (pa_cons (pe_callB (cb_len K) (by rfl) M.len_ bt_len (pa_cons (pv 4) pa_nil)) pa_nil))))
  (pss_cons (ps_set (i := 6) sc_q_names.nd rfl (by first | exact Or.inl rfl | exact Or.inr rfl) (pe_cal C_q_draw hr (by omega) (by rfl) (pa_cons (pv 0) (pa_cons pe_int pa_nil))))
  (pss_cons (ps_set (i := 7) sc_q_names.nd rfl (by first | exact Or.inl rfl | exact Or.inr rfl) (pe_lst pa_nil))
  (pss_cons (ps_while PassesOwn.never (pt_cmpR op_lt (pe_callB (cb_len K) (by rfl) M.len_ bt_len (pa_cons (pv 7) pa_nil)) (pv 1) (nomark _)) (pss_cons (ps_asg (pe_ix (ix_all K) (pv 2) (pe_op op_mod (pv 6) pe_int) (fun _ _ => rfl)) (pg_sub (pv 4) (pv 5) set_list))
  (pss_cons (ps_set (i := 6) sc_q_names.nd rfl (by first | exact Or.inl rfl | exact Or.inr rfl) (pe_op (op_plus K) (pv 6) pe_int))
  (pss_one (ps_if (pt_cmpR (op_niS K) (pe_join pe_str (pv 4)) (pe_split (pv 3) pe_str) (by rfl)) (pss_one (ps_expr (pe_bm PySem.F.plainAttrs_list PySem.F.slot_list_append PySem.F.type_list_append mt_append (pv 7) (pa_cons (pe_join pe_str (pv 4)) pa_nil)))) pss_nil)))))
  (pss_one (ps_ret (pv 7)))))))))))), fun W many r hp => ?_⟩
  have hp : many ≤ 15 := hp
  show EvS W _ (startG 9 [.v (.ref W.dk), .v (.int (many : Int))]) (r + 11) No (fun r' d => r ≤ r' ∧ ∃ ys : List Str, d = .lst (strsD ys) ∧ ys.length = many ∧ ys.Nodup ∧ ∀ z ∈ ys, z ≠ "end")
  refine es_asgD ev_c (es_asgD ev_c (es_asgD (ev_addS (ev_var rfl) ev_c (by rw [sizeLine_eq]; decide +kernel)) (es_asgD (d := .v (.str barT)) (ev_addS (ev_var rfl) ev_c (by rw [sizeLine_eq]; decide +kernel)) ?_)))
  refine es_fresh (el_lcF (r1 := r + 2) (c := 8) id (PA := fun ds => ∃ n : Nat, 1 ≤ n ∧ n ≤ 8 ∧ ds = nums 0 n) (p := fun _ => true) (G1 := fun _ d => ∃ c : Nat, d = .v (.str (sO [c]))) (PQ := fun es => ∃ cs : List Nat, 1 ≤ cs.length ∧ cs.length ≤ 8 ∧ es = cs.map fun c => .v (.str (sO [c])))
    (ei_rng1 (p := fun v => 1 ≤ v ∧ v ≤ 8) (ev_addP (p := fun v => v = 1) (ev_c.imp fun d e => ⟨1, e, rfl⟩) (ev_draw (r := r + 10) (ev_var rfl) ev_c (by decide) (by decide)) fun i j hi hj => ⟨_, rfl, by omega, by omega⟩)
      fun v hv => ⟨by omega, by omega, nums 0 v.toNat, (List.map_id _).symm, v.toNat, by omega, by omega, rfl⟩) (fun l z => ?_) (fun l z => ⟨1, ?_, fun W' x r' hdk hx => ⟨_, eg_name (by decide), et_yes, fun _ => ev_ixSP (ev_var rfl) (ev_draw (ev_var (by rw [hdk]; rfl)) ev_c (by decide) (by decide)) (by rw [sizeLine_eq]; decide +kernel) fun i hi => ?_⟩⟩) (fun l es z c => ?_)) fun σ H H1 E p xs ds e1 I1 pl np nM hp1 l sl1 hrt => ?_
  · obtain ⟨n, _, h, rfl⟩ := z
    rw [nums_len, sizeLine_eq]
    omega
  · obtain ⟨n, _, h, rfl⟩ := z
    rw [nums_len]
    omega
  · have h := letters_at i.toNat
    have e : ((i.toNat % 26 : Nat) : Int) = i := by omega
    rw [e] at h
    exact ⟨_, h, _, rfl⟩
  · obtain ⟨n, h1, h2, rfl⟩ := z
    obtain ⟨h3, h4⟩ := c.all
    rw [nums_len] at h3
    have : ∀ es : List Dt, (∀ e ∈ es, ∃ d ∈ nums 0 n, ∃ c : Nat, e = .v (.str (sO [c]))) → ∃ cs : List Nat, cs.length = es.length ∧ es = cs.map fun c => .v (.str (sO [c])) := fun es => by
      induction es with
      | nil => exact fun _ => ⟨[], rfl, rfl⟩
      | cons e es ih =>
        intro h
        obtain ⟨cs, l1, l2⟩ := ih fun e he => h e (List.mem_cons_of_mem _ he)
        obtain ⟨_, _, c, hc⟩ := h e List.mem_cons_self
        exact ⟨c :: cs, by rw [List.length_cons, List.length_cons, l1], by rw [hc, l2]; rfl⟩
    obtain ⟨cs, l1, l2⟩ := this es h4
    exact ⟨cs, by omega, by omega, l2⟩
  obtain ⟨cs, hc1, hc8, rfl⟩ := pl
  have exs : xs = cs.map fun c => V.str (sO [c]) := by
    refine DatL.vals_eq (W := W) (H := H1) ?_
    rw [List.map_map]
    exact l
  refine as_use (ev_draw (r := r + 1) (m := (cs.length : Int)) (ev_var rfl) (Ev.is (ev_lenL (ev_var rfl)) (by rw [List.length_map])) (by omega) (by omega)) sl1 I1 fun v2 H2 d2 e2 I2 p2 a2 sl2 => ?_
  obtain ⟨ia, rfl, ha0, ha1⟩ := p2
  have ev2 := a2.v_eq
  subst ev2
  refine as_use (ev_draw (r := r) (m := 26) (ev_var rfl) ev_c (by decide) (by decide)) sl2 I2 fun v3 H3 d3 e3 I3 p3 a3 sl3 => ?_
  obtain ⟨it, rfl, ht0, ht1⟩ := p3
  have ev3 := a3.v_eq
  subst ev3
  have hp3 : H3 p = some (.lst (cs.map fun c => V.str (sO [c]))) := by
    rw [← exs]
    exact e3 _ _ nM (e2 _ _ nM hp1)
  refine ⟨Nat.zero_le _, fun pf npf => ?_⟩
  have nMf : ¬ W.M pf := W.not_new I3 npf
  have ne : p ≠ pf := fun e => by
    rw [e, npf] at hp3
    exact nomatch hp3
  have e03 : W.Ex H H3 := (e1.trans e2).trans e3
  have npf0 : H pf = none := free_of I3 e03 npf
  obtain ⟨a, rfl⟩ : ∃ a : Nat, ia = (a : Int) := ⟨ia.toNat, by omega⟩
  obtain ⟨t, rfl⟩ : ∃ t : Nat, it = (t : Int) := ⟨it.toNat, by omega⟩
  have hacs : a < cs.length := by omega
  have sl4 := (sl3.mono I3 (.of (same_new (o := .lst []) npf))).set 7 (.v (.ref pf))
  have slot : ∀ {j : Nat} {x : V} {σ : L2.St} {Γ : Gm} {H : Hp}, Sl W H σ Γ → Γ[j]? = some (some (.v x)) → σ[j]? = some (some x) := fun sl h => by
    obtain ⟨y, h1, h2⟩ := sl.get h
    rw [h1, h2.v_eq]
  have hσ : (σ.set 4 (some (.ref p))).length = 9 := sl1.len
  rw [List.length_set] at hσ
  have s4 : ((((σ.set 4 (some (.ref p))).set 5 (some (.int (a : Int)))).set 6 (some (.int (t : Int)))).set 7 (some (.ref pf)))[4]? = some (some (.ref p)) := by
    rw [List.getElem?_set_ne (by decide), List.getElem?_set_ne (by decide), List.getElem?_set_ne (by decide)]
    exact set_get (by rw [hσ]; decide)
  have inv0 : NmI W H r p pf cs a t many 0 _ (L2.upd H3 pf (.lst [])) := ⟨e03.trans (.of (same_new npf)), W.mono _ _ _ I3 (same_new npf), ne, ⟨cs, rfl, fun _ => rfl, by rw [upd_ne ne]; exact hp3⟩, upd_same,
    slot sl4 rfl, slot sl4 rfl, slot sl4 rfl, s4, slot sl4 rfl, slot sl4 rfl, slot sl4 rfl, sl4.len, Nat.zero_le _, Nat.zero_le _⟩
  refine ⟨fun m σ' H' => ∃ j, m = 26 - j ∧ NmI W H r p pf cs a t many j σ' H', ⟨26, 0, rfl, inv0⟩, fun m σ' H' z => ?_⟩
  · obtain ⟨j, rfl, v⟩ := z
    have vlen := fnd_many (t := t) hacs hc8 v.j26
    refine ⟨_, v.s7, pf, _, rfl, .inl (SqL.of v.fd), _, v.s1, _, _, rfl, rfl, _, rfl, ?_⟩
    rw [List.length_map]
    by_cases hlt : (((fnd cs a t j).length : Nat) : Int) < (many : Int)
    · rw [decide_eq_true hlt]
      have hj25 : j < 25 := by omega
      refine iteT ⟨fun σ2 H2 => NmI W H r p pf cs a t many (j + 1) σ2 H2, fun σ2 H2 z => ⟨26 - (j + 1), by omega, j + 1, rfl, z⟩, ?_⟩
      obtain ⟨cs', hl', hs', hstem⟩ := v.stem
      have hat : atI ("abcdefghijklmnopqrstuvwxyz" : Str).cps.toList (((t + j : Nat) : Int) % 26) = some (lt26 (t + j)) := by
        have h := letters_at (t + j)
        have e : (((t + j) % 26 : Nat) : Int) = ((t + j : Nat) : Int) % 26 := by omega
        rw [e] at h
        exact h
      have hix : ixN (cs'.map fun c => V.str (sO [c])).length (a : Int) = some a := by
        unfold ixN
        rw [if_pos (by omega), if_pos (by rw [List.length_map]; omega)]
        rfl
      refine ⟨_, v.s2, _, v.s6, _, 26, rfl, rfl, (show (0 : Int) < 26 by decide), .inr (.inr ⟨_, _, _, rfl, rfl, by rw [sizeLine_eq]; decide +kernel, hat, _, v.s4, _, v.s5, p, _, _, a, rfl, rfl, hstem, hix, ?_⟩)⟩
      have eset : (cs'.map fun c => V.str (sO [c])).set a (V.str ⟨#[lt26 (t + j)]⟩) = (cs.set a (lt26 (t + j))).map fun c => V.str (sO [c]) := by
        rw [← hs', List.map_set]
        rfl
      rw [eset]
      have hp5 : (L2.upd H' p (.lst ((cs.set a (lt26 (t + j))).map fun c => V.str (sO [c])))) p = some (.lst ((cs.set a (lt26 (t + j))).map fun c => V.str (sO [c]))) := upd_same
      have hf5 : (L2.upd H' p (.lst ((cs.set a (lt26 (t + j))).map fun c => V.str (sO [c])))) pf = some (.lst ((fnd cs a t j).map V.str)) := by
        rw [upd_ne (Ne.symm v.ne)]
        exact v.fd
      have I5 : W.I r (L2.upd H' p (.lst ((cs.set a (lt26 (t + j))).map fun c => V.str (sO [c])))) := W.keepUpd v.I nM
      have ex5 : W.Ex H (L2.upd H' p (.lst ((cs.set a (lt26 (t + j))).map fun c => V.str (sO [c])))) := fun b o m z => by
        rw [upd_ne (ne_of_none z np)]
        exact v.ex b o m z
      generalize L2.upd H' p (.lst ((cs.set a (lt26 (t + j))).map fun c => V.str (sO [c]))) = H5 at hp5 hf5 I5 ex5 ⊢
      refine ⟨_, v.s6, .inl (.inl (.inl ⟨_, 1, rfl, rfl, ?_⟩))⟩
      have e6 : (((t + j : Nat) : Int) + 1) = ((t + (j + 1) : Nat) : Int) := by omega
      have nx : ∀ {k : Nat} {x : Option V}, k ≠ 6 → σ'[k]? = some x → (σ'.set 6 (some (.int (((t + j : Nat) : Int) + 1))))[k]? = some x := fun {k x} hk h => by
        rw [List.getElem?_set_ne (Ne.symm hk)]
        exact h
      have s66 : (σ'.set 6 (some (.int (((t + j : Nat) : Int) + 1))))[6]? = some (some (.int ((t + (j + 1) : Nat) : Int))) := by
        rw [← e6]
        exact set_get (by rw [v.len]; decide)
      have emap : ∀ l : List Nat, (l.map fun c => sO [c]).map V.str = l.map fun c => V.str (sO [c]) := fun l => by rw [List.map_map]; rfl
      have esum : ∀ l : List Nat, ((l.map fun c => sO [c]).map (·.length)).sum + (l.map fun c => sO [c]).length * (Str.length "") ≤ l.length := fun l => by
        have e0 : (Str.length "") = 0 := by decide +kernel
        rw [e0, Nat.mul_zero, Nat.add_zero]
        induction l with
        | nil => exact Nat.le_refl _
        | cons c l ih =>
          rw [List.map_cons, List.map_cons, List.sum_cons, List.length_cons]
          have : (sO [c]).length = 1 := rfl
          omega
      have elen : (cs.set a (lt26 (t + j))).length = cs.length := List.length_set
      have hsz : ((((cs.set a (lt26 (t + j))).map fun c => sO [c]).map (·.length)).sum + ((cs.set a (lt26 (t + j))).map fun c => sO [c]).length * (Str.length "")) ≤ 16777216 := by
        have := esum (cs.set a (lt26 (t + j)))
        omega
      refine ⟨⟨_, rfl⟩, _, nx (by decide) v.s4, "", p, (cs.set a (lt26 (t + j))).map fun c => sO [c], rfl, rfl, .inl (SqL.of (by rw [emap]; exact hp5)), hsz, _, nx (by decide) v.s3, ⟨_, rfl⟩, barT, " ", rfl, rfl, by decide +kernel, by rw [sizeLine_eq]; decide +kernel, fun q nq => ?_⟩
      have hp7 : (L2.upd H5 q (.lst (barL.map V.str))) p = some (.lst ((cs.set a (lt26 (t + j))).map fun c => V.str (sO [c]))) := by
        rw [upd_ne (ne_of_none hp5 nq)]
        exact hp5
      have hf7 : (L2.upd H5 q (.lst (barL.map V.str))) pf = some (.lst ((fnd cs a t j).map V.str)) := by
        rw [upd_ne (ne_of_none hf5 nq)]
        exact hf5
      have sm7 : Same H5 (L2.upd H5 q (.lst (barL.map V.str))) := same_new nq
      have I7 := W.mono _ _ _ I5 sm7
      have ex7 : W.Ex H (L2.upd H5 q (.lst (barL.map V.str))) := ex5.trans (.of sm7)
      have flat : ∀ l : List Str, (l.map V.str).all flatV = true := fun l => by
        rw [List.all_map]
        exact List.all_eq_true.mpr fun _ _ => rfl
      refine ⟨q, barL.map V.str, rfl, .inl (SqL.of upd_same), rfl, flat _, ?_⟩
      refine ⟨!bar (wd cs a t j), by rw [join_one]; rfl, ?_⟩
      have hsucc := fnd_succ (cs := cs) (a := a) (t := t) (j := j)
      cases hb : bar (wd cs a t j) with
      | true =>
        rw [hb, if_pos rfl, List.append_nil] at hsucc
        exact iteF ⟨ex7, I7, v.ne, ⟨_, elen, fun x => List.set_set .., hp7⟩, by rw [hsucc]; exact hf7, nx (by decide) v.s1, nx (by decide) v.s2, nx (by decide) v.s3, nx (by decide) v.s4, nx (by decide) v.s5, s66, nx (by decide) v.s7, by rw [List.length_set]; exact v.len, by rw [hsucc]; exact v.le, by omega⟩
      | false =>
        rw [hb, if_neg Bool.false_ne_true] at hsucc
        refine iteT ⟨_, nx (by decide) v.s7, .inl ⟨rfl, _, SqL.of hf7⟩, ⟨_, rfl⟩, _, nx (by decide) v.s4, "", p, (cs.set a (lt26 (t + j))).map fun c => sO [c], rfl, rfl, .inl (SqL.of (by rw [emap]; exact hp7)), hsz, pf, _, _, rfl, rfl, hf7, ?_, ?_⟩
        · rw [List.length_map, sizeLine_eq]
          have := v.le
          omega
        · show NmI W H r p pf cs a t many (j + 1) _ (L2.upd (L2.upd H5 q (.lst (barL.map V.str))) pf (.lst ((fnd cs a t j).map V.str ++ [.str (Txt.join "" ((cs.set a (lt26 (t + j))).map fun c => sO [c]))])))
          rw [join_one]
          refine ⟨fun b o m z => ?_, W.keepUpd I7 nMf, v.ne, ⟨_, elen, fun x => List.set_set .., by rw [upd_ne v.ne]; exact hp7⟩, ?_, nx (by decide) v.s1, nx (by decide) v.s2, nx (by decide) v.s3, nx (by decide) v.s4, nx (by decide) v.s5, s66, nx (by decide) v.s7, by rw [List.length_set]; exact v.len, ?_, by omega⟩
          · rw [upd_ne (ne_of_none z npf0)]
            exact ex7 b o m z
          · rw [hsucc, List.map_append]
            exact upd_same
          · rw [hsucc, List.length_append]
            show _ + 1 ≤ many
            omega
    · rw [decide_eq_false hlt]
      have hle := v.le
      refine iteF ⟨_, v.s7, hrt _ _ r (.lst (strsD (fnd cs a t j))) v.ex v.I ⟨Nat.le_refl _, _, rfl, by omega, fnd_nodup hacs v.j26, fun z hz => fnd_ok hz⟩ (.lst nMf v.fd ?_)⟩
      rw [strsD_eq]
      exact DatL.vals _
end EP

/-! ## KF12 -/
namespace EP
open PySem PySem.Spec PyProof.Rows L2
variable {P : Program} {w : World} {K : PySem.W.Frag} {mg : Str → Option Value} {base : Heap}
section
variable {W : Wd K} {Γ : Gm} {r r1 r2 : Nat} {ta tb : TE} {p : Int → Prop} {j : Int}
theorem ev_eqP (ha : Ev W ta Γ r r1 (In p)) (hb : Ev W tb Γ r1 r2 (At (.v (.int j)))) : Ev W (tOp rEq ta tb) Γ r r2 (fun d => ∃ b, d = .v (.bl b)) :=
  ev_op ha hb fun a b d1 d2 H Q p1 p2 a1 b2 I q => by
    obtain ⟨i, rfl, _⟩ := p1
    subst p2
    rw [a1.v_eq, b2.v_eq]
    exact ⟨rfl, q _ H _ (Same.refl H) I ⟨_, rfl⟩ (.v _)⟩
end
/-! ### more -/
def spMore (K : PySem.W.Frag) : Sp := SpW (fun W : Wd K => W) (fun W (_ : Unit) => [.v (.ref W.dk)]) (fun _ => True) (fun _ => 4) (fun _ => In fun _ => True)
-- slots of _law_more: 0 _law_deck_here
abbrev N_q_more : List Str := ["_law_deck_here"]
theorem sc_q_more : FnScope ["_law_deck_here"] ["_law_deck_here"] (defScope s_q_more) := ⟨rfl, rfl, rfl, by decide +kernel, rfl, by decide +kernel, by decide +kernel⟩
theorem ok_more (M : Md K mg) (D : DefAt K mg "_law_more" s_q_more ["_law_deck_here"]) (C_q_draw : Cal P w K mg base 1 "_law_draw" ["_law_deck_here", "_law_most"] (spDraw K)) : Cal P w K mg base 2 "_law_more" ["_law_deck_here"] (spMore K) := by
  refine D.okW (k := 1) sc_q_more (fun _ _ => rfl) fun f cdv A outer s H E hr => ⟨_, (pss_cons (ps_if (pt_cmpR op_eq (pe_cal C_q_draw hr (by omega) (by rfl) (pa_cons (pv 0) (pa_cons pe_int pa_nil))) pe_int (nomark _)) (pss_one (ps_ret (pe_op op_mul (pe_op (op_plus K) (pe_op op_mul (pe_cal C_q_draw hr (by omega) (by rfl) (pa_cons (pv 0) (pa_cons (pe_op op_pow pe_int pe_int) pa_nil))) pe_int) (pe_cal C_q_draw hr (by omega) (by rfl) (pa_cons (pv 0) (pa_cons pe_int pa_nil)))) (pe_ix (ix_all K) (pe_lst (pa_cons pe_int (pa_cons (pe_un un_neg pe_int) pa_nil))) (pe_cal C_q_draw hr (by omega) (by rfl) (pa_cons (pv 0) (pa_cons pe_int pa_nil))) (fun _ _ => rfl))))) pss_nil)
  (pss_one (ps_ret (pe_ix (ix_all K) (pe_lst (pa_cons pe_int (pa_cons pe_int (pa_cons pe_int (pa_cons (pe_un un_neg pe_int) (pa_cons pe_int (pa_cons pe_int (pa_cons (pe_un un_neg pe_int) (pa_cons pe_int pa_nil))))))))) (pe_cal C_q_draw hr (by omega) (by rfl) (pa_cons (pv 0) (pa_cons pe_int pa_nil))) (fun _ _ => rfl))))), fun W a r hp => ?_⟩
  show EvS W _ (startG 1 [.v (.ref W.dk)]) (r + 4) No (fun r' d => r ≤ r' ∧ In (fun _ => True) d)
  refine es_seq (N1 := fun r' Γ' => r' = r + 3 ∧ Γ' = startG 1 [.v (.ref W.dk)]) (es_if (r1 := r + 3) (PB := fun _ => True) (et_BP (ev_eqP (ev_draw (r := r + 3) (ev_var rfl) ev_c (by decide) (by decide)) ev_c) fun d z => ?_) (fun _ => ?_) fun _ => es_next ⟨rfl, rfl⟩) fun r' Γ' z => ?_
  · obtain ⟨b, rfl⟩ := z
    exact ⟨b, rfl, trivial⟩
  · refine es_ret (P := In fun _ => True) (r1 := r) (ev_intCP (p := fun v => 0 ≤ v ∧ v < 2000000000) (q := fun _ => True) (ev_addP (p := fun v => 0 ≤ v ∧ v ≤ 1000000000) (q := fun v => 0 ≤ v ∧ v < 1000) (ev_intCP (p := fun v => 0 ≤ v ∧ v < 1000000) (q := fun v => v = 1000) (ev_draw (r := r + 2) (m := 1000000) (ev_var rfl) (Ev.is (ev_intC ev_c ev_c ⟨by decide, by decide, by decide⟩) (congrArg (fun z => Dt.v (.int z)) (show ((10 : Int) ^ (6 : Int).toNat) = 1000000 by decide +kernel))) (by decide) (by decide)) (ev_c.imp fun d e => ⟨1000, e, rfl⟩)
      (fun i j hi hj => .inl ⟨by omega, by omega⟩) fun i j hi hj => ⟨_, rfl, by subst hj; omega, by subst hj; omega⟩) (ev_draw (r := r + 1) (ev_var rfl) ev_c (by decide) (by decide)) fun i j hi hj => ⟨_, rfl, by omega, by omega⟩)
      (ev_ixLP (p := fun v => 0 ≤ v ∧ v < 2) (ds := [.v (.int 1), .v (.int (-1))]) (ev_lst (ea_cons ev_c (ea_cons ev_neg ea_nil))) (ev_draw (r := r) (ev_var rfl) ev_c (by decide) (by decide)) fun i hi => ?_) (fun i j hi hj => .inl ⟨by omega, by omega⟩) fun i j hi hj => ⟨_, rfl, trivial⟩) fun d e => ⟨Nat.le_refl _, e⟩
    have h2 : i = 0 ∨ i = 1 := by omega
    rcases h2 with rfl | rfl
    · exact ⟨_, rfl, _, rfl, trivial⟩
    · exact ⟨_, rfl, _, rfl, trivial⟩
  · obtain ⟨rfl, rfl⟩ := z
    refine es_ret (P := In fun _ => True) (r1 := r + 2) (ev_ixLP (p := fun v => 0 ≤ v ∧ v < 8) (ds := [.v (.int 0), .v (.int 0), .v (.int 1), .v (.int (-1)), .v (.int 0), .v (.int 2), .v (.int (-2)), .v (.int 0)]) (ev_lst (ea_cons ev_c (ea_cons ev_c (ea_cons ev_c (ea_cons ev_neg (ea_cons ev_c (ea_cons ev_c (ea_cons ev_neg (ea_cons ev_c ea_nil)))))))))
      (ev_draw (r := r + 2) (ev_var rfl) ev_c (by decide) (by decide)) fun i hi => ?_) fun d e => ⟨by omega, e⟩
    have h2 : i = 0 ∨ i = 1 ∨ i = 2 ∨ i = 3 ∨ i = 4 ∨ i = 5 ∨ i = 6 ∨ i = 7 := by omega
    rcases h2 with rfl | rfl | rfl | rfl | rfl | rfl | rfl | rfl <;> exact ⟨_, rfl, _, rfl, trivial⟩
/-! ### spot -/
def spSpot (K : PySem.W.Frag) : Sp := SpW (fun W : Wd K => W) (fun W (a : Wl × List Key) => [.v (.ref W.dk), castD a.1, .tup (a.2.map encK)]) (fun a => a.1.places.length ≤ 20 ∧ a.2.length ≤ 20) (fun _ => 1)
  (fun a d => ∃ k, d = encK k ∧ WfK a.1 (fun k => k ∈ a.2) k)
-- slots of _law_spot: 0 _law_deck_here, 1 _law_cast, 2 _law_bound, 3 _law_spots
abbrev N_q_spot : List Str := ["_law_deck_here", "_law_cast", "_law_bound", "_law_spots"]
theorem sc_q_spot : FnScope ["_law_deck_here", "_law_cast", "_law_bound", "_law_spots"] ["_law_deck_here", "_law_cast", "_law_bound"] (defScope s_q_spot) := ⟨rfl, rfl, rfl, by decide +kernel, rfl, by decide +kernel, by decide +kernel⟩
theorem ok_spot (M : Md K mg) (D : DefAt K mg "_law_spot" s_q_spot ["_law_deck_here", "_law_cast", "_law_bound"]) (C_q_draw : Cal P w K mg base 1 "_law_draw" ["_law_deck_here", "_law_most"] (spDraw K)) : Cal P w K mg base 2 "_law_spot" ["_law_deck_here", "_law_cast", "_law_bound"] (spSpot K) := by
  refine D.okW (k := 1) sc_q_spot (fun _ _ => rfl) fun f cdv A outer s H E hr => ⟨_, (pss_cons (ps_set (i := 3) sc_q_spot.nd rfl (by first | exact Or.inl rfl | exact Or.inr rfl) (pe_op (op_plus K) (pe_op (op_plus K) (pe_op (op_plus K) (pv 2) (pv 2)) (pe_ix (ix_all K) (pv 1) pe_int (fun _ _ => rfl))) (pe_tup (pa_cons pe_str pa_nil))))
  (pss_one (ps_ret (pe_ix (ix_all K) (pv 3) (pe_cal C_q_draw hr (by omega) (by rfl) (pa_cons (pv 0) (pa_cons (pe_callB (cb_len K) (by rfl) M.len_ bt_len (pa_cons (pv 3) pa_nil)) pa_nil))) (fun _ _ => rfl))))), fun W a r hp => ?_⟩
  obtain ⟨T, bd⟩ := a
  have hp' : T.places.length ≤ 20 ∧ bd.length ≤ 20 := hp
  clear hp
  obtain ⟨hp1, hp2⟩ := hp'
  show EvS W _ (startG 4 [.v (.ref W.dk), castD T, .tup (bd.map encK)]) (r + 1) No (fun r' d => r ≤ r' ∧ ∃ k, d = encK k ∧ WfK T (fun k => k ∈ bd) k)
  have hs : (strsD T.places).length = T.places.length := by
    unfold strsD
    rw [List.length_map]
  have hb : (bd.map encK).length = bd.length := List.length_map _
  refine es_asgD (d := .tup (((bd.map encK ++ bd.map encK) ++ strsD T.places) ++ [.v (.str "end")])) (ev_catT (ev_catT (ev_catT (ev_var rfl) (ev_var rfl) ?_) (Ev.unf (ev_ixT (d := .ftup (strsD T.places)) (ev_var rfl) ev_c rfl)) ?_) (ev_tup (ea_cons ev_c ea_nil)) ?_) ?_
  · rw [hb, sizeLine_eq]
    omega
  · rw [List.length_append, hb, hs, sizeLine_eq]
    omega
  · rw [List.length_append, List.length_append, hb, hs, sizeLine_eq]
    show _ + 1 ≤ _
    omega
  · refine es_ret (r1 := r) (P := fun d => ∃ k, d = encK k ∧ WfK T (fun k => k ∈ bd) k) (ev_ixTP (ev_var rfl) (ev_draw (r := r) (ev_var rfl) (ev_lenT (ev_var rfl)) ?_ ?_) fun i hi => ?_) fun d e => ⟨Nat.le_refl _, e⟩
    · rw [List.length_append]
      show (1 : Int) ≤ ((_ + 1 : Nat) : Int)
      omega
    · rw [List.length_append, List.length_append, List.length_append, hb, hs]
      show ((_ + 1 : Nat) : Int) ≤ 10000000
      omega
    · obtain ⟨d, h1, h2⟩ := atI_lt hi.1 hi.2
      refine ⟨d, h1, ?_⟩
      rcases List.mem_append.mp h2 with h2 | h2
      · rcases List.mem_append.mp h2 with h2 | h2
        · have h3 : d ∈ bd.map encK := by
            rcases List.mem_append.mp h2 with h2 | h2 <;> exact h2
          obtain ⟨k, hk, rfl⟩ := List.mem_map.mp h3
          exact ⟨k, rfl, .inr (.inl hk)⟩
        · obtain ⟨z, hz, rfl⟩ := List.mem_map.mp h2
          exact ⟨.inr z, rfl, .inr (.inr ⟨z, hz, rfl⟩)⟩
      · rw [List.mem_singleton.mp h2]
        exact ⟨ek, rfl, .inl rfl⟩
end EP

/-! ## KF13 -/
namespace EP
open PySem PySem.Spec PyProof.Rows L2
variable {P : Program} {w : World} {K : PySem.W.Frag} {mg : Str → Option Value} {base : Heap}
/-- the names of a world -/
structure NmOk (T : Wl) (bd : List Key) : Prop where
  rows : T.rows ≠ []
  rn : T.rows.length ≤ 20
  pn : T.places.length ≤ 20
  nn : T.nums.length ≤ 20
  bn : bd.length ≤ 20
theorem strsD_len (ys : List Str) : (strsD ys).length = ys.length := by
  unfold strsD
  rw [List.length_map]
section
variable {W : Wd K} {Γ : Gm} {r : Nat} {td tt : TE}
/-- t[draw(len(t))] of a tuple of texts -/
theorem pick_str {ys : List Str} {i : Int} (h : 0 ≤ i ∧ i < ((strsD ys).length : Int)) : ∃ d, atI (strsD ys) i = some d ∧ ∃ z ∈ ys, d = .v (.str z) := by
  obtain ⟨d, h1, h2⟩ := atI_lt h.1 h.2
  obtain ⟨z, hz, rfl⟩ := List.mem_map.mp h2
  exact ⟨_, h1, z, hz, rfl⟩
end
section
variable {W : Wd K} {Γ : Gm} {r r1 r2 r3 : Nat} {td tc tb ta t1 t2 t3 : TE} {P P1 P2 P3 : Dt → Prop}
theorem ev_tup2P (h1 : Ev W t1 Γ r r1 P1) (h2 : Ev W t2 Γ r1 r2 P2) (k : ∀ a b, P1 a → P2 b → P (.tup [a, b])) : Ev W (tTup (tCons t1 (tCons t2 tNil))) Γ r r2 P :=
  ev_tupP (ea_consP h1 (ea_consP h2 ea_nil)) (fun ds z => by
    obtain ⟨a, _, rfl, _, b, _, rfl, _, rfl⟩ := z
    rw [sizeLine_eq]
    exact ll rfl) fun ds z => by
    obtain ⟨a, _, rfl, h1, b, _, rfl, h2, rfl⟩ := z
    exact k a b h1 h2
theorem ev_tup3P (h1 : Ev W t1 Γ r r1 P1) (h2 : Ev W t2 Γ r1 r2 P2) (h3 : Ev W t3 Γ r2 r3 P3) (k : ∀ a b c, P1 a → P2 b → P3 c → P (.tup [a, b, c])) : Ev W (tTup (tCons t1 (tCons t2 (tCons t3 tNil)))) Γ r r3 P :=
  ev_tupP (ea_consP h1 (ea_consP h2 (ea_consP h3 ea_nil))) (fun ds z => by
    obtain ⟨a, _, rfl, _, b, _, rfl, _, c, _, rfl, _, rfl⟩ := z
    rw [sizeLine_eq]
    exact ll rfl) fun ds z => by
    obtain ⟨a, _, rfl, h1, b, _, rfl, h2, c, _, rfl, h3, rfl⟩ := z
    exact k a b c h1 h2 h3
theorem ev_more (hd : Ev W td Γ (r + 4) (r + 4) (At (.v (.ref W.dk)))) : Ev W (tCall (spMore K) [] E0 (tCons td tNil)) Γ (r + 4) r (In fun _ => True) := ev_cdW (Wf := fun W : Wd K => W) W () (ea_cons hd ea_nil) trivial
theorem ev_spotC {T : Wl} {bd : List Key} (hd : Ev W td Γ (r + 1) (r + 1) (At (.v (.ref W.dk)))) (hc : Ev W tc Γ (r + 1) (r + 1) (At (castD T))) (hb : Ev W tb Γ (r + 1) (r + 1) (At (.tup (bd.map encK)))) (h1 : T.places.length ≤ 20) (h2 : bd.length ≤ 20) :
    Ev W (tCall (spSpot K) [] E0 (tCons td (tCons tc (tCons tb tNil)))) Γ (r + 1) r (fun d => ∃ k, d = encK k ∧ WfK T (fun k => k ∈ bd) k) := ev_cdW (Wf := fun W : Wd K => W) W (T, bd) (ea_cons hd (ea_cons hc (ea_cons hb ea_nil))) ⟨h1, h2⟩
end
/-! ### sum -/
def spSum (K : PySem.W.Frag) : Sp := SpW (fun W : Wd K => W) (fun W (a : Wl × List Key) => [.v (.ref W.dk), castD a.1, .tup (a.2.map encK)]) (fun a => NmOk a.1 a.2) (fun _ => 7)
  (fun a d => ∃ x : Sm, d = encSm x ∧ WfB a.1 (fun k => k ∈ a.2) x.b)
-- slots of _law_sum: 0 _law_deck_here, 1 _law_cast, 2 _law_bound, 3 _law_way, 4 _law_row
abbrev N_q_sum : List Str := ["_law_deck_here", "_law_cast", "_law_bound", "_law_way", "_law_row"]
theorem sc_q_sum : FnScope ["_law_deck_here", "_law_cast", "_law_bound", "_law_way", "_law_row"] ["_law_deck_here", "_law_cast", "_law_bound"] (defScope s_q_sum) := ⟨rfl, rfl, rfl, by decide +kernel, rfl, by decide +kernel, by decide +kernel⟩
theorem ok_sum (M : Md K mg) (D : DefAt K mg "_law_sum" s_q_sum ["_law_deck_here", "_law_cast", "_law_bound"]) (C_q_draw : Cal P w K mg base 1 "_law_draw" ["_law_deck_here", "_law_most"] (spDraw K))
    (C_q_more : Cal P w K mg base 2 "_law_more" ["_law_deck_here"] (spMore K)) (C_q_spot : Cal P w K mg base 2 "_law_spot" ["_law_deck_here", "_law_cast", "_law_bound"] (spSpot K)) :
    Cal P w K mg base 3 "_law_sum" ["_law_deck_here", "_law_cast", "_law_bound"] (spSum K) := by
  refine D.okW (k := 2) sc_q_sum (fun _ _ => rfl) fun f cdv A outer s H E hr => ⟨_, (pss_cons (ps_set (i := 3) sc_q_sum.nd rfl (by first | exact Or.inl rfl | exact Or.inr rfl) (pe_cal C_q_draw hr (by omega) (by rfl) (pa_cons (pv 0) (pa_cons pe_int pa_nil))))
  (pss_cons (ps_if (pt_cmpR op_eq (pv 3) pe_int (nomark _)) (pss_one (ps_ret (pe_tup (pa_cons pe_non (pa_cons (pe_cal C_q_more hr (by omega) (by rfl) (pa_cons (pv 0) pa_nil)) pa_nil))))) pss_nil)
  (pss_cons (ps_if (PW.pt (pw_and (pt_cmpR op_eq (pv 3) pe_int (nomark _)) (pw_and1 (pt_cmpR (op_neE K hr.units) (pe_ix (ix_all K) (pv 1) pe_int (fun _ _ => rfl)) (pe_tup pa_nil) (nomark _))))) (pss_one (ps_ret (pe_tup (pa_cons (pe_ix (ix_all K) (pe_ix (ix_all K) (pv 1) pe_int (fun _ _ => rfl)) (pe_cal C_q_draw hr (by omega) (by rfl) (pa_cons (pv 0) (pa_cons (pe_callB (cb_len K) (by rfl) M.len_ bt_len (pa_cons (pe_ix (ix_all K) (pv 1) pe_int (fun _ _ => rfl)) pa_nil)) pa_nil))) (fun _ _ => rfl)) (pa_cons (pe_cal C_q_more hr (by omega) (by rfl) (pa_cons (pv 0) pa_nil)) pa_nil))))) pss_nil)
  (pss_cons (ps_set (i := 4) sc_q_sum.nd rfl (by first | exact Or.inl rfl | exact Or.inr rfl) (pe_ix (ix_all K) (pe_ix (ix_all K) (pv 1) pe_int (fun _ _ => rfl)) (pe_cal C_q_draw hr (by omega) (by rfl) (pa_cons (pv 0) (pa_cons (pe_callB (cb_len K) (by rfl) M.len_ bt_len (pa_cons (pe_ix (ix_all K) (pv 1) pe_int (fun _ _ => rfl)) pa_nil)) pa_nil))) (fun _ _ => rfl)))
  (pss_one (ps_ret (pe_tup (pa_cons (pe_tup (pa_cons (pv 4) (pa_cons (pe_cal C_q_spot hr (by omega) (by rfl) (pa_cons (pv 0) (pa_cons (pv 1) (pa_cons (pv 2) pa_nil)))) pa_nil))) (pa_cons (pe_cal C_q_more hr (by omega) (by rfl) (pa_cons (pv 0) pa_nil)) pa_nil))))))))), fun W a r hp => ?_⟩
  obtain ⟨T, bd⟩ := a
  have ok : NmOk T bd := hp
  clear hp
  have hr0 : 0 < T.rows.length := List.length_pos_iff.mpr ok.rows
  have hrn := ok.rn
  have hnn := ok.nn
  show EvS W _ (startG 5 [.v (.ref W.dk), castD T, .tup (bd.map encK)]) (r + 7) No (fun r' d => r ≤ r' ∧ ∃ x : Sm, d = encSm x ∧ WfB T (fun k => k ∈ bd) x.b)
  refine es_asg (ev_draw (r := r + 6) (ev_var rfl) ev_c (by decide) (by decide)) fun d z => ?_
  obtain ⟨way, rfl, hw⟩ := z
  have pick : ∀ {i : Int} {ys : List Str}, 0 ≤ i ∧ i < (ys.length : Int) → 0 ≤ i ∧ i < ((strsD ys).length : Int) := fun {i ys} h => by
    rw [strsD_len]
    exact h
  refine es_ifR (et_T (ev_eq (ev_var rfl) ev_c rfl)) (fun _ => es_ret (r1 := r + 2) (P := fun d => ∃ x : Sm, d = encSm x ∧ WfB T (fun k => k ∈ bd) x.b) (ev_tup2P (P1 := At (.v .non)) ev_c (ev_more (r := r + 2) (ev_var rfl)) fun a b h1 h2 => ?_) fun d e => ⟨by omega, e⟩) fun _ =>
    es_ifR (et_and (et_T (ev_eq (ev_var rfl) ev_c rfl)) fun _ => et_T (ev_neT (Ev.unf (ev_ixT (d := .ftup (strsD T.nums)) (ev_var rfl) ev_c rfl)) (ev_tup ea_nil))) (fun h => es_ret (r1 := r + 1) (P := fun d => ∃ x : Sm, d = encSm x ∧ WfB T (fun k => k ∈ bd) x.b)
      (ev_tup2P (P1 := fun d => ∃ z ∈ T.nums, d = .v (.str z)) (ev_ixTP (Ev.unf (ev_ixT (d := .ftup (strsD T.nums)) (ev_var rfl) ev_c rfl)) (ev_draw (r := r + 5) (ev_var rfl) (ev_lenT (Ev.unf (ev_ixT (d := .ftup (strsD T.nums)) (ev_var rfl) ev_c rfl))) ?_ ?_) fun i hi => ?_) (ev_more (r := r + 1) (ev_var rfl)) fun a b h1 h2 => ?_) fun d e => ⟨by omega, e⟩)
    fun _ => es_asg (P := fun d => ∃ z ∈ T.rows, d = .v (.str z)) (ev_ixTP (Ev.unf (ev_ixT (d := .ftup (strsD T.rows)) (ev_var rfl) ev_c rfl)) (ev_draw (r := r + 5) (ev_var rfl) (ev_lenT (Ev.unf (ev_ixT (d := .ftup (strsD T.rows)) (ev_var rfl) ev_c rfl))) ?_ ?_) fun i hi => ?_) fun d z => ?_
  · obtain ⟨m, rfl, _⟩ := h2
    have e : a = .v .non := h1
    subst e
    exact ⟨⟨.non, m⟩, rfl, trivial⟩
  · have h : (decide (V.int way = V.int 1) && !(strsD T.nums).isEmpty) = true := h
    have h3 := (Bool.and_eq_true _ _ ▸ h).2
    cases hx : T.nums with
    | nil =>
      rw [hx] at h3
      exact absurd h3 Bool.false_ne_true
    | cons z l =>
      rw [strsD_len, List.length_cons]
      omega
  · rw [strsD_len]
    omega
  · exact pick_str hi
  · obtain ⟨m, rfl, _⟩ := h2
    obtain ⟨z, hz, rfl⟩ := h1
    exact ⟨⟨.num z, m⟩, rfl, hz⟩
  · rw [strsD_len]
    omega
  · rw [strsD_len]
    omega
  · exact pick_str hi
  · obtain ⟨z, hz, rfl⟩ := z
    refine es_ret (r1 := r) (P := fun d => ∃ x : Sm, d = encSm x ∧ WfB T (fun k => k ∈ bd) x.b) (ev_tup2P (ev_tup2P (P1 := At (.v (.str z))) (P := fun d => ∃ k, d = .tup [.v (.str z), encK k] ∧ WfK T (fun k => k ∈ bd) k) (ev_var rfl) (ev_spotC (r := r + 4) (ev_var rfl) (ev_var rfl) (ev_var rfl) ok.pn ok.bn) fun a b h1 h2 => ?_) (ev_more (r := r) (ev_var rfl)) fun a b h1 h2 => ?_) fun d e => ⟨Nat.le_refl _, e⟩
    · obtain ⟨k, rfl, hk⟩ := h2
      have e : a = .v (.str z) := h1
      subst e
      exact ⟨k, rfl, hk⟩
    · obtain ⟨k, rfl, hk⟩ := h1
      obtain ⟨m, rfl, _⟩ := h2
      exact ⟨⟨.at z k, m⟩, rfl, hz, hk⟩
section
variable {W : Wd K} {Γ : Gm} {r : Nat} {td tc tb : TE}
theorem ev_sumC {T : Wl} {bd : List Key} (hd : Ev W td Γ (r + 7) (r + 7) (At (.v (.ref W.dk)))) (hc : Ev W tc Γ (r + 7) (r + 7) (At (castD T))) (hb : Ev W tb Γ (r + 7) (r + 7) (At (.tup (bd.map encK)))) (h : NmOk T bd) :
    Ev W (tCall (spSum K) [] E0 (tCons td (tCons tc (tCons tb tNil)))) Γ (r + 7) r (fun d => ∃ x : Sm, d = encSm x ∧ WfB T (fun k => k ∈ bd) x.b) := ev_cdW (Wf := fun W : Wd K => W) W (T, bd) (ea_cons hd (ea_cons hc (ea_cons hb ea_nil))) h
end
/-! ### atom -/
def spAtom (K : PySem.W.Frag) : Sp := SpW (fun W : Wd K => W) (fun W (a : Wl × List Key) => [.v (.ref W.dk), castD a.1, .tup (a.2.map encK)]) (fun a => NmOk a.1 a.2) (fun _ => 15)
  (fun a d => ∃ S : Say, d = enc S ∧ Wf a.1 false 1 (fun k => k ∈ a.2) S ∧ sl S ≤ 2)
def wordP (d : Dt) : Prop := (∃ c : Cw, c.isCmp = true ∧ d = .v (.str c.str)) ∨ ∃ v : Pw, v ≠ .next ∧ d = .v (.str v.str)
-- slots of _law_atom: 0 _law_deck_here, 1 _law_cast, 2 _law_bound, 3 _law_word
abbrev N_q_atom : List Str := ["_law_deck_here", "_law_cast", "_law_bound", "_law_word"]
theorem sc_q_atom : FnScope ["_law_deck_here", "_law_cast", "_law_bound", "_law_word"] ["_law_deck_here", "_law_cast", "_law_bound"] (defScope s_q_atom) := ⟨rfl, rfl, rfl, by decide +kernel, rfl, by decide +kernel, by decide +kernel⟩
theorem ok_atom (M : Md K mg) (D : DefAt K mg "_law_atom" s_q_atom ["_law_deck_here", "_law_cast", "_law_bound"]) (C_q_draw : Cal P w K mg base 1 "_law_draw" ["_law_deck_here", "_law_most"] (spDraw K))
    (C_q_sum : Cal P w K mg base 3 "_law_sum" ["_law_deck_here", "_law_cast", "_law_bound"] (spSum K)) (C_q_spot : Cal P w K mg base 2 "_law_spot" ["_law_deck_here", "_law_cast", "_law_bound"] (spSpot K)) :
    Cal P w K mg base 4 "_law_atom" ["_law_deck_here", "_law_cast", "_law_bound"] (spAtom K) := by
  refine D.okW (k := 3) sc_q_atom (fun _ _ => rfl) fun f cdv A outer s H E hr => ⟨_, (pss_cons (ps_set (i := 3) sc_q_atom.nd rfl (by first | exact Or.inl rfl | exact Or.inr rfl) (pe_ix (ix_all K) (pe_lst (pa_cons pe_str (pa_cons pe_str (pa_cons pe_str (pa_cons pe_str (pa_cons pe_str (pa_cons pe_str (pa_cons pe_str (pa_cons pe_str pa_nil))))))))) (pe_cal C_q_draw hr (by omega) (by rfl) (pa_cons (pv 0) (pa_cons pe_int pa_nil))) (fun _ _ => rfl)))
  (pss_cons (ps_if (pt_cmpR (op_inS K) (pv 3) (pe_tup (pa_cons pe_str (pa_cons pe_str pa_nil))) (by rfl)) (pss_one (ps_ret (pe_tup (pa_cons (pv 3) (pa_cons (pe_cal C_q_spot hr (by omega) (by rfl) (pa_cons (pv 0) (pa_cons (pv 1) (pa_cons (pv 2) pa_nil)))) (pa_cons (pe_cal C_q_spot hr (by omega) (by rfl) (pa_cons (pv 0) (pa_cons (pv 1) (pa_cons (pv 2) pa_nil)))) pa_nil)))))) pss_nil)
  (pss_one (ps_ret (pe_tup (pa_cons (pv 3) (pa_cons (pe_cal C_q_sum hr (by omega) (by rfl) (pa_cons (pv 0) (pa_cons (pv 1) (pa_cons (pv 2) pa_nil)))) (pa_cons (pe_cal C_q_sum hr (by omega) (by rfl) (pa_cons (pv 0) (pa_cons (pv 1) (pa_cons (pv 2) pa_nil)))) pa_nil)))))))), fun W a r hp => ?_⟩
  obtain ⟨T, bd⟩ := a
  have ok : NmOk T bd := hp
  clear hp
  show EvS W _ (startG 4 [.v (.ref W.dk), castD T, .tup (bd.map encK)]) (r + 15) No (fun r' d => r ≤ r' ∧ ∃ S : Say, d = enc S ∧ Wf T false 1 (fun k => k ∈ bd) S ∧ sl S ≤ 2)
  refine es_asg (P := wordP) (ev_ixLP (ds := [.v (.str "most"), .v (.str "less"), .v (.str "same"), .v (.str "unlike"), .v (.str "most"), .v (.str "less"), .v (.str "ahead"), .v (.str "here")]) (p := fun v => 0 ≤ v ∧ v < 8) (ev_lst (ea_cons ev_c (ea_cons ev_c (ea_cons ev_c (ea_cons ev_c (ea_cons ev_c (ea_cons ev_c (ea_cons ev_c (ea_cons ev_c ea_nil)))))))))
    (ev_draw (r := r + 14) (ev_var rfl) ev_c (by decide) (by decide)) fun i hi => ?_) fun d z => ?_
  · have h2 : i = 0 ∨ i = 1 ∨ i = 2 ∨ i = 3 ∨ i = 4 ∨ i = 5 ∨ i = 6 ∨ i = 7 := by omega
    rcases h2 with rfl | rfl | rfl | rfl | rfl | rfl | rfl | rfl
    · exact ⟨_, rfl, .inl ⟨.most, rfl, rfl⟩⟩
    · exact ⟨_, rfl, .inl ⟨.less, rfl, rfl⟩⟩
    · exact ⟨_, rfl, .inl ⟨.same, rfl, rfl⟩⟩
    · exact ⟨_, rfl, .inl ⟨.unlike, rfl, rfl⟩⟩
    · exact ⟨_, rfl, .inl ⟨.most, rfl, rfl⟩⟩
    · exact ⟨_, rfl, .inl ⟨.less, rfl, rfl⟩⟩
    · exact ⟨_, rfl, .inr ⟨.ahead, Pw.noConfusion, rfl⟩⟩
    · exact ⟨_, rfl, .inr ⟨.here, Pw.noConfusion, rfl⟩⟩
  · rcases z with ⟨c, hc, rfl⟩ | ⟨v, hv, rfl⟩
    · refine es_ifF (et_in ["ahead", "here"] (ev_var rfl) ev_s2) (by cases c <;> decide +kernel) (es_ret (r1 := r) (P := fun d => ∃ S : Say, d = enc S ∧ Wf T false 1 (fun k => k ∈ bd) S ∧ sl S ≤ 2)
        (ev_tup3P (P1 := At (.v (.str c.str))) (ev_var rfl) (ev_sumC (r := r + 7) (ev_var rfl) (ev_var rfl) (ev_var rfl) ok) (ev_sumC (r := r) (ev_var rfl) (ev_var rfl) (ev_var rfl) ok) fun a b e h1 h2 h3 => ?_) fun d e => ⟨Nat.le_refl _, e⟩)
      have ea : a = .v (.str c.str) := h1
      subst ea
      obtain ⟨x, rfl, hx⟩ := h2
      obtain ⟨y, rfl, hy⟩ := h3
      refine ⟨.cmp c x y, rfl, ?_, ?_⟩
      · simp only [Wf]
        exact ⟨hc, hx, hy⟩
      · rw [sl]
        exact Nat.le_refl _
    · refine es_ifT (et_in ["ahead", "here"] (ev_var rfl) ev_s2) (by cases v <;> first | decide +kernel | exact absurd rfl hv) (es_ret (r1 := r) (P := fun d => ∃ S : Say, d = enc S ∧ Wf T false 1 (fun k => k ∈ bd) S ∧ sl S ≤ 2)
        (Ev.less (r1 := r + 2) (r2 := r) (ev_tup3P (P1 := At (.v (.str v.str))) (ev_var rfl) (ev_spotC (r := r + 1) (ev_var rfl) (ev_var rfl) (ev_var rfl) ok.pn ok.bn) (ev_spotC (r := r) (ev_var rfl) (ev_var rfl) (ev_var rfl) ok.pn ok.bn) fun a b e h1 h2 h3 => ?_) (by omega) (Nat.le_refl _)) fun d e => ⟨Nat.le_refl _, e⟩)
      have ea : a = .v (.str v.str) := h1
      subst ea
      obtain ⟨x, rfl, hx⟩ := h2
      obtain ⟨y, rfl, hy⟩ := h3
      refine ⟨.pl v x y, rfl, ?_, ?_⟩
      · simp only [Wf]
        exact ⟨hx, hy⟩
      · rw [sl]
        exact Nat.le_refl _
/-! ### joined -/
def JoinOf (l : List Say) (S : Say) : Prop := S = .or l ∨ S = .and l ∨ ∃ a b q, l = a :: b :: q ∧ S = .imp a b
def spJoined (K : PySem.W.Frag) : Sp := SpW (fun W : Wd K => W) (fun W (l : List Say) => [.v (.ref W.dk), .lst (l.map enc)]) (fun l => l.length ≤ 20) (fun _ => 1) (fun l d => ∃ S, d = enc S ∧ JoinOf l S)
-- slots of _law_joined: 0 _law_deck_here, 1 _law_parts, 2 _law_way
abbrev N_q_joined : List Str := ["_law_deck_here", "_law_parts", "_law_way"]
theorem sc_q_joined : FnScope ["_law_deck_here", "_law_parts", "_law_way"] ["_law_deck_here", "_law_parts"] (defScope s_q_joined) := ⟨rfl, rfl, rfl, by decide +kernel, rfl, by decide +kernel, by decide +kernel⟩
theorem ok_joined (M : Md K mg) (D : DefAt K mg "_law_joined" s_q_joined ["_law_deck_here", "_law_parts"]) (C_q_draw : Cal P w K mg base 1 "_law_draw" ["_law_deck_here", "_law_most"] (spDraw K)) :
    Cal P w K mg base 2 "_law_joined" ["_law_deck_here", "_law_parts"] (spJoined K) := by
  refine D.okW (k := 1) sc_q_joined (fun _ _ => rfl) fun f cdv A outer s H E hr => ⟨_, (pss_cons (ps_set (i := 2) sc_q_joined.nd rfl (by first | exact Or.inl rfl | exact Or.inr rfl) (pe_cal C_q_draw hr (by omega) (by rfl) (pa_cons (pv 0) (pa_cons pe_int pa_nil))))
  (pss_cons (ps_if (PW.pt (pw_and (pt_cmpR op_eq (pv 2) pe_int (nomark _)) (pw_and1 (pt_cmpR op_gt (pe_callB (cb_len K) (by rfl) M.len_ bt_len (pa_cons (pv 1) pa_nil)) pe_int (nomark _))))) (pss_one (ps_ret (pe_tup (pa_cons pe_str (pa_cons (pe_ix (ix_all K) (pv 1) pe_int (fun _ _ => rfl)) (pa_cons (pe_ix (ix_all K) (pv 1) pe_int (fun _ _ => rfl)) pa_nil)))))) pss_nil)
  (pss_one (ps_ret (pe_tup (pa_cons (pe_ix (ix_all K) (pe_lst (pa_cons pe_str (pa_cons pe_str pa_nil))) (pe_callTy cb_int (by rfl) M.int_ bt_int (pa_cons (pe_cmpR op_eq (pv 2) pe_int (nomark _)) pa_nil)) (fun _ _ => rfl)) (pa_cons (pe_callTy (cb_tuple K) (by rfl) M.tuple_ bt_tuple (pa_cons (pv 1) pa_nil)) pa_nil))))))), fun W l r hp => ?_⟩
  have hl : l.length ≤ 20 := hp
  clear hp
  show EvS W _ (startG 3 [.v (.ref W.dk), .lst (l.map enc)]) (r + 1) No (fun r' d => r ≤ r' ∧ ∃ S, d = enc S ∧ JoinOf l S)
  refine es_asg (ev_draw (r := r) (ev_var rfl) ev_c (by decide) (by decide)) fun d z => ?_
  obtain ⟨way, rfl, hw⟩ := z
  refine es_ifR (et_and (et_T (ev_eq (ev_var rfl) ev_c rfl)) fun _ => et_T (ev_int (ev_lenL (ev_var rfl)) ev_c)) (fun h => ?_) fun _ => ?_
  · have h : (decide (V.int way = V.int 1) && decide ((1 : Int) < ((l.map enc).length : Int))) = true := h
    have h3 := of_decide_eq_true (Bool.and_eq_true _ _ ▸ h).2
    match l, h3 with
    | [], h3 => exact absurd h3 (by decide)
    | [_], h3 => exact absurd h3 (show ¬ (1 : Int) < ((1 : Nat) : Int) by decide)
    | a :: b :: q, _ => exact es_ret (P := At (enc (.imp a b))) (ev_tup (ea_cons ev_c (ea_cons (ev_ixL (d := enc a) (ev_var rfl) ev_c (show atI _ ((0 : Nat) : Int) = _ from atI_nat rfl)) (ea_cons (ev_ixL (d := enc b) (ev_var rfl) ev_c (show atI _ ((1 : Nat) : Int) = _ from atI_nat rfl)) ea_nil)))) fun d e => ⟨Nat.le_refl _, .imp a b, e, .inr (.inr ⟨a, b, q, rfl, rfl⟩)⟩
  · by_cases h0 : way = 0
    · subst h0
      refine es_ret (P := At (enc (.and l))) (Ev.is (ev_tup (ea_cons (ev_ixL (d := .v (.str "and")) (ev_lst (ea_cons ev_c (ea_cons ev_c ea_nil))) (ev_intB (ev_eq (ev_var rfl) ev_c rfl)) (by rw [show decide (V.int 0 = V.int 0) = true by decide +kernel]; rfl)) (ea_cons (ev_tupleOf (ev_var rfl)) ea_nil))) ?_) fun d e => ⟨Nat.le_refl _, .and l, e, .inr (.inl rfl)⟩
      show _ = Dt.tup [.v (.str "and"), .tup (encL l)]
      rw [encL_map]
    · have e0 : decide (V.int way = V.int 0) = false := decide_eq_false fun z => h0 (V.int.inj z)
      refine es_ret (P := At (enc (.or l))) (Ev.is (ev_tup (ea_cons (ev_ixL (d := .v (.str "or")) (ev_lst (ea_cons ev_c (ea_cons ev_c ea_nil))) (ev_intB (ev_eq (ev_var rfl) ev_c rfl)) (by rw [e0]; rfl)) (ea_cons (ev_tupleOf (ev_var rfl)) ea_nil))) ?_) fun d e => ⟨Nat.le_refl _, .or l, e, .inl rfl⟩
      show _ = Dt.tup [.v (.str "or"), .tup (encL l)]
      rw [encL_map]
end EP

/-! ## KF14 -/
namespace EP
open PySem PySem.Spec PyProof.Rows L2
variable {P : Program} {w : World} {K : PySem.W.Frag} {mg : Str → Option Value} {base : Heap}
theorem enc_list {Q : Say → Prop} : ∀ {es : List Dt}, (∀ e ∈ es, ∃ S, e = enc S ∧ Q S) → ∃ l : List Say, l.length = es.length ∧ (∀ s ∈ l, Q s) ∧ es = l.map enc
  | [], _ => ⟨[], rfl, (fun _ z => nomatch z), rfl⟩
  | e :: es, h => by
    obtain ⟨l, h1, h2, h3⟩ := enc_list fun e he => h e (List.mem_cons_of_mem _ he)
    obtain ⟨S, rfl, hS⟩ := h e List.mem_cons_self
    refine ⟨S :: l, by rw [List.length_cons, List.length_cons, h1], fun s hs => ?_, by rw [List.map_cons, ← h3]⟩
    rcases List.mem_cons.mp hs with rfl | hs
    · exact hS
    · exact h2 s hs
theorem slL_le {m : Nat} : ∀ {l : List Say}, (∀ s ∈ l, sl s ≤ m) → slL l ≤ l.length * m
  | [], _ => Nat.zero_le _
  | s :: l, h => by
    have h1 := h s List.mem_cons_self
    have h2 := slL_le fun s hs => h s (List.mem_cons_of_mem _ hs)
    rw [slL, List.length_cons, Nat.succ_mul]
    omega
theorem JoinOf.ok {T : Wl} {q : Bool} {n m : Nat} {D : Key → Prop} {l : List Say} {S : Say} (h : JoinOf l S) (hl : l.length ≤ 100) (hw : ∀ s ∈ l, Wf T q n D s ∧ sl s ≤ m) : Wf T q (n + 1) D S ∧ sl S ≤ l.length * m := by
  have hs : slL l ≤ l.length * m := slL_le fun s hs => (hw s hs).2
  rcases h with rfl | rfl | ⟨a, b, r, rfl, rfl⟩
  · simp only [Wf]
    rw [sl]
    exact ⟨⟨hl, fun s hs => (hw s hs).1⟩, hs⟩
  · simp only [Wf]
    rw [sl]
    exact ⟨⟨hl, fun s hs => (hw s hs).1⟩, hs⟩
  · simp only [Wf]
    rw [sl]
    rw [slL, slL] at hs
    exact ⟨⟨(hw a List.mem_cons_self).1, (hw b (List.mem_cons_of_mem _ List.mem_cons_self)).1⟩, by omega⟩
section
variable {W : Wd K} {Γ : Gm} {r r1 r2 r3 r4 : Nat} {td tc tb ta te t1 t2 t3 t4 : TE} {P P1 P2 P3 P4 : Dt → Prop}
theorem ev_tup4P (h1 : Ev W t1 Γ r r1 P1) (h2 : Ev W t2 Γ r1 r2 P2) (h3 : Ev W t3 Γ r2 r3 P3) (h4 : Ev W t4 Γ r3 r4 P4) (k : ∀ a b c e, P1 a → P2 b → P3 c → P4 e → P (.tup [a, b, c, e])) : Ev W (tTup (tCons t1 (tCons t2 (tCons t3 (tCons t4 tNil))))) Γ r r4 P :=
  ev_tupP (ea_consP h1 (ea_consP h2 (ea_consP h3 (ea_consP h4 ea_nil)))) (fun ds z => by
    obtain ⟨a, _, rfl, _, b, _, rfl, _, c, _, rfl, _, e, _, rfl, _, rfl⟩ := z
    rw [sizeLine_eq]
    exact ll rfl) fun ds z => by
    obtain ⟨a, _, rfl, h1, b, _, rfl, h2, c, _, rfl, h3, e, _, rfl, h4, rfl⟩ := z
    exact k a b c e h1 h2 h3 h4
theorem ev_atomC {T : Wl} {bd : List Key} (hd : Ev W td Γ (r + 15) (r + 15) (At (.v (.ref W.dk)))) (hc : Ev W tc Γ (r + 15) (r + 15) (At (castD T))) (hb : Ev W tb Γ (r + 15) (r + 15) (At (.tup (bd.map encK)))) (h : NmOk T bd) :
    Ev W (tCall (spAtom K) [] E0 (tCons td (tCons tc (tCons tb tNil)))) Γ (r + 15) r (fun d => ∃ S : Say, d = enc S ∧ Wf T false 1 (fun k => k ∈ bd) S ∧ sl S ≤ 2) := ev_cdW (Wf := fun W : Wd K => W) W (T, bd) (ea_cons hd (ea_cons hc (ea_cons hb ea_nil))) h
theorem ev_joinedP {PL : List Say → Prop} (hd : Ev W td Γ (r + 1) (r + 1) (At (.v (.ref W.dk)))) (hl : ∀ l, PL l → l.length ≤ 20) (h : Ev W te Γ r2 (r + 1) (fun d => ∃ l : List Say, PL l ∧ d = .lst (l.map enc))) (hd2 : Ev W td Γ r2 r2 (At (.v (.ref W.dk)))) :
    Ev W (tCall (spJoined K) [] E0 (tCons td (tCons te tNil))) Γ r2 r (fun d => ∃ l S, PL l ∧ d = enc S ∧ JoinOf l S) :=
  ev_callP (Wf := fun W : Wd K => W) W 1 (ea_consP hd2 (ea_consP h ea_nil)) fun ds z => by
    obtain ⟨a, _, rfl, h1, b, _, rfl, ⟨l, h2, rfl⟩, rfl⟩ := z
    have e : a = .v (.ref W.dk) := h1
    subst e
    refine ⟨l, rfl, hl l h2, Nat.le_refl _, fun d z => ?_⟩
    obtain ⟨S, h3, h4⟩ := z
    exact ⟨l, S, h2, h3, h4⟩
end
/-! ### body -/
def spBody (K : PySem.W.Frag) (e c lv m : Nat) : Sp := SpW (fun W : Wd K => W) (fun W (a : Wl × List Key) => [.v (.ref W.dk), castD a.1, .tup (a.2.map encK), .v (.int (e : Int))]) (fun a => NmOk a.1 a.2) (fun _ => c)
  (fun a d => ∃ S : Say, d = enc S ∧ Wf a.1 false lv (fun k => k ∈ a.2) S ∧ sl S ≤ m)
section
variable {W : Wd K} {Γ : Gm} {r e c lv m : Nat} {td tc tb te : TE}
theorem ev_bodyC {T : Wl} {bd : List Key} (hd : Ev W td Γ (r + c) (r + c) (At (.v (.ref W.dk)))) (hc : Ev W tc Γ (r + c) (r + c) (At (castD T))) (hb : Ev W tb Γ (r + c) (r + c) (At (.tup (bd.map encK)))) (he : Ev W te Γ (r + c) (r + c) (At (.v (.int (e : Int))))) (h : NmOk T bd) :
    Ev W (tCall (spBody K e c lv m) [] E0 (tCons td (tCons tc (tCons tb (tCons te tNil))))) Γ (r + c) r (fun d => ∃ S : Say, d = enc S ∧ Wf T false lv (fun k => k ∈ bd) S ∧ sl S ≤ m) := ev_cdW (Wf := fun W : Wd K => W) W (T, bd) (ea_cons hd (ea_cons hc (ea_cons hb (ea_cons he ea_nil)))) h
end
-- slots of _law_body: 0 _law_deck_here, 1 _law_cast, 2 _law_bound, 3 _law_deep, 4 _law_way, 5 _law_many, 6 _law_k
abbrev N_q_body : List Str := ["_law_deck_here", "_law_cast", "_law_bound", "_law_deep", "_law_way", "_law_many", "_law_k"]
theorem sc_q_body : FnScope ["_law_deck_here", "_law_cast", "_law_bound", "_law_deep", "_law_way", "_law_many", "_law_k"] ["_law_deck_here", "_law_cast", "_law_bound", "_law_deep"] (defScope s_q_body) := ⟨rfl, rfl, rfl, by decide +kernel, rfl, by decide +kernel, by decide +kernel⟩
abbrev psB : List Str := ["_law_deck_here", "_law_cast", "_law_bound", "_law_deep"]
theorem ok_body0 (M : Md K mg) (D : DefAt K mg "_law_body" s_q_body psB) (C_q_draw : Cal P w K mg base 1 "_law_draw" ["_law_deck_here", "_law_most"] (spDraw K))
    (C_q_atom : Cal P w K mg base 4 "_law_atom" ["_law_deck_here", "_law_cast", "_law_bound"] (spAtom K)) (C_q_joined : Cal P w K mg base 2 "_law_joined" ["_law_deck_here", "_law_parts"] (spJoined K)) :
    Cal P w K mg base 5 "_law_body" psB (spBody K 0 16 1 2) := by
  have C_q_body : Cal P w K mg base (0 + 1) "_law_body" psB (SpP K (fun _ : Unit => [.v .non, .v .non, .v .non, .v .non]) (fun _ => False) (fun _ => .v .non)) := D.none sc_q_body (fun _ => rfl) fun _ h => h
  refine D.okW (k := 4) sc_q_body (fun _ _ => rfl) fun f cdv A outer s H E hr => ⟨_, (pss_cons (ps_set (i := 4) sc_q_body.nd rfl (by first | exact Or.inl rfl | exact Or.inr rfl) (pe_cal C_q_draw hr (by omega) (by rfl) (pa_cons (pv 0) (pa_cons pe_int pa_nil))))
  (pss_cons (ps_if (PW.pt (pw_or (pt_cmpR op_eq (pv 3) pe_int (nomark _)) (pw_or1 (pt_cmpR op_lt (pv 4) pe_int (nomark _))))) (pss_one (ps_ret (pe_cal C_q_atom hr (by omega) (by rfl) (pa_cons (pv 0) (pa_cons (pv 1) (pa_cons (pv 2) pa_nil)))))) pss_nil)
  (pss_cons (ps_if (pt_cmpR op_eq (pv 4) pe_int (nomark _)) (pss_one (ps_ret (pe_tup (pa_cons pe_str (pa_cons (pe_cal C_q_body hr (by omega) (by rfl) (pa_cons (pv 0) (pa_cons (pv 1) (pa_cons (pv 2) (pa_cons (pe_op op_sub (pv 3) pe_int) pa_nil))))) pa_nil))))) pss_nil)
  (pss_cons (ps_set (i := 5) sc_q_body.nd rfl (by first | exact Or.inl rfl | exact Or.inr rfl) (pe_ix (ix_all K) (pe_lst (pa_cons pe_int (pa_cons pe_int (pa_cons pe_int (pa_cons pe_int (pa_cons pe_int (pa_cons pe_int pa_nil))))))) (pe_cal C_q_draw hr (by omega) (by rfl) (pa_cons (pv 0) (pa_cons pe_int pa_nil))) (fun _ _ => rfl)))
  (pss_one (ps_ret (pe_cal C_q_joined hr (by omega) (by rfl) (pa_cons (pv 0) (pa_cons (pe_lc (own := [("_law_k", 6)]) rfl sc_q_body.nd (pi_range1 (by rfl) M.range_ (pa_cons (pv 5) pa_nil)) (blkOk_by (N := N_q_body) (sc := defScope s_q_body) (by decide +kernel)) (fun _ _ _ _ _ => (pg_name (i := 6) sc_q_body.nd rfl (by first | exact Or.inl rfl | exact Or.inr rfl))) (fun _ _ _ _ _ => pts_nil) (fun _ _ _ _ _ => (pe_cal C_q_body hr (by omega) (by rfl) (pa_cons (pv 0) (pa_cons (pv 1) (pa_cons (pv 2) (pa_cons (pe_op op_fdiv (pv 3) pe_int) pa_nil))))))) pa_nil))))))))), fun W a r hp => ?_⟩
  obtain ⟨T, bd⟩ := a
  have ok : NmOk T bd := hp
  clear hp
  show EvS W _ (startG 7 [.v (.ref W.dk), castD T, .tup (bd.map encK), .v (.int 0)]) (r + 16) No (fun r' d => r ≤ r' ∧ ∃ S : Say, d = enc S ∧ Wf T false 1 (fun k => k ∈ bd) S ∧ sl S ≤ 2)
  exact es_asg (ev_draw (r := r + 15) (ev_var rfl) ev_c (by decide) (by decide)) fun d z => by
    obtain ⟨way, rfl, hw⟩ := z
    exact es_ifT (et_or (b := true) (et_T (ev_eq (ev_var rfl) ev_c rfl)) fun h => absurd h (show ¬ decide (V.int 0 = V.int 0) = false by decide +kernel)) (by rw [show decide (V.int 0 = V.int 0) = true by decide +kernel]; rfl)
      (es_ret (r1 := r) (ev_atomC (r := r) (ev_var rfl) (ev_var rfl) (ev_var rfl) ok) fun d e => ⟨Nat.le_refl _, e⟩)
theorem ok_body1 (M : Md K mg) (D : DefAt K mg "_law_body" s_q_body psB) (C_q_draw : Cal P w K mg base 1 "_law_draw" ["_law_deck_here", "_law_most"] (spDraw K))
    (C_q_atom : Cal P w K mg base 4 "_law_atom" ["_law_deck_here", "_law_cast", "_law_bound"] (spAtom K)) (C_q_joined : Cal P w K mg base 2 "_law_joined" ["_law_deck_here", "_law_parts"] (spJoined K))
    (C_q_body : Cal P w K mg base 5 "_law_body" psB (spBody K 0 16 1 2)) : Cal P w K mg base 6 "_law_body" psB (spBody K 1 99 2 12) := by
  refine D.okW (k := 5) sc_q_body (fun _ _ => rfl) fun f cdv A outer s H E hr => ⟨_, (pss_cons (ps_set (i := 4) sc_q_body.nd rfl (by first | exact Or.inl rfl | exact Or.inr rfl) (pe_cal C_q_draw hr (by omega) (by rfl) (pa_cons (pv 0) (pa_cons pe_int pa_nil))))
  (pss_cons (ps_if (PW.pt (pw_or (pt_cmpR op_eq (pv 3) pe_int (nomark _)) (pw_or1 (pt_cmpR op_lt (pv 4) pe_int (nomark _))))) (pss_one (ps_ret (pe_cal C_q_atom hr (by omega) (by rfl) (pa_cons (pv 0) (pa_cons (pv 1) (pa_cons (pv 2) pa_nil)))))) pss_nil)
  (pss_cons (ps_if (pt_cmpR op_eq (pv 4) pe_int (nomark _)) (pss_one (ps_ret (pe_tup (pa_cons pe_str (pa_cons (pe_cal C_q_body hr (by omega) (by rfl) (pa_cons (pv 0) (pa_cons (pv 1) (pa_cons (pv 2) (pa_cons (pe_op op_sub (pv 3) pe_int) pa_nil))))) pa_nil))))) pss_nil)
  (pss_cons (ps_set (i := 5) sc_q_body.nd rfl (by first | exact Or.inl rfl | exact Or.inr rfl) (pe_ix (ix_all K) (pe_lst (pa_cons pe_int (pa_cons pe_int (pa_cons pe_int (pa_cons pe_int (pa_cons pe_int (pa_cons pe_int pa_nil))))))) (pe_cal C_q_draw hr (by omega) (by rfl) (pa_cons (pv 0) (pa_cons pe_int pa_nil))) (fun _ _ => rfl)))
  (pss_one (ps_ret (pe_cal C_q_joined hr (by omega) (by rfl) (pa_cons (pv 0) (pa_cons (pe_lc (own := [("_law_k", 6)]) rfl sc_q_body.nd (pi_range1 (by rfl) M.range_ (pa_cons (pv 5) pa_nil)) (blkOk_by (N := N_q_body) (sc := defScope s_q_body) (by decide +kernel)) (fun _ _ _ _ _ => (pg_name (i := 6) sc_q_body.nd rfl (by first | exact Or.inl rfl | exact Or.inr rfl))) (fun _ _ _ _ _ => pts_nil) (fun _ _ _ _ _ => (pe_cal C_q_body hr (by omega) (by rfl) (pa_cons (pv 0) (pa_cons (pv 1) (pa_cons (pv 2) (pa_cons (pe_op op_fdiv (pv 3) pe_int) pa_nil))))))) pa_nil))))))))), fun W a r hp => ?_⟩
  obtain ⟨T, bd⟩ := a
  have ok : NmOk T bd := hp
  clear hp
  show EvS W _ (startG 7 [.v (.ref W.dk), castD T, .tup (bd.map encK), .v (.int 1)]) (r + 99) No (fun r' d => r ≤ r' ∧ ∃ S : Say, d = enc S ∧ Wf T false 2 (fun k => k ∈ bd) S ∧ sl S ≤ 12)
  refine es_asg (ev_draw (r := r + 98) (ev_var rfl) ev_c (by decide) (by decide)) fun d z => ?_
  obtain ⟨way, rfl, hw⟩ := z
  refine es_ifR (et_or (et_T (ev_eq (ev_var rfl) ev_c rfl)) fun _ => et_T (ev_int (ev_var rfl) ev_c)) (fun _ => es_ret (r1 := r + 83) (ev_atomC (r := r + 83) (ev_var rfl) (ev_var rfl) (ev_var rfl) ok) fun d z => ?_) fun _ =>
    es_ifR (et_T (ev_eq (ev_var rfl) ev_c rfl)) (fun _ => es_ret (r1 := r + 82) (P := fun d => ∃ S : Say, d = enc S ∧ Wf T false 2 (fun k => k ∈ bd) S ∧ sl S ≤ 12) (ev_tup2P (P1 := At (.v (.str "not"))) ev_c (ev_bodyC (r := r + 82) (e := 0) (ev_var rfl) (ev_var rfl) (ev_var rfl) (Ev.is (ev_int (ev_var rfl) ev_c) rfl) ok) fun a b h1 h2 => ?_) fun d z => ⟨by omega, z⟩) fun _ =>
    es_asg (P := fun d => ∃ m : Nat, m ≤ 6 ∧ d = .v (.int (m : Int))) (ev_ixLP (ds := [.v (.int 2), .v (.int 0), .v (.int 2), .v (.int 3), .v (.int 1), .v (.int 6)]) (p := fun v => 0 ≤ v ∧ v < 6) (ev_lst (ea_cons ev_c (ea_cons ev_c (ea_cons ev_c (ea_cons ev_c (ea_cons ev_c (ea_cons ev_c ea_nil)))))))
      (ev_draw (r := r + 97) (ev_var rfl) ev_c (by decide) (by decide)) fun i hi => ?_) fun d z => ?_
  · obtain ⟨S, rfl, h1, h2⟩ := z
    exact ⟨by omega, S, rfl, h1.mono (by omega) (fun z => z) fun k h => h, by omega⟩
  · have e : a = .v (.str "not") := h1
    subst e
    obtain ⟨S, rfl, h1, h2⟩ := h2
    refine ⟨.not S, rfl, ?_, ?_⟩
    · simp only [Wf]
      exact h1
    · rw [sl]
      omega
  · have h2 : i = 0 ∨ i = 1 ∨ i = 2 ∨ i = 3 ∨ i = 4 ∨ i = 5 := by omega
    rcases h2 with rfl | rfl | rfl | rfl | rfl | rfl
    · exact ⟨_, rfl, 2, by omega, rfl⟩
    · exact ⟨_, rfl, 0, by omega, rfl⟩
    · exact ⟨_, rfl, 2, by omega, rfl⟩
    · exact ⟨_, rfl, 3, by omega, rfl⟩
    · exact ⟨_, rfl, 1, by omega, rfl⟩
    · exact ⟨_, rfl, 6, by omega, rfl⟩
  · obtain ⟨m, hm, rfl⟩ := z
    refine es_ret (r1 := r) (ev_joinedP (PL := fun l => l.length ≤ 6 ∧ ∀ s ∈ l, Wf T false 1 (fun k => k ∈ bd) s ∧ sl s ≤ 2) (ev_var rfl) (fun l h => by omega)
      (el_draw (PL := fun ds => ds = nums 0 m) (P1 := fun d => ∃ S : Say, d = enc S ∧ Wf T false 1 (fun k => k ∈ bd) S ∧ sl S ≤ 2) 16 96 (ei_rng1 (p := fun v => v = (m : Int)) (r1 := r + 97) ((ev_var rfl).imp fun d e => ⟨_, e, rfl⟩) fun n hn => ⟨by omega, by omega, by rw [hn]; rfl⟩) (fun ds e => ?_) (fun W' d r' hdk => ⟨_, eg_name (by decide), ?_⟩) fun ds es e h1 h2 => ?_) (ev_var rfl)) fun d z => ?_
    · rw [e, nums_len]
      omega
    · exact ev_bodyC (r := r') (e := 0) (ev_var (by rw [hdk]; rfl)) (ev_var rfl) (ev_var rfl) (Ev.is (ev_intC (ev_var rfl) ev_c ⟨by decide, by decide⟩) rfl) ok
    · obtain ⟨l, h3, h4, h5⟩ := enc_list h2
      rw [e, nums_len] at h1
      exact ⟨l, ⟨by omega, h4⟩, by rw [h5]⟩
    · obtain ⟨l, S, ⟨h1, h2⟩, rfl, h3⟩ := z
      obtain ⟨h4, h5⟩ := h3.ok (by omega) h2
      exact ⟨Nat.le_refl _, S, rfl, h4, by omega⟩
end EP

/-! ## KF15 -/
namespace EP
open PySem PySem.Spec PyProof.Rows L2
variable {P : Program} {w : World} {K : PySem.W.Frag} {mg : Str → Option Value} {base : Heap}
/-- four names of one's own -/
def SpOk (sp : List Str) : Prop := sp.length = 4 ∧ sp.Nodup ∧ ∀ z ∈ sp, z ≠ "end"
theorem two_of {sp : List Str} (h : SpOk sp) {t : Int} (h0 : 0 ≤ t) (h1 : t < 4) : ∃ x y : Str, x ≠ y ∧ x ≠ "end" ∧ y ≠ "end" ∧ cutD (cutD (strsD sp) (some t) none ++ cutD (strsD sp) none (some t)) none (some 2) = strsD [x, y] := by
  obtain ⟨hl, hn, he⟩ := h
  match sp, hl, hn, he with
  | [a, b, c, d], _, hn, he =>
    have ha := he a List.mem_cons_self
    have hb := he b (List.mem_cons_of_mem _ List.mem_cons_self)
    have hc := he c (List.mem_cons_of_mem _ (List.mem_cons_of_mem _ List.mem_cons_self))
    have hd := he d (List.mem_cons_of_mem _ (List.mem_cons_of_mem _ (List.mem_cons_of_mem _ List.mem_cons_self)))
    have n1 := List.pairwise_cons.mp hn
    have n2 := List.pairwise_cons.mp n1.2
    have n3 := List.pairwise_cons.mp n2.2
    have ab := n1.1 b List.mem_cons_self
    have bc := n2.1 c List.mem_cons_self
    have cd := n3.1 d List.mem_cons_self
    have ad := n1.1 d (List.mem_cons_of_mem _ (List.mem_cons_of_mem _ List.mem_cons_self))
    have h2 : t = 0 ∨ t = 1 ∨ t = 2 ∨ t = 3 := by omega
    rcases h2 with rfl | rfl | rfl | rfl
    · exact ⟨a, b, ab, ha, hb, rfl⟩
    · exact ⟨b, c, bc, hb, hc, rfl⟩
    · exact ⟨c, d, cd, hc, hd, rfl⟩
    · exact ⟨d, a, Ne.symm ad, hd, ha, rfl⟩
def wldD (T : Wl) (sp : List Str) : Dt := .tup [castD T, .tup (strsD sp)]
/-! ### leaf -/
def LfOk (T : Wl) (bd : List Key) (sp : List Str) : Prop := NmOk T bd ∧ bd.length ≤ 10 ∧ SpOk sp
def spLeaf (K : PySem.W.Frag) : Sp := SpW (fun W : Wd K => W) (fun W (a : Wl × List Key × List Str) => [.v (.ref W.dk), wldD a.1 a.2.2, .tup (a.2.1.map encK), .v (.int 1)]) (fun a => LfOk a.1 a.2.1 a.2.2) (fun _ => 101)
  (fun a d => ∃ S : Say, d = enc S ∧ Wf a.1 true 3 (fun k => k ∈ a.2.1) S ∧ sl S ≤ 12)
theorem NmOk.add {T : Wl} {bd : List Key} (h : NmOk T bd) (hb : bd.length ≤ 10) (k : Key) : NmOk T (k :: bd) := ⟨h.rows, h.rn, h.pn, h.nn, by rw [List.length_cons]; omega⟩
theorem NmOk.add2 {T : Wl} {bd : List Key} (h : NmOk T bd) (hb : bd.length ≤ 10) (k j : Key) : NmOk T (k :: j :: bd) := ⟨h.rows, h.rn, h.pn, h.nn, by rw [List.length_cons, List.length_cons]; omega⟩
-- slots of _law_leaf: 0 _law_deck_here, 1 _law_world_here, 2 _law_bound, 3 _law_deep, 4 _law_cast, 5 _law_spare, 6 _law_way, 7 _law_turn, 8 _law_names_here, 9 _law_word
abbrev N_q_leaf : List Str := ["_law_deck_here", "_law_world_here", "_law_bound", "_law_deep", "_law_cast", "_law_spare", "_law_way", "_law_turn", "_law_names_here", "_law_word"]
theorem sc_q_leaf : FnScope ["_law_deck_here", "_law_world_here", "_law_bound", "_law_deep", "_law_cast", "_law_spare", "_law_way", "_law_turn", "_law_names_here", "_law_word"] ["_law_deck_here", "_law_world_here", "_law_bound", "_law_deep"] (defScope s_q_leaf) := ⟨rfl, rfl, rfl, by decide +kernel, rfl, by decide +kernel, by decide +kernel⟩
theorem ok_leaf (M : Md K mg) (D : DefAt K mg "_law_leaf" s_q_leaf ["_law_deck_here", "_law_world_here", "_law_bound", "_law_deep"]) (C_q_draw : Cal P w K mg base 1 "_law_draw" ["_law_deck_here", "_law_most"] (spDraw K))
    (C_q_spot : Cal P w K mg base 2 "_law_spot" ["_law_deck_here", "_law_cast", "_law_bound"] (spSpot K)) (C_q_atom : Cal P w K mg base 4 "_law_atom" ["_law_deck_here", "_law_cast", "_law_bound"] (spAtom K)) (C_q_body : Cal P w K mg base 6 "_law_body" psB (spBody K 1 99 2 12)) :
    Cal P w K mg base 7 "_law_leaf" ["_law_deck_here", "_law_world_here", "_law_bound", "_law_deep"] (spLeaf K) := by
  refine D.okW (k := 6) sc_q_leaf (fun _ _ => rfl) fun f cdv A outer s H E hr => ⟨_, (pss_cons (ps_asg (pv 1) (pg_tupK K (n := 2) rfl (pgs_cons (pg_name (i := 4) sc_q_leaf.nd rfl (by first | exact Or.inl rfl | exact Or.inr rfl)) (pgs_cons (pg_name (i := 5) sc_q_leaf.nd rfl (by first | exact Or.inl rfl | exact Or.inr rfl)) pgs_nil))))
  (pss_cons (ps_set (i := 6) sc_q_leaf.nd rfl (by first | exact Or.inl rfl | exact Or.inr rfl) (pe_cal C_q_draw hr (by omega) (by rfl) (pa_cons (pv 0) (pa_cons pe_int pa_nil))))
  (pss_cons (ps_set (i := 7) sc_q_leaf.nd rfl (by first | exact Or.inl rfl | exact Or.inr rfl) (pe_cal C_q_draw hr (by omega) (by rfl) (pa_cons (pv 0) (pa_cons (pe_callB (cb_len K) (by rfl) M.len_ bt_len (pa_cons (pv 5) pa_nil)) pa_nil))))
  (pss_cons (ps_set (i := 8) sc_q_leaf.nd rfl (by first | exact Or.inl rfl | exact Or.inr rfl) (pe_slice (sl_cut K) (pe_op (op_plus K) (pe_slice (sl_cut K) (pv 5) (po_some (pv 7)) po_none) (pe_slice (sl_cut K) (pv 5) po_none (po_some (pv 7)))) po_none (po_some pe_int)))
  (pss_cons (ps_if (pt_cmpR op_lt (pv 6) pe_int (nomark _)) (pss_one (ps_ret (pe_tup (pa_cons pe_str (pa_cons (pe_ix (ix_all K) (pv 8) pe_int (fun _ _ => rfl)) (pa_cons (pe_cal C_q_body hr (by omega) (by rfl) (pa_cons (pv 0) (pa_cons (pv 4) (pa_cons (pe_op (op_plus K) (pe_slice (sl_cut K) (pv 8) po_none (po_some pe_int)) (pv 2)) (pa_cons (pv 3) pa_nil))))) pa_nil)))))) pss_nil)
  (pss_cons (ps_if (pt_cmpR op_lt (pv 6) pe_int (nomark _)) (pss_one (ps_ret (pe_tup (pa_cons pe_str (pa_cons (pe_ix (ix_all K) (pv 8) pe_int (fun _ _ => rfl)) (pa_cons (pe_ix (ix_all K) (pv 8) pe_int (fun _ _ => rfl)) (pa_cons (pe_cal C_q_body hr (by omega) (by rfl) (pa_cons (pv 0) (pa_cons (pv 4) (pa_cons (pe_op (op_plus K) (pv 8) (pv 2)) (pa_cons (pv 3) pa_nil))))) pa_nil))))))) pss_nil)
  (pss_cons (ps_if (pt_cmpR op_eq (pv 6) pe_int (nomark _)) (pss_cons (ps_set (i := 9) sc_q_leaf.nd rfl (by first | exact Or.inl rfl | exact Or.inr rfl) (pe_ix (ix_all K) (pe_lst (pa_cons pe_str (pa_cons pe_str (pa_cons pe_str (pa_cons pe_str (pa_cons pe_str pa_nil)))))) (pe_cal C_q_draw hr (by omega) (by rfl) (pa_cons (pv 0) (pa_cons pe_int pa_nil))) (fun _ _ => rfl)))
  (pss_one (ps_ret (pe_tup (pa_cons pe_str (pa_cons (pe_ix (ix_all K) (pe_ix (ix_all K) (pv 4) pe_int (fun _ _ => rfl)) (pe_cal C_q_draw hr (by omega) (by rfl) (pa_cons (pv 0) (pa_cons (pe_callB (cb_len K) (by rfl) M.len_ bt_len (pa_cons (pe_ix (ix_all K) (pv 4) pe_int (fun _ _ => rfl)) pa_nil)) pa_nil))) (fun _ _ => rfl)) (pa_cons (pv 9) pa_nil))))))) pss_nil)
  (pss_cons (ps_if (pt_cmpR op_eq (pv 6) pe_int (nomark _)) (pss_one (ps_ret (pe_tup (pa_cons pe_str (pa_cons (pe_cal C_q_spot hr (by omega) (by rfl) (pa_cons (pv 0) (pa_cons (pv 4) (pa_cons (pv 2) pa_nil)))) (pa_cons (pe_cal C_q_spot hr (by omega) (by rfl) (pa_cons (pv 0) (pa_cons (pv 4) (pa_cons (pv 2) pa_nil)))) pa_nil)))))) pss_nil)
  (pss_one (ps_ret (pe_cal C_q_atom hr (by omega) (by rfl) (pa_cons (pv 0) (pa_cons (pv 4) (pa_cons (pv 2) pa_nil)))))))))))))), fun W a r hp => ?_⟩
  obtain ⟨T, bd, sp⟩ := a
  have hp' : LfOk T bd sp := hp
  clear hp
  obtain ⟨ok, hb, hs⟩ := hp'
  have hsl : (strsD sp).length = 4 := by rw [strsD_len]; exact hs.1
  have hr0 : 0 < T.rows.length := List.length_pos_iff.mpr ok.rows
  have hrn := ok.rn
  have hbl : (bd.map encK).length = bd.length := List.length_map _
  show EvS W _ (startG 10 [.v (.ref W.dk), wldD T sp, .tup (bd.map encK), .v (.int 1)]) (r + 101) No (fun r' d => r ≤ r' ∧ ∃ S : Say, d = enc S ∧ Wf T true 3 (fun k => k ∈ bd) S ∧ sl S ≤ 12)
  refine es_asgG (d := .tup [castD T, .tup (strsD sp)]) (ev_var rfl) (eg_tup2 (vs := [4, 5]) (by decide) (by decide)) (es_asg (ev_draw (r := r + 100) (ev_var rfl) ev_c (by decide) (by decide)) fun d z => ?_)
  obtain ⟨way, rfl, hw⟩ := z
  refine es_asg (ev_draw (r := r + 99) (m := 4) (ev_var rfl) (Ev.is (ev_lenT (ev_var rfl)) (by rw [hsl]; rfl)) (by decide) (by decide)) fun d z => ?_
  obtain ⟨t, rfl, ht0, ht1⟩ := z
  obtain ⟨x, y, hxy, hx, hy, exy⟩ := two_of hs ht0 ht1
  have clen : ∀ (ds : List Dt) lo hi, (cutD ds lo hi).length ≤ ds.length := fun ds lo hi => by
    unfold cutD
    rw [List.length_take, List.length_drop]
    omega
  refine es_asgD (d := .tup (strsD [x, y])) (Ev.is (ev_slT (ev_catT (ev_slT (ev_var rfl) (eo_some (ev_var rfl)) eo_none) (ev_slT (ev_var rfl) eo_none (eo_some (ev_var rfl))) ?_) eo_none (eo_some ev_c)) (congrArg Dt.tup exy)) ?_
  · have h1 := clen (strsD sp) (some t) none
    have h2 := clen (strsD sp) none (some t)
    rw [hsl] at h1 h2
    rw [sizeLine_eq]
    omega
  refine es_ifR (et_T (ev_int (ev_var rfl) ev_c)) (fun _ => ?_) fun _ => es_ifR (et_T (ev_int (ev_var rfl) ev_c)) (fun _ => ?_) fun _ => es_ifR (et_T (ev_eq (ev_var rfl) ev_c rfl)) (fun _ => ?_) fun _ => es_ifR (et_T (ev_eq (ev_var rfl) ev_c rfl)) (fun _ => ?_) fun _ => ?_
  · refine es_ret (r1 := r) (P := fun d => ∃ S : Say, d = enc S ∧ Wf T true 3 (fun k => k ∈ bd) S ∧ sl S ≤ 12) (ev_tup3P (P1 := At (.v (.str "each"))) (P2 := At (.v (.str x))) ev_c (ev_ixT (ev_var rfl) ev_c rfl)
      (ev_bodyC (r := r) (e := 1) (bd := .inr x :: bd) (ev_var rfl) (ev_var rfl) (ev_catT (ds := strsD [x]) (ev_slE (ev_var rfl) eo_none (eo_some ev_c) rfl) (ev_var rfl) (by rw [hbl, sizeLine_eq]; show 1 + _ ≤ _; omega)) (ev_var rfl) (ok.add hb _)) fun a b c h1 h2 h3 => ?_) fun d z => ⟨by omega, z⟩
    have e1 : a = .v (.str "each") := h1
    have e2 : b = .v (.str x) := h2
    subst e1 e2
    obtain ⟨S, rfl, h4, h5⟩ := h3
    refine ⟨.each x S, rfl, ?_, ?_⟩
    · simp only [Wf]
      refine ⟨trivial, hx, h4.mono (Nat.le_refl _) (fun z => z) fun k hk => ?_⟩
      rcases List.mem_cons.mp hk with hk | hk
      · exact .inr hk
      · exact .inl hk
    · rw [sl]
      exact h5
  · refine es_ret (r1 := r) (P := fun d => ∃ S : Say, d = enc S ∧ Wf T true 3 (fun k => k ∈ bd) S ∧ sl S ≤ 12) (ev_tup4P (P1 := At (.v (.str "pairs"))) (P2 := At (.v (.str x))) (P3 := At (.v (.str y))) ev_c (ev_ixT (ev_var rfl) ev_c rfl) (ev_ixT (ev_var rfl) ev_c rfl)
      (ev_bodyC (r := r) (e := 1) (bd := .inr x :: .inr y :: bd) (ev_var rfl) (ev_var rfl) (ev_catT (ds := strsD [x, y]) (ev_var rfl) (ev_var rfl) (by rw [hbl, sizeLine_eq]; show 2 + _ ≤ _; omega)) (ev_var rfl) (ok.add2 hb _ _)) fun a b c e h1 h2 h3 h4 => ?_) fun d z => ⟨by omega, z⟩
    have e1 : a = .v (.str "pairs") := h1
    have e2 : b = .v (.str x) := h2
    have e3 : c = .v (.str y) := h3
    subst e1 e2 e3
    obtain ⟨S, rfl, h4, h5⟩ := h4
    refine ⟨.pairs x y S, rfl, ?_, ?_⟩
    · simp only [Wf]
      refine ⟨trivial, hx, hy, hxy, h4.mono (Nat.le_refl _) (fun z => z) fun k hk => ?_⟩
      rcases List.mem_cons.mp hk with hk | hk
      · exact .inl (.inr hk)
      · rcases List.mem_cons.mp hk with hk | hk
        · exact .inr hk
        · exact .inl (.inl hk)
    · rw [sl]
      exact h5
  · refine es_asg (P := fun d => ∃ c : Cw, c.isNx = true ∧ d = .v (.str c.str)) (ev_ixLP (ds := [.v (.str "most"), .v (.str "less"), .v (.str "same"), .v (.str "least"), .v (.str "more")]) (p := fun v => 0 ≤ v ∧ v < 5) (ev_lst (ea_cons ev_c (ea_cons ev_c (ea_cons ev_c (ea_cons ev_c (ea_cons ev_c ea_nil))))))
      (ev_draw (r := r + 98) (ev_var rfl) ev_c (by decide) (by decide)) fun i hi => ?_) fun d z => ?_
    · have h2 : i = 0 ∨ i = 1 ∨ i = 2 ∨ i = 3 ∨ i = 4 := by omega
      rcases h2 with rfl | rfl | rfl | rfl | rfl
      · exact ⟨_, rfl, .most, rfl, rfl⟩
      · exact ⟨_, rfl, .less, rfl, rfl⟩
      · exact ⟨_, rfl, .same, rfl, rfl⟩
      · exact ⟨_, rfl, .least, rfl, rfl⟩
      · exact ⟨_, rfl, .more, rfl, rfl⟩
    · obtain ⟨c, hc, rfl⟩ := z
      refine es_ret (r1 := r + 97) (P := fun d => ∃ S : Say, d = enc S ∧ Wf T true 3 (fun k => k ∈ bd) S ∧ sl S ≤ 12) (ev_tup3P (P1 := At (.v (.str "nexts"))) (P2 := fun d => ∃ z ∈ T.rows, d = .v (.str z)) (P3 := At (.v (.str c.str))) ev_c
        (ev_ixTP (Ev.unf (ev_ixT (d := .ftup (strsD T.rows)) (ev_var rfl) ev_c rfl)) (ev_draw (r := r + 97) (ev_var rfl) (ev_lenT (Ev.unf (ev_ixT (d := .ftup (strsD T.rows)) (ev_var rfl) ev_c rfl))) ?_ ?_) fun i hi => pick_str hi) (ev_var rfl) fun a b e h1 h2 h3 => ?_) fun d z => ⟨by omega, z⟩
      · rw [strsD_len]
        omega
      · rw [strsD_len]
        omega
      · have e1 : a = .v (.str "nexts") := h1
        have e3 : e = .v (.str c.str) := h3
        subst e1 e3
        obtain ⟨z, hz, rfl⟩ := h2
        refine ⟨.nexts z c, rfl, ?_, ?_⟩
        · simp only [Wf]
          exact ⟨trivial, hz, hc⟩
        · rw [sl]
          omega
  · refine es_ret (r1 := r + 97) (P := fun d => ∃ S : Say, d = enc S ∧ Wf T true 3 (fun k => k ∈ bd) S ∧ sl S ≤ 12) (ev_tup3P (P1 := At (.v (.str "next"))) ev_c (ev_spotC (r := r + 98) (ev_var rfl) (ev_var rfl) (ev_var rfl) ok.pn ok.bn) (ev_spotC (r := r + 97) (ev_var rfl) (ev_var rfl) (ev_var rfl) ok.pn ok.bn) fun a b e h1 h2 h3 => ?_) fun d z => ⟨by omega, z⟩
    have e1 : a = .v (.str "next") := h1
    subst e1
    obtain ⟨p, rfl, hp⟩ := h2
    obtain ⟨q, rfl, hq⟩ := h3
    refine ⟨.pl .next p q, rfl, ?_, ?_⟩
    · simp only [Wf]
      exact ⟨hp, hq⟩
    · rw [sl]
      omega
  · refine es_ret (r1 := r + 84) (ev_atomC (r := r + 84) (ev_var rfl) (ev_var rfl) (ev_var rfl) ok) fun d z => ?_
    obtain ⟨S, rfl, h1, h2⟩ := z
    exact ⟨by omega, S, rfl, h1.mono (by omega) (fun _ => rfl) fun k h => h, by omega⟩
section
variable {W : Wd K} {Γ : Gm} {r : Nat} {td tc tb te : TE}
theorem ev_leafC {T : Wl} {bd : List Key} {sp : List Str} (hd : Ev W td Γ (r + 101) (r + 101) (At (.v (.ref W.dk)))) (hc : Ev W tc Γ (r + 101) (r + 101) (At (wldD T sp))) (hb : Ev W tb Γ (r + 101) (r + 101) (At (.tup (bd.map encK)))) (he : Ev W te Γ (r + 101) (r + 101) (At (.v (.int 1)))) (h : LfOk T bd sp) :
    Ev W (tCall (spLeaf K) [] E0 (tCons td (tCons tc (tCons tb (tCons te tNil))))) Γ (r + 101) r (fun d => ∃ S : Say, d = enc S ∧ Wf T true 3 (fun k => k ∈ bd) S ∧ sl S ≤ 12) := ev_cdW (Wf := fun W : Wd K => W) W (T, bd, sp) (ea_cons hd (ea_cons hc (ea_cons hb (ea_cons he ea_nil)))) h
end
/-! ### saying -/
def spSaying (K : PySem.W.Frag) (e c lv m : Nat) : Sp := SpW (fun W : Wd K => W) (fun W (a : Wl × List Key × List Str) => [.v (.ref W.dk), wldD a.1 a.2.2, .tup (a.2.1.map encK), .v (.int (e : Int))]) (fun a => LfOk a.1 a.2.1 a.2.2) (fun _ => c)
  (fun a d => ∃ S : Say, d = enc S ∧ Wf a.1 true lv (fun k => k ∈ a.2.1) S ∧ sl S ≤ m)
section
variable {W : Wd K} {Γ : Gm} {r e c lv m : Nat} {td tc tb te : TE}
theorem ev_sayC {T : Wl} {bd : List Key} {sp : List Str} (hd : Ev W td Γ (r + c) (r + c) (At (.v (.ref W.dk)))) (hc : Ev W tc Γ (r + c) (r + c) (At (wldD T sp))) (hb : Ev W tb Γ (r + c) (r + c) (At (.tup (bd.map encK)))) (he : Ev W te Γ (r + c) (r + c) (At (.v (.int (e : Int))))) (h : LfOk T bd sp) :
    Ev W (tCall (spSaying K e c lv m) [] E0 (tCons td (tCons tc (tCons tb (tCons te tNil))))) Γ (r + c) r (fun d => ∃ S : Say, d = enc S ∧ Wf T true lv (fun k => k ∈ bd) S ∧ sl S ≤ m) := ev_cdW (Wf := fun W : Wd K => W) W (T, bd, sp) (ea_cons hd (ea_cons hc (ea_cons hb (ea_cons he ea_nil)))) h
end
-- slots of _law_saying: 0 _law_deck_here, 1 _law_world_here, 2 _law_bound, 3 _law_deep, 4 _law_way, 5 _law_many, 6 _law_k
abbrev N_q_saying : List Str := ["_law_deck_here", "_law_world_here", "_law_bound", "_law_deep", "_law_way", "_law_many", "_law_k"]
theorem sc_q_saying : FnScope ["_law_deck_here", "_law_world_here", "_law_bound", "_law_deep", "_law_way", "_law_many", "_law_k"] ["_law_deck_here", "_law_world_here", "_law_bound", "_law_deep"] (defScope s_q_saying) := ⟨rfl, rfl, rfl, by decide +kernel, rfl, by decide +kernel, by decide +kernel⟩
abbrev psS : List Str := ["_law_deck_here", "_law_world_here", "_law_bound", "_law_deep"]
theorem ok_saying0 (M : Md K mg) (D : DefAt K mg "_law_saying" s_q_saying psS) (C_q_draw : Cal P w K mg base 1 "_law_draw" ["_law_deck_here", "_law_most"] (spDraw K))
    (C_q_leaf : Cal P w K mg base 7 "_law_leaf" psS (spLeaf K)) (C_q_joined : Cal P w K mg base 2 "_law_joined" ["_law_deck_here", "_law_parts"] (spJoined K)) :
    Cal P w K mg base 8 "_law_saying" psS (spSaying K 0 102 3 12) := by
  have C_q_saying : Cal P w K mg base (0 + 1) "_law_saying" psS (SpP K (fun _ : Unit => [.v .non, .v .non, .v .non, .v .non]) (fun _ => False) (fun _ => .v .non)) := D.none sc_q_saying (fun _ => rfl) fun _ h => h
  refine D.okW (k := 7) sc_q_saying (fun _ _ => rfl) fun f cdv A outer s H E hr => ⟨_, (pss_cons (ps_set (i := 4) sc_q_saying.nd rfl (by first | exact Or.inl rfl | exact Or.inr rfl) (pe_cal C_q_draw hr (by omega) (by rfl) (pa_cons (pv 0) (pa_cons pe_int pa_nil))))
  (pss_cons (ps_if (PW.pt (pw_or (pt_cmpR op_eq (pv 3) pe_int (nomark _)) (pw_or1 (pt_cmpR op_lt (pv 4) pe_int (nomark _))))) (pss_one (ps_ret (pe_cal C_q_leaf hr (by omega) (by rfl) (pa_cons (pv 0) (pa_cons (pv 1) (pa_cons (pv 2) (pa_cons pe_int pa_nil))))))) pss_nil)
  (pss_cons (ps_if (pt_cmpR op_eq (pv 4) pe_int (nomark _)) (pss_one (ps_ret (pe_tup (pa_cons pe_str (pa_cons (pe_cal C_q_saying hr (by omega) (by rfl) (pa_cons (pv 0) (pa_cons (pv 1) (pa_cons (pv 2) (pa_cons (pe_op op_sub (pv 3) pe_int) pa_nil))))) pa_nil))))) pss_nil)
  (pss_cons (ps_set (i := 5) sc_q_saying.nd rfl (by first | exact Or.inl rfl | exact Or.inr rfl) (pe_ix (ix_all K) (pe_lst (pa_cons pe_int (pa_cons pe_int (pa_cons pe_int (pa_cons pe_int (pa_cons pe_int (pa_cons pe_int pa_nil))))))) (pe_cal C_q_draw hr (by omega) (by rfl) (pa_cons (pv 0) (pa_cons pe_int pa_nil))) (fun _ _ => rfl)))
  (pss_one (ps_ret (pe_cal C_q_joined hr (by omega) (by rfl) (pa_cons (pv 0) (pa_cons (pe_lc (own := [("_law_k", 6)]) rfl sc_q_saying.nd (pi_range1 (by rfl) M.range_ (pa_cons (pv 5) pa_nil)) (blkOk_by (N := N_q_saying) (sc := defScope s_q_saying) (by decide +kernel)) (fun _ _ _ _ _ => (pg_name (i := 6) sc_q_saying.nd rfl (by first | exact Or.inl rfl | exact Or.inr rfl))) (fun _ _ _ _ _ => pts_nil) (fun _ _ _ _ _ => (pe_cal C_q_saying hr (by omega) (by rfl) (pa_cons (pv 0) (pa_cons (pv 1) (pa_cons (pv 2) (pa_cons (pe_op op_sub (pv 3) pe_int) pa_nil))))))) pa_nil))))))))), fun W a r hp => ?_⟩
  obtain ⟨T, bd, sp⟩ := a
  have ok : LfOk T bd sp := hp
  clear hp
  show EvS W _ (startG 7 [.v (.ref W.dk), wldD T sp, .tup (bd.map encK), .v (.int 0)]) (r + 102) No (fun r' d => r ≤ r' ∧ ∃ S : Say, d = enc S ∧ Wf T true 3 (fun k => k ∈ bd) S ∧ sl S ≤ 12)
  exact es_asg (ev_draw (r := r + 101) (ev_var rfl) ev_c (by decide) (by decide)) fun d z => by
    obtain ⟨way, rfl, hw⟩ := z
    exact es_ifT (et_or (b := true) (et_T (ev_eq (ev_var rfl) ev_c rfl)) fun h => absurd h (show ¬ decide (V.int 0 = V.int 0) = false by decide +kernel)) (by rw [show decide (V.int 0 = V.int 0) = true by decide +kernel]; rfl)
      (es_ret (r1 := r) (ev_leafC (r := r) (ev_var rfl) (ev_var rfl) (ev_var rfl) ev_c ok) fun d e => ⟨Nat.le_refl _, e⟩)
theorem ok_saying1 (M : Md K mg) (D : DefAt K mg "_law_saying" s_q_saying psS) (C_q_draw : Cal P w K mg base 1 "_law_draw" ["_law_deck_here", "_law_most"] (spDraw K))
    (C_q_leaf : Cal P w K mg base 7 "_law_leaf" psS (spLeaf K)) (C_q_joined : Cal P w K mg base 2 "_law_joined" ["_law_deck_here", "_law_parts"] (spJoined K))
    (C_q_saying : Cal P w K mg base 8 "_law_saying" psS (spSaying K 0 102 3 12)) : Cal P w K mg base 9 "_law_saying" psS (spSaying K 1 309 4 36) := by
  refine D.okW (k := 8) sc_q_saying (fun _ _ => rfl) fun f cdv A outer s H E hr => ⟨_, (pss_cons (ps_set (i := 4) sc_q_saying.nd rfl (by first | exact Or.inl rfl | exact Or.inr rfl) (pe_cal C_q_draw hr (by omega) (by rfl) (pa_cons (pv 0) (pa_cons pe_int pa_nil))))
  (pss_cons (ps_if (PW.pt (pw_or (pt_cmpR op_eq (pv 3) pe_int (nomark _)) (pw_or1 (pt_cmpR op_lt (pv 4) pe_int (nomark _))))) (pss_one (ps_ret (pe_cal C_q_leaf hr (by omega) (by rfl) (pa_cons (pv 0) (pa_cons (pv 1) (pa_cons (pv 2) (pa_cons pe_int pa_nil))))))) pss_nil)
  (pss_cons (ps_if (pt_cmpR op_eq (pv 4) pe_int (nomark _)) (pss_one (ps_ret (pe_tup (pa_cons pe_str (pa_cons (pe_cal C_q_saying hr (by omega) (by rfl) (pa_cons (pv 0) (pa_cons (pv 1) (pa_cons (pv 2) (pa_cons (pe_op op_sub (pv 3) pe_int) pa_nil))))) pa_nil))))) pss_nil)
  (pss_cons (ps_set (i := 5) sc_q_saying.nd rfl (by first | exact Or.inl rfl | exact Or.inr rfl) (pe_ix (ix_all K) (pe_lst (pa_cons pe_int (pa_cons pe_int (pa_cons pe_int (pa_cons pe_int (pa_cons pe_int (pa_cons pe_int pa_nil))))))) (pe_cal C_q_draw hr (by omega) (by rfl) (pa_cons (pv 0) (pa_cons pe_int pa_nil))) (fun _ _ => rfl)))
  (pss_one (ps_ret (pe_cal C_q_joined hr (by omega) (by rfl) (pa_cons (pv 0) (pa_cons (pe_lc (own := [("_law_k", 6)]) rfl sc_q_saying.nd (pi_range1 (by rfl) M.range_ (pa_cons (pv 5) pa_nil)) (blkOk_by (N := N_q_saying) (sc := defScope s_q_saying) (by decide +kernel)) (fun _ _ _ _ _ => (pg_name (i := 6) sc_q_saying.nd rfl (by first | exact Or.inl rfl | exact Or.inr rfl))) (fun _ _ _ _ _ => pts_nil) (fun _ _ _ _ _ => (pe_cal C_q_saying hr (by omega) (by rfl) (pa_cons (pv 0) (pa_cons (pv 1) (pa_cons (pv 2) (pa_cons (pe_op op_sub (pv 3) pe_int) pa_nil))))))) pa_nil))))))))), fun W a r hp => ?_⟩
  obtain ⟨T, bd, sp⟩ := a
  have ok : LfOk T bd sp := hp
  clear hp
  show EvS W _ (startG 7 [.v (.ref W.dk), wldD T sp, .tup (bd.map encK), .v (.int 1)]) (r + 309) No (fun r' d => r ≤ r' ∧ ∃ S : Say, d = enc S ∧ Wf T true 4 (fun k => k ∈ bd) S ∧ sl S ≤ 36)
  refine es_asg (ev_draw (r := r + 308) (ev_var rfl) ev_c (by decide) (by decide)) fun d z => ?_
  obtain ⟨way, rfl, hw⟩ := z
  refine es_ifR (et_or (et_T (ev_eq (ev_var rfl) ev_c rfl)) fun _ => et_T (ev_int (ev_var rfl) ev_c)) (fun _ => es_ret (r1 := r + 207) (ev_leafC (r := r + 207) (ev_var rfl) (ev_var rfl) (ev_var rfl) ev_c ok) fun d z => ?_) fun _ =>
    es_ifR (et_T (ev_eq (ev_var rfl) ev_c rfl)) (fun _ => es_ret (r1 := r + 206) (P := fun d => ∃ S : Say, d = enc S ∧ Wf T true 4 (fun k => k ∈ bd) S ∧ sl S ≤ 36) (ev_tup2P (P1 := At (.v (.str "not"))) ev_c (ev_sayC (r := r + 206) (e := 0) (ev_var rfl) (ev_var rfl) (ev_var rfl) (Ev.is (ev_int (ev_var rfl) ev_c) rfl) ok) fun a b h1 h2 => ?_) fun d z => ⟨by omega, z⟩) fun _ =>
    es_asg (P := fun d => ∃ m : Nat, m ≤ 3 ∧ d = .v (.int (m : Int))) (ev_ixLP (ds := [.v (.int 2), .v (.int 0), .v (.int 2), .v (.int 3), .v (.int 1), .v (.int 2)]) (p := fun v => 0 ≤ v ∧ v < 6) (ev_lst (ea_cons ev_c (ea_cons ev_c (ea_cons ev_c (ea_cons ev_c (ea_cons ev_c (ea_cons ev_c ea_nil)))))))
      (ev_draw (r := r + 307) (ev_var rfl) ev_c (by decide) (by decide)) fun i hi => ?_) fun d z => ?_
  · obtain ⟨S, rfl, h1, h2⟩ := z
    exact ⟨by omega, S, rfl, h1.mono (by omega) (fun z => z) fun k h => h, by omega⟩
  · have e : a = .v (.str "not") := h1
    subst e
    obtain ⟨S, rfl, h1, h2⟩ := h2
    refine ⟨.not S, rfl, ?_, ?_⟩
    · simp only [Wf]
      exact h1
    · rw [sl]
      omega
  · have h2 : i = 0 ∨ i = 1 ∨ i = 2 ∨ i = 3 ∨ i = 4 ∨ i = 5 := by omega
    rcases h2 with rfl | rfl | rfl | rfl | rfl | rfl
    · exact ⟨_, rfl, 2, by omega, rfl⟩
    · exact ⟨_, rfl, 0, by omega, rfl⟩
    · exact ⟨_, rfl, 2, by omega, rfl⟩
    · exact ⟨_, rfl, 3, by omega, rfl⟩
    · exact ⟨_, rfl, 1, by omega, rfl⟩
    · exact ⟨_, rfl, 2, by omega, rfl⟩
  · obtain ⟨m, hm, rfl⟩ := z
    refine es_ret (r1 := r) (ev_joinedP (PL := fun l => l.length ≤ 3 ∧ ∀ s ∈ l, Wf T true 3 (fun k => k ∈ bd) s ∧ sl s ≤ 12) (ev_var rfl) (fun l h => by omega)
      (el_draw (PL := fun ds => ds = nums 0 m) (P1 := fun d => ∃ S : Say, d = enc S ∧ Wf T true 3 (fun k => k ∈ bd) S ∧ sl S ≤ 12) 102 306 (ei_rng1 (p := fun v => v = (m : Int)) (r1 := r + 307) ((ev_var rfl).imp fun d e => ⟨_, e, rfl⟩) fun n hn => ⟨by omega, by omega, by rw [hn]; rfl⟩) (fun ds e => ?_) (fun W' d r' hdk => ⟨_, eg_name (by decide), ?_⟩) fun ds es e h1 h2 => ?_) (ev_var rfl)) fun d z => ?_
    · rw [e, nums_len]
      omega
    · exact ev_sayC (r := r') (e := 0) (ev_var (by rw [hdk]; rfl)) (ev_var rfl) (ev_var rfl) (Ev.is (ev_int (ev_var rfl) ev_c) rfl) ok
    · obtain ⟨l, h3, h4, h5⟩ := enc_list h2
      rw [e, nums_len] at h1
      exact ⟨l, ⟨by omega, h4⟩, by rw [h5]⟩
    · obtain ⟨l, S, ⟨h1, h2⟩, rfl, h3⟩ := z
      obtain ⟨h4, h5⟩ := h3.ok (by omega) h2
      exact ⟨Nat.le_refl _, S, rfl, h4, by omega⟩
end EP

/-! ## KF16 -/
namespace EP
open PySem PySem.Spec PyProof.Rows L2
variable {P : Program} {w : World} {K : PySem.W.Frag} {mg : Str → Option Value} {base : Heap}
def cutG {α : Type} (l : List α) (lo hi : Option Int) : List α := (l.drop (HT.sIx l.length 0 lo)).take (HT.sIx l.length l.length hi - HT.sIx l.length 0 lo)
theorem cut_strs (ys : List Str) (lo hi : Option Int) : cutD (strsD ys) lo hi = strsD (cutG ys lo hi) := by
  unfold cutD cutG
  rw [strsD_len]
  unfold strsD
  rw [List.map_take, List.map_drop]
theorem cutG_sub {α : Type} (l : List α) (lo hi : Option Int) : List.Sublist (cutG l lo hi) l := (List.take_sublist _ _).trans (List.drop_sublist _ _)
theorem cutG_len {α : Type} (l : List α) (lo hi : Option Int) : (cutG l lo hi).length ≤ l.length := (cutG_sub l lo hi).length_le
/-! ### world -/
def spWorld (K : PySem.W.Frag) : Sp := SpW (fun W : Wd K => W) (fun W (_ : Unit) => [.v (.ref W.dk)]) (fun _ => True) (fun _ => 15) (fun _ d => ∃ T sp, d = wldD T sp ∧ NmOk T [] ∧ SpOk sp)
-- slots of _law_world: 0 _law_deck_here, 1 _law_great, 2 _law_rows, 3 _law_places, 4 _law_numbers, 5 _law_names_here, 6 _law_some, 7 _law_one
abbrev N_q_world : List Str := ["_law_deck_here", "_law_great", "_law_rows", "_law_places", "_law_numbers", "_law_names_here", "_law_some", "_law_one"]
theorem sc_q_world : FnScope ["_law_deck_here", "_law_great", "_law_rows", "_law_places", "_law_numbers", "_law_names_here", "_law_some", "_law_one"] ["_law_deck_here"] (defScope s_q_world) := ⟨rfl, rfl, rfl, by decide +kernel, rfl, by decide +kernel, by decide +kernel⟩
theorem ok_world (M : Md K mg) (D : DefAt K mg "_law_world" s_q_world ["_law_deck_here"]) (C_q_draw : Cal P w K mg base 1 "_law_draw" ["_law_deck_here", "_law_most"] (spDraw K))
    (C_q_names : Cal P w K mg base 2 "_law_names" ["_law_deck_here", "_law_many"] (spNames K)) : Cal P w K mg base 3 "_law_world" ["_law_deck_here"] (spWorld K) := by
  refine D.okW (k := 2) sc_q_world (fun _ _ => rfl) fun f cdv A outer s H E hr => ⟨_, (pss_cons (ps_set (i := 1) sc_q_world.nd rfl (by first | exact Or.inl rfl | exact Or.inr rfl) (pe_callTy cb_int (by rfl) M.int_ bt_int (pa_cons (pe_cmpR op_eq (pe_cal C_q_draw hr (by omega) (by rfl) (pa_cons (pv 0) (pa_cons pe_int pa_nil))) pe_int (nomark _)) pa_nil)))
  (pss_cons (ps_set (i := 2) sc_q_world.nd rfl (by first | exact Or.inl rfl | exact Or.inr rfl) (pe_op (op_plus K) (pe_op (op_plus K) pe_int (pe_cal C_q_draw hr (by omega) (by rfl) (pa_cons (pv 0) (pa_cons pe_int pa_nil)))) (pv 1)))
  (pss_cons (ps_set (i := 3) sc_q_world.nd rfl (by first | exact Or.inl rfl | exact Or.inr rfl) (pe_op (op_plus K) (pe_op (op_plus K) (pv 2) (pe_cal C_q_draw hr (by omega) (by rfl) (pa_cons (pv 0) (pa_cons pe_int pa_nil)))) (pe_op op_mul pe_int (pv 1))))
  (pss_cons (ps_set (i := 4) sc_q_world.nd rfl (by first | exact Or.inl rfl | exact Or.inr rfl) (pe_op (op_plus K) (pe_op (op_plus K) (pv 3) (pe_cal C_q_draw hr (by omega) (by rfl) (pa_cons (pv 0) (pa_cons pe_int pa_nil)))) (pe_op op_mul pe_int (pv 1))))
  (pss_cons (ps_set (i := 5) sc_q_world.nd rfl (by first | exact Or.inl rfl | exact Or.inr rfl) (pe_cal C_q_names hr (by omega) (by rfl) (pa_cons (pv 0) (pa_cons (pe_op (op_plus K) (pv 4) pe_int) pa_nil))))
  (pss_cons (ps_set (i := 6) sc_q_world.nd rfl (by first | exact Or.inl rfl | exact Or.inr rfl) (pe_lst (pa_cons (pe_slice (sl_cut K) (pv 5) po_none (po_some (pv 2))) (pa_cons (pe_slice (sl_cut K) (pv 5) (po_some (pv 2)) (po_some (pv 3))) (pa_cons (pe_slice (sl_cut K) (pv 5) (po_some (pv 3)) (po_some (pv 4))) pa_nil)))))
  (pss_one (ps_ret (pe_tup (pa_cons (pe_callTy (cb_tuple K) (by rfl) M.tuple_ bt_tuple (pa_cons (pe_lc (own := [("_law_one", 7)]) rfl sc_q_world.nd (pi_seq K (pv 6)) (blkOk_by (N := N_q_world) (sc := defScope s_q_world) (by decide +kernel)) (fun _ _ _ _ _ => (pg_name (i := 7) sc_q_world.nd rfl (by first | exact Or.inl rfl | exact Or.inr rfl))) (fun _ _ _ _ _ => pts_nil) (fun _ _ _ _ _ => (pe_callTy (cb_tuple K) (by rfl) M.tuple_ bt_tuple (pa_cons (pe_callB (cb_sortedS K) (by rfl) M.sorted_ bt_sorted (pa_cons (pv 7) pa_nil)) pa_nil)))) pa_nil)) (pa_cons (pe_callTy (cb_tuple K) (by rfl) M.tuple_ bt_tuple (pa_cons (pe_slice (sl_cut K) (pv 5) (po_some (pv 4)) po_none) pa_nil)) pa_nil))))))))))), fun W a r hp => ?_⟩
  show EvS W _ (startG 8 [.v (.ref W.dk)]) (r + 15) No (fun r' d => r ≤ r' ∧ ∃ T sp, d = wldD T sp ∧ NmOk T [] ∧ SpOk sp)
  refine es_asg (P := In fun v => 0 ≤ v ∧ v ≤ 1) (ev_intBP (ev_eqP (ev_draw (r := r + 14) (ev_var rfl) ev_c (by decide) (by decide)) ev_c) ⟨0, rfl, by decide, by decide⟩ ⟨1, rfl, by decide, by decide⟩) fun d z => ?_
  obtain ⟨g, rfl, hg0, hg1⟩ := z
  refine es_asg (P := In fun v => 1 ≤ v ∧ v ≤ 3) (ev_addP (p := fun v => 1 ≤ v ∧ v ≤ 2) (q := fun v => v = g) (ev_addP (p := fun v => v = 1) (q := fun v => 0 ≤ v ∧ v < 2) (ev_c.imp fun d e => ⟨_, e, rfl⟩) (ev_draw (r := r + 13) (ev_var rfl) ev_c (by decide) (by decide)) fun i j hi hj => ⟨_, rfl, by omega, by omega⟩)
    ((ev_var rfl).imp fun d e => ⟨_, e, rfl⟩) fun i j hi hj => ⟨_, rfl, by omega, by omega⟩) fun d z => ?_
  obtain ⟨rw_, rfl, hr0, hr1⟩ := z
  refine es_asg (P := In fun v => rw_ ≤ v ∧ v ≤ rw_ + 4) (ev_addP (p := fun v => rw_ ≤ v ∧ v ≤ rw_ + 2) (q := fun v => v = 2 * g) (ev_addP (p := fun v => v = rw_) (q := fun v => 0 ≤ v ∧ v < 3) ((ev_var rfl).imp fun d e => ⟨_, e, rfl⟩) (ev_draw (r := r + 12) (ev_var rfl) ev_c (by decide) (by decide)) fun i j hi hj => ⟨_, rfl, by omega, by omega⟩)
    ((ev_intC ev_c (ev_var rfl) (.inl ⟨by decide, by decide⟩)).imp fun d e => ⟨_, e, rfl⟩) fun i j hi hj => ⟨_, rfl, by omega, by omega⟩) fun d z => ?_
  obtain ⟨pl_, rfl, hp0, hp1⟩ := z
  refine es_asg (P := In fun v => pl_ ≤ v ∧ v ≤ pl_ + 4) (ev_addP (p := fun v => pl_ ≤ v ∧ v ≤ pl_ + 2) (q := fun v => v = 2 * g) (ev_addP (p := fun v => v = pl_) (q := fun v => 0 ≤ v ∧ v < 3) ((ev_var rfl).imp fun d e => ⟨_, e, rfl⟩) (ev_draw (r := r + 11) (ev_var rfl) ev_c (by decide) (by decide)) fun i j hi hj => ⟨_, rfl, by omega, by omega⟩)
    ((ev_intC ev_c (ev_var rfl) (.inl ⟨by decide, by decide⟩)).imp fun d e => ⟨_, e, rfl⟩) fun i j hi hj => ⟨_, rfl, by omega, by omega⟩) fun d z => ?_
  obtain ⟨nm_, rfl, hn0, hn1⟩ := z
  obtain ⟨nr, rfl⟩ : ∃ n : Nat, rw_ = (n : Int) := ⟨rw_.toNat, by omega⟩
  obtain ⟨np, rfl⟩ : ∃ n : Nat, pl_ = (n : Int) := ⟨pl_.toNat, by omega⟩
  obtain ⟨nn, rfl⟩ : ∃ n : Nat, nm_ = (n : Int) := ⟨nm_.toNat, by omega⟩
  refine es_asg (ev_cdW (Wf := fun W : Wd K => W) (r1 := r) W (nn + 4) (ea_cons (ev_var rfl) (ea_cons (Ev.is (ev_addI (ev_var rfl) ev_c) rfl) ea_nil)) (by show nn + 4 ≤ 15; omega)) fun d z => ?_
  obtain ⟨ys, rfl, hyl, hyn, hye⟩ := z
  have hyl : ys.length = nn + 4 := hyl
  have hlen : ∀ lo hi, (cutG ys lo hi).length ≤ 15 := fun lo hi => by
    have := cutG_len ys lo hi
    omega
  refine es_asgD (d := .lst ([cutG ys none (some (nr : Int)), cutG ys (some (nr : Int)) (some (np : Int)), cutG ys (some (np : Int)) (some (nn : Int))].map fun l => .lst (strsD l))) (Ev.is (ev_lst (ea_cons (ev_slL (ev_var rfl) eo_none (eo_some (ev_var rfl))) (ea_cons (ev_slL (ev_var rfl) (eo_some (ev_var rfl)) (eo_some (ev_var rfl))) (ea_cons (ev_slL (ev_var rfl) (eo_some (ev_var rfl)) (eo_some (ev_var rfl))) ea_nil)))) (by rw [cut_strs, cut_strs, cut_strs]; rfl)) ?_
  refine es_ret (r1 := r) (P := fun d => ∃ T sp, d = wldD T sp ∧ NmOk T [] ∧ SpOk sp) (ev_tup2P (P1 := fun d => ∃ a b c : List Str, d = .tup [.ftup (strsD a), .ftup (strsD b), .ftup (strsD c)] ∧ a.Perm (cutG ys none (some (nr : Int))) ∧ b.length ≤ 15 ∧ c.length ≤ 15)
    (ev_tupleOfP (P1 := fun d => ∃ a b c : List Str, d = .lst [.ftup (strsD a), .ftup (strsD b), .ftup (strsD c)] ∧ a.Perm (cutG ys none (some (nr : Int))) ∧ b.length ≤ 15 ∧ c.length ≤ 15) (EvF.ev (el_lcF (r1 := r) (c := 0) (fun l : List Str => .lst (strsD l)) (PA := fun l => l = [cutG ys none (some (nr : Int)), cutG ys (some (nr : Int)) (some (np : Int)), cutG ys (some (np : Int)) (some (nn : Int))]) (p := fun _ => true) (G1 := fun l e => ∃ x : List Str, x.Perm l ∧ e = .ftup (strsD x))
      (PQ := fun es => ∃ a b c : List Str, es = [.ftup (strsD a), .ftup (strsD b), .ftup (strsD c)] ∧ a.Perm (cutG ys none (some (nr : Int))) ∧ b.length ≤ 15 ∧ c.length ≤ 15)
      (fun σ H R s I q => ei_sqL (ev_var rfl) σ H R s I fun J H' ds e i p wk => q J H' ds e i ⟨_, p, rfl⟩ wk) (fun l e => ?_) (fun l e => ⟨0, Nat.le_refl _, fun W' x r' _ hx => ⟨_, eg_name (by decide), et_yes, fun _ => ev_ftupleOfP (P1 := fun d => ∃ y : List Str, y.Perm x ∧ d = .lst (strsD y)) (ev_sortedS (xs := x) (ev_var rfl) ?_ fun y hy => ⟨y, hy, rfl⟩) fun d z => ?_⟩⟩) fun l es e c => ?_) fun ds z => ?_) fun d z => ?_)
    (ev_tupleOf (ev_slL (ev_var rfl) (eo_some (ev_var rfl)) eo_none)) fun a b h1 h2 => ?_) fun d e => ⟨Nat.le_refl _, e⟩
  · rw [e, sizeLine_eq]
    exact ll rfl
  · rw [e] at hx
    have h3 : x.length ≤ 15 := by
      rcases List.mem_cons.mp hx with rfl | hx
      · exact hlen _ _
      · rcases List.mem_cons.mp hx with rfl | hx
        · exact hlen _ _
        · rw [List.mem_singleton.mp hx]
          exact hlen _ _
    omega
  · obtain ⟨y, hy, rfl⟩ := z
    exact ⟨_, rfl, y, hy, rfl⟩
  · subst e
    rcases c with ⟨_, e1, es1, rfl, ⟨a, ha, rfl⟩, c⟩ | ⟨h, _⟩
    · rcases c with ⟨_, e2, es2, rfl, ⟨b, hb, rfl⟩, c⟩ | ⟨h, _⟩
      · rcases c with ⟨_, e3, es3, rfl, ⟨c', hc, rfl⟩, c⟩ | ⟨h, _⟩
        · have e4 : es3 = [] := c
          subst e4
          exact ⟨a, b, c', rfl, ha, by rw [hb.length_eq]; exact hlen _ _, by rw [hc.length_eq]; exact hlen _ _⟩
        · exact absurd h.symm Bool.false_ne_true
      · exact absurd h.symm Bool.false_ne_true
    · exact absurd h.symm Bool.false_ne_true
  · obtain ⟨a, b, c, rfl, h⟩ := z
    exact ⟨a, b, c, rfl, h⟩
  · obtain ⟨a, b, c, rfl, h⟩ := z
    exact ⟨_, rfl, a, b, c, rfl, h⟩
  · obtain ⟨a, b', c, rfl, ha, hb, hc⟩ := h1
    have e2 : b = .tup (cutD (strsD ys) (some (nn : Int)) none) := h2
    subst e2
    rw [cut_strs]
    have hal := ha.length_eq
    have hcut : (cutG ys none (some (nr : Int))).length = nr := by
      unfold cutG
      rw [HT.sIx_none, HT.sIx_nat, List.drop_zero, Nat.sub_zero, List.length_take]
      omega
    refine ⟨⟨a, b', c, 0, [], [], []⟩, cutG ys (some (nn : Int)) none, rfl, ⟨fun e => ?_, ?_, ?_, ?_, Nat.zero_le _⟩, ?_, ?_, fun z hz => hye z ((cutG_sub ys _ _).subset hz)⟩
    · have e : a = [] := e
      rw [e, hcut] at hal
      have : 0 = nr := hal
      omega
    · show a.length ≤ 20
      omega
    · show b'.length ≤ 20
      omega
    · show c.length ≤ 20
      omega
    · unfold cutG
      rw [HT.sIx_none, HT.sIx_nat, List.length_take, List.length_drop]
      omega
    · exact List.Pairwise.sublist (cutG_sub ys _ _) hyn
end EP

/-! ## KF17 -/
namespace EP
open PySem PySem.Spec PyProof.Rows L2
variable {P : Program} {w : World} {K : PySem.W.Frag} {mg : Str → Option Value} {base : Heap}
/-- the scope of the outer comprehension -/
def lcS (st : Stmt) : Scope := match defBody st with
  | _ :: .Assign _ (.Call _ (.ListComp _ _ sc _ :: _) _ _) _ :: _ => sc
  | _ => defScope st
theorem ints_list {Q : Int → Prop} : ∀ {es : List Dt}, (∀ e ∈ es, In Q e) → ∃ l : List Int, l.length = es.length ∧ (∀ i ∈ l, Q i) ∧ es = intsD l
  | [], _ => ⟨[], rfl, (fun _ z => nomatch z), rfl⟩
  | e :: es, h => by
    obtain ⟨l, h1, h2, h3⟩ := ints_list fun e he => h e (List.mem_cons_of_mem _ he)
    obtain ⟨i, rfl, hi⟩ := h e List.mem_cons_self
    refine ⟨i :: l, by rw [List.length_cons, List.length_cons, h1], fun s hs => ?_, by rw [h3]; rfl⟩
    rcases List.mem_cons.mp hs with rfl | hs
    · exact hi
    · exact h2 s hs
theorem rows_list {m : Nat} : ∀ {es : List Dt}, (∀ e ∈ es, ∃ l : List Int, l.length = m ∧ e = .tup (intsD l)) → ∃ rv : List (List Int), rv.length = es.length ∧ (∀ l ∈ rv, l.length = m) ∧ es = rv.map fun l => .tup (intsD l)
  | [], _ => ⟨[], rfl, (fun _ z => nomatch z), rfl⟩
  | e :: es, h => by
    obtain ⟨l, h1, h2, h3⟩ := rows_list fun e he => h e (List.mem_cons_of_mem _ he)
    obtain ⟨i, hi, rfl⟩ := h e List.mem_cons_self
    refine ⟨i :: l, by rw [List.length_cons, List.length_cons, h1], fun s hs => ?_, by rw [h3]; rfl⟩
    rcases List.mem_cons.mp hs with rfl | hs
    · exact hi
    · exact h2 s hs
/-! ### standing -/
def spStanding (K : PySem.W.Frag) : Sp := SpW (fun W : Wd K => W) (fun W (T : Wl) => [.v (.ref W.dk), castD T]) (fun T => NmOk T []) (fun _ => 421)
  (fun T d => ∃ T' : Wl, T'.rows = T.rows ∧ T'.places = T.places ∧ T'.nums = T.nums ∧ T'.Ok ∧ d = standD T')
-- slots of _law_standing: 0 _law_deck_here, 1 _law_cast, 2 _law_many, 3 _law_rows, 4 _law_places, 5 _law_row, 6 _law_place_here, 7 _law_number, 8 _law_k
abbrev N_q_standing : List Str := ["_law_deck_here", "_law_cast", "_law_many", "_law_rows", "_law_places", "_law_row", "_law_place_here", "_law_number", "_law_k"]
theorem sc_q_standing : FnScope ["_law_deck_here", "_law_cast", "_law_many", "_law_rows", "_law_places", "_law_row", "_law_place_here", "_law_number", "_law_k"] ["_law_deck_here", "_law_cast"] (defScope s_q_standing) := ⟨rfl, rfl, rfl, by decide +kernel, rfl, by decide +kernel, by decide +kernel⟩
theorem ok_standing (M : Md K mg) (D : DefAt K mg "_law_standing" s_q_standing ["_law_deck_here", "_law_cast"]) (C_q_draw : Cal P w K mg base 1 "_law_draw" ["_law_deck_here", "_law_most"] (spDraw K))
    (C_q_more : Cal P w K mg base 2 "_law_more" ["_law_deck_here"] (spMore K)) : Cal P w K mg base 3 "_law_standing" ["_law_deck_here", "_law_cast"] (spStanding K) := by
  refine D.okW (k := 2) sc_q_standing (fun _ _ => rfl) fun f cdv A outer s H E hr => ⟨_, (pss_cons (ps_set (i := 2) sc_q_standing.nd rfl (by first | exact Or.inl rfl | exact Or.inr rfl) (pe_ix (ix_all K) (pe_lst (pa_cons pe_int (pa_cons pe_int (pa_cons pe_int (pa_cons pe_int (pa_cons pe_int (pa_cons pe_int pa_nil))))))) (pe_cal C_q_draw hr (by omega) (by rfl) (pa_cons (pv 0) (pa_cons pe_int pa_nil))) (fun _ _ => rfl)))
  (pss_cons (ps_set (i := 3) sc_q_standing.nd rfl (by first | exact Or.inl rfl | exact Or.inr rfl) (pe_callTy (cb_tuple K) (by rfl) M.tuple_ bt_tuple (pa_cons (pe_lc (own := [("_law_row", 5)]) rfl sc_q_standing.nd (pi_seq K (pe_ix (ix_all K) (pv 1) pe_int (fun _ _ => rfl))) (blkOk_by (N := N_q_standing) (sc := defScope s_q_standing) (by decide +kernel)) (fun _ _ _ _ _ => (pg_name (i := 5) sc_q_standing.nd rfl (by first | exact Or.inl rfl | exact Or.inr rfl))) (fun _ _ _ _ _ => pts_nil) (fun _ _ _ _ _ => (pe_callTy (cb_tuple K) (by rfl) M.tuple_ bt_tuple (pa_cons (pe_lc (own := [("_law_k", 8)]) rfl sc_q_standing.nd (pi_range1 (by rfl) M.range_ (pa_cons (pv 2) pa_nil)) (blkOk_by (N := N_q_standing) (sc := relS (lcS s_q_standing) (defScope s_q_standing)) (by decide +kernel)) (fun _ _ _ _ _ => (pg_name (i := 8) sc_q_standing.nd rfl (by first | exact Or.inl rfl | exact Or.inr rfl))) (fun _ _ _ _ _ => pts_nil) (fun _ _ _ _ _ => (pe_cal C_q_more hr (by omega) (by rfl) (pa_cons (pv 0) pa_nil)))) pa_nil)))) pa_nil)))
  (pss_cons (ps_set (i := 4) sc_q_standing.nd rfl (by first | exact Or.inl rfl | exact Or.inr rfl) (pe_callTy (cb_tuple K) (by rfl) M.tuple_ bt_tuple (pa_cons (pe_lc (own := [("_law_place_here", 6)]) rfl sc_q_standing.nd (pi_seq K (pe_ix (ix_all K) (pv 1) pe_int (fun _ _ => rfl))) (blkOk_by (N := N_q_standing) (sc := defScope s_q_standing) (by decide +kernel)) (fun _ _ _ _ _ => (pg_name (i := 6) sc_q_standing.nd rfl (by first | exact Or.inl rfl | exact Or.inr rfl))) (fun _ _ _ _ _ => pts_nil) (fun _ _ _ _ _ => (pe_cal C_q_draw hr (by omega) (by rfl) (pa_cons (pv 0) (pa_cons (pe_op (op_plus K) (pv 2) pe_int) pa_nil))))) pa_nil)))
  (pss_one (ps_ret (pe_tup (pa_cons (pv 3) (pa_cons (pv 4) (pa_cons (pe_callTy (cb_tuple K) (by rfl) M.tuple_ bt_tuple (pa_cons (pe_lc (own := [("_law_number", 7)]) rfl sc_q_standing.nd (pi_seq K (pe_ix (ix_all K) (pv 1) pe_int (fun _ _ => rfl))) (blkOk_by (N := N_q_standing) (sc := defScope s_q_standing) (by decide +kernel)) (fun _ _ _ _ _ => (pg_name (i := 7) sc_q_standing.nd rfl (by first | exact Or.inl rfl | exact Or.inr rfl))) (fun _ _ _ _ _ => pts_nil) (fun _ _ _ _ _ => (pe_cal C_q_more hr (by omega) (by rfl) (pa_cons (pv 0) pa_nil)))) pa_nil)) pa_nil))))))))), fun W T r hp => ?_⟩
  have ok : NmOk T [] := hp
  clear hp
  have hrn := ok.rn
  have hpn := ok.pn
  have hnn := ok.nn
  show EvS W _ (startG 9 [.v (.ref W.dk), castD T]) (r + 421) No (fun r' d => r ≤ r' ∧ ∃ T' : Wl, T'.rows = T.rows ∧ T'.places = T.places ∧ T'.nums = T.nums ∧ T'.Ok ∧ d = standD T')
  refine es_asg (P := fun d => ∃ m : Nat, m ≤ 4 ∧ d = .v (.int (m : Int))) (ev_ixLP (ds := [.v (.int 2), .v (.int 1), .v (.int 3), .v (.int 0), .v (.int 2), .v (.int 4)]) (p := fun v => 0 ≤ v ∧ v < 6) (ev_lst (ea_cons ev_c (ea_cons ev_c (ea_cons ev_c (ea_cons ev_c (ea_cons ev_c (ea_cons ev_c ea_nil)))))))
      (ev_draw (r := r + 420) (ev_var rfl) ev_c (by decide) (by decide)) fun i hi => ?_) fun d z => ?_
  · have h2 : i = 0 ∨ i = 1 ∨ i = 2 ∨ i = 3 ∨ i = 4 ∨ i = 5 := by omega
    rcases h2 with rfl | rfl | rfl | rfl | rfl | rfl
    · exact ⟨_, rfl, 2, by omega, rfl⟩
    · exact ⟨_, rfl, 1, by omega, rfl⟩
    · exact ⟨_, rfl, 3, by omega, rfl⟩
    · exact ⟨_, rfl, 0, by omega, rfl⟩
    · exact ⟨_, rfl, 2, by omega, rfl⟩
    · exact ⟨_, rfl, 4, by omega, rfl⟩
  · obtain ⟨m, hm, rfl⟩ := z
    refine es_asg (r1 := r + 100) (P := fun d => ∃ rv : List (List Int), rv.length = T.rows.length ∧ (∀ l ∈ rv, l.length = m) ∧ d = .tup (rv.map fun l => .tup (intsD l)))
      (ev_tupleOfP (P1 := fun d => ∃ rv : List (List Int), rv.length = T.rows.length ∧ (∀ l ∈ rv, l.length = m) ∧ d = .lst (rv.map fun l => .tup (intsD l)))
        (el_draw (PL := AtL (strsD T.rows)) (P1 := fun d => ∃ l : List Int, l.length = m ∧ d = .tup (intsD l)) 16 320 (ei_sqT (Ev.unf (ev_ixT (d := .ftup (strsD T.rows)) (ev_var rfl) ev_c rfl))) (fun ds e => ?_) (fun W' d r' hdk => ⟨_, eg_name (by decide), ev_tupleOfP (P1 := fun d => ∃ l : List Int, l.length = m ∧ d = .lst (intsD l))
          (el_draw (PL := fun ds => ds = nums 0 m) (P1 := In fun _ => True) 4 16 (ei_rng1 (p := fun v => v = (m : Int)) (r1 := r' + 16) ((ev_var rfl).imp fun d e => ⟨_, e, rfl⟩) fun n hn => ⟨by omega, by omega, by rw [hn]; rfl⟩) (fun ds e => ?_) (fun W2 d2 r2 hdk2 => ⟨_, eg_name (by decide), ev_more (r := r2) (ev_var (by rw [hdk2, hdk]; rfl))⟩) fun ds es e h1 h2 => ?_) fun d z => ?_⟩) fun ds es e h1 h2 => ?_) fun d z => ?_) fun d z => ?_
    · have e : ds = strsD T.rows := e
      rw [e, strsD_len]
      omega
    · rw [e, nums_len]
      omega
    · obtain ⟨l, h3, _, h4⟩ := ints_list h2
      rw [e, nums_len] at h1
      exact ⟨l, by omega, by rw [h4]⟩
    · obtain ⟨l, h3, rfl⟩ := z
      exact ⟨_, rfl, l, h3, rfl⟩
    · obtain ⟨rv, h3, h4, h5⟩ := rows_list h2
      have e : ds = strsD T.rows := e
      rw [e, strsD_len] at h1
      exact ⟨rv, by omega, h4, by rw [h5]⟩
    · obtain ⟨rv, h3, h4, rfl⟩ := z
      exact ⟨_, rfl, rv, h3, h4, rfl⟩
    · obtain ⟨rv, h3, h4, rfl⟩ := z
      refine es_asg (r1 := r + 80) (P := fun d => ∃ pv : List Int, pv.length = T.places.length ∧ (∀ i ∈ pv, 0 ≤ i ∧ i ≤ (m : Int)) ∧ d = .tup (intsD pv))
        (ev_tupleOfP (P1 := fun d => ∃ pv : List Int, pv.length = T.places.length ∧ (∀ i ∈ pv, 0 ≤ i ∧ i ≤ (m : Int)) ∧ d = .lst (intsD pv))
          (el_draw (PL := AtL (strsD T.places)) (P1 := In fun v => 0 ≤ v ∧ v ≤ (m : Int)) 1 20 (ei_sqT (Ev.unf (ev_ixT (d := .ftup (strsD T.places)) (ev_var rfl) ev_c rfl))) (fun ds e => ?_) (fun W' d r' hdk => ⟨_, eg_name (by decide),
            (ev_draw (r := r') (m := (m : Int) + 1) (ev_var (by rw [hdk]; rfl)) (ev_addI (ev_var rfl) ev_c) (by omega) (by omega)).imp fun d z => ?_⟩) fun ds es e h1 h2 => ?_) fun d z => ?_) fun d z => ?_
      · have e : ds = strsD T.places := e
        rw [e, strsD_len]
        omega
      · obtain ⟨v, rfl, h5, h6⟩ := z
        exact ⟨v, rfl, h5, by omega⟩
      · obtain ⟨l, h5, h6, h7⟩ := ints_list h2
        have e : ds = strsD T.places := e
        rw [e, strsD_len] at h1
        exact ⟨l, by omega, h6, by rw [h7]⟩
      · obtain ⟨pv, h5, h6, rfl⟩ := z
        exact ⟨_, rfl, pv, h5, h6, rfl⟩
      · obtain ⟨pv, h5, h6, rfl⟩ := z
        refine es_ret (r1 := r) (P := fun d => ∃ T' : Wl, T'.rows = T.rows ∧ T'.places = T.places ∧ T'.nums = T.nums ∧ T'.Ok ∧ d = standD T')
          (ev_tup3P (P1 := At (.tup (rv.map fun l => .tup (intsD l)))) (P2 := At (.tup (intsD pv))) (P3 := fun d => ∃ nv : List Int, nv.length = T.nums.length ∧ d = .tup (intsD nv)) (ev_var rfl) (ev_var rfl)
            (ev_tupleOfP (P1 := fun d => ∃ nv : List Int, nv.length = T.nums.length ∧ d = .lst (intsD nv)) (el_draw (PL := AtL (strsD T.nums)) (P1 := In fun _ => True) 4 80 (ei_sqT (Ev.unf (ev_ixT (d := .ftup (strsD T.nums)) (ev_var rfl) ev_c rfl))) (fun ds e => ?_) (fun W' d r' hdk => ⟨_, eg_name (by decide), ev_more (r := r') (ev_var (by rw [hdk]; rfl))⟩) fun ds es e h1 h2 => ?_) fun d z => ?_)
            fun a b c h1 h2 h7 => ?_) fun d e => ⟨Nat.le_refl _, e⟩
        · have e : ds = strsD T.nums := e
          rw [e, strsD_len]
          omega
        · obtain ⟨l, h7, _, h8⟩ := ints_list h2
          have e : ds = strsD T.nums := e
          rw [e, strsD_len] at h1
          exact ⟨l, by omega, by rw [h8]⟩
        · obtain ⟨nv, h7, rfl⟩ := z
          exact ⟨_, rfl, nv, h7, rfl⟩
        · have e1 : a = .tup (rv.map fun l => .tup (intsD l)) := h1
          have e2 : b = .tup (intsD pv) := h2
          subst e1 e2
          obtain ⟨nv, h7, rfl⟩ := h7
          exact ⟨⟨T.rows, T.places, T.nums, m, rv, pv, nv⟩, rfl, rfl, rfl, ⟨h3, h4, ok.rows, by show T.rows.length ≤ 100; omega, h5, by show T.places.length ≤ 100; omega, h6, h7, by show T.nums.length ≤ 100; omega, by show m ≤ 20; omega⟩, rfl⟩
end EP

/-! ## KF18 -/
namespace EP
open PySem PySem.Spec PyProof.Rows L2
variable {P : Program} {w : World} {K : PySem.W.Frag} {mg : Str → Option Value} {base : Heap}
section
variable {W : Wd K} {Γ : Gm} {r n i : Nat} {g : Key → Option Int} {s : TS} {ND : NdT} {R : Nat → Dt → Prop}
/-- the dict is one's own no more -/
theorem ed_out (h : EvS W s (Γ.set i (some (.env n g))) r No R) : EvD W i s Γ r n g ND R := fun σ H0 H E p kvs o I hnx hrt =>
  h σ H E o.sl I (fun _ _ _ _ _ _ z => z.elim) fun v H' r' d e i' rr dv => hrt v H' r' d (o.ex.trans e) i' rr dv
end
def jOf : Dt → Int
  | .v (.int i) => i
  | _ => 0
/-! ### right -/
def spRight (K : PySem.W.Frag) : Sp := SpW (fun W : Wd K => W) (fun W (_ : Unit) => [.v (.ref W.dk)]) (fun _ => True) (fun _ => 749) (fun _ => At (.v (.bl true)))
-- slots of _law_right: 0 _law_deck_here, 1 _law_world_here, 2 _law_cast, 3 _law_standing_here, 4 _law_many, 5 _law_spots, 6 _law_k, 7 _law_saying_here, 8 _law_truth
abbrev N_q_right : List Str := ["_law_deck_here", "_law_world_here", "_law_cast", "_law_standing_here", "_law_many", "_law_spots", "_law_k", "_law_saying_here", "_law_truth"]
theorem sc_q_right : FnScope ["_law_deck_here", "_law_world_here", "_law_cast", "_law_standing_here", "_law_many", "_law_spots", "_law_k", "_law_saying_here", "_law_truth"] ["_law_deck_here"] (defScope s_q_right) := ⟨rfl, rfl, rfl, by decide +kernel, rfl, by decide +kernel, by decide +kernel⟩
theorem ok_right (M : Md K mg) (D : DefAt K mg "_law_right" s_q_right ["_law_deck_here"]) (C_q_draw : Cal P w K mg base 1 "_law_draw" ["_law_deck_here", "_law_most"] (spDraw K))
    (C_q_world : Cal P w K mg base 3 "_law_world" ["_law_deck_here"] (spWorld K)) (C_q_standing : Cal P w K mg base 3 "_law_standing" ["_law_deck_here", "_law_cast"] (spStanding K))
    (C_q_saying : Cal P w K mg base 9 "_law_saying" psS (spSaying K 1 309 4 36))
    (C_q_as_much : Cal P w K mg base 16 "_law_as_much" ["_law_cast", "_law_standing_here", "_law_spots", "_law_fact", "_law_strange_here", "_law_turns"] (spMuch K 3 2)) :
    Cal P w K mg base 17 "_law_right" ["_law_deck_here"] (spRight K) := by
  refine D.okW (k := 16) sc_q_right (fun _ _ => rfl) fun f cdv A outer s H E hr => ?_
  have hu := hu_of hr
  refine ⟨_, (pss_cons (ps_set (i := 1) sc_q_right.nd rfl (by first | exact Or.inl rfl | exact Or.inr rfl) (pe_cal C_q_world hr (by omega) (by rfl) (pa_cons (pv 0) pa_nil)))
  (pss_cons (ps_set (i := 2) sc_q_right.nd rfl (by first | exact Or.inl rfl | exact Or.inr rfl) (pe_ix (ix_all K) (pv 1) pe_int (fun _ _ => rfl)))
  (pss_cons (ps_set (i := 3) sc_q_right.nd rfl (by first | exact Or.inl rfl | exact Or.inr rfl) (pe_cal C_q_standing hr (by omega) (by rfl) (pa_cons (pv 0) (pa_cons (pv 2) pa_nil))))
  (pss_cons (ps_set (i := 4) sc_q_right.nd rfl (by first | exact Or.inl rfl | exact Or.inr rfl) (pe_cal C_q_draw hr (by omega) (by rfl) (pa_cons (pv 0) (pa_cons pe_int pa_nil))))
  (pss_cons (ps_set (i := 5) sc_q_right.nd rfl (by first | exact Or.inl rfl | exact Or.inr rfl) pe_dnewK)
  (pss_cons (ps_for PassesOwn.never rfl (pi_range1 (by rfl) M.range_ (pa_cons (pv 4) pa_nil)) (pg_name (i := 6) sc_q_right.nd rfl (by first | exact Or.inl rfl | exact Or.inr rfl)) (pss_one (ps_dput hu (pv 5) (pv 6) (pe_cal C_q_draw hr (by omega) (by rfl) (pa_cons (pv 0) (pa_cons (pe_op (op_plus K) (pe_callB (cb_len K) (by rfl) M.len_ bt_len (pa_cons (pe_ix (ix_all K) (pe_ix (ix_all K) (pv 3) pe_int (fun _ _ => rfl)) pe_int (fun _ _ => rfl)) pa_nil)) pe_int) pa_nil))) rfl)))
  (pss_cons (ps_set (i := 7) sc_q_right.nd rfl (by first | exact Or.inl rfl | exact Or.inr rfl) (pe_cal C_q_saying hr (by omega) (by rfl) (pa_cons (pv 0) (pa_cons (pv 1) (pa_cons (pe_tupRg rfl (by rfl) M.tuple_ (prg_1 (by rfl) M.range_ (pv 4))) (pa_cons pe_int pa_nil))))))
  (pss_cons (ps_for PassesOwn.never rfl (pi_seq K (pe_tup (pa_cons pe_bl (pa_cons pe_bl pa_nil)))) (pg_name (i := 8) sc_q_right.nd rfl (by first | exact Or.inl rfl | exact Or.inr rfl)) (pss_one (ps_if (pt_not (pt_val (pe_cal C_q_as_much hr (by omega) (by rfl) (pa_cons (pv 2) (pa_cons (pv 3) (pa_cons (pv 5) (pa_cons (pe_tup (pa_cons (pv 8) (pa_cons (pv 7) pa_nil))) (pa_cons (pv 4) (pa_cons pe_int pa_nil))))))))) (pss_one (ps_ret pe_bl)) pss_nil)))
  (pss_one (ps_ret pe_bl)))))))))), fun W a r hp => ?_⟩
  show EvS W _ (startG 9 [.v (.ref W.dk)]) (r + 749) No (fun r' d => r ≤ r' ∧ d = .v (.bl true))
  refine es_asg (ev_cdW (Wf := fun W : Wd K => W) (r1 := r + 734) W () (ea_cons (ev_var rfl) ea_nil) (by exact trivial)) fun d z => ?_
  obtain ⟨T0, sp, rfl, ok0, hsp⟩ := z
  refine es_asgD (d := castD T0) (ev_ixT (ds := [castD T0, .tup (strsD sp)]) (ev_var rfl) ev_c rfl) (es_asg (ev_cdW (Wf := fun W : Wd K => W) (r1 := r + 313) W T0 (ea_cons (ev_var rfl) (ea_cons (ev_var rfl) ea_nil)) (by exact ok0)) fun d z => ?_)
  obtain ⟨T, e1, e2, e3, ok, rfl⟩ := z
  have eC : castD T0 = castD T := by
    unfold castD
    rw [e1, e2, e3]
  have eW : wldD T0 sp = wldD T sp := by
    unfold wldD
    rw [eC]
  have okN : NmOk T [] := ⟨by rw [e1]; exact ok0.rows, by rw [e1]; exact ok0.rn, by rw [e2]; exact ok0.pn, by rw [e3]; exact ok0.nn, ok0.bn⟩
  have small := ok.small
  show EvS W _ ([some (.v (.ref W.dk)), some (wldD T0 sp), some (castD T0), some (standD T), none, none, none, none, none] : Gm) (r + 313) No (fun r' d => r ≤ r' ∧ d = .v (.bl true))
  rw [eW, eC]
  refine es_asg (ev_draw (r := r + 312) (m := 4) (ev_var rfl) ev_c (by decide) (by decide)) fun d z => ?_
  obtain ⟨mm, rfl, hm0, hm1⟩ := z
  obtain ⟨m, rfl⟩ : ∃ m : Nat, mm = (m : Int) := ⟨mm.toNat, by omega⟩
  let Gs : Option Dt → Option Dt → Option Dt → Option Dt → Gm := fun sp' a b c => [some (.v (.ref W.dk)), some (wldD T sp), some (castD T), some (standD T), some (.v (.int (m : Int))), sp', a, b, c]
  have bdl : ((List.range m).map fun (i : Nat) => (.inl (i : Int) : Key)).length = m := by rw [List.length_map, List.length_range]
  refine ed_new (ND := fun _ _ _ _ => False) (ll rfl) (ed_seq (ND1 := fun r' n' g' Γ' => r' = r + 309 + (3 - m) ∧ n' = m ∧ (∀ k, dom g' k ↔ ∃ i : Nat, i < m ∧ k = .inl (i : Int)) ∧ EnOk T g' ∧ ∃ a, Γ' = Gs none a none none)
    (ed_for (m := m) (Inv := fun j r' n' g' Γ' => r' = r + 309 + (3 - j) ∧ n' = j ∧ (∀ k, dom g' k ↔ ∃ i : Nat, i < j ∧ k = .inl (i : Int)) ∧ EnOk T g' ∧ ∃ a, Γ' = Gs none a none none) (er_rng1 (ev_var rfl) (by omega)) ⟨rfl, rfl, fun k => ⟨fun h => ?_, fun h => ?_⟩, (show EnOk T (fun _ => none) from fun k i h => nomatch h), _, rfl⟩ (by decide) (fun j r' n' g' Γ' hj z => ?_) fun r' n' g' Γ' z => z) fun r' n' g' Γ' z => ?_) (fun _ _ _ _ z => z.elim)
  · exact absurd h.symm (show ¬ true = false from Bool.noConfusion)
  · obtain ⟨i, h, _⟩ := h
    exact absurd h (Nat.not_lt_zero _)
  · obtain ⟨rfl, rfl, hd, hg, a, rfl⟩ := z
    have e0 : (0 : Int) + (n' : Int) = (n' : Int) := Int.zero_add _
    rw [e0]
    refine ed_put1 (k := .inl (n' : Int)) (jj := jOf) (P := In fun v => 0 ≤ v ∧ v ≤ (T.n : Int)) (r1 := r + 309 + (3 - (n' + 1))) (Ev.less (r1 := r + 309 + (3 - (n' + 1)) + 1) (r2 := r + 309 + (3 - (n' + 1))) ((ev_draw (m := (T.n : Int) + 1) (ev_var rfl) (ev_addI (ev_many ok (ev_var rfl)) ev_c) (by omega) (by omega)).imp fun d z => ?_) (by omega) (Nat.le_refl _)) (fun d z => ?_) (ev_var rfl) (by omega) fun d z => ?_
    · obtain ⟨v, rfl, h1, h2⟩ := z
      exact ⟨v, rfl, h1, by omega⟩
    · obtain ⟨v, rfl, _⟩ := z
      rfl
    · obtain ⟨v, rfl, h1, h2⟩ := z
      refine ⟨rfl, rfl, fun k => ?_, hg.upd h1 h2, _, rfl⟩
      constructor
      · intro h
        by_cases hk : k = .inl (n' : Int)
        · exact ⟨n', by omega, hk⟩
        · have h3 : dom g' k := by
            unfold dom updE at h
            rw [if_neg hk] at h
            exact h
          obtain ⟨i, hi, e⟩ := (hd k).mp h3
          exact ⟨i, by omega, e⟩
      · rintro ⟨i, hi, rfl⟩
        refine dom_upd _ ?_
        by_cases hk : i = n'
        · rw [hk]
          exact .inr rfl
        · exact .inl ((hd _).mpr ⟨i, by omega, rfl⟩)
  · obtain ⟨rfl, rfl, hd, hg, a, rfl⟩ := z
    have er : r + 309 + (3 - n') = r + (3 - n') + 309 := by omega
    rw [er]
    have enum : nums 0 n' = ((List.range n').map fun (i : Nat) => (.inl (i : Int) : Key)).map encK := by
      unfold nums
      rw [List.map_map]
      congr 1
      funext i
      show Dt.v (.int (0 + (i : Int))) = .v (.int (i : Int))
      rw [Int.zero_add]
    refine ed_out (es_asg (ev_sayC (r := r + (3 - n')) (e := 1) (T := T) (bd := (List.range n').map fun (i : Nat) => (.inl (i : Int) : Key)) (sp := sp) (ev_var rfl) (ev_var rfl) (Ev.is (ev_tupRg (ev_var rfl) (by omega)) (congrArg Dt.tup enum)) ev_c ⟨⟨okN.rows, okN.rn, okN.pn, okN.nn, by rw [bdl]; omega⟩, by rw [bdl]; omega, hsp⟩) fun d z => ?_)
    obtain ⟨S, rfl, hS, hsl⟩ := z
    have wf : Wf T true (3 + 1) (dom g') S := hS.mono (Nat.le_refl _) (fun z => z) fun k hk => by
      obtain ⟨i, hi, rfl⟩ := List.mem_map.mp hk
      exact (hd _).mpr ⟨i, List.mem_range.mp hi, rfl⟩
    have hlt : ∀ i, dom g' (.inl i) → i < (n' : Int) := fun i h => by
      obtain ⟨j, hj, e⟩ := (hd _).mp h
      have e := Sum.inl.inj e
      omega
    refine es_seq (N1 := fun r' _ => r' = r + (3 - n')) (es_for (vs := [8]) (Inv := fun _ r' Γ' => r' = r + (3 - n') ∧ ∃ b, Γ' = [some (.v (.ref W.dk)), some (wldD T sp), some (castD T), some (standD T), some (.v (.int (n' : Int))), some (.env n' g'), a, some (enc S), b])
      (ei_sqT (ds := [.v (.bl true), .v (.bl false)]) (ev_tup (ea_cons ev_c (ea_cons ev_c ea_nil)))) ⟨rfl, _, rfl⟩ (fun i d r' Γ' hd z => ?_) fun r' Γ' z => z.1) fun r' Γ' z => ?_
    · obtain ⟨rfl, b, rfl⟩ := z
      obtain ⟨tr, rfl⟩ : ∃ tr, d = .v (.bl tr) := by
        match i, hd with
        | 0, hd => exact ⟨true, (Option.some.inj hd).symm⟩
        | 1, hd => exact ⟨false, (Option.some.inj hd).symm⟩
        | i + 2, hd => exact nomatch hd
      refine ⟨_, eg_name (by decide), es_if (et_not (et_B (ev_cd (T, n', g', (tr, S), (n' : Int)) (ea_cons (ev_var rfl) (ea_cons (ev_var rfl) (ea_cons (ev_var rfl) (ea_cons (ev_tup (ea_cons (ev_var rfl) (ea_cons (ev_var rfl) ea_nil))) (ea_cons (ev_var rfl) (ea_cons ev_c ea_nil)))))) ⟨ok, hg, hlt, wf, show sl S + 4 * 2 ≤ 60 by omega, show n' + 2 * 2 ≤ 900 by omega⟩))) (fun h => ?_) fun _ => es_next ⟨rfl, _, rfl⟩⟩
      have h : true = !true := h
      exact absurd h.symm Bool.false_ne_true
    · subst z
      exact es_ret (P := At (.v (.bl true))) ev_c fun d e => ⟨by omega, e⟩
/-! ### the script, the deck -/
def spCell (K : PySem.W.Frag) : Sp := fun vs H Q _ => ∃ (a : Addr) (ns : List Int) (k : Nat), vs = [.ref a, .int (k : Int)] ∧ SqL K H a (ns.map V.int) ∧ Q (.int (ns.getD k 0)) H
-- slots of _law_cell_at: 0 _law_script, 1 _law_k
abbrev N_q_cell_at : List Str := ["_law_script", "_law_k"]
theorem sc_q_cell_at : FnScope ["_law_script", "_law_k"] ["_law_script", "_law_k"] (defScope s_q_cell_at) := ⟨rfl, rfl, rfl, by decide +kernel, rfl, by decide +kernel, by decide +kernel⟩
theorem ok_cell_at (M : Md K mg) (D : DefAt K mg "_law_cell_at" s_q_cell_at ["_law_script", "_law_k"]) : Cal P w K mg base 1 "_law_cell_at" ["_law_script", "_law_k"] (spCell K) := by
  refine D.ok (k := 0) sc_q_cell_at (fun vs H Q E h => ?_) fun f cdv A outer s H E hr => ⟨_, (pss_cons (ps_if (pt_cmpR op_lt (pv 1) (pe_callB (cb_len K) (by rfl) M.len_ bt_len (pa_cons (pv 0) pa_nil)) (nomark _)) (pss_one (ps_ret (pe_ix (ix_all K) (pv 0) (pv 1) (fun _ _ => rfl)))) pss_nil)
  (pss_one (ps_ret pe_int))), fun vs Q h => ?_⟩
  · obtain ⟨a, ns, k, rfl, _⟩ := h
    rfl
  · obtain ⟨a, ns, k, rfl, hS, q⟩ := h
    refine ⟨_, rfl, _, rfl, a, _, rfl, .inl hS, _, _, rfl, rfl, _, rfl, ?_⟩
    rw [List.length_map]
    by_cases hk : (k : Int) < (ns.length : Int)
    · rw [decide_eq_true hk]
      have hk' : k < ns.length := by omega
      refine iteT ⟨_, rfl, _, rfl, .inl ⟨_, _, _, _, rfl, rfl, hS, atI_nat (v := .int (ns.getD k 0)) ?_, q⟩⟩
      rw [List.getElem?_map, List.getElem?_eq_getElem hk', List.getD_eq_getElem?_getD, List.getElem?_eq_getElem hk']
      rfl
    · rw [decide_eq_false hk]
      have e : ns.getD k 0 = 0 := by
        rw [List.getD_eq_getElem?_getD, List.getElem?_eq_none (by omega)]
        rfl
      rw [e] at q
      exact iteF q
def spDeck : Sp := fun vs H Q _ => ∃ c : Int, vs = [.int c] ∧ ∀ p n0 n2, H p = none → 0 ≤ n0 → 0 ≤ n2 → n2 < 2147483647 → Q (.ref p) (L2.upd H p (Deck n0 0 n2))
-- slots of _law_deck: 0 _law_cell
abbrev N_q_deck : List Str := ["_law_cell"]
theorem sc_q_deck : FnScope ["_law_cell"] ["_law_cell"] (defScope s_q_deck) := ⟨rfl, rfl, rfl, by decide +kernel, rfl, by decide +kernel, by decide +kernel⟩
theorem ok_deck (M : Md K mg) (D : DefAt K mg "_law_deck" s_q_deck ["_law_cell"]) : Cal P w K mg base 1 "_law_deck" ["_law_cell"] spDeck := by
  refine D.ok (k := 0) sc_q_deck (fun vs H Q E h => ?_) fun f cdv A outer s H E hr => ⟨_, (pss_cons (ps_if (pt_cmpR op_lt (pv 0) (pe_op op_pow pe_int pe_int) (nomark _)) (pss_one (ps_ret (pe_lst (pa_cons pe_int (pa_cons pe_int (pa_cons (pe_op op_mod (pv 0) pe_int) pa_nil)))))) pss_nil)
  (pss_one (ps_ret (pe_lst (pa_cons (pv 0) (pa_cons pe_int (pa_cons (pe_op op_mod (pv 0) pe_int) pa_nil))))))), fun vs Q h => ?_⟩
  · obtain ⟨c, rfl, _⟩ := h
    rfl
  · obtain ⟨c, rfl, q⟩ := h
    have m0 : 0 ≤ c % 2147483647 := Int.emod_nonneg _ (by decide)
    have m1 : c % 2147483647 < 2147483647 := Int.emod_lt_of_pos _ (by decide)
    refine ⟨_, rfl, 10, 18, rfl, rfl, ⟨by decide, by decide, by decide⟩, c, _, rfl, rfl, _, rfl, ?_⟩
    have e : ((10 : Int) ^ (18 : Int).toNat) = 1000000000000000000 := by decide +kernel
    by_cases hk : c < (10 : Int) ^ (18 : Int).toNat
    · rw [decide_eq_true hk]
      exact iteT ⟨_, rfl, _, 2147483647, rfl, rfl, (show (0 : Int) < 2147483647 by decide), by rw [sizeLine_eq]; exact ll rfl, fun p np => q p 0 (c % 2147483647) np (Int.le_refl _) m0 m1⟩
    · rw [decide_eq_false hk]
      rw [e] at hk
      exact iteF ⟨_, rfl, _, rfl, _, 2147483647, rfl, rfl, (show (0 : Int) < 2147483647 by decide), by rw [sizeLine_eq]; exact ll rfl, fun p np => q p c (c % 2147483647) np (by omega) m0 m1⟩
end EP

/-! ## KF19 -/
namespace EP
open PySem PySem.Spec PyProof.Rows L2
variable {P : Program} {w : World} {K : PySem.W.Frag} {mg : Str → Option Value} {base : Heap}
/-- a place with nothing that may change -/
def W0 (K : PySem.W.Frag) : Wd K where
  M := fun _ => False
  I := fun r _ => r = 0
  dk := 0
  alive := fun _ _ _ _ m => m.elim
  keep := fun _ _ _ i _ => i
  anti := fun _ _ _ i h => by omega
  draw := fun _ _ i => by omega
/-- a deck at p, budget to a thousand -/
def Wdeck (K : PySem.W.Frag) (p : Addr) : Wd K where
  M := fun a => a = p
  I := fun r H => ∃ n0 n1 n2 : Int, H p = some (Deck n0 n1 n2) ∧ 0 ≤ n0 ∧ 0 ≤ n1 ∧ n1 + (r : Int) ≤ 1000 ∧ 0 ≤ n2 ∧ n2 < 2147483647
  dk := p
  alive := fun r H a i m => by
    obtain ⟨n0, n1, n2, h, _⟩ := i
    rw [m]
    exact ⟨_, h⟩
  keep := fun r H H' i e => by
    obtain ⟨n0, n1, n2, h, q⟩ := i
    exact ⟨n0, n1, n2, e p _ rfl h, q⟩
  anti := fun r r' H i h => by
    obtain ⟨n0, n1, n2, h1, b0, b1, b2, q⟩ := i
    exact ⟨n0, n1, n2, h1, b0, b1, by omega, q⟩
  draw := fun r H i => by
    obtain ⟨n0, n1, n2, h, b0, b1, b2, b3, b4⟩ := i
    exact ⟨rfl, n0, n1, n2, h, b0, b1, by omega, b3, b4, fun m0 m1 h0 h1 => ⟨m0, m1, n2, upd_same, h0, by omega, by omega, b3, b4⟩⟩
def spLawT (K : PySem.W.Frag) : Sp := fun vs H Q _ => ∃ (a : Addr) (ns : List Int), vs = [.ref a] ∧ ns.length ≤ 63 ∧ SqL K H a (ns.map V.int) ∧ ∀ H', Q (.bl true) H'
-- slots of law: 0 _law_script, 1 _law_k
abbrev N_law : List Str := ["_law_script", "_law_k"]
theorem sc_law : FnScope ["_law_script", "_law_k"] ["_law_script"] (defScope s_law) := ⟨rfl, rfl, rfl, by decide +kernel, rfl, by decide +kernel, by decide +kernel⟩
theorem ok_law {f : Addr} {fd : FuncData} (M : Md K mg) (F : FunD K "law" "law" (defArgs s_law) (defBody s_law) (defScope s_law) [] [] f fd) (C_q_right : Cal P w K mg base 17 "_law_right" ["_law_deck_here"] (spRight K))
    (C_q_deck : Cal P w K mg base 1 "_law_deck" ["_law_cell"] spDeck) (C_q_cell_at : Cal P w K mg base 1 "_law_cell_at" ["_law_script", "_law_k"] (spCell K)) : FnOk P w K mg base CX0 18 f fd ["_law_script"] (spLawT K) := by
  refine F.ok (k := 17) sc_law (fun vs H Q E h => ?_) fun cdv A outer s H vs Q E hr h => ⟨_, PSs.nox (pss_cons (ps_for PassesOwn.never rfl (pi_range1 (by rfl) M.range_ (pa_cons (pe_callB (call_max2 rfl) (by rfl) M.max_ bt_max (pa_cons pe_int (pa_cons (pe_callB (call_min2 rfl) (by rfl) M.min_ bt_min (pa_cons (pe_callB (cb_len K) (by rfl) M.len_ bt_len (pa_cons (pv 0) pa_nil)) (pa_cons pe_int pa_nil))) pa_nil))) pa_nil)) (pg_name (i := 1) sc_law.nd rfl (by first | exact Or.inl rfl | exact Or.inr rfl)) (pss_one (ps_if (pt_not (pt_val (pe_cal C_q_right hr (by omega) (by rfl) (pa_cons (pe_cal C_q_deck hr (by omega) (by rfl) (pa_cons (pe_cal C_q_cell_at hr (by omega) (by rfl) (pa_cons (pv 0) (pa_cons (pv 1) pa_nil))) pa_nil)) pa_nil)))) (pss_one (ps_ret pe_bl)) pss_nil)))
  (pss_one (ps_ret pe_bl))), ?_⟩
  · obtain ⟨a, ns, rfl, _⟩ := h
    rfl
  · obtain ⟨a, ns, rfl, hl, hS, q⟩ := h
    have hlm : (ns.map V.int).length = ns.length := List.length_map _
    refine ⟨_, rfl, a, _, rfl, .inl hS, _, 6, rfl, 1, _, rfl, _, rfl, ?_, ?_, ?_⟩
    · rw [hlm]
      repeat' split
      all_goals omega
    · rw [hlm]
      repeat' split
      all_goals omega
    · refine for_it walk_range (fun k σ' H' => (W0 K).Ex H H' ∧ σ'[0]? = some (some (.ref a)) ∧ σ'.length = 2) ⟨.refl, rfl, rfl⟩ (fun _ _ _ _ _ => trivial) (fun k x σ' H' H'' hk z y => ?_) fun σ' H' z => q H'
      obtain ⟨e, s0, sl⟩ := z
      obtain ⟨rfl, rfl⟩ := y
      have hS' : SqL K H'' a (ns.map V.int) := sql_mono (W := W0 K) (fun z => z) e hS
      have s0' : (σ'.set 1 (some (.int (0 + (k : Int)))))[0]? = some (some (.ref a)) := by
        rw [List.getElem?_set_ne (by decide)]
        exact s0
      refine ⟨_, s0', _, set_get (by rw [sl]; decide), a, ns, k, (show [V.ref a, V.int (0 + (k : Int))] = [V.ref a, V.int (k : Int)] by rw [Int.zero_add]), hS', ns.getD k 0, rfl, fun p n0 n2 np b0 b2 b3 => ?_⟩
      refine ⟨Wdeck K p, (), 0, .cons (.v _) .nil, trivial, ⟨n0, 0, n2, upd_same, b0, Int.le_refl _, by decide, b2, b3⟩, fun v H2 d e2 I2 pd dv => ?_⟩
      have pd : d = .v (.bl true) := pd
      subst pd
      have ev := dv.v_eq
      subst ev
      refine ⟨true, rfl, iteF ⟨fun b o _ h1 => ?_, s0', by rw [List.length_set]; exact sl⟩⟩
      have h2 := e b o (fun z => z) h1
      refine e2 b o (fun z => ?_) ?_
      · have z : b = p := z
        rw [z, np] at h2
        exact nomatch h2
      · rw [upd_ne (ne_of_none h2 np)]
        exact h2
end EP

/-! ## KHead -/
namespace EP
open PySem PySem.Spec PyProof.Rows L2

def d_place_for : He.DefD := ⟨("place_for", none), "place_for", "place_for", defArgs s_place_for, defBody s_place_for, defScope s_place_for, [], []⟩
def d_sum_for : He.DefD := ⟨("sum_for", none), "sum_for", "sum_for", defArgs s_sum_for, defBody s_sum_for, defScope s_sum_for, [], []⟩
def d_put_for : He.DefD := ⟨("put_for", none), "put_for", "put_for", defArgs s_put_for, defBody s_put_for, defScope s_put_for, [], []⟩
def d_said_by : He.DefD := ⟨("said_by", none), "said_by", "said_by", defArgs s_said_by, defBody s_said_by, defScope s_said_by, [], []⟩
def d_opened_apart : He.DefD := ⟨("opened_apart", none), "opened_apart", "opened_apart", defArgs s_opened_apart, defBody s_opened_apart, defScope s_opened_apart, [], []⟩
def d_opened_next : He.DefD := ⟨("opened_next", none), "opened_next", "opened_next", defArgs s_opened_next, defBody s_opened_next, defScope s_opened_next, [], []⟩
def d_opened_same : He.DefD := ⟨("opened_same", none), "opened_same", "opened_same", defArgs s_opened_same, defBody s_opened_same, defScope s_opened_same, [], []⟩
def d_opened_joined : He.DefD := ⟨("opened_joined", none), "opened_joined", "opened_joined", defArgs s_opened_joined, defBody s_opened_joined, defScope s_opened_joined, [], []⟩
def d_opened : He.DefD := ⟨("opened", none), "opened", "opened", defArgs s_opened, defBody s_opened, defScope s_opened, [], []⟩
def d_q_cell_at : He.DefD := ⟨("_law_cell_at", none), "_law_cell_at", "_law_cell_at", defArgs s_q_cell_at, defBody s_q_cell_at, defScope s_q_cell_at, [], []⟩
def d_q_deck : He.DefD := ⟨("_law_deck", none), "_law_deck", "_law_deck", defArgs s_q_deck, defBody s_q_deck, defScope s_q_deck, [], []⟩
def d_q_draw : He.DefD := ⟨("_law_draw", none), "_law_draw", "_law_draw", defArgs s_q_draw, defBody s_q_draw, defScope s_q_draw, [], []⟩
def d_q_names : He.DefD := ⟨("_law_names", none), "_law_names", "_law_names", defArgs s_q_names, defBody s_q_names, defScope s_q_names, [], []⟩
def d_q_world : He.DefD := ⟨("_law_world", none), "_law_world", "_law_world", defArgs s_q_world, defBody s_q_world, defScope s_q_world, [], []⟩
def d_q_more : He.DefD := ⟨("_law_more", none), "_law_more", "_law_more", defArgs s_q_more, defBody s_q_more, defScope s_q_more, [], []⟩
def d_q_spot : He.DefD := ⟨("_law_spot", none), "_law_spot", "_law_spot", defArgs s_q_spot, defBody s_q_spot, defScope s_q_spot, [], []⟩
def d_q_sum : He.DefD := ⟨("_law_sum", none), "_law_sum", "_law_sum", defArgs s_q_sum, defBody s_q_sum, defScope s_q_sum, [], []⟩
def d_q_atom : He.DefD := ⟨("_law_atom", none), "_law_atom", "_law_atom", defArgs s_q_atom, defBody s_q_atom, defScope s_q_atom, [], []⟩
def d_q_joined : He.DefD := ⟨("_law_joined", none), "_law_joined", "_law_joined", defArgs s_q_joined, defBody s_q_joined, defScope s_q_joined, [], []⟩
def d_q_body : He.DefD := ⟨("_law_body", none), "_law_body", "_law_body", defArgs s_q_body, defBody s_q_body, defScope s_q_body, [], []⟩
def d_q_leaf : He.DefD := ⟨("_law_leaf", none), "_law_leaf", "_law_leaf", defArgs s_q_leaf, defBody s_q_leaf, defScope s_q_leaf, [], []⟩
def d_q_saying : He.DefD := ⟨("_law_saying", none), "_law_saying", "_law_saying", defArgs s_q_saying, defBody s_q_saying, defScope s_q_saying, [], []⟩
def d_q_place : He.DefD := ⟨("_law_place", none), "_law_place", "_law_place", defArgs s_q_place, defBody s_q_place, defScope s_q_place, [], []⟩
def d_q_worth : He.DefD := ⟨("_law_worth", none), "_law_worth", "_law_worth", defArgs s_q_worth, defBody s_q_worth, defScope s_q_worth, [], []⟩
def d_q_compared : He.DefD := ⟨("_law_compared", none), "_law_compared", "_law_compared", defArgs s_q_compared, defBody s_q_compared, defScope s_q_compared, [], []⟩
def d_q_everywhere : He.DefD := ⟨("_law_everywhere", none), "_law_everywhere", "_law_everywhere", defArgs s_q_everywhere, defBody s_q_everywhere, defScope s_q_everywhere, [], []⟩
def d_q_holds : He.DefD := ⟨("_law_holds", none), "_law_holds", "_law_holds", defArgs s_q_holds, defBody s_q_holds, defScope s_q_holds, [], []⟩
def d_q_standing : He.DefD := ⟨("_law_standing", none), "_law_standing", "_law_standing", defArgs s_q_standing, defBody s_q_standing, defScope s_q_standing, [], []⟩
def d_q_strange : He.DefD := ⟨("_law_strange", none), "_law_strange", "_law_strange", defArgs s_q_strange, defBody s_q_strange, defScope s_q_strange, [], []⟩
def d_q_is_so : He.DefD := ⟨("_law_is_so", none), "_law_is_so", "_law_is_so", defArgs s_q_is_so, defBody s_q_is_so, defScope s_q_is_so, [], []⟩
def d_q_spots_by : He.DefD := ⟨("_law_spots_by", none), "_law_spots_by", "_law_spots_by", defArgs s_q_spots_by, defBody s_q_spots_by, defScope s_q_spots_by, [], []⟩
def d_q_some_way : He.DefD := ⟨("_law_some_way", none), "_law_some_way", "_law_some_way", defArgs s_q_some_way, defBody s_q_some_way, defScope s_q_some_way, [], []⟩
def d_q_as_much : He.DefD := ⟨("_law_as_much", none), "_law_as_much", "_law_as_much", defArgs s_q_as_much, defBody s_q_as_much, defScope s_q_as_much, [], []⟩
def d_q_right : He.DefD := ⟨("_law_right", none), "_law_right", "_law_right", defArgs s_q_right, defBody s_q_right, defScope s_q_right, [], []⟩
def d_law : He.DefD := ⟨("law", none), "law", "law", defArgs s_law, defBody s_law, defScope s_law, [], []⟩
def fnL : List He.DefD := [d_place_for, d_sum_for, d_put_for, d_said_by, d_opened_apart, d_opened_next, d_opened_same, d_opened_joined, d_opened, d_q_cell_at, d_q_deck, d_q_draw, d_q_names, d_q_world, d_q_more, d_q_spot, d_q_sum, d_q_atom, d_q_joined, d_q_body, d_q_leaf, d_q_saying, d_q_place, d_q_worth, d_q_compared, d_q_everywhere, d_q_holds, d_q_standing, d_q_strange, d_q_is_so, d_q_spots_by, d_q_some_way, d_q_as_much, d_q_right, d_law]
def faL : List He.Fa := [.glo "place_for", .glo "sum_for", .glo "put_for", .glo "said_by", .glo "opened_apart", .glo "opened_next", .glo "opened_same", .glo "opened_joined", .glo "opened", .glo "_law_cell_at", .glo "_law_deck", .glo "_law_draw", .glo "_law_names", .glo "_law_world", .glo "_law_more", .glo "_law_spot", .glo "_law_sum", .glo "_law_atom", .glo "_law_joined", .glo "_law_body", .glo "_law_leaf", .glo "_law_saying", .glo "_law_place", .glo "_law_worth", .glo "_law_compared", .glo "_law_everywhere", .glo "_law_holds", .glo "_law_standing", .glo "_law_strange", .glo "_law_is_so", .glo "_law_spots_by", .glo "_law_some_way", .glo "_law_as_much", .glo "_law_right", .glo "law", .glo "COMPARED", .glo "OF_PLACES", .free "len", .free "range", .free "int", .free "tuple", .free "sorted", .free "isinstance", .free "str", .free "dict", .free "zip", .free "set", .free "list", .free "max", .free "min"]
def exB (K : PySem.W.Frag) : Bool := He.tupB K "COMPARED" [.str "most", .str "less", .str "same", .str "unlike"] && He.tupB K "OF_PLACES" [.str "ahead", .str "here", .str "next"]
abbrev R : PySem.W.OpenRow := PySem.W.OpenLaw.row PySem.Challenge.rw_eachplace_k35_whole_opened_is_as_much
abbrev hk : PySem.W.Hook := He.hookX 4 faL fnL [] [] exB
def ob (s : PySem.W.SharedT) : He.AlX := He.obsX 4 faL fnL [] [] exB (HandSHeadRun.getT s)
theorem ob_eq (s : PySem.W.SharedT) : ob s = hk.obs s.abs := He.obsX_eq (HandSHeadRun.getT_eq s)
def loose : List Str := (["COMPARED", "OF_PLACES", "place_for", "sum_for", "put_for", "said_by", "opened_apart", "opened_next"] : List Str) ++ (["opened_same", "opened_joined", "opened", "_law_cell_at", "_law_deck", "_law_draw", "_law_names", "_law_world"] : List Str) ++ (["_law_more", "_law_spot", "_law_sum", "_law_atom", "_law_joined", "_law_body", "_law_leaf", "_law_saying"] : List Str) ++ (["_law_place", "_law_worth", "_law_compared", "_law_everywhere", "_law_holds", "_law_standing", "_law_strange", "_law_is_so"] : List Str) ++ (["_law_spots_by", "_law_some_way", "_law_as_much", "_law_right"] : List Str)
theorem run (w : World) : HandSHeadRun.RunEq R (PySem.W.view R.prog [38]) hk ob 1200 loose w := by
  intro os
  kernel_rfl
end EP

/-! ## KEnd -/
namespace EP
open PySem PySem.Spec PyProof.Rows L2
section
variable {K : PySem.W.Frag} {h : Heap} {mg : Str → Option Value}
theorem d_at {d : He.DefD} {x : Str} {st : Stmt} {ps : List Str} (X : K.In h) (G : h.Ns mainGlobals mg) (c : He.SaysD faL fnL K) (hd : d ∈ fnL) (hf : .glo x ∈ faL) (e : d = ⟨(x, none), x, x, defArgs st, defBody st, defScope st, [], []⟩)
    (hb : ∀ (kV doc pm : Value) (an : Option Addr) (cdv ct : Value) (us : List Value), us.length = ps.length → bindArgs (PySem.W.fnOf x x (defArgs st) (defBody st) (defScope st) .none kV doc pm an cdv ct) ⟨us, []⟩ = pure (ps.zip us)) : DefAt K mg x st ps := by
  subst e
  obtain ⟨fd, F⟩ := He.SaysD.defs c hd
  exact ⟨⟨_, fd, F, He.glo_ok X G (He.SaysD.facts c hf), F.bindsN hb⟩⟩
theorem at_place_for (X : K.In h) (G : h.Ns mainGlobals mg) (c : He.SaysD faL fnL K) : DefAt K mg "place_for" s_place_for ["place", "name", "other"] :=
  d_at (d := d_place_for) X G c (List.mem_of_getElem? (i := 0) rfl) (List.mem_of_getElem? (i := 0) rfl) rfl fun _ _ _ _ _ _ us hl => match us, hl with | [_, _, _], _ => rfl
theorem at_sum_for (X : K.In h) (G : h.Ns mainGlobals mg) (c : He.SaysD faL fnL K) : DefAt K mg "sum_for" s_sum_for ["one", "name", "place"] :=
  d_at (d := d_sum_for) X G c (List.mem_of_getElem? (i := 1) rfl) (List.mem_of_getElem? (i := 1) rfl) rfl fun _ _ _ _ _ _ us hl => match us, hl with | [_, _, _], _ => rfl
theorem at_put_for (X : K.In h) (G : h.Ns mainGlobals mg) (c : He.SaysD faL fnL K) : DefAt K mg "put_for" s_put_for ["saying", "name", "place"] :=
  d_at (d := d_put_for) X G c (List.mem_of_getElem? (i := 2) rfl) (List.mem_of_getElem? (i := 2) rfl) rfl fun _ _ _ _ _ _ us hl => match us, hl with | [_, _, _], _ => rfl
theorem at_said_by (X : K.In h) (G : h.Ns mainGlobals mg) (c : He.SaysD faL fnL K) : DefAt K mg "said_by" s_said_by ["row", "word", "one", "other"] :=
  d_at (d := d_said_by) X G c (List.mem_of_getElem? (i := 3) rfl) (List.mem_of_getElem? (i := 3) rfl) rfl fun _ _ _ _ _ _ us hl => match us, hl with | [_, _, _, _], _ => rfl
theorem at_opened_apart (X : K.In h) (G : h.Ns mainGlobals mg) (c : He.SaysD faL fnL K) : DefAt K mg "opened_apart" s_opened_apart ["saying", "strange"] :=
  d_at (d := d_opened_apart) X G c (List.mem_of_getElem? (i := 4) rfl) (List.mem_of_getElem? (i := 4) rfl) rfl fun _ _ _ _ _ _ us hl => match us, hl with | [_, _], _ => rfl
theorem at_opened_next (X : K.In h) (G : h.Ns mainGlobals mg) (c : He.SaysD faL fnL K) : DefAt K mg "opened_next" s_opened_next ["truth", "saying", "strange"] :=
  d_at (d := d_opened_next) X G c (List.mem_of_getElem? (i := 5) rfl) (List.mem_of_getElem? (i := 5) rfl) rfl fun _ _ _ _ _ _ us hl => match us, hl with | [_, _, _], _ => rfl
theorem at_opened_same (X : K.In h) (G : h.Ns mainGlobals mg) (c : He.SaysD faL fnL K) : DefAt K mg "opened_same" s_opened_same ["truth", "saying"] :=
  d_at (d := d_opened_same) X G c (List.mem_of_getElem? (i := 6) rfl) (List.mem_of_getElem? (i := 6) rfl) rfl fun _ _ _ _ _ _ us hl => match us, hl with | [_, _], _ => rfl
theorem at_opened_joined (X : K.In h) (G : h.Ns mainGlobals mg) (c : He.SaysD faL fnL K) : DefAt K mg "opened_joined" s_opened_joined ["truth", "saying"] :=
  d_at (d := d_opened_joined) X G c (List.mem_of_getElem? (i := 7) rfl) (List.mem_of_getElem? (i := 7) rfl) rfl fun _ _ _ _ _ _ us hl => match us, hl with | [_, _], _ => rfl
theorem at_opened (X : K.In h) (G : h.Ns mainGlobals mg) (c : He.SaysD faL fnL K) : DefAt K mg "opened" s_opened ["fact", "strange"] :=
  d_at (d := d_opened) X G c (List.mem_of_getElem? (i := 8) rfl) (List.mem_of_getElem? (i := 8) rfl) rfl fun _ _ _ _ _ _ us hl => match us, hl with | [_, _], _ => rfl
theorem at_q_cell_at (X : K.In h) (G : h.Ns mainGlobals mg) (c : He.SaysD faL fnL K) : DefAt K mg "_law_cell_at" s_q_cell_at ["_law_script", "_law_k"] :=
  d_at (d := d_q_cell_at) X G c (List.mem_of_getElem? (i := 9) rfl) (List.mem_of_getElem? (i := 9) rfl) rfl fun _ _ _ _ _ _ us hl => match us, hl with | [_, _], _ => rfl
theorem at_q_deck (X : K.In h) (G : h.Ns mainGlobals mg) (c : He.SaysD faL fnL K) : DefAt K mg "_law_deck" s_q_deck ["_law_cell"] :=
  d_at (d := d_q_deck) X G c (List.mem_of_getElem? (i := 10) rfl) (List.mem_of_getElem? (i := 10) rfl) rfl fun _ _ _ _ _ _ us hl => match us, hl with | [_], _ => rfl
theorem at_q_draw (X : K.In h) (G : h.Ns mainGlobals mg) (c : He.SaysD faL fnL K) : DefAt K mg "_law_draw" s_q_draw ["_law_deck_here", "_law_most"] :=
  d_at (d := d_q_draw) X G c (List.mem_of_getElem? (i := 11) rfl) (List.mem_of_getElem? (i := 11) rfl) rfl fun _ _ _ _ _ _ us hl => match us, hl with | [_, _], _ => rfl
theorem at_q_names (X : K.In h) (G : h.Ns mainGlobals mg) (c : He.SaysD faL fnL K) : DefAt K mg "_law_names" s_q_names ["_law_deck_here", "_law_many"] :=
  d_at (d := d_q_names) X G c (List.mem_of_getElem? (i := 12) rfl) (List.mem_of_getElem? (i := 12) rfl) rfl fun _ _ _ _ _ _ us hl => match us, hl with | [_, _], _ => rfl
theorem at_q_world (X : K.In h) (G : h.Ns mainGlobals mg) (c : He.SaysD faL fnL K) : DefAt K mg "_law_world" s_q_world ["_law_deck_here"] :=
  d_at (d := d_q_world) X G c (List.mem_of_getElem? (i := 13) rfl) (List.mem_of_getElem? (i := 13) rfl) rfl fun _ _ _ _ _ _ us hl => match us, hl with | [_], _ => rfl
theorem at_q_more (X : K.In h) (G : h.Ns mainGlobals mg) (c : He.SaysD faL fnL K) : DefAt K mg "_law_more" s_q_more ["_law_deck_here"] :=
  d_at (d := d_q_more) X G c (List.mem_of_getElem? (i := 14) rfl) (List.mem_of_getElem? (i := 14) rfl) rfl fun _ _ _ _ _ _ us hl => match us, hl with | [_], _ => rfl
theorem at_q_spot (X : K.In h) (G : h.Ns mainGlobals mg) (c : He.SaysD faL fnL K) : DefAt K mg "_law_spot" s_q_spot ["_law_deck_here", "_law_cast", "_law_bound"] :=
  d_at (d := d_q_spot) X G c (List.mem_of_getElem? (i := 15) rfl) (List.mem_of_getElem? (i := 15) rfl) rfl fun _ _ _ _ _ _ us hl => match us, hl with | [_, _, _], _ => rfl
theorem at_q_sum (X : K.In h) (G : h.Ns mainGlobals mg) (c : He.SaysD faL fnL K) : DefAt K mg "_law_sum" s_q_sum ["_law_deck_here", "_law_cast", "_law_bound"] :=
  d_at (d := d_q_sum) X G c (List.mem_of_getElem? (i := 16) rfl) (List.mem_of_getElem? (i := 16) rfl) rfl fun _ _ _ _ _ _ us hl => match us, hl with | [_, _, _], _ => rfl
theorem at_q_atom (X : K.In h) (G : h.Ns mainGlobals mg) (c : He.SaysD faL fnL K) : DefAt K mg "_law_atom" s_q_atom ["_law_deck_here", "_law_cast", "_law_bound"] :=
  d_at (d := d_q_atom) X G c (List.mem_of_getElem? (i := 17) rfl) (List.mem_of_getElem? (i := 17) rfl) rfl fun _ _ _ _ _ _ us hl => match us, hl with | [_, _, _], _ => rfl
theorem at_q_joined (X : K.In h) (G : h.Ns mainGlobals mg) (c : He.SaysD faL fnL K) : DefAt K mg "_law_joined" s_q_joined ["_law_deck_here", "_law_parts"] :=
  d_at (d := d_q_joined) X G c (List.mem_of_getElem? (i := 18) rfl) (List.mem_of_getElem? (i := 18) rfl) rfl fun _ _ _ _ _ _ us hl => match us, hl with | [_, _], _ => rfl
theorem at_q_body (X : K.In h) (G : h.Ns mainGlobals mg) (c : He.SaysD faL fnL K) : DefAt K mg "_law_body" s_q_body ["_law_deck_here", "_law_cast", "_law_bound", "_law_deep"] :=
  d_at (d := d_q_body) X G c (List.mem_of_getElem? (i := 19) rfl) (List.mem_of_getElem? (i := 19) rfl) rfl fun _ _ _ _ _ _ us hl => match us, hl with | [_, _, _, _], _ => rfl
theorem at_q_leaf (X : K.In h) (G : h.Ns mainGlobals mg) (c : He.SaysD faL fnL K) : DefAt K mg "_law_leaf" s_q_leaf ["_law_deck_here", "_law_world_here", "_law_bound", "_law_deep"] :=
  d_at (d := d_q_leaf) X G c (List.mem_of_getElem? (i := 20) rfl) (List.mem_of_getElem? (i := 20) rfl) rfl fun _ _ _ _ _ _ us hl => match us, hl with | [_, _, _, _], _ => rfl
theorem at_q_saying (X : K.In h) (G : h.Ns mainGlobals mg) (c : He.SaysD faL fnL K) : DefAt K mg "_law_saying" s_q_saying ["_law_deck_here", "_law_world_here", "_law_bound", "_law_deep"] :=
  d_at (d := d_q_saying) X G c (List.mem_of_getElem? (i := 21) rfl) (List.mem_of_getElem? (i := 21) rfl) rfl fun _ _ _ _ _ _ us hl => match us, hl with | [_, _, _, _], _ => rfl
theorem at_q_place (X : K.In h) (G : h.Ns mainGlobals mg) (c : He.SaysD faL fnL K) : DefAt K mg "_law_place" s_q_place ["_law_cast", "_law_standing_here", "_law_spots", "_law_name"] :=
  d_at (d := d_q_place) X G c (List.mem_of_getElem? (i := 22) rfl) (List.mem_of_getElem? (i := 22) rfl) rfl fun _ _ _ _ _ _ us hl => match us, hl with | [_, _, _, _], _ => rfl
theorem at_q_worth (X : K.In h) (G : h.Ns mainGlobals mg) (c : He.SaysD faL fnL K) : DefAt K mg "_law_worth" s_q_worth ["_law_cast", "_law_standing_here", "_law_spots", "_law_one"] :=
  d_at (d := d_q_worth) X G c (List.mem_of_getElem? (i := 23) rfl) (List.mem_of_getElem? (i := 23) rfl) rfl fun _ _ _ _ _ _ us hl => match us, hl with | [_, _, _, _], _ => rfl
theorem at_q_compared (X : K.In h) (G : h.Ns mainGlobals mg) (c : He.SaysD faL fnL K) : DefAt K mg "_law_compared" s_q_compared ["_law_word", "_law_one", "_law_other"] :=
  d_at (d := d_q_compared) X G c (List.mem_of_getElem? (i := 24) rfl) (List.mem_of_getElem? (i := 24) rfl) rfl fun _ _ _ _ _ _ us hl => match us, hl with | [_, _, _], _ => rfl
theorem at_q_everywhere (X : K.In h) (G : h.Ns mainGlobals mg) (c : He.SaysD faL fnL K) : DefAt K mg "_law_everywhere" s_q_everywhere ["_law_cast", "_law_standing_here", "_law_saying_here", "_law_spots"] :=
  d_at (d := d_q_everywhere) X G c (List.mem_of_getElem? (i := 25) rfl) (List.mem_of_getElem? (i := 25) rfl) rfl fun _ _ _ _ _ _ us hl => match us, hl with | [_, _, _, _], _ => rfl
theorem at_q_holds (X : K.In h) (G : h.Ns mainGlobals mg) (c : He.SaysD faL fnL K) : DefAt K mg "_law_holds" s_q_holds ["_law_cast", "_law_standing_here", "_law_saying_here", "_law_spots"] :=
  d_at (d := d_q_holds) X G c (List.mem_of_getElem? (i := 26) rfl) (List.mem_of_getElem? (i := 26) rfl) rfl fun _ _ _ _ _ _ us hl => match us, hl with | [_, _, _, _], _ => rfl
theorem at_q_standing (X : K.In h) (G : h.Ns mainGlobals mg) (c : He.SaysD faL fnL K) : DefAt K mg "_law_standing" s_q_standing ["_law_deck_here", "_law_cast"] :=
  d_at (d := d_q_standing) X G c (List.mem_of_getElem? (i := 27) rfl) (List.mem_of_getElem? (i := 27) rfl) rfl fun _ _ _ _ _ _ us hl => match us, hl with | [_, _], _ => rfl
theorem at_q_strange (X : K.In h) (G : h.Ns mainGlobals mg) (c : He.SaysD faL fnL K) : DefAt K mg "_law_strange" s_q_strange ["_law_thing"] :=
  d_at (d := d_q_strange) X G c (List.mem_of_getElem? (i := 28) rfl) (List.mem_of_getElem? (i := 28) rfl) rfl fun _ _ _ _ _ _ us hl => match us, hl with | [_], _ => rfl
theorem at_q_is_so (X : K.In h) (G : h.Ns mainGlobals mg) (c : He.SaysD faL fnL K) : DefAt K mg "_law_is_so" s_q_is_so ["_law_cast", "_law_standing_here", "_law_spots", "_law_facts"] :=
  d_at (d := d_q_is_so) X G c (List.mem_of_getElem? (i := 29) rfl) (List.mem_of_getElem? (i := 29) rfl) rfl fun _ _ _ _ _ _ us hl => match us, hl with | [_, _, _, _], _ => rfl
theorem at_q_spots_by (X : K.In h) (G : h.Ns mainGlobals mg) (c : He.SaysD faL fnL K) : DefAt K mg "_law_spots_by" s_q_spots_by ["_law_cast", "_law_standing_here", "_law_spots", "_law_facts", "_law_strange_here"] :=
  d_at (d := d_q_spots_by) X G c (List.mem_of_getElem? (i := 30) rfl) (List.mem_of_getElem? (i := 30) rfl) rfl fun _ _ _ _ _ _ us hl => match us, hl with | [_, _, _, _, _], _ => rfl
theorem at_q_some_way (X : K.In h) (G : h.Ns mainGlobals mg) (c : He.SaysD faL fnL K) : DefAt K mg "_law_some_way" s_q_some_way ["_law_cast", "_law_standing_here", "_law_spots", "_law_facts", "_law_strange_here"] :=
  d_at (d := d_q_some_way) X G c (List.mem_of_getElem? (i := 31) rfl) (List.mem_of_getElem? (i := 31) rfl) rfl fun _ _ _ _ _ _ us hl => match us, hl with | [_, _, _, _, _], _ => rfl
theorem at_q_as_much (X : K.In h) (G : h.Ns mainGlobals mg) (c : He.SaysD faL fnL K) : DefAt K mg "_law_as_much" s_q_as_much ["_law_cast", "_law_standing_here", "_law_spots", "_law_fact", "_law_strange_here", "_law_turns"] :=
  d_at (d := d_q_as_much) X G c (List.mem_of_getElem? (i := 32) rfl) (List.mem_of_getElem? (i := 32) rfl) rfl fun _ _ _ _ _ _ us hl => match us, hl with | [_, _, _, _, _, _], _ => rfl
theorem at_q_right (X : K.In h) (G : h.Ns mainGlobals mg) (c : He.SaysD faL fnL K) : DefAt K mg "_law_right" s_q_right ["_law_deck_here"] :=
  d_at (d := d_q_right) X G c (List.mem_of_getElem? (i := 33) rfl) (List.mem_of_getElem? (i := 33) rfl) rfl fun _ _ _ _ _ _ us hl => match us, hl with | [_], _ => rfl
theorem md_of (X : K.In h) (G : h.Ns mainGlobals mg) (c : He.SaysD faL fnL K) (hx : exB K = true) : Md K mg where
  len_ := He.free_ok X G (He.SaysD.facts c (List.mem_of_getElem? (i := 37) rfl))
  range_ := He.free_ok X G (He.SaysD.facts c (List.mem_of_getElem? (i := 38) rfl))
  int_ := He.free_ok X G (He.SaysD.facts c (List.mem_of_getElem? (i := 39) rfl))
  tuple_ := He.free_ok X G (He.SaysD.facts c (List.mem_of_getElem? (i := 40) rfl))
  sorted_ := He.free_ok X G (He.SaysD.facts c (List.mem_of_getElem? (i := 41) rfl))
  isinstance_ := He.free_ok X G (He.SaysD.facts c (List.mem_of_getElem? (i := 42) rfl))
  str_ := He.free_ok X G (He.SaysD.facts c (List.mem_of_getElem? (i := 43) rfl))
  dict_ := He.free_ok X G (He.SaysD.facts c (List.mem_of_getElem? (i := 44) rfl))
  zip_ := He.free_ok X G (He.SaysD.facts c (List.mem_of_getElem? (i := 45) rfl))
  set_ := He.free_ok X G (He.SaysD.facts c (List.mem_of_getElem? (i := 46) rfl))
  list_ := He.free_ok X G (He.SaysD.facts c (List.mem_of_getElem? (i := 47) rfl))
  max_ := He.free_ok X G (He.SaysD.facts c (List.mem_of_getElem? (i := 48) rfl))
  min_ := He.free_ok X G (He.SaysD.facts c (List.mem_of_getElem? (i := 49) rfl))
  COMPARED := He.glo_ok X G (He.SaysD.facts c (List.mem_of_getElem? (i := 35) rfl))
  OF_PLACES := He.glo_ok X G (He.SaysD.facts c (List.mem_of_getElem? (i := 36) rfl))
  compared := fun H => He.tupB_ok (vs := [.str "most", .str "less", .str "same", .str "unlike"]) ((Bool.and_eq_true _ _ ▸ hx).1) H
  ofPlaces := fun H => He.tupB_ok (vs := [.str "ahead", .str "here", .str "next"]) ((Bool.and_eq_true _ _ ▸ hx).2) H
end
theorem facts {P : Program} {w : World} {K : PySem.W.Frag} {h : Heap} {mg : Str → Option Value} {f : Addr} (X : K.In h) (G : h.Ns mainGlobals mg) (hfa : mg ("law" : Str) = some (.ref f)) (c : He.SaysD faL fnL K) (hx : exB K = true) :
    ∃ fd : FuncData, (∀ (s : Shared) (v : Value), BindsTo s fd ⟨[v], []⟩ [("_law_script", v)]) ∧ ∀ base : Heap, K.In base → base.Ns mainGlobals mg → FnOk P w K mg base CX0 18 f fd ["_law_script"] (spLawT K) := by
  obtain ⟨fd, F⟩ := He.SaysD.defs c (d := d_law) (List.mem_of_getElem? (i := 34) rfl)
  have e := hfa.symm.trans (He.glo_ok X G (He.SaysD.facts c (f := .glo "law") (List.mem_of_getElem? (i := 34) rfl)))
  cases e
  have b := FunD.bindsA (ps := ["_law_script"]) F fun _ _ _ _ _ _ us hl => match us, hl with | [_], _ => rfl
  refine ⟨fd, fun s v => b s [v] rfl, fun base _ _ => ?_⟩
  have M := md_of X G c hx
  have C_place_for := ok_place_for (P := P) (w := w) (base := base) (at_place_for X G c)
  have C_sum_for := ok_sum_for M (at_sum_for X G c) C_place_for
  have C_put_for := ok_put M (at_put_for X G c) C_place_for C_sum_for 3
  have C_said_by := ok_said_by (P := P) (w := w) (base := base) (at_said_by X G c)
  have C_opened_next := ok_opened_next (P := P) (w := w) (base := base) (at_opened_next X G c)
  have C_opened_same := ok_opened_same (P := P) (w := w) (base := base) (at_opened_same X G c)
  have C_opened_joined := ok_opened_joined (P := P) (w := w) (base := base) M (at_opened_joined X G c)
  have C_opened_apart := ok_opened_apart M (at_opened_apart X G c) 3 C_put_for C_said_by
  have C_opened := ok_opened (at_opened X G c) 3 C_opened_joined C_opened_same C_opened_next C_opened_apart
  have C_q_place := ok_place (P := P) (w := w) (base := base) M (at_q_place X G c)
  have C_q_worth := ok_worth M (at_q_worth X G c) C_q_place
  have C_q_compared := ok_compared (P := P) (w := w) (base := base) (at_q_compared X G c)
  have C_q_holds := ok_holds M (at_q_holds X G c) (at_q_everywhere X G c) C_q_place C_q_worth C_q_compared 4
  have C_q_is_soT := ok_is_so M (at_q_is_so X G c) 4 11 true C_q_holds
  have C_q_is_soF := ok_is_so M (at_q_is_so X G c) 4 11 false C_q_holds
  have C_q_strange := ok_strange (P := P) (w := w) (base := base) M (at_q_strange X G c) 4
  have C_q_spots_by := ok_spots_by M (at_q_spots_by X G c) 4 5 C_q_strange
  have C_q_some_way := ok_some_way M (at_q_some_way X G c) 4 12 (C_q_spots_by.mono (by decide)) C_q_is_soT
  have C_q_as_much := ok_as_much M (at_q_as_much X G c) 3 13 (by decide) (by decide) (C_opened.mono (by decide)) C_q_some_way (C_q_is_soF.mono (by decide)) 2
  have C_q_draw := ok_draw (P := P) (w := w) (base := base) M (at_q_draw X G c)
  have C_q_names := ok_names M (at_q_names X G c) C_q_draw
  have C_q_more := ok_more M (at_q_more X G c) C_q_draw
  have C_q_spot := ok_spot M (at_q_spot X G c) C_q_draw
  have C_q_sum := ok_sum M (at_q_sum X G c) C_q_draw C_q_more C_q_spot
  have C_q_atom := ok_atom M (at_q_atom X G c) C_q_draw C_q_sum C_q_spot
  have C_q_joined := ok_joined M (at_q_joined X G c) C_q_draw
  have C_q_body0 := ok_body0 M (at_q_body X G c) C_q_draw C_q_atom C_q_joined
  have C_q_body := ok_body1 M (at_q_body X G c) C_q_draw C_q_atom C_q_joined C_q_body0
  have C_q_leaf := ok_leaf M (at_q_leaf X G c) C_q_draw C_q_spot C_q_atom C_q_body
  have C_q_saying0 := ok_saying0 M (at_q_saying X G c) C_q_draw C_q_leaf C_q_joined
  have C_q_saying := ok_saying1 M (at_q_saying X G c) C_q_draw C_q_leaf C_q_joined C_q_saying0
  have C_q_world := ok_world M (at_q_world X G c) C_q_draw C_q_names
  have C_q_standing := ok_standing M (at_q_standing X G c) C_q_draw C_q_more
  have C_q_right := ok_right M (at_q_right X G c) C_q_draw C_q_world C_q_standing C_q_saying C_q_as_much
  have C_q_deck := ok_deck (P := P) (w := w) (base := base) M (at_q_deck X G c)
  have C_q_cell_at := ok_cell_at (P := P) (w := w) (base := base) M (at_q_cell_at X G c)
  exact ok_law M F C_q_right C_q_deck C_q_cell_at
end EP
open PySem PySem.W PySem.Calls PyProof.Rows
theorem PySem.Challenge.cw_eachplace_k35_whole_opened_is_as_much_holds : PySem.Challenge.rw_eachplace_k35_whole_opened_is_as_much.Holds := by
  w_on; o_law
  refine HandSHeadRun.head_any (r := EP.R) (q := view (EP.R).prog [38]) (H := EP.hk) (ob := EP.ob) (M := 1200) (loose := EP.loose) (d := HandSHeadRun.topDef (EP.R).prog 38) (kwd := []) EP.ob_eq
    (by kernel_rfl) (fun s => by kernel_rfl) EP.run (by kernel_rfl) (by kernel_rfl) (by kernel_rfl) (by rfl) (by first | assumption | decide +kernel) (by decide +kernel) ⟨rfl, rfl, rfl, rfl, rfl, by decide +kernel⟩ ?hw ?hc
  case hw => w_witness2
  case hc =>
    refine L2.walk_ofE (l := PySem.Challenge.rw_eachplace_k35_whole_opened_is_as_much) (n := 63) (k := 18) (x := "_law_script") (CX := L2.CX0) rfl (by decide) (by kernel_rfl) ⟨rfl, by decide, by decide⟩ ?F (fun _ _ _ _ z => z)
    intro w mg fa h Y G hmg0
    obtain ⟨K, KX, c⟩ := Y
    have hmg : mg ("law" : PySem.Str) = some (.ref fa) := by
      have e : (HandSHeadRun.topDef (EP.R).prog 38).name = ("law" : PySem.Str) := by kernel_rfl
      rw [← e]
      exact hmg0
    obtain ⟨fd, hb, hF⟩ := EP.facts (P := (PySem.Challenge.rw_eachplace_k35_whole_opened_is_as_much).prog) (w := w) KX G hmg c.t.d c.more
    exact ⟨K, fd, EP.spLawT K, KX, hb, fun H a ns hl _ hS => ⟨a, ns, rfl, hl, hS, fun _ => rfl⟩, hF⟩
