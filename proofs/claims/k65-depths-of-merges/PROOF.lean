import PyProof.Rows.All
import Wide.All
import OpenK.AllK
import Wide.FinOn
import HandS.ForMost
import HandS.Flow
import HandS.Wide
import HandS.Conv
import HandS.SetFor
import HandS.SortInts
import HandS.More
import HandS.Zip
import HandS.IsInst
import KE.DataMinMax
import KE.DataEq
import KE.SortData
import HandS.SortKw
import HandS.EndBits
import KE.LtData
import HandS.Dict
import HandS.Iter
import HandS.ForSpec
import HandS.TupLe
import PySem.Challenge.RW_handpiles_k65_depths_of_merges
set_option Elab.async false
set_option linter.all false
set_option maxRecDepth 100000
set_option maxHeartbeats 8000000
/-! Trees over the hand layer's readings: what a reading evaluates to, with the heap out of sight. -/
namespace TV
open PySem PySem.Spec PyProof.Rows L2
/-- data that stand still -/
inductive D where
  | non | bl (b : Bool) | int (i : Int) | str (x : Str) | ty (n : String) | tup (ds : List D) | lst (ds : List D) | scr (ds : List D)
mutual
def Rp (K : PySem.W.Frag) (M : Hp) : D → V → Prop
  | .non, v => v = .non
  | .bl b, v => v = .bl b
  | .int i, v => v = .int i
  | .str x, v => v = .str x
  | .ty n, v => v = .ty n
  | .tup ds, v => ∃ a vs, v = .ref a ∧ SqT K M a vs ∧ RpL K M ds vs
  | .lst ds, v => ∃ a vs, v = .ref a ∧ M a = some (.lst vs) ∧ RpL K M ds vs
  | .scr ds, v => ∃ a vs, v = .ref a ∧ SqL K M a vs ∧ RpL K M ds vs
def RpL (K : PySem.W.Frag) (M : Hp) : List D → List V → Prop
  | [], vs => vs = []
  | d :: ds, vs => ∃ v r, vs = v :: r ∧ Rp K M d v ∧ RpL K M ds r
end
/-- what a slot holds: data, or an owned list, an owned list of owned lists, an owned dict -/
inductive T where
  | d (x : D) | ls (ds : List D) | ll (dss : List (List D)) | dk (kvs : List (Key × D)) | dt (kvs : List (List Key × D)) | pr (a b : T)
def LL (K : PySem.W.Frag) (M H : Hp) : List (List D) → List Addr → Prop
  | [], as => as = []
  | ds :: r, as => ∃ a q vs, as = a :: q ∧ H a = some (.lst vs) ∧ RpL K M ds vs ∧ LL K M H r q
def KR (K : PySem.W.Frag) (M : Hp) {κ : Type} : List (κ × D) → List (κ × V) → Prop
  | [], kv => kv = []
  | p :: r, kv => ∃ v q, kv = (p.1, v) :: q ∧ Rp K M p.2 v ∧ KR K M r q
def Own (K : PySem.W.Frag) (M H : Hp) : (Addr → Prop) → T → V → Prop
  | _, .d x, v => Rp K M x v
  | P, .ls ds, v => ∃ a vs, v = .ref a ∧ P a ∧ H a = some (.lst vs) ∧ RpL K M ds vs
  | P, .ll dss, v => ∃ a as, v = .ref a ∧ P a ∧ (∀ b, b ∈ as → P b) ∧ (a :: as).Nodup ∧ H a = some (.lst (as.map V.ref)) ∧ LL K M H dss as
  | P, .dk kvs, v => ∃ a kv, v = .ref a ∧ P a ∧ H a = some (.dK kv) ∧ KR K M kvs kv
  | P, .dt kvs, v => ∃ a kv, v = .ref a ∧ P a ∧ H a = some (.dT kv) ∧ KR K M kvs kv
  | P, .pr s t, v => ∃ a x y P1 P2, v = .ref a ∧ H a = some (.tup [x, y]) ∧ (∀ b, P1 b → P b) ∧ (∀ b, P2 b → P b) ∧ (∀ b, P1 b → P2 b → False) ∧ Own K M H P1 s x ∧ Own K M H P2 t y
abbrev Env := List (Option T)
structure R (K : PySem.W.Frag) (M : Hp) (σ : L2.St) (H : Hp) (δ : Env) : Prop where
  ex : Same M H
  ln : σ.length = δ.length
  own : ∃ ω : Nat → Addr → Prop, (∀ i j a, ω i a → ω j a → i = j) ∧ (∀ i a, ω i a → M a = none ∧ Mut (H a)) ∧ ∀ i t, δ[i]? = some (some t) → ∃ v, σ[i]? = some (some v) ∧ Own K M H (ω i) t v

/-! ### monotony -/
section
variable {K : PySem.W.Frag} {M M' H H' : Hp}
theorem Same.rd {a : Addr} {u : HO} (e : Same M M') (h : Rd M a u) : Rd M' a u := by
  rcases h with h | ⟨o, h⟩
  · exact .inl (e _ _ h)
  · exact .inr ⟨o, e _ _ h⟩
theorem Same.sqT {a : Addr} {xs : List V} (e : Same M M') (h : SqT K M a xs) : SqT K M' a xs := h.imp (Same.rd e) id
theorem Same.sqL {a : Addr} {xs : List V} (e : Same M M') (h : SqL K M a xs) : SqL K M' a xs := h.imp (Same.rd e) id
mutual
theorem Rp.mono (e : Same M M') : ∀ {d : D} {v : V}, Rp K M d v → Rp K M' d v
  | .non, _, h => h
  | .bl _, _, h => h
  | .int _, _, h => h
  | .str _, _, h => h
  | .ty _, _, h => h
  | .tup _, _, ⟨a, vs, h1, h2, h3⟩ => ⟨a, vs, h1, Same.sqT e h2, RpL.mono e h3⟩
  | .lst _, _, ⟨a, vs, h1, h2, h3⟩ => ⟨a, vs, h1, e _ _ h2, RpL.mono e h3⟩
  | .scr _, _, ⟨a, vs, h1, h2, h3⟩ => ⟨a, vs, h1, Same.sqL e h2, RpL.mono e h3⟩
theorem RpL.mono (e : Same M M') : ∀ {ds : List D} {vs : List V}, RpL K M ds vs → RpL K M' ds vs
  | [], _, h => h
  | _ :: _, _, ⟨v, r, h1, h2, h3⟩ => ⟨v, r, h1, Rp.mono e h2, RpL.mono e h3⟩
end
theorem RpL.length : ∀ {ds : List D} {vs : List V}, RpL K M ds vs → ds.length = vs.length
  | [], _, h => by cases h; rfl
  | _ :: _, _, ⟨v, r, h1, h2, h3⟩ => by subst h1; simp [RpL.length h3]
theorem RpL.append : ∀ {ds es : List D} {vs ws : List V}, RpL K M ds vs → RpL K M es ws → RpL K M (ds ++ es) (vs ++ ws)
  | [], _, _, _, h, g => by cases h; exact g
  | _ :: _, _, _, _, ⟨v, r, h1, h2, h3⟩, g => by subst h1; exact ⟨v, _, rfl, h2, RpL.append h3 g⟩
theorem RpL.get : ∀ {ds : List D} {vs : List V} {i : Nat} {d : D}, RpL K M ds vs → ds[i]? = some d → ∃ v, vs[i]? = some v ∧ Rp K M d v
  | [], _, i, _, _, h => by simp at h
  | x :: r, _, 0, d, ⟨v, q, h1, h2, h3⟩, h => by subst h1; simp at h; subst h; exact ⟨v, rfl, h2⟩
  | x :: r, _, i + 1, d, ⟨v, q, h1, h2, h3⟩, h => by subst h1; simpa using RpL.get h3 (by simpa using h)
theorem RpL.get' {ds : List D} {vs : List V} {i : Nat} {v : V} (h : RpL K M ds vs) (g : vs[i]? = some v) : ∃ d, ds[i]? = some d ∧ Rp K M d v := by
  obtain ⟨hi, _⟩ := List.getElem?_eq_some_iff.mp g
  have hl := h.length
  obtain ⟨w, hw, r⟩ := h.get (i := i) (List.getElem?_eq_getElem (by omega : i < ds.length))
  rw [g] at hw
  cases hw
  exact ⟨_, List.getElem?_eq_getElem (by omega), r⟩
theorem RpL.set : ∀ {ds : List D} {vs : List V} {d : D} {v : V} (i : Nat), Rp K M d v → RpL K M ds vs → RpL K M (ds.set i d) (vs.set i v)
  | [], _, _, _, _, _, h => by cases h; exact rfl
  | _ :: _, _, _, _, 0, g, ⟨v, r, h1, h2, h3⟩ => by subst h1; exact ⟨_, _, rfl, g, h3⟩
  | _ :: _, _, _, _, i + 1, g, ⟨v, r, h1, h2, h3⟩ => by subst h1; exact ⟨_, _, rfl, h2, RpL.set i g h3⟩
theorem RpL.eraseIdx : ∀ {ds : List D} {vs : List V} (i : Nat), RpL K M ds vs → RpL K M (ds.eraseIdx i) (vs.eraseIdx i)
  | [], _, _, h => by cases h; exact rfl
  | _ :: _, _, 0, ⟨v, r, h1, h2, h3⟩ => by subst h1; exact h3
  | _ :: _, _, i + 1, ⟨v, r, h1, h2, h3⟩ => by subst h1; exact ⟨_, _, rfl, h2, RpL.eraseIdx i h3⟩
theorem RpL.take : ∀ {ds : List D} {vs : List V} (n : Nat), RpL K M ds vs → RpL K M (ds.take n) (vs.take n)
  | _, _, 0, _ => by simp [RpL]
  | [], _, n + 1, h => by cases h; simp [RpL]
  | _ :: _, _, n + 1, ⟨v, r, h1, h2, h3⟩ => by subst h1; exact ⟨_, _, rfl, h2, RpL.take n h3⟩
theorem RpL.drop : ∀ {ds : List D} {vs : List V} (n : Nat), RpL K M ds vs → RpL K M (ds.drop n) (vs.drop n)
  | _, _, 0, h => by simpa using h
  | [], _, n + 1, h => by cases h; simp [RpL]
  | _ :: _, _, n + 1, ⟨v, r, h1, h2, h3⟩ => by subst h1; simpa using RpL.drop n h3
theorem RpL.dropLast : ∀ {ds : List D} {vs : List V}, RpL K M ds vs → RpL K M ds.dropLast vs.dropLast := fun {ds vs} h => by
  rw [List.dropLast_eq_take, List.dropLast_eq_take, h.length]; exact h.take _
theorem RpL.reverse : ∀ {ds : List D} {vs : List V}, RpL K M ds vs → RpL K M ds.reverse vs.reverse
  | [], _, h => by cases h; exact rfl
  | _ :: _, _, ⟨v, r, h1, h2, h3⟩ => by
    subst h1
    rw [List.reverse_cons, List.reverse_cons]
    exact RpL.append (RpL.reverse h3) ⟨v, [], rfl, h2, rfl⟩
theorem RpL.ints : ∀ (ns : List Int), RpL K M (ns.map D.int) (ns.map V.int)
  | [] => rfl
  | n :: r => ⟨_, _, rfl, rfl, RpL.ints r⟩
theorem RpL.ints_of : ∀ {ns : List Int} {vs : List V}, RpL K M (ns.map D.int) vs → vs = ns.map V.int
  | [], _, h => h
  | n :: r, _, ⟨v, q, h1, h2, h3⟩ => by
    cases h2
    rw [h1, RpL.ints_of h3]
    rfl
theorem RpL.bls_of : ∀ {ns : List Bool} {vs : List V}, RpL K M (ns.map D.bl) vs → vs = ns.map V.bl
  | [], _, h => h
  | n :: r, _, ⟨v, q, h1, h2, h3⟩ => by
    cases h2
    rw [h1, RpL.bls_of h3]
    rfl
theorem LL.mono (e : Same M M') (k : ∀ b, b ∈ as → H' b = H b) : ∀ {dss : List (List D)}, LL K M H dss as → LL K M' H' dss as
  | [], h => h
  | _ :: _, ⟨a, q, vs, h1, h2, h3, h4⟩ => by
    subst h1
    exact ⟨a, q, vs, rfl, (k a (by simp)).trans h2, h3.mono e, LL.mono e (fun b hb => k b (by simp [hb])) h4⟩
theorem LL.length : ∀ {dss : List (List D)} {as : List Addr}, LL K M H dss as → dss.length = as.length
  | [], _, h => by cases h; rfl
  | _ :: _, _, ⟨a, q, vs, h1, h2, h3, h4⟩ => by subst h1; simp [LL.length h4]
theorem LL.get : ∀ {dss : List (List D)} {as : List Addr} {i : Nat} {ds : List D}, LL K M H dss as → dss[i]? = some ds → ∃ a vs, as[i]? = some a ∧ H a = some (.lst vs) ∧ RpL K M ds vs
  | [], _, i, _, _, h => by simp at h
  | x :: r, _, 0, d, ⟨a, q, vs, h1, h2, h3, h4⟩, h => by subst h1; simp at h; subst h; exact ⟨a, vs, rfl, h2, h3⟩
  | x :: r, _, i + 1, d, ⟨a, q, vs, h1, h2, h3, h4⟩, h => by subst h1; simpa using LL.get h4 (by simpa using h)
theorem LL.append : ∀ {ds es : List (List D)} {vs ws : List Addr}, LL K M H ds vs → LL K M H es ws → LL K M H (ds ++ es) (vs ++ ws)
  | [], _, _, _, h, g => by cases h; exact g
  | _ :: _, _, _, _, ⟨a, q, vs, h1, h2, h3, h4⟩, g => by subst h1; exact ⟨a, _, vs, rfl, h2, h3, LL.append h4 g⟩
theorem LL.set : ∀ {dss : List (List D)} {as : List Addr} {i : Nat} {ds : List D} {a : Addr} {vs : List V}, LL K M H dss as → as.Nodup → as[i]? = some a → RpL K M ds vs → LL K M (upd H a (.lst vs)) (dss.set i ds) as
  | [], _, _, _, _, _, h, _, g, _ => by cases h; simp at g
  | _ :: _, _, 0, _, _, _, ⟨a, q, vs, h1, h2, h3, h4⟩, nd, g, r => by
    subst h1
    simp at g
    subst g
    refine ⟨a, q, _, rfl, upd_same, r, h4.mono (Same.refl _) fun b hb => upd_ne ?_⟩
    rintro rfl
    exact (List.nodup_cons.mp nd).1 hb
  | _ :: _, _, i + 1, _, b, _, ⟨a, q, vs, h1, h2, h3, h4⟩, nd, g, r => by
    subst h1
    have g' : q[i]? = some b := by simpa using g
    have hb : b ∈ q := List.mem_of_getElem? g'
    refine ⟨a, q, vs, rfl, ?_, h3, LL.set h4 (List.nodup_cons.mp nd).2 g' r⟩
    rw [upd_ne]
    · exact h2
    · rintro rfl
      exact (List.nodup_cons.mp nd).1 hb
theorem LL.freeze : ∀ {dss : List (List D)} {as : List Addr}, LL K M H dss as → Same M M' → (∀ a u, a ∈ as → H a = some u → M' a = some u) → RpL K M' (dss.map D.lst) (as.map V.ref)
  | [], _, h, _, _ => by cases h; rfl
  | _ :: _, _, ⟨a, q, vs, h1, h2, h3, h4⟩, e, k => by
    subst h1
    exact ⟨_, _, rfl, ⟨a, vs, rfl, k a _ (by simp) h2, h3.mono e⟩, LL.freeze h4 e fun b u hb => k b u (by simp [hb])⟩
theorem KR.mono (e : Same M M') {κ : Type} : ∀ {kvs : List (κ × D)} {kv : List (κ × V)}, KR K M kvs kv → KR K M' kvs kv
  | [], _, h => h
  | _ :: _, _, ⟨v, q, h1, h2, h3⟩ => ⟨v, q, h1, h2.mono e, KR.mono e h3⟩
/-- what is owned stands as long as its own objects do -/
theorem Own.mono (e : Same M M') : ∀ {t : T} {P P' : Addr → Prop} {v : V}, (∀ b, P b → P' b) → (∀ b, P b → H' b = H b) → (∀ b xs, H b = some (.tup xs) → H' b = some (.tup xs)) → Own K M H P t v → Own K M' H' P' t v
  | .d _, _, _, _, _, _, _, h => Rp.mono e h
  | .ls _, _, _, _, p, k, _, ⟨a, vs, h1, h2, h3, h4⟩ => ⟨a, vs, h1, p a h2, (k a h2).trans h3, h4.mono e⟩
  | .ll _, _, _, _, p, k, _, ⟨a, as, h1, h2, h3, h4, h5, h6⟩ => ⟨a, as, h1, p a h2, fun b hb => p b (h3 b hb), h4, (k a h2).trans h5, h6.mono e fun b hb => k b (h3 b hb)⟩
  | .dk _, _, _, _, p, k, _, ⟨a, kv, h1, h2, h3, h4⟩ => ⟨a, kv, h1, p a h2, (k a h2).trans h3, h4.mono e⟩
  | .dt _, _, _, _, p, k, _, ⟨a, kv, h1, h2, h3, h4⟩ => ⟨a, kv, h1, p a h2, (k a h2).trans h3, h4.mono e⟩
  | .pr _ _, _, _, _, p, k, tk, ⟨a, x, y, P1, P2, h1, h2, h3, h4, h5, h6, h7⟩ =>
    ⟨a, x, y, P1, P2, h1, tk _ _ h2, fun b q => p b (h3 b q), fun b q => p b (h4 b q), h5, Own.mono e (fun _ q => q) (fun b q => k b (h3 b q)) tk h6, Own.mono e (fun _ q => q) (fun b q => k b (h4 b q)) tk h7⟩
/-- .. only lists and dicts are owned -/
theorem Own.narrow : ∀ {t : T} {P P' : Addr → Prop} {v : V}, (∀ b u, P b → H b = some u → Mut (some u) → P' b) → Own K M H P t v → ∃ P1 : Addr → Prop, (∀ b, P1 b → P b ∧ P' b) ∧ Own K M H P1 t v
  | .d _, P, P', _, _, h => ⟨fun b => P b ∧ P' b, fun _ q => q, h⟩
  | .ls _, P, P', _, k, ⟨a, vs, h1, h2, h3, h4⟩ => ⟨fun b => P b ∧ P' b, fun _ q => q, a, vs, h1, ⟨h2, k a _ h2 h3 trivial⟩, h3, h4⟩
  | .ll _, P, P', _, k, ⟨a, as, h1, h2, h3, h4, h5, h6⟩ => ⟨fun b => P b ∧ P' b, fun _ q => q, a, as, h1, ⟨h2, k a _ h2 h5 trivial⟩, fun b hb => by
      obtain ⟨i, hi, e⟩ := List.getElem_of_mem hb
      have hl := h6.length
      obtain ⟨c, vs, g1, g2, _⟩ := h6.get (i := i) (List.getElem?_eq_getElem (by omega))
      rw [List.getElem?_eq_getElem hi, e] at g1
      cases g1
      exact ⟨h3 b hb, k b _ (h3 b hb) g2 trivial⟩, h4, h5, h6⟩
  | .dk _, P, P', _, k, ⟨a, kv, h1, h2, h3, h4⟩ => ⟨fun b => P b ∧ P' b, fun _ q => q, a, kv, h1, ⟨h2, k a _ h2 h3 trivial⟩, h3, h4⟩
  | .dt _, P, P', _, k, ⟨a, kv, h1, h2, h3, h4⟩ => ⟨fun b => P b ∧ P' b, fun _ q => q, a, kv, h1, ⟨h2, k a _ h2 h3 trivial⟩, h3, h4⟩
  | .pr _ _, P, P', _, k, ⟨a, x, y, P1, P2, h1, h2, h3, h4, h5, h6, h7⟩ => by
    obtain ⟨Q1, q1, g1⟩ := Own.narrow (P' := P') (fun b u hb => k b u (h3 b hb)) h6
    obtain ⟨Q2, q2, g2⟩ := Own.narrow (P' := P') (fun b u hb => k b u (h4 b hb)) h7
    exact ⟨fun b => P b ∧ P' b, fun _ q => q, a, x, y, Q1, Q2, h1, h2, fun b q => ⟨h3 b (q1 b q).1, (q1 b q).2⟩, fun b q => ⟨h4 b (q2 b q).1, (q2 b q).2⟩, fun b r1 r2 => h5 b (q1 b r1).1 (q2 b r2).1, g1, g2⟩
end
end TV

namespace TV
open PySem PySem.Spec PyProof.Rows L2
section
variable {K : PySem.W.Frag} {M M' H H' : Hp} {σ : L2.St} {δ : Env}
theorem mut_some {H : Hp} {a : Addr} (h : Mut (H a)) : ∃ o, H a = some o := by
  cases e : H a with
  | none => rw [e] at h; exact h.elim
  | some o => exact ⟨o, rfl⟩
theorem mut_ntup {H : Hp} {a : Addr} {xs : List V} (h : Mut (H a)) (e : H a = some (.tup xs)) : False := by rw [e] at h; exact h
theorem same_upd {H : Hp} {p : Addr} {o : HO} (h : H p = none) : Same H (upd H p o) := fun b x e => by
  rw [upd_ne (ne_of_none e h)]
  exact e
/-- the heap has grown -/
theorem R.grow (r : R K M σ H δ) (e : Same H H') : R K M σ H' δ := by
  obtain ⟨ex, ln, ω, w1, w2, w3⟩ := r
  refine ⟨ex.trans e, ln, ω, w1, fun i a h => ⟨(w2 i a h).1, ?_⟩, fun i t ht => ?_⟩
  · obtain ⟨o, ho⟩ := mut_some (w2 i a h).2
    rw [e a o ho, ← ho]
    exact (w2 i a h).2
  · obtain ⟨v, hv, ow⟩ := w3 i t ht
    refine ⟨v, hv, ow.mono (Same.refl M) (fun _ q => q) (fun b hb => ?_) fun b xs q => e b _ q⟩
    obtain ⟨o, ho⟩ := mut_some (w2 i b hb).2
    rw [e b o ho, ho]
/-- more stands still -/
theorem R.still (r : R K M σ H δ) (e : Same M M') (e' : Same M' H) (n : ∀ b, M b = none → Mut (H b) → M' b = none) : R K M' σ H δ := by
  obtain ⟨ex, ln, ω, w1, w2, w3⟩ := r
  refine ⟨e', ln, ω, w1, fun i a h => ⟨n a (w2 i a h).1 (w2 i a h).2, (w2 i a h).2⟩, fun i t ht => ?_⟩
  obtain ⟨v, hv, ow⟩ := w3 i t ht
  exact ⟨v, hv, ow.mono e (fun _ q => q) (fun _ _ => rfl) fun _ _ q => q⟩
/-- a new object that stands still -/
theorem R.laid (r : R K M σ H δ) {p : Addr} {o : HO} (hp : H p = none) : Same M (upd M p o) ∧ R K (upd M p o) σ (upd H p o) δ := by
  have mp : M p = none := by
    cases e : M p with
    | none => rfl
    | some u => rw [r.ex p u e] at hp; cases hp
  have s1 : Same M (upd M p o) := same_upd mp
  have r1 := r.grow (same_upd (o := o) hp)
  refine ⟨s1, ?_⟩
  obtain ⟨ex, ln, ω, w1, w2, w3⟩ := r
  have r1 : R K M σ (upd H p o) δ := R.grow ⟨ex, ln, ω, w1, w2, w3⟩ (same_upd hp)
  refine ⟨fun b u h => ?_, ln, ω, w1, fun i a h => ?_, fun i t ht => ?_⟩
  · by_cases hb : b = p
    · subst hb
      rw [upd_same] at h ⊢
      exact h
    · rw [upd_ne hb] at h ⊢
      exact ex b u h
  · have na : a ≠ p := by
      rintro rfl
      obtain ⟨u, hu⟩ := mut_some (w2 i a h).2
      rw [hp] at hu
      cases hu
    rw [upd_ne na, upd_ne na]
    exact w2 i a h
  · obtain ⟨v, hv, ow⟩ := w3 i t ht
    refine ⟨v, hv, ow.mono s1 (fun _ q => q) (fun b hb => upd_ne ?_) fun b xs q => same_upd hp b _ q⟩
    rintro rfl
    obtain ⟨u, hu⟩ := mut_some (w2 i b hb).2
    rw [hp] at hu
    cases hu
theorem get_push {α : Type} {l : List α} {x y : α} {i : Nat} (h : (l ++ [x])[i]? = some y) : l[i]? = some y ∨ (i = l.length ∧ x = y) := by
  by_cases hi : i < l.length
  · rw [List.getElem?_append_left hi] at h
    exact .inl h
  · rw [List.getElem?_append_right (by omega)] at h
    by_cases e : i - l.length = 0
    · rw [e] at h
      exact .inr ⟨by omega, by simpa using h⟩
    · rw [List.getElem?_eq_none (by simp; omega)] at h
      cases h
theorem get_left {α : Type} {l : List α} {x y : α} {i : Nat} (h : l[i]? = some y) : (l ++ [x])[i]? = some y := by
  rw [List.getElem?_append_left (List.getElem?_eq_some_iff.mp h).1]
  exact h
theorem get_top {α : Type} {l : List α} {x : α} : (l ++ [x])[l.length]? = some x := by simp
theorem R.pushD (r : R K M σ H δ) {x : D} {v : V} (h : Rp K M x v) : R K M (σ ++ [some v]) H (δ ++ [some (.d x)]) := by
  obtain ⟨ex, ln, ω, w1, w2, w3⟩ := r
  refine ⟨ex, by simp [ln], ω, w1, w2, fun i t ht => ?_⟩
  rcases get_push ht with h1 | ⟨h1, h2⟩
  · obtain ⟨u, hu, ow⟩ := w3 i t h1
    exact ⟨u, get_left hu, ow⟩
  · cases h2
    subst h1
    exact ⟨v, by rw [← ln]; exact get_top, h⟩
/-- a new object, owned, on top -/
theorem R.pushNew (r : R K M σ H δ) {p : Addr} {o : HO} {τ : T} (hp : H p = none) (mu : Mut (some o)) (h : ∀ P : Addr → Prop, P p → Own K M (upd H p o) P τ (.ref p)) : R K M (σ ++ [some (.ref p)]) (upd H p o) (δ ++ [some τ]) := by
  have r1 := r.grow (same_upd (o := o) hp)
  have mp : M p = none := by
    cases e : M p with
    | none => rfl
    | some u => rw [r.ex p u e] at hp; cases hp
  obtain ⟨ex0, _, ω0, _, w20, w30⟩ := id r
  obtain ⟨ex, ln, _⟩ := r1
  have no : ∀ i a, ω0 i a → a ≠ p := fun i a h z => by
    obtain ⟨u, hu⟩ := mut_some (w20 i a h).2
    rw [z, hp] at hu
    cases hu
  obtain ⟨_, _, ω, w1, w2, w3⟩ := r
  have no : ∀ i a, ω i a → a ≠ p := fun i a h z => by
    obtain ⟨u, hu⟩ := mut_some (w2 i a h).2
    rw [z, hp] at hu
    cases hu
  refine ⟨ex, by simp [ln], fun i a => (i < δ.length ∧ ω i a) ∨ (i = δ.length ∧ a = p), fun i j a h1 h2 => ?_, fun i a h1 => ?_, fun i t ht => ?_⟩
  · rcases h1 with ⟨l1, h1⟩ | ⟨l1, h1⟩ <;> rcases h2 with ⟨l2, h2⟩ | ⟨l2, h2⟩
    · exact w1 i j a h1 h2
    · exact (no i a h1 h2).elim
    · exact (no j a h2 h1).elim
    · omega
  · rcases h1 with ⟨l1, h1⟩ | ⟨l1, h1⟩
    · rw [upd_ne (no i a h1)]
      exact w2 i a h1
    · subst h1
      rw [upd_same]
      exact ⟨mp, mu⟩
  · rcases get_push ht with h1 | ⟨h1, h2⟩
    · obtain ⟨u, hu, ow⟩ := w3 i t h1
      have li := (List.getElem?_eq_some_iff.mp h1).1
      exact ⟨u, get_left hu, ow.mono (Same.refl M) (fun b q => .inl ⟨li, q⟩) (fun b hb => upd_ne (no i b hb)) fun b xs q => same_upd hp b _ q⟩
    · cases h2
      subst h1
      exact ⟨.ref p, by rw [← ln]; exact get_top, h _ (.inr ⟨rfl, rfl⟩)⟩
/-- a top value goes -/
theorem R.pop {x : Option V} {y : Option T} (r : R K M (σ ++ [x]) H (δ ++ [y])) : R K M σ H δ := by
  obtain ⟨ex, ln, ω, w1, w2, w3⟩ := r
  have ln : σ.length = δ.length := by simpa using ln
  refine ⟨ex, ln, ω, w1, w2, fun i t ht => ?_⟩
  obtain ⟨v, hv, ow⟩ := w3 i t (get_left ht)
  rcases get_push hv with h1 | ⟨h1, h2⟩
  · exact ⟨v, h1, ow⟩
  · have := (List.getElem?_eq_some_iff.mp ht).1
    omega
/-- a top value is stored -/
theorem R.set {v : V} {τ : T} (i : Nat) (r : R K M (σ ++ [some v]) H (δ ++ [some τ])) : R K M (σ.set i (some v)) H (δ.set i (some τ)) := by
  obtain ⟨ex, ln, ω, w1, w2, w3⟩ := r
  have ln : σ.length = δ.length := by simpa using ln
  refine ⟨ex, by simp [ln], fun j a => if j = i then ω δ.length a else if j < δ.length then ω j a else False, fun j k a h1 h2 => ?_, fun j a h1 => ?_, fun j t ht => ?_⟩
  · by_cases hj : j = i <;> by_cases hk : k = i <;> simp only [hj, hk, if_true, if_false] at h1 h2
    · rw [hj, hk]
    · split at h2
      · have := w1 _ _ _ h1 h2
        omega
      · exact h2.elim
    · split at h1
      · have := w1 _ _ _ h1 h2
        omega
      · exact h1.elim
    · split at h1
      · split at h2
        · exact w1 _ _ _ h1 h2
        · exact h2.elim
      · exact h1.elim
  · by_cases hj : j = i <;> simp only [hj, if_true, if_false] at h1
    · exact w2 _ _ h1
    · split at h1
      · exact w2 _ _ h1
      · exact h1.elim
  · by_cases hj : j = i
    · subst hj
      have hl : j < δ.length := by
        have := (List.getElem?_eq_some_iff.mp ht).1
        simpa using this
      rw [List.getElem?_set_self hl] at ht
      cases ht
      obtain ⟨u, hu, ow⟩ := w3 δ.length τ get_top
      rw [← ln] at hu
      rw [get_top] at hu
      cases hu
      refine ⟨v, by rw [List.getElem?_set_self (by omega)], ?_⟩
      simp only [if_true]
      exact ow
    · rw [List.getElem?_set_ne (Ne.symm hj)] at ht
      obtain ⟨u, hu, ow⟩ := w3 j t (get_left ht)
      have hl := (List.getElem?_eq_some_iff.mp ht).1
      rcases get_push hu with h1 | ⟨h1, _⟩
      · refine ⟨u, by rw [List.getElem?_set_ne (Ne.symm hj)]; exact h1, ?_⟩
        simp only [hj, if_false, hl, if_true]
        exact ow
      · omega
/-- slots forgotten: δ' tells no more than δ -/
def Less (δ' δ : Env) : Prop := δ'.length = δ.length ∧ ∀ (i : Nat) (t : T), δ'[i]? = some (some t) → δ[i]? = some (some t)
theorem R.less {δ' : Env} (r : R K M σ H δ) (l : Less δ' δ) : R K M σ H δ' :=
  ⟨r.ex, r.ln.trans l.1.symm, let ⟨ω, w1, w2, w3⟩ := r.own; ⟨ω, w1, w2, fun i t ht => w3 i t (l.2 i t ht)⟩⟩
theorem R.at (r : R K M σ H δ) {i : Nat} {t : T} (h : δ[i]? = some (some t)) : ∃ v, σ[i]? = some (some v) ∧ ∃ P, Own K M H P t v ∧ ∀ a, P a → M a = none ∧ Mut (H a) := by
  obtain ⟨ω, w1, w2, w3⟩ := r.own
  obtain ⟨v, hv, ow⟩ := w3 i t h
  exact ⟨v, hv, _, ow, w2 i⟩
theorem R.atD (r : R K M σ H δ) {i : Nat} {x : D} (h : δ[i]? = some (some (.d x))) : ∃ v, σ[i]? = some (some v) ∧ Rp K M x v := by
  obtain ⟨v, hv, P, ow, _⟩ := r.at h
  exact ⟨v, hv, ow⟩
/-- an owned object of a slot is changed -/
theorem R.write (r : R K M σ H δ) {i : Nat} {t t' : T} {a : Addr} {o : HO} {v : V} (h : δ[i]? = some (some t)) (hv : σ[i]? = some (some v)) (mu : Mut (some o))
    (w : ∀ P : Addr → Prop, Own K M H P t v → P a ∧ Own K M (upd H a o) P t' v) : R K M σ (upd H a o) (δ.set i (some t')) := by
  obtain ⟨ex, ln, ω, w1, w2, w3⟩ := r
  obtain ⟨u, hu, ow⟩ := w3 i t h
  rw [hv] at hu
  cases hu
  obtain ⟨pa, ow'⟩ := w _ ow
  obtain ⟨ma, mua⟩ := w2 i a pa
  have hl := (List.getElem?_eq_some_iff.mp h).1
  refine ⟨fun b u e => ?_, by simp [ln], ω, w1, fun j b hb => ⟨(w2 j b hb).1, ?_⟩, fun j s hs => ?_⟩
  · rw [upd_ne]
    · exact ex b u e
    · rintro rfl
      rw [ma] at e
      cases e
  · by_cases e : b = a
    · rw [e, upd_same]
      exact mu
    · rw [upd_ne e]
      exact (w2 j b hb).2
  · by_cases hj : j = i
    · subst hj
      rw [List.getElem?_set_self hl] at hs
      cases hs
      exact ⟨v, hv, ow'⟩
    · rw [List.getElem?_set_ne (Ne.symm hj)] at hs
      obtain ⟨u, hu, os⟩ := w3 j s hs
      refine ⟨u, hu, os.mono (Same.refl M) (fun _ q => q) (fun b hb => upd_ne ?_) fun b xs q => ?_⟩
      · rintro rfl
        exact hj (w1 _ _ _ hb pa)
      · rw [upd_ne]
        · exact q
        · rintro rfl
          exact mut_ntup mua q
/-! ### standing still -/
def fz : T → Option D
  | .d x => some x
  | .ls ds => some (.lst ds)
  | .ll dss => some (.lst (dss.map D.lst))
  | .pr a b => match fz a, fz b with
    | some x, some y => some (.tup [x, y])
    | _, _ => none
  | _ => none
theorem Own.freeze (e : Same M M') : ∀ {t : T} {P : Addr → Prop} {v : V} {x : D}, (∀ b u, P b → H b = some u → M' b = some u) → (∀ b xs, H b = some (.tup xs) → M' b = some (.tup xs)) → Own K M H P t v → fz t = some x → Rp K M' x v
  | .d _, _, _, _, _, _, h, z => by cases z; exact Rp.mono e h
  | .ls _, _, _, _, k, _, ⟨a, vs, h1, h2, h3, h4⟩, z => by cases z; exact ⟨a, vs, h1, k a _ h2 h3, h4.mono e⟩
  | .ll _, _, _, _, k, _, ⟨a, as, h1, h2, h3, h4, h5, h6⟩, z => by
    cases z
    exact ⟨a, _, h1, k a _ h2 h5, h6.freeze e fun b u hb hu => k b u (h3 b hb) hu⟩
  | .dk _, _, _, _, _, _, _, z => by cases z
  | .dt _, _, _, _, _, _, _, z => by cases z
  | .pr s t, _, _, _, k, tk, ⟨a, x, y, P1, P2, h1, h2, h3, h4, h5, h6, h7⟩, z => by
    unfold fz at z
    split at z
    · rename_i x' y' e1 e2
      cases z
      exact ⟨a, _, h1, .inl (.inl (tk _ _ h2)), _, _, rfl, Own.freeze e (fun b u hb => k b u (h3 b hb)) tk h6 e1, _, _, rfl, Own.freeze e (fun b u hb => k b u (h4 b hb)) tk h7 e2, rfl⟩
    · cases z
open Classical in
/-- slot i stands still from now on -/
theorem R.freeze (r : R K M σ H δ) {i : Nat} {t : T} {x : D} (h : δ[i]? = some (some t)) (hz : fz t = some x) : ∃ M', Same M M' ∧ R K M' σ H (δ.set i (some (.d x))) ∧ ∀ v, σ[i]? = some (some v) → Rp K M' x v := by
  obtain ⟨ex, ln, ω, w1, w2, w3⟩ := r
  obtain ⟨v, hv, ow⟩ := w3 i t h
  have hl := (List.getElem?_eq_some_iff.mp h).1
  let M' : Hp := fun b => if ω i b then H b else match H b with
    | some (.tup xs) => some (.tup xs)
    | _ => M b
  have e1 : Same M M' := fun b u q => by
    have q' := ex b u q
    show (if ω i b then H b else _) = some u
    split
    · exact q'
    · rw [q']
      cases u <;> first | exact q | rfl
  have e2 : Same M' H := fun b u q => by
    have q : (if ω i b then H b else match H b with
      | some (.tup xs) => some (.tup xs)
      | _ => M b) = some u := q
    split at q
    · exact q
    · split at q
      · rename_i xs e
        cases q
        exact e
      · exact ex b u q
  have tk : ∀ b xs, H b = some (.tup xs) → M' b = some (.tup xs) := fun b xs q => by
    show (if ω i b then H b else match H b with
      | some (.tup xs) => some (.tup xs)
      | _ => M b) = _
    split
    · exact q
    · rw [q]
  have fr : Rp K M' x v := ow.freeze e1 (fun b u hb hu => by
    show (if ω i b then H b else _) = some u
    rw [if_pos hb]
    exact hu) tk hz
  refine ⟨M', e1, ⟨e2, by simp [ln], fun j a => j ≠ i ∧ ω j a, fun j k a h1 h2 => w1 j k a h1.2 h2.2, fun j a h1 => ⟨?_, (w2 j a h1.2).2⟩, fun j s hs => ?_⟩, fun u hu => ?_⟩
  · show (if ω i a then H a else match H a with
      | some (.tup xs) => some (.tup xs)
      | _ => M a) = none
    rw [if_neg fun z => h1.1 (w1 _ _ _ h1.2 z)]
    split
    · rename_i xs e
      exact (mut_ntup (w2 j a h1.2).2 e).elim
    · exact (w2 j a h1.2).1
  · by_cases hj : j = i
    · subst hj
      rw [List.getElem?_set_self hl] at hs
      cases hs
      exact ⟨v, hv, fr⟩
    · rw [List.getElem?_set_ne (Ne.symm hj)] at hs
      obtain ⟨u, hu, os⟩ := w3 j s hs
      exact ⟨u, hu, os.mono e1 (fun b q => ⟨hj, q⟩) (fun _ _ => rfl) fun _ _ q => q⟩
  · rw [hv] at hu
    cases hu
    exact fr
/-- .. a top value -/
theorem R.freezeTop {v : V} {t : T} {x : D} (r : R K M (σ ++ [some v]) H (δ ++ [some t])) (hz : fz t = some x) : ∃ M', Same M M' ∧ R K M' σ H δ ∧ Rp K M' x v := by
  have hln : σ.length = δ.length := by simpa using r.ln
  obtain ⟨M', e, r', f⟩ := r.freeze (i := δ.length) get_top hz
  refine ⟨M', e, ?_, f v (by rw [← hln]; exact get_top)⟩
  have e2 : (δ ++ [some t]).set δ.length (some (.d x)) = δ ++ [some (.d x)] := by
    rw [List.set_append_right _ _ (Nat.le_refl _)]
    simp
  rw [e2] at r'
  exact r'.pop
end

/-! ### with a reserve: things that stand beside the slots -/
structure Z where
  s : L2.St
  e : Env
structure RR (K : PySem.W.Frag) (z : Z) (M : Hp) (σ : L2.St) (H : Hp) (δ : Env) : Prop where
  r : R K M (σ ++ z.s) H (δ ++ z.e)
  ln : σ.length = δ.length
def RT (K : PySem.W.Frag) (z : Z) (M : Hp) (σ : L2.St) (H : Hp) (δ : Env) (τ : T) (v : V) : Prop := R K M ((σ ++ z.s) ++ [some v]) H ((δ ++ z.e) ++ [some τ]) ∧ σ.length = δ.length
theorem get_leftL {α : Type} {l m : List α} {y : α} {i : Nat} (h : l[i]? = some y) : (l ++ m)[i]? = some y := by
  rw [List.getElem?_append_left (List.getElem?_eq_some_iff.mp h).1]
  exact h
theorem get_ofL {α : Type} {l m : List α} {y : α} {i : Nat} (hi : i < l.length) (h : (l ++ m)[i]? = some y) : l[i]? = some y := by
  rw [List.getElem?_append_left hi] at h
  exact h
section
variable {K : PySem.W.Frag} {z : Z} {M M' H H' : Hp} {σ : L2.St} {δ : Env}
theorem RR.ex (r : RR K z M σ H δ) : Same M H := r.r.ex
theorem RR.grow (r : RR K z M σ H δ) (e : Same H H') : RR K z M σ H' δ := ⟨r.r.grow e, r.ln⟩
theorem RR.laid (r : RR K z M σ H δ) {p : Addr} {o : HO} (hp : H p = none) : Same M (upd M p o) ∧ RR K z (upd M p o) σ (upd H p o) δ := ⟨(r.r.laid hp).1, (r.r.laid hp).2, r.ln⟩
theorem RR.pushD (r : RR K z M σ H δ) {x : D} {v : V} (h : Rp K M x v) : RT K z M σ H δ (.d x) v := ⟨r.r.pushD h, r.ln⟩
theorem RR.pushNew (r : RR K z M σ H δ) {p : Addr} {o : HO} {τ : T} (hp : H p = none) (mu : Mut (some o)) (h : ∀ P : Addr → Prop, P p → Own K M (upd H p o) P τ (.ref p)) : RT K z M σ (upd H p o) δ τ (.ref p) := ⟨r.r.pushNew hp mu h, r.ln⟩
theorem RT.pop {τ : T} {v : V} (r : RT K z M σ H δ τ v) : RR K z M σ H δ := ⟨r.1.pop, r.2⟩
theorem set_append {α : Type} {l m : List α} {i : Nat} {x : α} (h : i < l.length) : (l ++ m).set i x = l.set i x ++ m := List.set_append_left _ _ h
theorem RT.set {τ : T} {v : V} (i : Nat) (r : RT K z M σ H δ τ v) : RR K z M (σ.set i (some v)) H (δ.set i (some τ)) := by
  by_cases hi : i < δ.length
  · have h := r.1.set i
    rw [set_append hi, set_append (by rw [r.2]; exact hi)] at h
    exact ⟨h, by simp [r.2]⟩
  · have e := r.2
    rw [List.set_eq_of_length_le (by omega : σ.length ≤ i), List.set_eq_of_length_le (by omega : δ.length ≤ i)]
    exact r.pop
theorem RR.less {δ' : Env} (r : RR K z M σ H δ) (l : Less δ' δ) : RR K z M σ H δ' := by
  refine ⟨r.r.less ⟨by simp [l.1], fun i t h => ?_⟩, r.ln.trans l.1.symm⟩
  by_cases hi : i < δ'.length
  · exact get_leftL (l.2 i t (get_ofL hi h))
  · have hl := l.1
    rw [List.getElem?_append_right (by omega)] at h
    rw [List.getElem?_append_right (by omega), ← hl]
    exact h
theorem RR.at (r : RR K z M σ H δ) {i : Nat} {t : T} (h : δ[i]? = some (some t)) : ∃ v, σ[i]? = some (some v) ∧ ∃ P, Own K M H P t v ∧ ∀ a, P a → M a = none ∧ Mut (H a) := by
  obtain ⟨v, hv, q⟩ := r.r.at (get_leftL h)
  exact ⟨v, get_ofL (by rw [r.ln]; exact (List.getElem?_eq_some_iff.mp h).1) hv, q⟩
theorem RR.atD (r : RR K z M σ H δ) {i : Nat} {x : D} (h : δ[i]? = some (some (.d x))) : ∃ v, σ[i]? = some (some v) ∧ Rp K M x v := by
  obtain ⟨v, hv, P, ow, _⟩ := r.at h
  exact ⟨v, hv, ow⟩
theorem RR.write (r : RR K z M σ H δ) {i : Nat} {t t' : T} {a : Addr} {o : HO} {v : V} (h : δ[i]? = some (some t)) (hv : σ[i]? = some (some v)) (mu : Mut (some o))
    (w : ∀ P : Addr → Prop, Own K M H P t v → P a ∧ Own K M (upd H a o) P t' v) : RR K z M σ (upd H a o) (δ.set i (some t')) := by
  have q := r.r.write (get_leftL h) (get_leftL hv) mu w
  rw [set_append (List.getElem?_eq_some_iff.mp h).1] at q
  exact ⟨q, by simp [r.ln]⟩
theorem RR.freeze (r : RR K z M σ H δ) {i : Nat} {t : T} {x : D} (h : δ[i]? = some (some t)) (hz : fz t = some x) : ∃ M', Same M M' ∧ RR K z M' σ H (δ.set i (some (.d x))) := by
  obtain ⟨M', e, q, _⟩ := r.r.freeze (get_leftL h) hz
  rw [set_append (List.getElem?_eq_some_iff.mp h).1] at q
  exact ⟨M', e, q, by simp [r.ln]⟩
theorem RT.freeze {v : V} {t : T} {x : D} (r : RT K z M σ H δ t v) (hz : fz t = some x) : ∃ M', Same M M' ∧ RR K z M' σ H δ ∧ Rp K M' x v := by
  obtain ⟨M', e, q, p⟩ := r.1.freezeTop hz
  exact ⟨M', e, ⟨q, r.2⟩, p⟩
end
/-! ### what evaluates to what -/
inductive Arg where
  | d (x : D) | sl (i : Nat)
def ArgOk (K : PySem.W.Frag) (M : Hp) (σ : L2.St) : Arg → V → Prop
  | .d x, v => Rp K M x v
  | .sl i, v => σ[i]? = some (some v)
theorem ArgOk.mono {K : PySem.W.Frag} {M M' : Hp} {σ : L2.St} (e : Same M M') : ∀ {r : Arg} {v : V}, ArgOk K M σ r v → ArgOk K M' σ r v
  | .d _, _, h => Rp.mono e h
  | .sl _, _, h => h
def ArgsOk (K : PySem.W.Frag) (M : Hp) (σ : L2.St) : List Arg → List V → Prop
  | [], vs => vs = []
  | r :: rs, vs => ∃ v q, vs = v :: q ∧ ArgOk K M σ r v ∧ ArgsOk K M σ rs q
def Rd (K : PySem.W.Frag) (t : TE) (δ : Env) (r : Arg) (δ' : Env) : Prop := ∀ z M σ H, RR K z M σ H δ → ∀ Q : VK, (∀ M' v H', Same M M' → RR K z M' σ H' δ' → ArgOk K M' σ r v → Q v H') → t σ H Q
def Ro (K : PySem.W.Frag) (t : TE) (δ : Env) (τ : T) (δ' : Env) : Prop := ∀ z M σ H, RR K z M σ H δ → ∀ Q : VK, (∀ M' v H', Same M M' → RT K z M' σ H' δ' τ v → Q v H') → t σ H Q
def Ra (K : PySem.W.Frag) (t : TA) (δ : Env) (rs : List Arg) (δ' : Env) : Prop := ∀ z M σ H, RR K z M σ H δ → ∀ Q : List V → Hp → Prop, (∀ M' vs H', Same M M' → RR K z M' σ H' δ' → ArgsOk K M' σ rs vs → Q vs H') → t σ H Q
def Rt (K : PySem.W.Frag) (t : TT) (δ : Env) (b : Bool) (δ' : Env) : Prop := ∀ z M σ H, RR K z M σ H δ → ∀ Q : Bool → Hp → Prop, (∀ M' H', Same M M' → RR K z M' σ H' δ' → Q b H') → t σ H Q
def Rn (K : PySem.W.Frag) (t : TO) (δ : Env) (b : Option Int) (δ' : Env) : Prop := ∀ z M σ H, RR K z M σ H δ → ∀ Q : Option Int → Hp → Prop, (∀ M' H', Same M M' → RR K z M' σ H' δ' → Q b H') → t σ H Q
section
variable {K : PySem.W.Frag} {δ δ1 δ2 δ3 : Env} {ta tb te : TE} {tt tu : TT}
theorem rd_var {i : Nat} {x : D} (h : δ[i]? = some (some (.d x))) : Rd K (tVar i) δ (.d x) δ := fun z M σ H r Q q => by
  obtain ⟨v, hv, rp⟩ := r.atD h
  exact ⟨v, hv, q M v H (Same.refl M) r rp⟩
theorem rd_slot {i : Nat} {t : T} (h : δ[i]? = some (some t)) : Rd K (tVar i) δ (.sl i) δ := fun z M σ H r Q q => by
  obtain ⟨v, hv, _⟩ := r.at h
  exact ⟨v, hv, q M v H (Same.refl M) r hv⟩
theorem rd_c {v : V} {x : D} (h : ∀ K M, Rp K M x v) : Rd K (tC v) δ (.d x) δ := fun z M σ H r Q q => q M v H (Same.refl M) r (h K M)
theorem rd_int {i : Int} : Rd K (tC (.int i)) δ (.d (.int i)) δ := rd_c fun _ _ => rfl
theorem rd_bl {i : Bool} : Rd K (tC (.bl i)) δ (.d (.bl i)) δ := rd_c fun _ _ => rfl
theorem rd_str {i : Str} : Rd K (tC (.str i)) δ (.d (.str i)) δ := rd_c fun _ _ => rfl
theorem rd_non : Rd K (tC .non) δ (.d .non) δ := rd_c fun _ _ => rfl
theorem rd_ty {n : String} : Rd K (tC (.ty n)) δ (.d (.ty n)) δ := rd_c fun _ _ => rfl
theorem Rd.is {r r' : Arg} (h : Rd K te δ r δ1) (e : r = r') : Rd K te δ r' δ1 := e ▸ h
theorem Ro.is {r r' : T} (h : Ro K te δ r δ1) (e : r = r') : Ro K te δ r' δ1 := e ▸ h
theorem Rt.is {r r' : Bool} (h : Rt K tt δ r δ1) (e : r = r') : Rt K tt δ r' δ1 := e ▸ h
theorem Rd.own {x : D} (h : Rd K te δ (.d x) δ1) : Ro K te δ (.d x) δ1 := fun z M σ H r Q q => h z M σ H r Q fun M' v H' e r' rp => q M' v H' e (r'.pushD rp)
theorem Ro.frz {τ : T} {x : D} (h : Ro K te δ τ δ1) (hz : fz τ = some x) : Rd K te δ (.d x) δ1 := fun z M σ H r Q q => h z M σ H r Q fun M' v H' e r' => by
  obtain ⟨M2, e2, r2, rp⟩ := r'.freeze hz
  exact q M2 v H' (e.trans e2) r2 rp
/-- two whole numbers -/
theorem rd_op2 {r : R2} {x y : D} {z : D} (ha : Rd K ta δ (.d x) δ1) (hb : Rd K tb δ1 (.d y) δ2)
    (hr : ∀ M v w H, Rp K M x v → Rp K M y w → ∀ Q : VK, (∀ u, Rp K M z u → Q u H) → r v w H Q) : Rd K (tOp r ta tb) δ (.d z) δ2 := fun z M σ H r0 Q q =>
  ha z M σ H r0 _ fun M1 v H1 e1 r1 p1 => hb z M1 σ H1 r1 _ fun M2 w H2 e2 r2 p2 => hr M2 v w H2 (p1.mono e2) p2 Q fun u pu => q M2 u H2 (e1.trans e2) r2 pu
theorem rd_opI {f : Int → Int → Int} {i j : Int} (ha : Rd K ta δ (.d (.int i)) δ1) (hb : Rd K tb δ1 (.d (.int j)) δ2) : Rd K (tOp (rI0 fun i j => .int (f i j)) ta tb) δ (.d (.int (f i j))) δ2 :=
  rd_op2 ha hb fun M v w H h1 h2 Q q => ⟨i, j, h1, h2, q _ rfl⟩
theorem rd_opB {f : Int → Int → Bool} {i j : Int} (ha : Rd K ta δ (.d (.int i)) δ1) (hb : Rd K tb δ1 (.d (.int j)) δ2) : Rd K (tOp (rI0 fun i j => .bl (f i j)) ta tb) δ (.d (.bl (f i j))) δ2 :=
  rd_op2 ha hb fun M v w H h1 h2 Q q => ⟨i, j, h1, h2, q _ rfl⟩
theorem rd_opC {C : Int → Int → Prop} {f : Int → Int → Int} {i j : Int} (ha : Rd K ta δ (.d (.int i)) δ1) (hb : Rd K tb δ1 (.d (.int j)) δ2) (hc : C i j) : Rd K (tOp (rI C fun i j => .int (f i j)) ta tb) δ (.d (.int (f i j))) δ2 :=
  rd_op2 ha hb fun M v w H h1 h2 Q q => ⟨i, j, h1, h2, hc, q _ rfl⟩
theorem rd_un {f : Int → Int} {i : Int} (ha : Rd K ta δ (.d (.int i)) δ1) : Rd K (tUn (rU fun i => .int (f i)) ta) δ (.d (.int (f i))) δ1 := fun z M σ H r0 Q q =>
  ha z M σ H r0 _ fun M1 v H1 e1 r1 p1 => ⟨i, p1, q M1 _ H1 e1 r1 rfl⟩
theorem rd_eqI {i j : Int} (ha : Rd K ta δ (.d (.int i)) δ1) (hb : Rd K tb δ1 (.d (.int j)) δ2) : Rd K (tOp rEq ta tb) δ (.d (.bl (decide (i = j)))) δ2 :=
  rd_op2 ha hb fun M v w H h1 h2 Q q => by cases h1; cases h2; exact ⟨rfl, q _ (by simp [Rp])⟩
theorem rd_neI {i j : Int} (ha : Rd K ta δ (.d (.int i)) δ1) (hb : Rd K tb δ1 (.d (.int j)) δ2) : Rd K (tOp rNe ta tb) δ (.d (.bl (!decide (i = j)))) δ2 :=
  rd_op2 ha hb fun M v w H h1 h2 Q q => by cases h1; cases h2; exact ⟨rfl, q _ (by simp [Rp])⟩
theorem rd_eqB {i j : Bool} (ha : Rd K ta δ (.d (.bl i)) δ1) (hb : Rd K tb δ1 (.d (.bl j)) δ2) : Rd K (tOp rEq ta tb) δ (.d (.bl (decide (i = j)))) δ2 :=
  rd_op2 ha hb fun M v w H h1 h2 Q q => by cases h1; cases h2; exact ⟨rfl, q _ (by simp [Rp])⟩
theorem rd_neB {i j : Bool} (ha : Rd K ta δ (.d (.bl i)) δ1) (hb : Rd K tb δ1 (.d (.bl j)) δ2) : Rd K (tOp rNe ta tb) δ (.d (.bl (!decide (i = j)))) δ2 :=
  rd_op2 ha hb fun M v w H h1 h2 Q q => by cases h1; cases h2; exact ⟨rfl, q _ (by simp [Rp])⟩
theorem rd_eqS {i j : Str} (ha : Rd K ta δ (.d (.str i)) δ1) (hb : Rd K tb δ1 (.d (.str j)) δ2) : Rd K (tOp rEq ta tb) δ (.d (.bl (decide (i = j)))) δ2 :=
  rd_op2 ha hb fun M v w H h1 h2 Q q => by cases h1; cases h2; exact ⟨rfl, q _ (by simp [Rp])⟩
theorem rd_neS {i j : Str} (ha : Rd K ta δ (.d (.str i)) δ1) (hb : Rd K tb δ1 (.d (.str j)) δ2) : Rd K (tOp rNe ta tb) δ (.d (.bl (!decide (i = j)))) δ2 :=
  rd_op2 ha hb fun M v w H h1 h2 Q q => by cases h1; cases h2; exact ⟨rfl, q _ (by simp [Rp])⟩
/-! tests -/
theorem rt_test {b : Bool} (h : Rd K te δ (.d (.bl b)) δ1) : Rt K (tTest te) δ b δ1 := fun z M σ H r Q q => h z M σ H r _ fun M' v H' e r' p => ⟨b, p, q M' H' e r'⟩
theorem rt_B {b : Bool} (h : Rd K te δ (.d (.bl b)) δ1) : Rt K (tB te) δ b δ1 := fun z M σ H r Q q => h z M σ H r _ fun M' v H' e r' p => ⟨b, p, q M' H' e r'⟩
theorem rt_not {b : Bool} (h : Rt K tt δ b δ1) : Rt K (tNot tt) δ (!b) δ1 := fun z M σ H r Q q => h z M σ H r _ q
theorem rt_and {a b : Bool} (h : Rt K tt δ a δ1) (g : a = true → Rt K tu δ1 b δ1) : Rt K (tAnd tt tu) δ (a && b) δ1 := fun z M σ H r Q q => h z M σ H r _ fun M' H' e r' => by
  cases a with
  | true => exact g rfl z M' σ H' r' Q fun M2 H2 e2 r2 => q M2 H2 (e.trans e2) r2
  | false => exact q M' H' e r'
theorem rt_or {a b : Bool} (h : Rt K tt δ a δ1) (g : a = false → Rt K tu δ1 b δ1) : Rt K (tOr tt tu) δ (a || b) δ1 := fun z M σ H r Q q => h z M σ H r _ fun M' H' e r' => by
  cases a with
  | false => exact g rfl z M' σ H' r' Q fun M2 H2 e2 r2 => q M2 H2 (e.trans e2) r2
  | true => exact q M' H' e r'
theorem rt_andE {a b : Bool} (h : Rt K tt δ a δ1) (g : a = true → Rt K tu δ1 b δ2) (d3 : δ3 = if a = true then δ2 else δ1) : Rt K (tAnd tt tu) δ (a && b) δ3 := fun z M σ H r Q q => h z M σ H r _ fun M' H' e r' => by
  cases a with
  | true => exact g rfl z M' σ H' r' Q fun M2 H2 e2 r2 => q M2 H2 (e.trans e2) (by rw [d3]; exact r2)
  | false => exact q M' H' e (by rw [d3]; exact r')
theorem rt_orE {a b : Bool} (h : Rt K tt δ a δ1) (g : a = false → Rt K tu δ1 b δ2) (d3 : δ3 = if a = true then δ1 else δ2) : Rt K (tOr tt tu) δ (a || b) δ3 := fun z M σ H r Q q => h z M σ H r _ fun M' H' e r' => by
  cases a with
  | false => exact g rfl z M' σ H' r' Q fun M2 H2 e2 r2 => q M2 H2 (e.trans e2) (by rw [d3]; exact r2)
  | true => exact q M' H' e (by rw [d3]; exact r')
theorem rd_andV {a b : Bool} (h : Rd K ta δ (.d (.bl a)) δ1) (g : a = true → Rd K tb δ1 (.d (.bl b)) δ1) : Rd K (tAndV ta tb) δ (.d (.bl (a && b))) δ1 := fun z M σ H r Q q => h z M σ H r _ fun M' v H' e r' p => ⟨a, p, by
  cases a with
  | true => exact g rfl z M' σ H' r' Q fun M2 w H2 e2 r2 => q M2 w H2 (e.trans e2) r2
  | false => exact q M' _ H' e r' rfl⟩
theorem rd_orV {a b : Bool} (h : Rd K ta δ (.d (.bl a)) δ1) (g : a = false → Rd K tb δ1 (.d (.bl b)) δ1) : Rd K (tOrV ta tb) δ (.d (.bl (a || b))) δ1 := fun z M σ H r Q q => h z M σ H r _ fun M' v H' e r' p => ⟨a, p, by
  cases a with
  | false => exact g rfl z M' σ H' r' Q fun M2 w H2 e2 r2 => q M2 w H2 (e.trans e2) r2
  | true => exact q M' _ H' e r' rfl⟩
theorem rd_andVE {a b : Bool} (h : Rd K ta δ (.d (.bl a)) δ1) (g : a = true → Rd K tb δ1 (.d (.bl b)) δ2) (d3 : δ3 = if a = true then δ2 else δ1) : Rd K (tAndV ta tb) δ (.d (.bl (a && b))) δ3 := fun z M σ H r Q q => h z M σ H r _ fun M' v H' e r' p => ⟨a, p, by
  cases a with
  | true => exact g rfl z M' σ H' r' Q fun M2 w H2 e2 r2 => q M2 w H2 (e.trans e2) (by rw [d3]; exact r2)
  | false => exact q M' _ H' e (by rw [d3]; exact r') rfl⟩
theorem rd_notV {a : Bool} (h : Rd K ta δ (.d (.bl a)) δ1) : Rd K (tNotV ta) δ (.d (.bl (!a))) δ1 := fun z M σ H r Q q => h z M σ H r _ fun M' v H' e r' p => ⟨a, p, q M' _ H' e r' rfl⟩
theorem rd_if {b : Bool} {r : Arg} (h : Rt K tt δ b δ1) (h1 : b = true → Rd K ta δ1 r δ2) (h2 : b = false → Rd K tb δ1 r δ2) : Rd K (tIf tt ta tb) δ r δ2 := fun z M σ H r Q q => h z M σ H r _ fun M' H' e r' => by
  cases b with
  | true => exact h1 rfl z M' σ H' r' Q fun M2 w H2 e2 r2 => q M2 w H2 (e.trans e2) r2
  | false => exact h2 rfl z M' σ H' r' Q fun M2 w H2 e2 r2 => q M2 w H2 (e.trans e2) r2
/-! arguments -/
theorem ra_nil : Ra K tNil δ [] δ := fun z M σ H r Q q => q M [] H (Same.refl M) r rfl
theorem ra_cons {tr : TA} {r : Arg} {rs : List Arg} (h : Rd K ta δ r δ1) (g : Ra K tr δ1 rs δ2) : Ra K (tCons ta tr) δ (r :: rs) δ2 := fun z M σ H r0 Q q =>
  h z M σ H r0 _ fun M1 v H1 e1 r1 p1 => g z M1 σ H1 r1 _ fun M2 vs H2 e2 r2 p2 => q M2 (v :: vs) H2 (e1.trans e2) r2 ⟨v, vs, rfl, p1.mono e2, p2⟩
def argD : List D → List Arg := List.map Arg.d
theorem ArgsOk.rpL {M : Hp} {σ : L2.St} : ∀ {ds : List D} {vs : List V}, ArgsOk K M σ (ds.map Arg.d) vs → RpL K M ds vs
  | [], _, h => h
  | _ :: _, _, ⟨v, q, h1, h2, h3⟩ => ⟨v, q, h1, h2, ArgsOk.rpL h3⟩
theorem rd_tup {t : TA} {rs : List Arg} {ds : List D} (h : Ra K t δ rs δ1) (e : rs = ds.map Arg.d) (hl : ds.length ≤ 1000) : Rd K (tTup t) δ (.d (.tup ds)) δ1 := fun z M σ H r Q q =>
  h z M σ H r _ fun M1 vs H1 e1 r1 p1 => by
    rw [e] at p1
    have p := p1.rpL
    refine ⟨Nat.le_of_lt (small1000 (by rw [← p.length]; exact hl)), fun a ha => ?_⟩
    obtain ⟨s1, r2⟩ := r1.laid (o := .tup vs) ha
    exact q _ _ _ (e1.trans s1) r2 ⟨a, vs, rfl, .inl (.inl upd_same), p.mono s1⟩
theorem ro_lst {t : TA} {rs : List Arg} {ds : List D} (h : Ra K t δ rs δ1) (e : rs = ds.map Arg.d) (hl : ds.length ≤ 1000) : Ro K (tLst t) δ (.ls ds) δ1 := fun z M σ H r Q q =>
  h z M σ H r _ fun M1 vs H1 e1 r1 p1 => by
    rw [e] at p1
    have p := p1.rpL
    refine ⟨Nat.le_of_lt (small1000 (by rw [← p.length]; exact hl)), fun a ha => ?_⟩
    exact q _ _ _ e1 (r1.pushNew ha (by trivial) fun P hp => ⟨a, vs, rfl, hp, upd_same, p⟩)
theorem ro_nilL : Ro K (tLst tNil) δ (.ll []) δ := fun z M σ H r Q q => ⟨Nat.zero_le _, fun a ha => q _ _ _ (Same.refl M) (r.pushNew ha trivial fun P hp => ⟨a, [], rfl, hp, fun _ z => by simp at z, by simp, upd_same, rfl⟩)⟩
/-! lists read -/
def viewL (δ : Env) : Arg → Option (List D)
  | .d (.lst ds) => some ds
  | .d (.scr ds) => some ds
  | .sl i => match δ[i]? with
    | some (some (.ls ds)) => some ds
    | _ => none
  | _ => none
theorem RR.view {z : Z} {M H : Hp} {σ : L2.St} (r : RR K z M σ H δ) {x : Arg} {ds : List D} {v : V} (h : viewL δ x = some ds) (ok : ArgOk K M σ x v) : ∃ a vs, v = .ref a ∧ SqL K H a vs ∧ RpL K M ds vs := by
  unfold viewL at h
  split at h
  · cases h
    obtain ⟨a, vs, h1, h2, h3⟩ := ok
    exact ⟨a, vs, h1, .inl (.inl (r.ex _ _ h2)), h3⟩
  · cases h
    obtain ⟨a, vs, h1, h2, h3⟩ := ok
    exact ⟨a, vs, h1, Same.sqL r.ex h2, h3⟩
  · split at h
    · rename_i i _ ds' e
      cases h
      obtain ⟨u, hu, P, ow, _⟩ := r.at e
      obtain ⟨a, vs, h1, h2, h3, h4⟩ := ow
      have : v = u := by
        have ok : σ[i]? = some (some v) := ok
        rw [ok] at hu
        cases hu
        rfl
      exact ⟨a, vs, this.trans h1, .inl (.inl h3), h4⟩
    · cases h
  · cases h
theorem atI_rp {M : Hp} {ds : List D} {vs : List V} {k : Int} {x : D} (p : RpL K M ds vs) (h : atI ds k = some x) : ∃ v, atI vs k = some v ∧ Rp K M x v := by
  unfold atI at h ⊢
  rw [← p.length]
  cases e : ixN ds.length k with
  | none => rw [e] at h; cases h
  | some j =>
    rw [e] at h
    exact p.get h
theorem rd_ix {r : Arg} {ds : List D} {k : Int} {x : D} (ha : Rd K ta δ r δ1) (hb : Rd K tb δ1 (.d (.int k)) δ2) (hv : viewL δ2 r = some ds) (hx : atI ds k = some x) : Rd K (tOp (rIxL K) ta tb) δ (.d x) δ2 := fun z M σ H r0 Q q =>
  ha z M σ H r0 _ fun M1 v H1 e1 r1 p1 => hb z M1 σ H1 r1 _ fun M2 w H2 e2 r2 p2 => by
    obtain ⟨a, vs, h1, h2, h3⟩ := r2.view hv (p1.mono e2)
    obtain ⟨z, hz, rz⟩ := atI_rp h3 hx
    exact ⟨a, vs, k, z, h1, p2, h2, hz, q M2 z H2 (e1.trans e2) r2 rz⟩
theorem rd_ixT {ds : List D} {k : Int} {x : D} (ha : Rd K ta δ (.d (.tup ds)) δ1) (hb : Rd K tb δ1 (.d (.int k)) δ2) (hx : atI ds k = some x) : Rd K (tOp (rIxT K) ta tb) δ (.d x) δ2 := fun z M σ H r0 Q q =>
  ha z M σ H r0 _ fun M1 v H1 e1 r1 p1 => hb z M1 σ H1 r1 _ fun M2 w H2 e2 r2 p2 => by
    obtain ⟨a, vs, h1, h2, h3⟩ := p1.mono e2
    obtain ⟨z, hz, rz⟩ := atI_rp h3 hx
    exact ⟨a, vs, k, z, h1, p2, Same.sqT r2.ex h2, hz, q M2 z H2 (e1.trans e2) r2 rz⟩
/-- len of a list -/
def lenA (δ : Env) : Arg → Option Nat
  | .d (.lst ds) => some ds.length
  | .d (.scr ds) => some ds.length
  | .d (.tup ds) => some ds.length
  | .sl i => match δ[i]? with
    | some (some (.ls ds)) => some ds.length
    | some (some (.ll ds)) => some ds.length
    | _ => none
  | _ => none
theorem rd_len {r : Arg} {n : Nat} (ha : Rd K ta δ r δ1) (h : lenA δ1 r = some n) :
    Rd K (tCB (fun xs H Q => ∃ p ys, xs = [V.ref p] ∧ (SqL K H p ys ∨ SqT K H p ys) ∧ Q (.int ys.length) H) (tCons ta tNil)) δ (.d (.int n)) δ1 := fun z M σ H r0 Q q =>
  ha z M σ H r0 _ fun M1 v H1 e1 r1 p1 => by
    unfold lenA at h
    split at h
    · cases h
      obtain ⟨a, vs, h1, h2, h3⟩ := p1
      subst h1
      exact ⟨a, vs, rfl, .inl (.inl (.inl (r1.ex _ _ h2))), q M1 _ H1 e1 r1 (by rw [h3.length]; rfl)⟩
    · cases h
      obtain ⟨a, vs, h1, h2, h3⟩ := p1
      subst h1
      exact ⟨a, vs, rfl, .inl (Same.sqL r1.ex h2), q M1 _ H1 e1 r1 (by rw [h3.length]; rfl)⟩
    · cases h
      obtain ⟨a, vs, h1, h2, h3⟩ := p1
      subst h1
      exact ⟨a, vs, rfl, .inr (Same.sqT r1.ex h2), q M1 _ H1 e1 r1 (by rw [h3.length]; rfl)⟩
    · split at h
      · rename_i i _ ds e
        cases h
        obtain ⟨u, hu, P, ow, _⟩ := r1.at e
        obtain ⟨a, vs, h1, h2, h3, h4⟩ := ow
        have p1 : σ[i]? = some (some v) := p1
        rw [p1] at hu
        cases hu
        subst h1
        exact ⟨a, vs, rfl, .inl (.inl (.inl h3)), q M1 _ H1 e1 r1 (by rw [h4.length]; rfl)⟩
      · rename_i i _ ds e
        cases h
        obtain ⟨u, hu, P, ow, _⟩ := r1.at e
        obtain ⟨a, as, h1, h2, h3, h4, h5, h6⟩ := ow
        have p1 : σ[i]? = some (some v) := p1
        rw [p1] at hu
        cases hu
        subst h1
        exact ⟨a, _, rfl, .inl (.inl (.inl h5)), q M1 _ H1 e1 r1 (by rw [h6.length, List.length_map]; rfl)⟩
      · cases h
    · cases h
end
end TV

namespace TV
open PySem PySem.Spec PyProof.Rows L2
theorem refs_inj : ∀ {as bs : List Addr}, as.map V.ref = bs.map V.ref → as = bs
  | [], [], _ => rfl
  | [], _ :: _, h => nomatch h
  | _ :: _, [], h => nomatch h
  | a :: r, b :: q, h => by
    injection h with h1 h2
    rw [V.ref.inj h1, refs_inj h2]
theorem RpL.one {K : PySem.W.Frag} {M : Hp} {d : TV.D} {v : V} (h : Rp K M d v) : RpL K M [d] [v] := ⟨v, [], rfl, h, rfl⟩
/-! ### statements -/
structure EndT where
  nx : Env → Prop
  rt : T → Env → Prop
  bk : Env → Prop := fun _ => False
  ct : Env → Prop := fun _ => False
def Keep (ps : List Nat) (σ σ' : L2.St) : Prop := ∀ i, i ∈ ps → σ'[i]? = σ[i]?
theorem Keep.refl {ps : List Nat} {σ : L2.St} : Keep ps σ σ := fun _ _ => rfl
theorem Keep.trans {ps : List Nat} {σ σ1 σ2 : L2.St} (a : Keep ps σ σ1) (b : Keep ps σ1 σ2) : Keep ps σ σ2 := fun i h => (b i h).trans (a i h)
theorem Keep.sub {ps qs : List Nat} {σ σ' : L2.St} (a : Keep ps σ σ') (h : ∀ i, i ∈ qs → i ∈ ps) : Keep qs σ σ' := fun i hi => a i (h i hi)
theorem Keep.set {ps : List Nat} {σ : L2.St} {i : Nat} {v : Option V} (h : i ∉ ps) : Keep ps σ (σ.set i v) := fun j hj => by
  rw [List.getElem?_set_ne]
  rintro rfl
  exact h hj
structure LiftE (K : PySem.W.Frag) (ps : List Nat) (z : Z) (σ : L2.St) (M : Hp) (D : EndT) (E : Ends) : Prop where
  nx : ∀ M' σ' H δ, Same M M' → RR K z M' σ' H δ → Keep ps σ σ' → D.nx δ → E.nx σ' H
  rt : ∀ M' σ' v H δ τ, Same M M' → RT K z M' σ' H δ τ v → Keep ps σ σ' → D.rt τ δ → E.rt v H
  bk : ∀ M' σ' H δ, Same M M' → RR K z M' σ' H δ → Keep ps σ σ' → D.bk δ → E.bk σ' H
  ct : ∀ M' σ' H δ, Same M M' → RR K z M' σ' H δ → Keep ps σ σ' → D.ct δ → E.ct σ' H
theorem LiftE.on {K : PySem.W.Frag} {ps : List Nat} {z : Z} {σ σ' : L2.St} {M M' : Hp} {D : EndT} {E : Ends} (l : LiftE K ps z σ M D E) (e : Same M M') (k : Keep ps σ σ') : LiftE K ps z σ' M' D E :=
  ⟨fun M2 σ2 H δ e2 r k2 => l.nx M2 σ2 H δ (e.trans e2) r (k.trans k2), fun M2 σ2 v H δ τ e2 r k2 => l.rt M2 σ2 v H δ τ (e.trans e2) r (k.trans k2),
   fun M2 σ2 H δ e2 r k2 => l.bk M2 σ2 H δ (e.trans e2) r (k.trans k2), fun M2 σ2 H δ e2 r k2 => l.ct M2 σ2 H δ (e.trans e2) r (k.trans k2)⟩
def Sd (K : PySem.W.Frag) (ps : List Nat) (t : TS) (δ : Env) (D : EndT) : Prop := ∀ z M σ H, RR K z M σ H δ → ∀ E, LiftE K ps z σ M D E → t E σ H
def Gd (K : PySem.W.Frag) (ps : List Nat) (g : TG) (x : D) (δ δ' : Env) : Prop := ∀ z M σ H v, RR K z M σ H δ → Rp K M x v → ∀ Q : L2.St → Hp → Prop, (∀ σ', RR K z M σ' H δ' → Keep ps σ σ' → Q σ' H) → g v σ H Q
def Gds (K : PySem.W.Frag) (ps : List Nat) (g : TGs) (xs : List D) (δ δ' : Env) : Prop := ∀ z M σ H vs, RR K z M σ H δ → RpL K M xs vs → ∀ Q : L2.St → Hp → Prop, (∀ σ', RR K z M σ' H δ' → Keep ps σ σ' → Q σ' H) → g vs σ H Q
section
variable {K : PySem.W.Frag} {ps : List Nat} {δ δ1 δ2 δ3 : Env} {ta tb te : TE} {tt tu : TT} {t u : TS} {D : EndT}
theorem sd_less {δ' : Env} (h : Sd K ps t δ' D) (l : Less δ' δ) : Sd K ps t δ D := fun z M σ H r E hE => h z M σ H (r.less l) E hE
theorem sd_frz {i : Nat} {τ : T} {x : TV.D} (hi : δ[i]? = some (some τ)) (hz : fz τ = some x) (h : Sd K ps t (δ.set i (some (.d x))) D) : Sd K ps t δ D := fun z M σ H r E hE => by
  obtain ⟨M', e, r'⟩ := r.freeze hi hz
  exact h z M' σ H r' E (hE.on e Keep.refl)
theorem sd_seq (h : Sd K ps t δ { D with nx := fun δ' => Sd K ps u δ' D }) : Sd K ps (tSeq t u) δ D := fun z M σ H r E hE =>
  h z M σ H r { E with nx := u E } ⟨fun M' σ' H' δ' e r' k q => q z M' σ' H' r' E (hE.on e k), hE.rt, hE.bk, hE.ct⟩
theorem sd_next (h : D.nx δ) : Sd K ps tNext δ D := fun z M σ H r E hE => hE.nx M σ H δ (Same.refl M) r Keep.refl h
theorem sd_break (h : D.bk δ) : Sd K ps tBreak δ D := fun z M σ H r E hE => hE.bk M σ H δ (Same.refl M) r Keep.refl h
theorem sd_cont (h : D.ct δ) : Sd K ps tCont δ D := fun z M σ H r E hE => hE.ct M σ H δ (Same.refl M) r Keep.refl h
theorem sd_if {b : Bool} (h : Rt K tt δ b δ1) (h1 : b = true → Sd K ps t δ1 D) (h2 : b = false → Sd K ps u δ1 D) : Sd K ps (tIfS tt t u) δ D := fun z M σ H r E hE =>
  h z M σ H r _ fun M' H' e r' => by
    cases b with
    | true => exact h1 rfl z M' σ H' r' E (hE.on e Keep.refl)
    | false => exact h2 rfl z M' σ H' r' E (hE.on e Keep.refl)
theorem gd_name {i : Nat} {x : TV.D} (hi : i ∉ ps) : Gd K ps (gName i) x δ (δ.set i (some (.d x))) := fun z M σ H v r rp Q q => q _ ((r.pushD rp).set i) (Keep.set hi)
theorem gds_nil : Gds K ps gNil [] δ δ := fun z M σ H vs r rp Q q => ⟨rp, q σ r Keep.refl⟩
theorem gds_cons {g : TG} {gs : TGs} {x : TV.D} {xs : List TV.D} (h : Gd K ps g x δ δ1) (hs : Gds K ps gs xs δ1 δ2) : Gds K ps (gCons g gs) (x :: xs) δ δ2 := fun z M σ H vs r rp Q q => by
  obtain ⟨v, w, h1, h2, h3⟩ := rp
  exact ⟨v, w, h1, h z M σ H v r h2 _ fun σ' r' k => hs z M σ' H w r' h3 Q fun σ2 r2 k2 => q σ2 r2 (k.trans k2)⟩
theorem gd_tup {gs : TGs} {xs : List TV.D} {n : Nat} (hs : Gds K ps gs xs δ δ1) (hn : xs.length = n) : Gd K ps (gTup K n gs) (.tup xs) δ δ1 := fun z M σ H v r rp Q q => by
  obtain ⟨a, vs, h1, h2, h3⟩ := rp
  exact ⟨a, vs, h1, Same.sqT r.ex h2, h3.length.symm.trans hn, hs z M σ H vs r h3 Q q⟩
theorem sd_asgG {g : TG} {x : TV.D} (h : Rd K te δ (.d x) δ1) (hg : Gd K ps g x δ1 δ2) (hn : D.nx δ2) : Sd K ps (tAsg te g) δ D := fun z M σ H r E hE =>
  h z M σ H r _ fun M' v H' e r' rp => hg z M' σ H' v r' rp _ fun σ' r2 k => hE.nx M' σ' H' δ2 e r2 k hn
theorem sd_asg {i : Nat} {x : TV.D} (h : Rd K te δ (.d x) δ1) (hi : i ∉ ps) (hn : D.nx (δ1.set i (some (.d x)))) : Sd K ps (tAsg te (gName i)) δ D := sd_asgG h (gd_name hi) hn
theorem sd_asgO {i : Nat} {τ : T} (h : Ro K te δ τ δ1) (hi : i ∉ ps) (hn : D.nx (δ1.set i (some τ))) : Sd K ps (tAsg te (gName i)) δ D := fun z M σ H r E hE =>
  h z M σ H r _ fun M' v H' e r' => hE.nx M' _ H' _ e (r'.set i) (Keep.set hi) hn
theorem sd_aug {i : Nat} {f : Int → Int → Int} {a b : Int} (h : Rd K te δ (.d (.int b)) δ1) (h0 : δ[i]? = some (some (.d (.int a)))) (hi : i ∉ ps) (hn : D.nx (δ1.set i (some (.d (.int (f a b)))))) : Sd K ps (tAug i te (ipI f)) δ D := fun z M σ H r E hE => by
  obtain ⟨v, hv, rp⟩ := r.atD h0
  refine ⟨v, hv, h z M σ H r _ fun M' w H' e r' rw => ⟨a, b, rp, rw, ?_⟩⟩
  exact hE.nx M' _ H' _ e ((r'.pushD (x := .int (f a b)) rfl).set i) (Keep.set hi) hn
theorem sd_drop {r : Arg} (h : Rd K te δ r δ1) (hn : D.nx δ1) : Sd K ps (tDrop te) δ D := fun z M σ H r0 E hE => h z M σ H r0 _ fun M' v H' e r' _ => hE.nx M' σ H' δ1 e r' Keep.refl hn
theorem sd_ret {τ : T} (h : Ro K te δ τ δ1) (hn : D.rt τ δ1) : Sd K ps (tRet te) δ D := fun z M σ H r E hE => h z M σ H r _ fun M' v H' e r' => hE.rt M' σ v H' δ1 τ e r' Keep.refl hn
theorem sd_retD {x : TV.D} (h : Rd K te δ (.d x) δ1) (hn : D.rt (.d x) δ1) : Sd K ps (tRet te) δ D := sd_ret h.own hn
theorem sd_retN (hn : D.rt (.d .non) δ) : Sd K ps tRetN δ D := fun z M σ H r E hE => hE.rt M σ .non H δ (.d .non) (Same.refl M) (r.pushD rfl) Keep.refl hn
theorem less_none {i : Nat} : Less (δ.set i none) δ := by
  refine ⟨by simp, fun j s hs => ?_⟩
  by_cases hj : j = i
  · subst hj
    by_cases hl : j < δ.length
    · rw [List.getElem?_set_self hl] at hs
      cases hs
    · rw [List.getElem?_eq_none (by simp; omega)] at hs
      cases hs
  · rw [List.getElem?_set_ne (Ne.symm hj)] at hs
    exact hs
/-- a slot's own thing is handed on -/
theorem R.move {M H : Hp} {σ : L2.St} {δ : Env} (r : R K M σ H δ) {i : Nat} {τ : T} {v : V} (h : δ[i]? = some (some τ)) (hv : σ[i]? = some (some v)) : R K M (σ ++ [some v]) H (δ.set i none ++ [some τ]) := by
  obtain ⟨ex, ln, ω, w1, w2, w3⟩ := r
  have hl := (List.getElem?_eq_some_iff.mp h).1
  refine ⟨ex, by simp [ln], fun j a => if j = δ.length then ω i a else if j = i then False else ω j a, fun j k a h1 h2 => ?_, fun j a h1 => ?_, fun j s hs => ?_⟩
  · by_cases hj : j = δ.length
    · by_cases hk : k = δ.length
      · omega
      · by_cases hk2 : k = i
        · simp only [hk, hk2, if_false, if_true] at h2
          rw [if_neg (by omega)] at h2
          exact h2.elim
        · simp only [hk, hk2, if_false] at h2
          simp only [hj, if_true] at h1
          exact absurd (w1 _ _ _ h2 h1) hk2
    · by_cases hj2 : j = i
      · rw [hj2, if_neg (by omega), if_pos rfl] at h1
        exact h1.elim
      · simp only [hj, hj2, if_false] at h1
        by_cases hk : k = δ.length
        · simp only [hk, if_true] at h2
          exact absurd (w1 _ _ _ h1 h2) hj2
        · by_cases hk2 : k = i
          · rw [hk2, if_neg (by omega), if_pos rfl] at h2
            exact h2.elim
          · simp only [hk, hk2, if_false] at h2
            exact w1 _ _ _ h1 h2
  · by_cases hj : j = δ.length
    · simp only [hj, if_true] at h1
      exact w2 _ _ h1
    · by_cases hj2 : j = i
      · rw [hj2, if_neg (by omega), if_pos rfl] at h1
        exact h1.elim
      · simp only [hj, hj2, if_false] at h1
        exact w2 _ _ h1
  · rcases get_push hs with h1 | ⟨h1, h2⟩
    · by_cases hj : j = i
      · subst hj
        rw [List.getElem?_set_self hl] at h1
        cases h1
      · rw [List.getElem?_set_ne (Ne.symm hj)] at h1
        obtain ⟨w, hw, ow⟩ := w3 j s h1
        have hjl := (List.getElem?_eq_some_iff.mp h1).1
        refine ⟨w, get_left hw, ?_⟩
        have e1 : j ≠ δ.length := by omega
        simp only [e1, hj, if_false]
        exact ow
    · cases h2
      have h1 : j = δ.length := by simpa using h1
      obtain ⟨w, hw, ow⟩ := w3 i τ h
      rw [hv] at hw
      cases hw
      refine ⟨v, by rw [h1, ← ln]; exact get_top, ?_⟩
      simp only [h1, if_true]
      exact ow
theorem RR.move {z : Z} {M H : Hp} {σ : L2.St} {δ : Env} (r : RR K z M σ H δ) {i : Nat} {τ : T} {v : V} (h : δ[i]? = some (some τ)) (hv : σ[i]? = some (some v)) : RT K z M σ H (δ.set i none) τ v := by
  have q := r.r.move (get_leftL h) (get_leftL hv)
  rw [set_append (List.getElem?_eq_some_iff.mp h).1] at q
  exact ⟨q, by simp [r.ln]⟩
theorem ro_move {i : Nat} {τ : T} (h : δ[i]? = some (some τ)) : Ro K (tVar i) δ τ (δ.set i none) := fun z M σ H r Q q => by
  obtain ⟨v, hv, _⟩ := r.at h
  exact ⟨v, hv, q M v H (Same.refl M) (r.move h hv)⟩

/-! ### an owned list changed -/
def isLs (δ : Env) (i : Nat) : Bool := match δ[i]? with
  | some (some (.ls _)) => true
  | some (some (.ll _)) => true
  | _ => false
theorem RR.lsAt {z : Z} {M H : Hp} {σ : L2.St} (r : RR K z M σ H δ) {i : Nat} {ds : List TV.D} (h : δ[i]? = some (some (.ls ds))) :
    ∃ a vs, σ[i]? = some (some (.ref a)) ∧ H a = some (.lst vs) ∧ RpL K M ds vs ∧ ∀ ds' vs', RpL K M ds' vs' → RR K z M σ (upd H a (.lst vs')) (δ.set i (some (.ls ds'))) := by
  obtain ⟨v, hv, P, ow, _⟩ := r.at h
  obtain ⟨a, vs, rfl, h2, h3, h4⟩ := ow
  refine ⟨a, vs, hv, h3, h4, fun ds' vs' hr => r.write h hv trivial fun P' ow' => ?_⟩
  obtain ⟨a', vs2, e, p2, _, _⟩ := ow'
  cases e
  exact ⟨p2, a, vs', rfl, p2, upd_same, hr⟩
theorem RR.llAt {z : Z} {M H : Hp} {σ : L2.St} (r : RR K z M σ H δ) {i : Nat} {dss : List (List TV.D)} (h : δ[i]? = some (some (.ll dss))) :
    ∃ a as, σ[i]? = some (some (.ref a)) ∧ H a = some (.lst (as.map V.ref)) ∧ (a :: as).Nodup ∧ LL K M H dss as := by
  obtain ⟨v, hv, P, ow, _⟩ := r.at h
  obtain ⟨a, as, rfl, h2, h3, h4, h5, h6⟩ := ow
  exact ⟨a, as, hv, h5, h4, h6⟩
theorem tyV_l {z : Z} {M H : Hp} {σ : L2.St} (r : RR K z M σ H δ) {i : Nat} (h : isLs δ i = true) : ∃ a, σ[i]? = some (some (.ref a)) ∧ tyV K "list" (.ref a) H := by
  unfold isLs at h
  split at h
  · rename_i ds e
    obtain ⟨a, vs, h1, h2, _⟩ := r.lsAt e
    exact ⟨a, h1, .inl ⟨rfl, _, .inl (.inl h2)⟩⟩
  · rename_i ds e
    obtain ⟨a, as, h1, h2, _⟩ := r.llAt e
    exact ⟨a, h1, .inl ⟨rfl, _, .inl (.inl h2)⟩⟩
  · cases h
theorem len_ok {n : Nat} (h : n < 100000) : n < sizeLine := Nat.lt_trans h (by decide)
/-- x.append(e) -/
theorem sd_append {i : Nat} {x : TV.D} {ds : List TV.D} (h0 : isLs δ i = true) (h : Rd K te δ (.d x) δ1) (h1 : δ1[i]? = some (some (.ls ds))) (hl : ds.length < 100000) (hn : D.nx (δ1.set i (some (.ls (ds ++ [x]))))) :
    Sd K ps (tDrop (tBM K "list" rAppend (tVar i) (tCons te tNil))) δ D := fun z M σ H r E hE => by
  obtain ⟨a, ha, ty⟩ := tyV_l r h0
  refine ⟨.ref a, ha, ty, h z M σ H r _ fun M' v H' e r' rp => ?_⟩
  obtain ⟨b, vs, hb, hH, hr, w⟩ := r'.lsAt h1
  rw [ha] at hb
  cases hb
  exact ⟨a, vs, v, rfl, rfl, hH, by rw [← hr.length]; exact len_ok hl, hE.nx M' σ _ _ e (w _ _ (hr.append (RpL.one rp))) Keep.refl hn⟩
/-- a new list goes into an owned list of lists -/
theorem R.adopt {M H : Hp} {σ : L2.St} {δ : Env} {i : Nat} {ys : List TV.D} {dss : List (List TV.D)} {a : Addr} {u : V} (r : R K M (σ ++ [some u]) H (δ ++ [some (.ls ys)])) (h1 : δ[i]? = some (some (.ll dss))) (ha : σ[i]? = some (some (.ref a))) :
    ∃ (as : List Addr) (b : Addr), u = .ref b ∧ H a = some (.lst (as.map V.ref)) ∧ as.length = dss.length ∧ R K M σ (upd H a (.lst (as.map V.ref ++ [u]))) (δ.set i (some (.ll (dss ++ [ys])))) := by
  obtain ⟨ex, ln, ω, w1, w2, w3⟩ := r
  have ln : σ.length = δ.length := by simpa using ln
  have hl1 := (List.getElem?_eq_some_iff.mp h1).1
  obtain ⟨u0, hu, a', as, rfl, p1, p2, nd, g1, g2⟩ := w3 i _ (get_left h1)
  obtain ⟨u', hu', b, vs, rfl, p3, g3, g4⟩ := w3 δ.length _ get_top
  rw [get_left ha] at hu
  cases hu
  rw [← ln, get_top] at hu'
  cases hu'
  have nb : ∀ c, c ∈ a :: as → c ≠ b := fun c hc z => by
    have : ω i c := by
      rcases List.mem_cons.mp hc with q | q
      · rw [q]; exact p1
      · exact p2 c q
    have := w1 _ _ _ this (z ▸ p3)
    omega
  refine ⟨as, b, rfl, g1, g2.length.symm, fun c o q => ?_, by simpa using ln, fun j c => if j = i then ω i c ∨ ω δ.length c else j < δ.length ∧ ω j c, fun j k c q1 q2 => ?_, fun j c q1 => ?_, fun j s hs => ?_⟩
  · rw [upd_ne]
    · exact ex c o q
    · rintro rfl
      rw [(w2 _ _ p1).1] at q
      cases q
  · by_cases hj : j = i <;> by_cases hk : k = i <;> simp only [hj, hk, if_true, if_false] at q1 q2
    · rw [hj, hk]
    · rcases q1 with q1 | q1
      · exact absurd (w1 _ _ _ q1 q2.2) (by omega)
      · have := w1 _ _ _ q1 q2.2
        omega
    · rcases q2 with q2 | q2
      · exact absurd (w1 _ _ _ q1.2 q2) (by omega)
      · have := w1 _ _ _ q1.2 q2
        omega
    · exact w1 _ _ _ q1.2 q2.2
  · have q : ∃ j, ω j c := by
      by_cases hj : j = i <;> simp only [hj, if_true, if_false] at q1
      · rcases q1 with q1 | q1
        · exact ⟨_, q1⟩
        · exact ⟨_, q1⟩
      · exact ⟨_, q1.2⟩
    obtain ⟨j', q⟩ := q
    refine ⟨(w2 _ _ q).1, ?_⟩
    by_cases hc : c = a
    · rw [hc, upd_same]; trivial
    · rw [upd_ne hc]; exact (w2 _ _ q).2
  · by_cases hj : j = i
    · subst hj
      rw [List.getElem?_set_self hl1] at hs
      cases hs
      refine ⟨.ref a, ha, a, as ++ [b], rfl, ?_, fun c hc => ?_, ?_, ?_, ?_⟩
      · simp only [if_true]; exact .inl p1
      · simp only [if_true]
        rcases List.mem_append.mp hc with q | q
        · exact .inl (p2 c q)
        · rw [List.mem_singleton.mp q]; exact .inr p3
      · rw [← List.cons_append]
        refine List.nodup_append.mpr ⟨nd, by simp, fun c hc d hd => ?_⟩
        rw [List.mem_singleton.mp hd]
        exact nb c hc
      · rw [upd_same, List.map_append]; rfl
      · have na : a ∉ as := (List.nodup_cons.mp nd).1
        refine (g2.mono (Same.refl M) fun c hc => upd_ne ?_).append ⟨b, [], vs, rfl, ?_, g4, rfl⟩
        · rintro rfl; exact na hc
        · exact (upd_ne (nb a (by simp)).symm).trans g3
    · rw [List.getElem?_set_ne (Ne.symm hj)] at hs
      obtain ⟨u, hu, ow⟩ := w3 j s (get_left hs)
      have hjl := (List.getElem?_eq_some_iff.mp hs).1
      rcases get_push hu with q | ⟨q, _⟩
      · refine ⟨u, q, ow.mono (Same.refl M) (fun c hc => by simp only [hj, if_false]; exact ⟨hjl, hc⟩) (fun c hc => upd_ne ?_) fun c xs hc => ?_⟩
        · rintro rfl
          exact hj (w1 _ _ _ hc p1)
        · rw [upd_ne]
          · exact hc
          · rintro rfl
            rw [g1] at hc
            cases hc
      · omega
/-- .. a new list -/
theorem sd_appendL {i : Nat} {ys : List TV.D} {dss : List (List TV.D)} (h0 : isLs δ i = true) (h : Ro K te δ (.ls ys) δ1) (h1 : δ1[i]? = some (some (.ll dss))) (hl : dss.length < 100000) (hn : D.nx (δ1.set i (some (.ll (dss ++ [ys]))))) :
    Sd K ps (tDrop (tBM K "list" rAppend (tVar i) (tCons te tNil))) δ D := fun z M σ H r E hE => by
  obtain ⟨a, ha, ty⟩ := tyV_l r h0
  refine ⟨.ref a, ha, ty, h z M σ H r _ fun M' v H' e r' => ?_⟩
  obtain ⟨as, b, rfl, g1, gl, r2⟩ := r'.1.adopt (get_leftL h1) (get_leftL ha)
  rw [set_append (List.getElem?_eq_some_iff.mp h1).1] at r2
  exact ⟨a, as.map V.ref, .ref b, rfl, rfl, g1, by rw [List.length_map, gl]; exact len_ok hl, hE.nx M' σ _ _ e ⟨r2, by simp [r'.2]⟩ Keep.refl hn⟩
/-! pure readings: the heap only grows -/
def Pd (K : PySem.W.Frag) (t : TE) (δ : Env) (x : TV.D) : Prop := ∀ z M σ H, RR K z M σ H δ → ∀ Q : VK, (∀ M' v H', Same M M' → Same H H' → RR K z M' σ H' δ → Rp K M' x v → Q v H') → t σ H Q
theorem pd_var {i : Nat} {x : TV.D} (h : δ[i]? = some (some (.d x))) : Pd K (tVar i) δ x := fun z M σ H r Q q => by
  obtain ⟨v, hv, rp⟩ := r.atD h
  exact ⟨v, hv, q M v H (Same.refl M) (Same.refl H) r rp⟩
theorem pd_int {i : Int} : Pd K (tC (.int i)) δ (.int i) := fun z M σ H r Q q => q M _ H (Same.refl M) (Same.refl H) r rfl
theorem pd_opI {f : Int → Int → Int} {i j : Int} (ha : Pd K ta δ (.int i)) (hb : Pd K tb δ (.int j)) : Pd K (tOp (rI0 fun i j => .int (f i j)) ta tb) δ (.int (f i j)) := fun z M σ H r Q q =>
  ha z M σ H r _ fun M1 v H1 e1 s1 r1 p1 => hb z M1 σ H1 r1 _ fun M2 w H2 e2 s2 r2 p2 => ⟨i, j, p1, p2, q M2 _ H2 (e1.trans e2) (s1.trans s2) r2 rfl⟩
theorem pd_un {f : Int → Int} {i : Int} (ha : Pd K ta δ (.int i)) : Pd K (tUn (rU fun i => .int (f i)) ta) δ (.int (f i)) := fun z M σ H r Q q =>
  ha z M σ H r _ fun M1 v H1 e1 s1 r1 p1 => ⟨i, p1, q M1 _ H1 e1 s1 r1 rfl⟩
theorem pd_ix {ds : List TV.D} {k : Int} {x : TV.D} (ha : Pd K ta δ (.lst ds)) (hb : Pd K tb δ (.int k)) (hx : atI ds k = some x) : Pd K (tOp (rIxL K) ta tb) δ x := fun z M σ H r Q q =>
  ha z M σ H r _ fun M1 v H1 e1 s1 r1 p1 => hb z M1 σ H1 r1 _ fun M2 w H2 e2 s2 r2 p2 => by
    obtain ⟨a, vs, h1, h2, h3⟩ := p1.mono e2
    obtain ⟨z, hz, rz⟩ := atI_rp h3 hx
    exact ⟨a, vs, k, z, h1, p2, .inl (.inl (r2.ex _ _ h2)), hz, q M2 z H2 (e1.trans e2) (s1.trans s2) r2 rz⟩
theorem pd_ixS {i : Nat} {ds : List TV.D} {k : Int} {x : TV.D} (h : δ[i]? = some (some (.ls ds))) (hb : Pd K tb δ (.int k)) (hx : atI ds k = some x) : Pd K (tOp (rIxL K) (tVar i) tb) δ x := fun z M σ H r Q q => by
  obtain ⟨v, hv, _⟩ := r.at h
  refine ⟨v, hv, hb z M σ H r _ fun M2 w H2 e2 s2 r2 p2 => ?_⟩
  obtain ⟨a, vs, h1, h2, h3⟩ := r2.view (x := .sl i) (ds := ds) (by simp only [viewL, h]) hv
  obtain ⟨z, hz, rz⟩ := atI_rp h3 hx
  exact ⟨a, vs, k, z, h1, p2, h2, hz, q M2 z H2 e2 s2 r2 rz⟩
/-- xs[k].append(e) -/
theorem sd_append2 {i : Nat} {tk : TE} {k : Int} {j : Nat} {x : TV.D} {dss : List (List TV.D)} {ds : List TV.D} (h0 : δ[i]? = some (some (.ll dss))) (hk : Pd K tk δ (.int k)) (h : Pd K te δ x) (hj : ixN dss.length k = some j) (hd : dss[j]? = some ds) (hl : ds.length < 100000)
    (hn : D.nx (δ.set i (some (.ll (dss.set j (ds ++ [x])))))) : Sd K ps (tDrop (tBM K "list" rAppend (tOp (rIxL K) (tVar i) tk) (tCons te tNil))) δ D := fun z M σ H r E hE => by
  obtain ⟨a, as, hv0, g1, nd, g2⟩ := r.llAt h0
  refine ⟨.ref a, hv0, hk z M σ H r _ fun M1 w H1 e1 s1 r1 q1 => ?_⟩
  obtain ⟨b, vs, hb, hB, hr⟩ := g2.get hd
  have q1 : w = .int k := q1
  refine ⟨a, as.map V.ref, k, .ref b, rfl, q1, .inl (.inl (s1 _ _ g1)), ?_, .inl ⟨rfl, _, .inl (.inl (s1 _ _ hB))⟩, h z M1 σ H1 r1 _ fun M2 y H2 e2 s2 r2 py => ?_⟩
  · show (ixN (as.map V.ref).length k).bind _ = _
    rw [List.length_map, ← g2.length, hj]
    show (as.map V.ref)[j]? = _
    rw [List.getElem?_map, hb]
    rfl
  · refine ⟨b, vs, y, rfl, rfl, s2 _ _ (s1 _ _ hB), by rw [← hr.length]; exact len_ok hl, hE.nx M2 σ _ _ (e1.trans e2) (r2.write h0 hv0 trivial fun P ow => ?_) Keep.refl hn⟩
    obtain ⟨a', as', ea, p1, p2, nd', g1', g2'⟩ := ow
    cases ea
    have g1q := g1'
    rw [s2 _ _ (s1 _ _ g1)] at g1'
    have eas : as = as' := by
      have := HO.lst.inj (Option.some.inj g1')
      exact refs_inj this
    subst eas
    obtain ⟨b', vs', hb', hB', hr'⟩ := g2'.get hd
    rw [hb] at hb'
    cases hb'
    have hbm : b ∈ as := List.mem_of_getElem? hb
    have nab : a ≠ b := by
      rintro rfl
      exact (List.nodup_cons.mp nd).1 hbm
    refine ⟨p2 b hbm, a, as, rfl, p1, p2, nd, by rw [upd_ne nab]; exact g1q, g2'.set (List.nodup_cons.mp nd).2 hb (RpL.append ?_ (RpL.one py))⟩
    rw [s2 _ _ (s1 _ _ hB)] at hB'
    cases hB'
    exact hr'
/-- x[k] = e -/
theorem sd_setL {i : Nat} {tk : TE} {x : TV.D} {ds : List TV.D} {k : Int} {j : Nat} (h : Rd K te δ (.d x) δ1) (hk : Rd K tk δ1 (.d (.int k)) δ2) (h1 : δ1[i]? = some (some (.ls ds))) (h2 : δ2[i]? = some (some (.ls ds))) (hj : ixN ds.length k = some j)
    (hn : D.nx (δ2.set i (some (.ls (ds.set j x))))) : Sd K ps (tAsg te (gSub (tVar i) tk rSetL)) δ D := fun z M σ H r E hE =>
  h z M σ H r _ fun M1 v H1 e1 r1 p1 => by
    obtain ⟨a, vs, ha, _⟩ := r1.lsAt h1
    refine ⟨.ref a, ha, hk z M1 σ H1 r1 _ fun M2 w H2 e2 r2 p2 => ?_⟩
    obtain ⟨a', vs2, ha', hH, hr, wr⟩ := r2.lsAt h2
    rw [ha] at ha'
    cases ha'
    exact ⟨a, vs2, k, j, rfl, p2, hH, by rw [← hr.length]; exact hj, hE.nx M2 σ _ _ (e1.trans e2) (wr _ _ (hr.set j (p1.mono e2))) Keep.refl hn⟩
/-- x.remove(k) of whole numbers -/
theorem sd_remove {i : Nat} {ns : List Int} {k : Int} {j : Nat} (h0 : isLs δ i = true) (h : Rd K te δ (.d (.int k)) δ1) (h1 : δ1[i]? = some (some (.ls (ns.map TV.D.int)))) (hj : ns[j]? = some k) (hb : ∀ m : Nat, m < j → ns[m]? ≠ some k)
    (hn : D.nx (δ1.set i (some (.ls ((ns.eraseIdx j).map TV.D.int))))) : Sd K ps (tDrop (tBM K "list" rRemI (tVar i) (tCons te tNil))) δ D := fun z M σ H r E hE => by
  obtain ⟨a, ha, ty⟩ := tyV_l r h0
  refine ⟨.ref a, ha, ty, h z M σ H r _ fun M' v H' e r' rp => ?_⟩
  obtain ⟨b, vs, hb', hH, hr, w⟩ := r'.lsAt h1
  rw [ha] at hb'
  cases hb'
  have rp : v = .int k := rp
  subst rp
  rw [hr.ints_of] at hH
  exact ⟨a, ns, k, j, rfl, rfl, hH, hj, hb, hE.nx M' σ _ _ e (w _ _ (RpL.ints _)) Keep.refl hn⟩

/-! ### what is walked -/
def keepA : Arg → List Nat
  | .sl i => [i]
  | _ => []
abbrev Srcs := List (Arg × List TV.D)
def okS (δ : Env) (srcs : Srcs) : Prop := ∀ p, p ∈ srcs → viewL δ p.1 = some p.2
def keepS (srcs : Srcs) : List Nat := srcs.flatMap fun p => keepA p.1
def ItOk (K : PySem.W.Frag) (M : Hp) (σ : L2.St) (J : It) (items : List TV.D) (srcs : Srcs) : Prop :=
  ∀ (z : Z) (i : Nat) M2 σ2 H δ, Same M M2 → RR K z M2 σ2 H δ → Keep (keepS srcs) σ σ2 → okS δ srcs →
    (i < items.length → J.go i H ∧ ∀ x H', J.yld i H x H' → ∃ M3, Same M2 M3 ∧ RR K z M3 σ2 H' δ ∧ ∃ d, items[i]? = some d ∧ Rp K M3 d x) ∧ (items.length ≤ i → J.stop i H)
def Wk (K : PySem.W.Frag) (wi : TI) (δ : Env) (items : List TV.D) (srcs : Srcs) (δ1 : Env) : Prop :=
  ∀ z M σ H, RR K z M σ H δ → ∀ Rk : It → Hp → Prop, (∀ M' J H', Same M M' → RR K z M' σ H' δ1 → ItOk K M' σ J items srcs → Rk J H') → wi σ H Rk
/-- a source's list as it stands now -/
theorem src_at {z : Z} {M M2 H2 : Hp} {σ σ2 : L2.St} {x : Arg} {ds : List TV.D} {a : Addr} (ok : ArgOk K M σ x (.ref a)) (e : Same M M2) (r2 : RR K z M2 σ2 H2 δ2) (k : Keep (keepA x) σ σ2) (hv : viewL δ2 x = some ds) : ∃ vs, SqL K H2 a vs ∧ RpL K M2 ds vs := by
  have ok2 : ArgOk K M2 σ2 x (.ref a) := by
    cases x with
    | d y => exact Rp.mono e ok
    | sl i => exact (k i (by simp [keepA])).trans ok
  obtain ⟨b, vs, hb, h1, h2⟩ := r2.view hv ok2
  cases hb
  exact ⟨vs, h1, h2⟩
theorem wk_list {r : Arg} {ds : List TV.D} (h : Rd K ta δ r δ1) (hv : viewL δ1 r = some ds) : Wk K (iList K ta) δ ds [(r, ds)] δ1 := fun z M σ H r0 Rk q =>
  h z M σ H r0 _ fun M1 v H1 e1 r1 p1 => by
    obtain ⟨a, vs, rfl, h1, h2⟩ := r1.view hv p1
    refine ⟨a, rfl, ⟨vs, h1⟩, q M1 _ H1 e1 r1 fun z i M2 σ2 H2 δ' e2 r2 k ok => ?_⟩
    obtain ⟨vs2, g1, g2⟩ := src_at p1 e2 r2 (k.sub fun j hj => by simp [keepS, hj]) (ok (r, ds) (by simp))
    refine ⟨fun hi => ⟨⟨vs2, vs2[i]'(by rw [← g2.length]; exact hi), g1, by rw [List.getElem?_eq_getElem]⟩, fun x H' y => ?_⟩, fun hi => ⟨vs2, g1, by rw [← g2.length]; exact hi⟩⟩
    obtain ⟨rfl, y⟩ := y
    obtain ⟨d, hd, rd⟩ := g2.get' (y vs2 g1)
    exact ⟨M2, Same.refl M2, r2, d, hd, rd⟩
def rngD (lo : Int) (n : Nat) : List TV.D := (List.range n).map fun (i : Nat) => TV.D.int (lo + i)
theorem rngD_length (lo : Int) (n : Nat) : (rngD lo n).length = n := by simp [rngD]
theorem rngD_get {lo : Int} {n i : Nat} {x : TV.D} (h : (rngD lo n)[i]? = some x) : i < n ∧ x = .int (lo + i) := by
  unfold rngD at h
  rw [List.getElem?_map] at h
  cases e : (List.range n)[i]? with
  | none => rw [e] at h; cases h
  | some j =>
    rw [e] at h
    obtain ⟨h1, h2⟩ := List.getElem?_eq_some_iff.mp e
    have h3 : j = i := by simpa using h2.symm
    subst h3
    cases h
    exact ⟨by simpa using h1, rfl⟩
theorem itr_ok {M : Hp} {σ : L2.St} {lo : Int} {n : Nat} : ItOk K M σ (Itr lo n) (rngD lo n) [] := fun z i M2 σ2 H δ e r k ok => by
  rw [rngD_length]
  refine ⟨fun hi => ⟨hi, fun x H' y => ?_⟩, fun hi => hi⟩
  obtain ⟨rfl, rfl⟩ := y
  exact ⟨M2, Same.refl M2, r, .int (lo + i), by simp [rngD, hi], rfl⟩
theorem wk_range1 {t : TA} {n : Int} (h : Ra K t δ [.d (.int n)] δ1) (h1 : -(2 ^ 62) ≤ n) (h2 : n < 2 ^ 62) : Wk K (iRng1 t) δ (rngD 0 n.toNat) [] δ1 := fun z M σ H r0 Rk q =>
  h z M σ H r0 _ fun M1 vs H1 e1 r1 p1 => by
    obtain ⟨v, w, rfl, p, rfl⟩ := p1
    have p : v = .int n := p
    subst p
    exact ⟨n, rfl, h1, h2, q M1 _ H1 e1 r1 itr_ok⟩
theorem wk_range2 {t : TA} {m n : Int} (h : Ra K t δ [.d (.int m), .d (.int n)] δ1) (h1 : -(2 ^ 62) ≤ m ∧ m < 2 ^ 62 ∧ -(2 ^ 62) ≤ n ∧ n < 2 ^ 62) : Wk K (iRng2 t) δ (rngD m (n - m).toNat) [] δ1 := fun z M σ H r0 Rk q =>
  h z M σ H r0 _ fun M1 vs H1 e1 r1 p1 => by
    obtain ⟨v, w, rfl, p, v2, w2, rfl, p2, rfl⟩ := p1
    have p : v = .int m := p
    have p2 : v2 = .int n := p2
    subst p p2
    exact ⟨m, n, rfl, h1, q M1 _ H1 e1 r1 itr_ok⟩
def enumD (ds : List TV.D) : List TV.D := ds.zipIdx.map fun p => .tup [.int (p.2 : Nat), p.1]
theorem wk_enum {t : TA} {r : Arg} {ds : List TV.D} (h : Ra K t δ [r] δ1) (hv : viewL δ1 r = some ds) : Wk K (iEnum K t) δ (enumD ds) [(r, ds)] δ1 := fun z M σ H r0 Rk q =>
  h z M σ H r0 _ fun M1 vs H1 e1 r1 p1 => by
    obtain ⟨v, w, rfl, p, rfl⟩ := p1
    obtain ⟨a, us, rfl, h1, h2⟩ := r1.view hv p
    refine ⟨a, us, rfl, h1, q M1 _ H1 e1 r1 fun z i M2 σ2 H2 δ' e2 r2 k ok => ?_⟩
    obtain ⟨vs2, g1, g2⟩ := src_at p e2 r2 (k.sub fun j hj => by simp [keepS, hj]) (ok (r, ds) (by simp))
    have el : (enumD ds).length = ds.length := by simp [enumD]
    rw [el]
    refine ⟨fun hi => ⟨⟨vs2, vs2[i]'(by rw [← g2.length]; exact hi), g1, by rw [List.getElem?_eq_getElem]⟩, fun x H' y => ?_⟩, fun hi => ⟨vs2, g1, by rw [← g2.length]; exact hi⟩⟩
    obtain ⟨T, z, rfl, nT, rfl, f⟩ := y
    obtain ⟨d, hd, rd⟩ := g2.get' (f vs2 g1)
    obtain ⟨s3, r3⟩ := r2.laid (o := .tup [.int (i : Nat), z]) nT
    refine ⟨_, s3, r3, .tup [.int (i : Nat), d], ?_, T, _, rfl, .inl (.inl upd_same), _, _, rfl, rfl, _, _, rfl, rd.mono s3, rfl⟩
    unfold enumD
    rw [List.getElem?_map, List.getElem?_zipIdx, hd]
    simp
theorem wk_zip {t : TA} {r s : Arg} {ds es : List TV.D} (h : Ra K t δ [r, s] δ1) (hv : viewL δ1 r = some ds) (hw : viewL δ1 s = some es) : Wk K (iZip K t) δ ((ds.zip es).map fun p => .tup [p.1, p.2]) [(r, ds), (s, es)] δ1 := fun z M σ H r0 Rk q =>
  h z M σ H r0 _ fun M1 vs H1 e1 r1 p1 => by
    obtain ⟨v, w, rfl, p, v', w', rfl, p', rfl⟩ := p1
    obtain ⟨a, us, rfl, h1, h2⟩ := r1.view hv p
    obtain ⟨b, us', rfl, h1', h2'⟩ := r1.view hw p'
    refine ⟨a, b, us, us', rfl, h1, h1', q M1 _ H1 e1 r1 fun z i M2 σ2 H2 δ' e2 r2 k ok => ?_⟩
    obtain ⟨vs2, g1, g2⟩ := src_at p e2 r2 (k.sub fun j hj => by simp [keepS, hj]) (ok (r, ds) (by simp))
    obtain ⟨vs3, g1', g2'⟩ := src_at p' e2 r2 (k.sub fun j hj => by simp [keepS, hj]) (ok (s, es) (by simp))
    have l1 : ds.length = vs2.length := g2.length
    have l2 : es.length = vs3.length := g2'.length
    rw [List.length_map, List.length_zip]
    refine ⟨fun hi => ⟨⟨vs2, vs3, vs2[i]'(by omega), vs3[i]'(by omega), g1, g1', by rw [List.getElem?_eq_getElem], by rw [List.getElem?_eq_getElem]⟩, fun x H' y => ?_⟩, fun hi => ⟨vs2, vs3, g1, g1', by omega⟩⟩
    obtain ⟨T, x1, y1, rfl, nT, rfl, f, f'⟩ := y
    obtain ⟨d, hd, rd⟩ := g2.get' (f vs2 g1)
    obtain ⟨d', hd', rd'⟩ := g2'.get' (f' vs3 g1')
    have hd : ds[i]? = some d := hd
    have hd' : es[i]? = some d' := hd'
    obtain ⟨s3, r3⟩ := r2.laid (o := .tup [x1, y1]) nT
    refine ⟨_, s3, r3, .tup [d, d'], ?_, T, _, rfl, .inl (.inl upd_same), _, _, rfl, rd.mono s3, _, _, rfl, rd'.mono s3, rfl⟩
    rw [List.getElem?_map, (List.getElem?_zip_eq_some (z := (d, d'))).mpr ⟨hd, hd'⟩]
    rfl
/-! ### for -/
def Pn (P : Nat → Env → Prop) (j : Nat) : Env → Prop := fun δ' => ∃ δ'', Less δ'' δ' ∧ P j δ''
theorem Less.refl : Less δ δ := ⟨rfl, fun _ _ h => h⟩
theorem sd_for {wi : TI} {g : TG} {tb : TS} {items : List TV.D} {srcs : Srcs} (hw : Wk K wi δ items srcs δ1) (P : Nat → Env → Prop) (h0 : P 0 δ1) (ho : ∀ i δ, P i δ → okS δ srcs)
    (hs : ∀ i x δ, items[i]? = some x → P i δ → ∃ δx, Gd K (keepS srcs ++ ps) g x δ δx ∧ Sd K (keepS srcs ++ ps) tb δx { D with nx := Pn P (i + 1), ct := Pn P (i + 1), bk := D.nx })
    (hd : ∀ δ, P items.length δ → D.nx δ) : Sd K ps (tFor wi g tb) δ D := fun z M σ H r E hE =>
  hw z M σ H r _ fun M1 J H1 e1 r1 it => by
    refine ⟨fun i m σ2 H2 => m = items.length - i ∧ i ≤ items.length ∧ ∃ M2 δ2, Same M1 M2 ∧ RR K z M2 σ2 H2 δ2 ∧ Keep (keepS srcs ++ ps) σ σ2 ∧ P i δ2, ⟨items.length, by simp, Nat.zero_le _, M1, δ1, Same.refl M1, r1, Keep.refl, h0⟩, ?_⟩
    rintro i m σ2 H2 ⟨rfl, hi, M2, δ2, e2, r2, k2, p2⟩
    obtain ⟨go, stop⟩ := it z i M2 σ2 H2 δ2 e2 r2 (k2.sub fun j hj => by simp [hj]) (ho i δ2 p2)
    by_cases hlt : i < items.length
    · obtain ⟨g1, g2⟩ := go hlt
      refine .inr ⟨g1, fun σ3 H3 => ∃ M3 δ3, Same M1 M3 ∧ RR K z M3 σ3 H3 δ3 ∧ Keep (keepS srcs ++ ps) σ σ3 ∧ P (i + 1) δ3, fun σ3 H3 ⟨M3, δ3, e3, r3, k3, p3⟩ => ⟨items.length - (i + 1), by omega, rfl, hlt, M3, δ3, e3, r3, k3, p3⟩, fun x H' y => ?_⟩
      obtain ⟨M3, e3, r3, d, hd1, rd⟩ := g2 x H' y
      obtain ⟨δx, hg, hb⟩ := hs i d δ2 hd1 p2
      refine hg z M3 σ2 H' x r3 rd _ fun σ4 r4 k4 => hb z M3 σ4 H' r4 _ ?_
      have ee : Same M1 M3 := e2.trans e3
      refine ⟨fun M5 σ5 H5 δ5 e5 r5 k5 q5 => ?_, fun M5 σ5 v H5 δ5 τ e5 r5 k5 q5 => ?_, fun M5 σ5 H5 δ5 e5 r5 k5 q5 => ?_, fun M5 σ5 H5 δ5 e5 r5 k5 q5 => ?_⟩
      · obtain ⟨δ6, l6, p6⟩ := q5
        exact ⟨M5, δ6, ee.trans e5, r5.less l6, (k2.trans k4).trans k5, p6⟩
      · exact hE.rt M5 σ5 v H5 δ5 τ (e1.trans (ee.trans e5)) r5 (((k2.trans k4).trans k5).sub fun j hj => by simp [hj]) q5
      · exact hE.nx M5 σ5 H5 δ5 (e1.trans (ee.trans e5)) r5 (((k2.trans k4).trans k5).sub fun j hj => by simp [hj]) q5
      · obtain ⟨δ6, l6, p6⟩ := q5
        exact ⟨M5, δ6, ee.trans e5, r5.less l6, (k2.trans k4).trans k5, p6⟩
    · have hi2 : i = items.length := by omega
      subst hi2
      exact .inl ⟨stop (Nat.le_refl _), hE.nx M2 σ2 H2 δ2 (e1.trans e2) r2 (k2.sub fun j hj => by simp [hj]) (hd δ2 p2)⟩
/-- while: a word P with a measure -/
theorem sd_while {tb : TS} (P : Env → Prop) (μ : Env → Nat) (h0 : P δ)
    (hs : ∀ δ, P δ → ∃ b δ', Rt K tt δ b δ' ∧ (b = true → Sd K ps tb δ' { D with nx := fun δ2 => ∃ δ3, Less δ3 δ2 ∧ P δ3 ∧ μ δ3 < μ δ, ct := fun δ2 => ∃ δ3, Less δ3 δ2 ∧ P δ3 ∧ μ δ3 < μ δ, bk := D.nx }) ∧ (b = false → D.nx δ')) : Sd K ps (tWhile tt tb) δ D := fun z M σ H r E hE => by
  refine ⟨fun m σ2 H2 => ∃ M2 δ2, m = μ δ2 ∧ Same M M2 ∧ RR K z M2 σ2 H2 δ2 ∧ Keep ps σ σ2 ∧ P δ2, ⟨_, M, δ, rfl, Same.refl M, r, Keep.refl, h0⟩, ?_⟩
  rintro m σ2 H2 ⟨M2, δ2, rfl, e2, r2, k2, p2⟩
  obtain ⟨b, δ', ht, h1, h2⟩ := hs δ2 p2
  refine ht z M2 σ2 H2 r2 _ fun M3 H3 e3 r3 => ?_
  cases b with
  | false => exact hE.nx M3 σ2 H3 δ' (e2.trans e3) r3 k2 (h2 rfl)
  | true =>
    refine ⟨fun σ3 H3 => ∃ M4 δ4, Same M M4 ∧ RR K z M4 σ3 H3 δ4 ∧ Keep ps σ σ3 ∧ P δ4 ∧ μ δ4 < μ δ2, fun σ3 H3 ⟨M4, δ4, e4, r4, k4, p4, l4⟩ => ⟨μ δ4, l4, M4, δ4, rfl, e4, r4, k4, p4⟩, h1 rfl z M3 σ2 H3 r3 _ ?_⟩
    have ee := e2.trans e3
    refine ⟨fun M5 σ5 H5 δ5 e5 r5 k5 q5 => ?_, fun M5 σ5 v H5 δ5 τ e5 r5 k5 q5 => ?_, fun M5 σ5 H5 δ5 e5 r5 k5 q5 => ?_, fun M5 σ5 H5 δ5 e5 r5 k5 q5 => ?_⟩
    · obtain ⟨δ6, l6, p6, m6⟩ := q5
      exact ⟨M5, δ6, ee.trans e5, r5.less l6, k2.trans k5, p6, m6⟩
    · exact hE.rt M5 σ5 v H5 δ5 τ (ee.trans e5) r5 (k2.trans k5) q5
    · exact hE.nx M5 σ5 H5 δ5 (ee.trans e5) r5 (k2.trans k5) q5
    · obtain ⟨δ6, l6, p6, m6⟩ := q5
      exact ⟨M5, δ6, ee.trans e5, r5.less l6, k2.trans k5, p6, m6⟩
end
end TV

namespace TV
open PySem PySem.Spec PyProof.Rows L2
/-! ### defs: contracts over trees -/
abbrev Con := List T → (T → List T → Prop) → Prop
def spOf (K : PySem.W.Frag) (c : Con) : Sp := fun vs H Q _ => ∃ M ts, R K M (vs.map some) H (ts.map some) ∧ c ts fun r outs => outs.length = ts.length ∧ ∀ M' v H', Same M M' → R K M' (vs.map some ++ [some v]) H' (outs.map some ++ [some r]) → Q v H'
mutual
def flatD : D → Bool
  | .lst _ => false
  | .scr _ => false
  | .tup ds => flatDs ds
  | _ => true
def flatDs : List D → Bool
  | [] => true
  | d :: ds => flatD d && flatDs ds
end
theorem flatDs_all : ∀ ds : List D, flatDs ds = ds.all flatD
  | [] => rfl
  | d :: ds => by rw [flatDs, flatDs_all ds]; rfl
def flatT : T → Bool
  | .d x => flatD x
  | .ls ds => flatDs ds
  | .ll dss => dss.all flatDs
  | .dk kvs => kvs.all fun p => flatD p.2
  | .dt kvs => kvs.all fun p => flatD p.2
  | .pr a b => flatT a && flatT b
/-- what stands still, and every tuple -/
def isTp : Option HO → Bool
  | some (.tup _) => true
  | some (.frz _ (.tup _)) => true
  | _ => false
def tx (M H : Hp) : Hp := fun b => if isTp (H b) = true then H b else M b
section
variable {K : PySem.W.Frag} {M M' H H' : Hp}
theorem tx_same (h : Same M H) : Same M (tx M H) := fun b o e => by
  show (if isTp (H b) = true then H b else M b) = some o
  split
  · exact h b o e
  · exact e
theorem tx_sub (h : Same M H) : Same (tx M H) H := fun b o e => by
  have e : (if isTp (H b) = true then H b else M b) = some o := e
  split at e
  · exact e
  · exact h _ _ e
theorem tx_none {b : Addr} (hm : M b = none) (hu : Mut (H b)) : tx M H b = none := by
  show (if isTp (H b) = true then H b else M b) = none
  rw [if_neg, hm]
  intro z
  obtain ⟨o, ho⟩ := mut_some hu
  rw [ho] at z hu
  cases o <;> first | exact hu | cases z
theorem tx_tup {b : Addr} {o : HO} (h : H b = some o) (t : isTp (some o) = true) : tx M H b = some o := by
  show (if isTp (H b) = true then H b else M b) = some o
  rw [h, if_pos t]
theorem sqT_tx (h : Same M' H) {a : Addr} {xs : List V} (s : SqT K M' a xs) : SqT K (tx M H) a xs := by
  rcases s with (s | ⟨o, s⟩) | s
  · exact .inl (.inl (tx_tup (h _ _ s) rfl))
  · exact .inl (.inr ⟨o, tx_tup (h _ _ s) rfl⟩)
  · exact .inr s
mutual
theorem Rp.tx (h : Same M' H) : ∀ {d : D} {v : V}, flatD d = true → Rp K M' d v → Rp K (tx M H) d v
  | .non, _, _, r => r
  | .bl _, _, _, r => r
  | .int _, _, _, r => r
  | .str _, _, _, r => r
  | .ty _, _, _, r => r
  | .tup _, _, f, ⟨a, vs, h1, h2, h3⟩ => ⟨a, vs, h1, sqT_tx h h2, RpL.tx h f h3⟩
theorem RpL.tx (h : Same M' H) : ∀ {ds : List D} {vs : List V}, flatDs ds = true → RpL K M' ds vs → RpL K (tx M H) ds vs
  | [], _, _, r => r
  | _ :: _, _, f, ⟨v, q, h1, h2, h3⟩ => by
    unfold flatDs at f
    rw [Bool.and_eq_true] at f
    exact ⟨v, q, h1, Rp.tx h f.1 h2, RpL.tx h f.2 h3⟩
end
theorem LL.tx (h : Same M' H) : ∀ {dss : List (List D)} {as : List Addr}, dss.all flatDs = true → LL K M' H dss as → LL K (tx M H) H dss as
  | [], _, _, r => r
  | _ :: _, _, f, ⟨a, q, vs, h1, h2, h3, h4⟩ => by
    rw [List.all_cons, Bool.and_eq_true] at f
    exact ⟨a, q, vs, h1, h2, h3.tx h f.1, LL.tx h f.2 h4⟩
theorem KR.tx (h : Same M' H) {κ : Type} : ∀ {kvs : List (κ × D)} {kv : List (κ × V)}, (kvs.all fun p => flatD p.2) = true → KR K M' kvs kv → KR K (tx M H) kvs kv
  | [], _, _, r => r
  | _ :: _, _, f, ⟨v, q, h1, h2, h3⟩ => by
    rw [List.all_cons, Bool.and_eq_true] at f
    exact ⟨v, q, h1, h2.tx h f.1, KR.tx h f.2 h3⟩
theorem Own.tx (h : Same M' H) : ∀ {t : T} {P : Addr → Prop} {v : V}, flatT t = true → Own K M' H P t v → Own K (tx M H) H P t v
  | .d _, _, _, f, r => Rp.tx h f r
  | .ls _, _, _, f, ⟨a, vs, h1, h2, h3, h4⟩ => ⟨a, vs, h1, h2, h3, h4.tx h f⟩
  | .ll _, _, _, f, ⟨a, as, h1, h2, h3, h4, h5, h6⟩ => ⟨a, as, h1, h2, h3, h4, h5, h6.tx h f⟩
  | .dk _, _, _, f, ⟨a, kv, h1, h2, h3, h4⟩ => ⟨a, kv, h1, h2, h3, h4.tx h f⟩
  | .dt _, _, _, f, ⟨a, kv, h1, h2, h3, h4⟩ => ⟨a, kv, h1, h2, h3, h4.tx h f⟩
  | .pr _ _, _, _, f, ⟨a, x, y, P1, P2, h1, h2, h3, h4, h5, h6, h7⟩ => by
    unfold flatT at f
    rw [Bool.and_eq_true] at f
    exact ⟨a, x, y, P1, P2, h1, h2, h3, h4, h5, h6.tx h f.1, h7.tx h f.2⟩
/-- how an argument goes in: as it stands; the slot io (if any) with its own thing -/
def argT (δ : Env) (io : Option Nat) : Arg → Option T
  | .d x => some (.d x)
  | .sl j => match δ[j]? with
    | some (some t) => if io = some j then some t else (fz t).map T.d
    | _ => none
def argsT (δ : Env) (io : Option Nat) : List Arg → Option (List T)
  | [] => some []
  | r :: rs => match argT δ io r, argsT δ io rs with
    | some t, some ts => some (t :: ts)
    | _, _ => none
theorem argsT_get {δ : Env} {io : Option Nat} : ∀ {rs : List Arg} {ts : List T} {k : Nat} {t : T}, argsT δ io rs = some ts → ts[k]? = some t → ∃ r, rs[k]? = some r ∧ argT δ io r = some t
  | [], _, k, _, h, g => by cases h; simp at g
  | r :: rs, ts, k, t, h, g => by
    unfold argsT at h
    split at h
    · rename_i a b e1 e2
      cases h
      cases k with
      | zero => simp at g; subst g; exact ⟨r, rfl, e1⟩
      | succ k => simpa using argsT_get e2 (by simpa using g)
    · cases h
theorem argsT_len {δ : Env} {io : Option Nat} : ∀ {rs : List Arg} {ts : List T}, argsT δ io rs = some ts → ts.length = rs.length
  | [], _, h => by cases h; rfl
  | r :: rs, ts, h => by
    unfold argsT at h
    split at h
    · rename_i a b e1 e2
      cases h
      simp [argsT_len e2]
    · cases h
theorem ArgsOk.get {σ : L2.St} : ∀ {rs : List Arg} {vs : List V} {k : Nat} {r : Arg}, ArgsOk K M σ rs vs → rs[k]? = some r → ∃ v, vs[k]? = some v ∧ ArgOk K M σ r v
  | [], _, k, _, _, g => by simp at g
  | _ :: _, _, 0, _, ⟨v, q, h1, h2, h3⟩, g => by subst h1; simp at g; subst g; exact ⟨v, rfl, h2⟩
  | _ :: _, _, k + 1, _, ⟨v, q, h1, h2, h3⟩, g => by subst h1; simpa using ArgsOk.get h3 (by simpa using g)
theorem ArgsOk.length {σ : L2.St} : ∀ {rs : List Arg} {vs : List V}, ArgsOk K M σ rs vs → rs.length = vs.length
  | [], _, h => by cases h; rfl
  | _ :: _, _, ⟨v, q, h1, h2, h3⟩ => by subst h1; simp [ArgsOk.length h3]
def ioOk (io : Option Nat) (p : Nat) (rs : List Arg) : Prop := ∀ i, io = some i → ∀ k, rs[k]? = some (.sl i) → k = p
/-- behind a call: what came back, what the slot holds -/
def outsTo (δ : Env) (io : Option Nat) (p : Nat) (outs : List T) : Env := match io with
  | none => δ
  | some i => δ.set i outs[p]?
def ioB (ω : Nat → Addr → Prop) : Option Nat → Addr → Prop
  | some i, b => ω i b
  | none, _ => False
open Classical in
theorem R.call {σ : L2.St} {δ : Env} (r : R K M σ H δ) {rs : List Arg} {vs : List V} {ts : List T} {io : Option Nat} {p : Nat} (ok : ArgsOk K M σ rs vs) (ht : argsT δ io rs = some ts) (hp : ioOk io p rs) :
    ∃ Mc, R K Mc (vs.map some) H (ts.map some) ∧ ∀ M' v H' outs τ, Same Mc M' → R K M' (vs.map some ++ [some v]) H' (outs.map some ++ [some τ]) → outs.length = ts.length → flatT τ = true → (∀ i, io = some i → rs[p]? = some (.sl i) ∧ ∃ t, outs[p]? = some t ∧ flatT t = true) →
      Same M (tx M H') ∧ R K (tx M H') (σ ++ [some v]) H' (outsTo δ io p outs ++ [some τ]) := by
  obtain ⟨ex, ln, ω, w1, w2, w3⟩ := r
  generalize hB : ioB ω io = B
  have c1 : Same (fun b => if B b then none else H b) H := fun b o e => by
    have e : (if B b then none else H b) = some o := e
    split at e
    · cases e
    · exact e
  have c0 : ∀ b o, H b = some o → ¬ B b → (fun b => if B b then none else H b) b = some o := fun b o e nb => by
    show (if B b then none else H b) = some o
    rw [if_neg nb]
    exact e
  have cb : ∀ b, B b → (fun b => if B b then none else H b) b = none := fun b hb => by
    show (if B b then none else H b) = none
    rw [if_pos hb]
  generalize hMc : (fun b => if B b then none else H b) = Mc at c1 c0 cb
  have bi : ∀ b, B b → ∃ i, io = some i ∧ ω i b := fun b hb => by
    rw [← hB] at hb
    cases io with
    | none => exact hb.elim
    | some i => exact ⟨i, rfl, hb⟩
  have ib : ∀ i b, io = some i → ω i b → B b := fun i b e h => by
    rw [← hB, e]
    exact h
  have bm : ∀ b, B b → M b = none ∧ Mut (H b) := fun b hb => by
    obtain ⟨i, _, h⟩ := bi b hb
    exact w2 i b h
  have c2 : Same M Mc := fun b o e => c0 b o (ex b o e) fun hb => by
    rw [(bm b hb).1] at e
    cases e
  have ctup : ∀ b xs, H b = some (.tup xs) → Mc b = some (.tup xs) := fun b xs e => c0 b _ e fun hb => mut_ntup (bm b hb).2 e
  refine ⟨Mc, ⟨c1, ?_, fun k a => k = p ∧ B a, fun i j a h1 h2 => h1.1.trans h2.1.symm, fun i a h => ⟨cb a h.2, (bm a h.2).2⟩, fun k t hk => ?_⟩, fun M' v H' outs τ s1 r1 hlen hf hio => ?_⟩
  · rw [List.length_map, List.length_map, argsT_len ht, ok.length]
  · rw [List.getElem?_map] at hk
    cases e : ts[k]? with
    | none => rw [e] at hk; cases hk
    | some t' =>
      rw [e] at hk
      cases hk
      obtain ⟨r, hr, ha⟩ := argsT_get ht e
      obtain ⟨v, hv, okv⟩ := ok.get hr
      refine ⟨v, by rw [List.getElem?_map, hv]; rfl, ?_⟩
      cases r with
      | d x =>
        cases ha
        exact Rp.mono c2 okv
      | sl j =>
        simp only [argT] at ha
        split at ha
        · rename_i t0 e0
          obtain ⟨u, hu, ow⟩ := w3 j t0 e0
          have okv : σ[j]? = some (some v) := okv
          rw [okv] at hu
          cases hu
          split at ha
          · rename_i hij
            cases ha
            have hk := hp j hij k hr
            exact ow.mono c2 (fun b hb => ⟨hk, ib j b hij hb⟩) (fun _ _ => rfl) fun _ _ q => q
          · rename_i hij
            cases ez : fz t0 with
            | none => rw [ez] at ha; cases ha
            | some x =>
              rw [ez] at ha
              cases ha
              exact ow.freeze c2 (fun b u hb hu => c0 b u hu fun hB' => by
                obtain ⟨i, hi, hw⟩ := bi b hB'
                exact hij (by rw [hi, w1 i j b hw hb])) ctup ez
        · cases ha
  · obtain ⟨ex', ln', ω', w1', w2', w3'⟩ := r1
    have lvo : vs.length = outs.length := by simpa using ln'
    have sMH : Same M H' := c2.trans (s1.trans ex')
    refine ⟨tx_same sMH, tx_sub sMH, ?_, fun k a => if k = δ.length then ω' outs.length a else if io = some k then ω' p a else k < δ.length ∧ ω k a, fun j k a h1 h2 => ?_, fun j a h1 => ?_, fun j t hj => ?_⟩
    · have : (outsTo δ io p outs).length = δ.length := by
        cases io with
        | none => rfl
        | some i => simp [outsTo]
      simp [ln, this]
    · have old : ∀ j k a, ¬ io = some j → ω j a → ω' k a → False := fun j k a hij h h' => by
        obtain ⟨o, ho⟩ := mut_some (w2 j a h).2
        have q := s1 a o (c0 a o ho fun hB' => by
          obtain ⟨i, hi, hw⟩ := bi a hB'
          exact hij (by rw [hi, w1 i j a hw h]))
        rw [(w2' k a h').1] at q
        cases q
      have pl : ∀ i, io = some i → p < outs.length := fun i hi => by
        obtain ⟨_, t, ht, _⟩ := hio i hi
        exact (List.getElem?_eq_some_iff.mp ht).1
      by_cases hj : j = δ.length <;> by_cases hk : k = δ.length <;> simp only [hj, hk, if_true, if_false] at h1 h2
      · omega
      · split at h2
        · rename_i hik
          have := pl _ hik
          have := w1' _ _ _ h1 h2
          omega
        · rename_i hik
          exact (old k _ a hik h2.2 h1).elim
      · split at h1
        · rename_i hik
          have := pl _ hik
          have := w1' _ _ _ h1 h2
          omega
        · rename_i hik
          exact (old j _ a hik h1.2 h2).elim
      · split at h1 <;> split at h2
        · rename_i e1 e2
          rw [e1] at e2
          exact Option.some.inj e2
        · rename_i e1 e2
          exact (old k _ a e2 h2.2 h1).elim
        · rename_i e1 e2
          exact (old j _ a e1 h1.2 h2).elim
        · exact w1 _ _ _ h1.2 h2.2
    · have new : ∀ k, ω' k a → tx M H' a = none ∧ Mut (H' a) := fun k h' => by
        refine ⟨tx_none ?_ (w2' k a h').2, (w2' k a h').2⟩
        cases e : M a with
        | none => rfl
        | some o =>
          have q := (c2.trans s1) a o e
          rw [(w2' k a h').1] at q
          cases q
      by_cases hj : j = δ.length
      · simp only [hj, if_true] at h1
        exact new _ h1
      · simp only [hj, if_false] at h1
        split at h1
        · exact new _ h1
        · rename_i hij
          obtain ⟨hl, hw⟩ := h1
          obtain ⟨o, ho⟩ := mut_some (w2 j a hw).2
          have q := ex' a o (s1 a o (c0 a o ho fun hB' => by
            obtain ⟨i, hi, hw'⟩ := bi a hB'
            exact hij (by rw [hi, w1 i j a hw' hw])))
          have mu : Mut (H' a) := by
            rw [q, ← ho]
            exact (w2 j a hw).2
          exact ⟨tx_none (w2 j a hw).1 mu, mu⟩
    · have lo : (outsTo δ io p outs).length = δ.length := by
        cases io with
        | none => rfl
        | some i => simp [outsTo]
      rcases get_push hj with h1 | ⟨h1, h2⟩
      · have hjl := (List.getElem?_eq_some_iff.mp h1).1
        have e1 : j ≠ δ.length := by omega
        simp only [e1, if_false]
        by_cases hij : io = some j
        · obtain ⟨hr, t', ht', hft⟩ := hio j hij
          rw [hij] at h1
          have h1 : (δ.set j outs[p]?)[j]? = some (some t) := h1
          rw [List.getElem?_set_self (by omega), ht'] at h1
          cases h1
          have e2 : (outs.map some ++ [some τ])[p]? = some (some t) := get_left (by rw [List.getElem?_map, ht']; rfl)
          obtain ⟨u, hu, ow⟩ := w3' p t e2
          obtain ⟨v', hv', okv⟩ := ok.get hr
          have okv : σ[j]? = some (some v') := okv
          rw [get_left (show (vs.map some)[p]? = some (some v') by rw [List.getElem?_map, hv']; rfl)] at hu
          cases hu
          refine ⟨u, get_left okv, ?_⟩
          simp only [hij, if_true]
          exact ow.tx ex' hft
        · have h1' : δ[j]? = some (some t) := by
            cases hio' : io with
            | none => rw [hio'] at h1; exact h1
            | some i =>
              rw [hio'] at h1
              have h1 : (δ.set i outs[p]?)[j]? = some (some t) := h1
              rw [List.getElem?_set_ne] at h1
              · exact h1
              · rintro rfl
                exact hij hio'
          obtain ⟨u, hu, ow⟩ := w3 j t h1'
          refine ⟨u, get_left hu, ?_⟩
          simp only [hij, if_false]
          have kp : ∀ b o, H b = some o → ¬ B b → H' b = some o := fun b o q nb => ex' b o (s1 b o (c0 b o q nb))
          refine ow.mono (tx_same sMH) (fun b hb => ⟨by omega, hb⟩) (fun b hb => ?_) fun b xs q => ex' b _ (s1 b _ (ctup b xs q))
          obtain ⟨o, ho⟩ := mut_some (w2 j b hb).2
          rw [ho]
          exact kp b o ho fun hB' => by
            obtain ⟨i, hi, hw'⟩ := bi b hB'
            exact hij (by rw [hi, w1 i j b hw' hb])
      · cases h2
        rw [lo] at h1
        have e2 : (outs.map some ++ [some τ])[outs.length]? = some (some τ) := by
          have := get_top (l := outs.map some) (x := some τ)
          rwa [List.length_map] at this
        obtain ⟨u, hu, ow⟩ := w3' outs.length τ e2
        have e3 : (vs.map some ++ [some v])[outs.length]? = some (some v) := by
          have := get_top (l := vs.map some) (x := some v)
          rwa [List.length_map, lvo] at this
        rw [e3] at hu
        cases hu
        refine ⟨v, by rw [h1, ← ln]; exact get_top, ?_⟩
        simp only [h1, if_true]
        exact ow.tx ex' hf
end
theorem argsT_left {δ η : Env} {io : Option Nat} : ∀ {rs : List Arg} {ts : List T}, argsT δ io rs = some ts → argsT (δ ++ η) io rs = some ts
  | [], _, h => h
  | r :: rs, ts, h => by
    unfold argsT at h ⊢
    split at h
    · rename_i a b e1 e2
      rw [argsT_left e2]
      have e3 : argT (δ ++ η) io r = some a := by
        cases r with
        | d x => exact e1
        | sl j =>
          simp only [argT] at e1 ⊢
          split at e1
          · rename_i t0 e0
            rw [get_leftL e0]
            exact e1
          · cases e1
      rw [e3]
      exact h
    · cases h
theorem ArgsOk.left {K : PySem.W.Frag} {M : Hp} {σ ρ : L2.St} : ∀ {rs : List Arg} {vs : List V}, ArgsOk K M σ rs vs → ArgsOk K M (σ ++ ρ) rs vs
  | [], _, h => h
  | .d _ :: _, _, ⟨v, q, h1, h2, h3⟩ => ⟨v, q, h1, h2, h3.left⟩
  | .sl i :: _, _, ⟨v, q, h1, h2, h3⟩ => ⟨v, q, h1, get_leftL (show σ[i]? = some (some v) from h2), h3.left⟩
section
variable {K : PySem.W.Frag} {δ δ1 δ2 : Env}
/-- a call: nothing that goes in is changed -/
theorem ro_call {c : Con} {E : XK} {ta : TA} {rs : List Arg} {ts outs : List T} {τ : T} (ha : Ra K ta δ rs δ1) (ht : argsT δ1 none rs = some ts) (h : ∀ Q : T → List T → Prop, Q τ outs → c ts Q) (hl : outs.length = ts.length := by rfl) (hf : flatT τ = true := by rfl) :
    Ro K (tCall (spOf K c) [] E ta) δ τ δ1 := fun z M σ H r Q q =>
  ha z M σ H r _ fun M1 vs H1 e1 r1 p1 => by
    obtain ⟨Mc, rc, fin⟩ := r1.r.call (p := 0) p1.left (argsT_left ht) (fun i z => nomatch z)
    show spOf K c (vs ++ []) H1 Q E
    rw [List.append_nil]
    refine ⟨Mc, ts, rc, h _ ⟨hl, fun M' v H' s r' => ?_⟩⟩
    obtain ⟨s2, r2⟩ := fin M' v H' outs τ s r' hl hf (fun i z => nomatch z)
    exact q _ v H' (e1.trans s2) ⟨r2, r1.ln⟩
theorem rd_call {c : Con} {E : XK} {ta : TA} {rs : List Arg} {ts outs : List T} {x : D} (ha : Ra K ta δ rs δ1) (ht : argsT δ1 none rs = some ts) (h : ∀ Q : T → List T → Prop, Q (.d x) outs → c ts Q) (hl : outs.length = ts.length := by rfl) (hf : flatD x = true := by rfl) :
    Rd K (tCall (spOf K c) [] E ta) δ (.d x) δ1 := (ro_call ha ht h hl hf).frz rfl
/-- a call that changes what slot i holds, its p-th argument -/
theorem ro_callW {c : Con} {E : XK} {ta : TA} {rs : List Arg} {ts outs : List T} {τ t : T} (i p : Nat) (ha : Ra K ta δ rs δ1) (ht : argsT δ1 (some i) rs = some ts) (hp : rs[p]? = some (.sl i)) (hq : ∀ k, rs[k]? = some (.sl i) → k = p) (h : ∀ Q : T → List T → Prop, Q τ outs → c ts Q) (ho : outs[p]? = some t)
    (hl : outs.length = ts.length := by rfl) (hf : flatT τ = true := by rfl) (hg : flatT t = true := by rfl) : Ro K (tCall (spOf K c) [] E ta) δ τ (δ1.set i (some t)) := fun z M σ H r Q q =>
  ha z M σ H r _ fun M1 vs H1 e1 r1 p1 => by
    obtain ⟨Mc, rc, fin⟩ := r1.r.call (p := p) p1.left (argsT_left ht) (fun i' z k hk => by cases z; exact hq k hk)
    show spOf K c (vs ++ []) H1 Q E
    rw [List.append_nil]
    refine ⟨Mc, ts, rc, h _ ⟨hl, fun M' v H' s r' => ?_⟩⟩
    obtain ⟨s2, r2⟩ := fin M' v H' outs τ s r' hl hf (fun i' z => by cases z; exact ⟨hp, t, ho, hg⟩)
    have e : outsTo (δ1 ++ z.e) (some i) p outs = δ1.set i (some t) ++ z.e := by
      show (δ1 ++ z.e).set i outs[p]? = _
      have hi : i < δ1.length := by
        obtain ⟨w, hw, okw⟩ := p1.get hp
        have okw : σ[i]? = some (some w) := okw
        rw [← r1.ln]
        exact (List.getElem?_eq_some_iff.mp okw).1
      rw [ho, set_append hi]
    rw [e] at r2
    exact q _ v H' (e1.trans s2) ⟨r2, by simp [r1.ln]⟩
theorem rd_callW {c : Con} {E : XK} {ta : TA} {rs : List Arg} {ts outs : List T} {x : D} {t : T} (i p : Nat) (ha : Ra K ta δ rs δ1) (ht : argsT δ1 (some i) rs = some ts) (hp : rs[p]? = some (.sl i)) (hq : ∀ k, rs[k]? = some (.sl i) → k = p) (h : ∀ Q : T → List T → Prop, Q (.d x) outs → c ts Q) (ho : outs[p]? = some t)
    (hl : outs.length = ts.length := by rfl) (hf : flatD x = true := by rfl) (hg : flatT t = true := by rfl) : Rd K (tCall (spOf K c) [] E ta) δ (.d x) (δ1.set i (some t)) := (ro_callW i p ha ht hp hq h ho hl hf hg).frz rfl
/-! ### a def by its body -/
def outsOf (ow : List Nat) (ts : List T) (δ : Env) : List T := ts.mapIdx fun k t => if k ∈ ow then (match δ[k]? with
  | some (some s) => s
  | _ => t) else t
theorem start_eq {N : List Str} {vs : List V} : L2.start N vs = vs.map some ++ List.replicate (N.length - vs.length) none := rfl
theorem R.start {M H : Hp} {vs : List V} {ts : List T} (r : R K M (vs.map some) H (ts.map some)) (n : Nat) : R K M (vs.map some ++ List.replicate n none) H (ts.map some ++ List.replicate n none) := by
  obtain ⟨ex, ln, ω, w1, w2, w3⟩ := r
  refine ⟨ex, by simpa using ln, ω, w1, w2, fun i t ht => ?_⟩
  have hi : i < (ts.map some).length := by
    by_cases hi : i < (ts.map some).length
    · exact hi
    · rw [List.getElem?_append_right (by omega), List.getElem?_replicate] at ht
      split at ht <;> cases ht
  rw [List.getElem?_append_left hi] at ht
  obtain ⟨v, hv, ow⟩ := w3 i t ht
  exact ⟨v, by rw [List.getElem?_append_left (by rw [ln]; exact hi)]; exact hv, ow⟩
/-- the end of a def: what the slots of the parameters hold goes back -/
theorem R.finish {M M' H H' : Hp} {vs : List V} {ts : List T} {σ : L2.St} {δ : Env} {τ : T} {v : V} {ow : List Nat} {n : Nat} (r : R K M (vs.map some) H (ts.map some)) (e : Same M M') (r' : R K M' (σ ++ [some v]) H' (δ ++ [some τ])) (k : Keep ow (vs.map some ++ List.replicate n none) σ)
    (hd : ∀ k t, ts[k]? = some t → k ∉ ow → ∃ x, t = .d x) (hs : ∀ k, k ∈ ow → k < ts.length → ∃ s, δ[k]? = some (some s)) : R K M' (vs.map some ++ [some v]) H' ((outsOf ow ts δ).map some ++ [some τ]) := by
  have lvt : vs.length = ts.length := by simpa using r.ln
  obtain ⟨ex, ln, ω, w1, w2, w3⟩ := r'
  have ln : σ.length = δ.length := by simpa using ln
  have lo : (outsOf ow ts δ).length = ts.length := by simp [outsOf]
  refine ⟨ex, by simp [lo, lvt], fun j a => if j = ts.length then ω δ.length a else if j ∈ ow ∧ j < δ.length then ω j a else False, fun i j a h1 h2 => ?_, fun j a h1 => ?_, fun j t hj => ?_⟩
  · by_cases hi : i = ts.length <;> by_cases hj : j = ts.length <;> simp only [hi, hj, if_true, if_false] at h1 h2
    · omega
    · split at h2
      · have := w1 _ _ _ h1 h2
        omega
      · exact h2.elim
    · split at h1
      · have := w1 _ _ _ h1 h2
        omega
      · exact h1.elim
    · split at h1
      · split at h2
        · exact w1 _ _ _ h1 h2
        · exact h2.elim
      · exact h1.elim
  · by_cases hj : j = ts.length <;> simp only [hj, if_true, if_false] at h1
    · exact w2 _ _ h1
    · split at h1
      · exact w2 _ _ h1
      · exact h1.elim
  · rcases get_push hj with h1 | ⟨h1, h2⟩
    · rw [List.getElem?_map] at h1
      cases e1 : (outsOf ow ts δ)[j]? with
      | none => rw [e1] at h1; cases h1
      | some t' =>
        rw [e1] at h1
        cases h1
        have hjl := (List.getElem?_eq_some_iff.mp e1).1
        have hjt : j < ts.length := by omega
        have hjv : j < vs.length := by omega
        have hne : j ≠ ts.length := by omega
        have ev : (vs.map some)[j]? = some (some vs[j]) := by rw [List.getElem?_map, List.getElem?_eq_getElem hjv]; rfl
        refine ⟨vs[j], get_left ev, ?_⟩
        simp only [hne, if_false]
        have et : ts[j]? = some ts[j] := List.getElem?_eq_getElem hjt
        unfold outsOf at e1
        rw [List.getElem?_mapIdx, et] at e1
        simp only [Option.map_some, Option.some.injEq] at e1
        by_cases hjo : j ∈ ow
        · rw [if_pos hjo] at e1
          obtain ⟨s, hs'⟩ := hs j hjo hjt
          rw [hs'] at e1
          subst e1
          have hjd := (List.getElem?_eq_some_iff.mp hs').1
          obtain ⟨u, hu, ow'⟩ := w3 j s (get_left hs')
          rcases get_push hu with hu | ⟨hu, _⟩
          · rw [k j hjo, List.getElem?_append_left (by simpa using hjv), ev] at hu
            cases hu
            simp only [hjo, hjd, and_self, if_true]
            exact ow'
          · omega
        · rw [if_neg hjo] at e1
          subst e1
          obtain ⟨x, hx⟩ := hd j _ et hjo
          obtain ⟨ω0, _, _, w30⟩ := r.own
          obtain ⟨u, hu, ow0⟩ := w30 j ts[j] (by rw [List.getElem?_map, et]; rfl)
          rw [ev] at hu
          cases hu
          rw [hx] at ow0 ⊢
          exact Rp.mono e ow0
    · cases h2
      have h1 : j = ts.length := by rw [h1, List.length_map, lo]
      obtain ⟨u, hu, ow'⟩ := w3 δ.length τ get_top
      rw [← ln, get_top] at hu
      cases hu
      refine ⟨v, by rw [h1, ← lvt]; simpa using get_top (l := vs.map some) (x := some v), ?_⟩
      simp only [h1, if_true]
      exact ow'
theorem con_ok {P : Program} {w : World} {mg : Str → Option Value} {base : Heap} {x qual : Str} {st : Stmt} {f : Addr} {fd : FuncData} {N params : List Str} {k : Nat} {c : Con} (ow : List Nat) (n : Nat) (F : Fun K x qual st f fd) (S : FnScope N params (defScope st)) (hN : N.length = params.length + n)
    (hlen : ∀ ts Q, c ts Q → ts.length = params.length) (hd : ∀ ts Q, c ts Q → ∀ k t, ts[k]? = some t → k ∉ ow → ∃ x, t = .d x)
    (hbody : ∀ (cdv : Value) (A : Around) (outer : List PySem.Env) (s : Shared) (H : Hp) (E : XK), Room k (A.deeper (envOfC qual (defScope st) s.heap.objs.size f cdv)) →
      ∃ t, PSs (cxOf CX0 P w K mg base N qual (defScope st) f cdv A outer s H E).nox (defBody st) t ∧ ∀ ts (Q : T → List T → Prop), c ts Q → Sd K ow t (ts.map some ++ List.replicate n none) { nx := fun δ => (∀ k, k ∈ ow → k < ts.length → ∃ s, δ[k]? = some (some s)) ∧ Q (.d .non) (outsOf ow ts δ), rt := fun τ δ => (∀ k, k ∈ ow → k < ts.length → ∃ s, δ[k]? = some (some s)) ∧ Q τ (outsOf ow ts δ) }) :
    FnOk P w K mg base CX0 (k + 1) f fd params (spOf K c) := by
  refine F.ok S (fun vs H Q E h => ?_) (fun cdv A outer s H vs Q E hr h => ?_)
  · obtain ⟨M, ts, r, hc⟩ := h
    have := r.ln
    rw [List.length_map, List.length_map] at this
    rw [this, hlen ts _ hc]
  · obtain ⟨M, ts, r, hc⟩ := h
    obtain ⟨t, ht, hw⟩ := hbody cdv A outer s H E hr
    refine ⟨t, ht, ?_⟩
    have lv : vs.length = ts.length := by simpa using r.ln
    have e : N.length - vs.length = n := by rw [hN, lv, hlen ts _ hc]; omega
    rw [start_eq, e]
    refine hw ts _ hc ⟨[], []⟩ M _ H ⟨by simpa using r.start n, by simp [lv]⟩ _ ⟨fun M' σ' H' δ s1 r1 k1 q => ?_, fun M' σ' v H' δ τ s1 r1 k1 q => ?_, fun _ _ _ _ _ _ _ q => q.elim, fun _ _ _ _ _ _ _ q => q.elim⟩
    · obtain ⟨q0, q1, q2⟩ := q
      exact q2 M' _ H' s1 (r.finish s1 (by simpa [RT] using (r1.pushD (x := .non) (v := .non) rfl).1) k1 (hd ts _ hc) q0)
    · obtain ⟨q0, q1, q2⟩ := q
      exact q2 M' _ H' s1 (r.finish s1 (by simpa [RT] using r1.1) k1 (hd ts _ hc) q0)
end
end TV

namespace TV
open PySem PySem.Spec PyProof.Rows L2
section
variable {K : PySem.W.Frag} {ps : List Nat} {δ δ1 δ2 δ3 : Env} {ta tb te : TE} {tt tu : TT} {t u : TS} {D : EndT}
/-! ### comprehensions -/
def wipeE (δ : Env) : List Nat → Env
  | [] => δ
  | v :: vs => (wipeE δ vs).set v none
theorem wipeE_length : ∀ {vs : List Nat}, (wipeE δ vs).length = δ.length
  | [] => rfl
  | v :: vs => by unfold wipeE; rw [List.length_set, wipeE_length]
theorem wipeE_in {i : Nat} : ∀ {vs : List Nat}, i ∈ vs → ∀ t : T, (wipeE δ vs)[i]? ≠ some (some t)
  | v :: vs, h, t => by
    unfold wipeE
    by_cases hv : v = i
    · subst hv
      by_cases hl : v < (wipeE δ vs).length
      · rw [List.getElem?_set_self hl]; exact fun z => nomatch z
      · rw [List.getElem?_eq_none (by rw [List.length_set]; omega)]; exact fun z => nomatch z
    · rw [List.getElem?_set_ne hv]
      rcases List.mem_cons.mp h with q | q
      · exact absurd q.symm hv
      · exact wipeE_in q t
theorem wipeE_out {i : Nat} : ∀ {vs : List Nat}, i ∉ vs → (wipeE δ vs)[i]? = δ[i]?
  | [], _ => rfl
  | v :: vs, h => by
    unfold wipeE
    rw [List.getElem?_set_ne (fun z => h (by simp [z])), wipeE_out (fun z => h (by simp [z]))]
theorem wipe_out {σ : L2.St} {i : Nat} : ∀ {vs : List Nat}, i ∉ vs → (wipe σ vs)[i]? = σ[i]?
  | [], _ => rfl
  | v :: vs, h => by
    unfold wipe
    rw [List.getElem?_set_ne (fun z => h (by simp [z])), wipe_out (fun z => h (by simp [z]))]
/-- slots that the trees do not speak of may hold anything -/
theorem RR.other {z : Z} {M H : Hp} {σ σ' : L2.St} (r : RR K z M σ H δ) (hl : σ'.length = σ.length) (h : ∀ (i : Nat) (t : T), δ[i]? = some (some t) → σ'[i]? = σ[i]?) : RR K z M σ' H δ := by
  obtain ⟨⟨ex, ln, ω, w1, w2, w3⟩, l⟩ := r
  refine ⟨⟨ex, by simp only [List.length_append] at ln ⊢; omega, ω, w1, w2, fun i t ht => ?_⟩, hl.trans l⟩
  obtain ⟨v, hv, ow⟩ := w3 i t ht
  refine ⟨v, ?_, ow⟩
  by_cases hi : i < δ.length
  · have e := h i t (get_ofL hi ht)
    rw [List.getElem?_append_left (by omega)] at hv ⊢
    rw [e]
    exact hv
  · rw [List.getElem?_append_right (by omega)] at hv ⊢
    rw [hl]
    exact hv
theorem less_wipe {vs : List Nat} : Less (wipeE δ vs) δ := by
  refine ⟨wipeE_length, fun i t h => ?_⟩
  by_cases hi : i ∈ vs
  · exact absurd h (wipeE_in hi t)
  · rw [wipeE_out hi] at h
    exact h
def others (n : Nat) (vs : List Nat) : List Nat := (List.range n).filter fun i => !vs.contains i
theorem wipe_keep {n : Nat} {vs : List Nat} {σ σ' : L2.St} (k : Keep (others n vs) σ σ') (h1 : σ.length = n) (h2 : σ'.length = n) : wipe σ' vs = wipe σ vs := by
  apply List.ext_getElem?
  intro i
  by_cases hi : i ∈ vs
  · by_cases hn : i < n
    · have a : ∀ {τ : L2.St}, τ.length = n → (wipe τ vs)[i]? = some none := fun {τ} ht => by
        cases e : (wipe τ vs)[i]? with
        | none => 
          have := List.getElem?_eq_none_iff.mp e
          rw [wipe_length] at this
          omega
        | some x =>
          cases x with
          | none => rfl
          | some v => exact absurd hi (wipe_some e).2
      rw [a h1, a h2]
    · rw [List.getElem?_eq_none (by rw [wipe_length]; omega), List.getElem?_eq_none (by rw [wipe_length]; omega)]
  · rw [wipe_out hi, wipe_out hi]
    by_cases hn : i < n
    · exact k i (by simp [others, hn, hi])
    · rw [List.getElem?_eq_none (by omega), List.getElem?_eq_none (by omega)]
/-- what holds of the list so far and of the slots behind a turn -/
def Pc {α : Type} (vs : List Nat) (P : Nat → List α → Env → Prop) (i : Nat) (acc : List α) (δ : Env) : Prop := ∃ δ', Less δ' (wipeE δ vs) ∧ P i acc δ'
theorem lc_core {α : Type} {wi : TI} {g : TG} {vs : List Nat} {items : List TV.D} {srcs : Srcs} (mk : List α → T) (hw : Wk K wi δ items srcs δ1) (P : Nat → List α → Env → Prop) (h0 : P 0 [] δ1) (hn : wipeE δ1 vs = δ1) (hz : items.length ≤ 100000)
    (hmk0 : ∀ {M : Hp} {σ : L2.St} {H : Hp} {δ : Env} {Dl : Addr}, R K M σ H δ → H Dl = none → R K M (σ ++ [some (.ref Dl)]) (upd H Dl (.lst [])) (δ ++ [some (mk [])]))
    (hmk1 : ∀ {M : Hp} {σ : L2.St} {H : Hp} {δ : Env} {Dl : Addr} {acc : List α}, R K M (σ ++ [some (.ref Dl)]) H (δ ++ [some (mk acc)]) → ∃ av, H Dl = some (.lst av) ∧ av.length = acc.length)
    (Ry : TE → Env → α → Env → Prop)
    (hmk2 : ∀ {te : TE} {z : Z} {M : Hp} {σ2 : L2.St} {H : Hp} {δ2 δ3 : Env} {y : α} {Dl : Addr} {acc : List α}, Ry te δ2 y δ3 → RR K ⟨z.s ++ [some (.ref Dl)], z.e ++ [some (mk acc)]⟩ M σ2 H δ2 → ∀ Q : VK,
      (∀ M' v H', Same M M' → (∃ av, H' Dl = some (.lst av) ∧ av.length = acc.length ∧ RR K ⟨z.s ++ [some (.ref Dl)], z.e ++ [some (mk (acc ++ [y]))]⟩ M' σ2 (upd H' Dl (.lst (av ++ [v]))) δ3) → Q v H') → te σ2 H Q)
    (ho : ∀ i acc δ, P i acc δ → okS δ srcs ∧ wipeE δ vs = δ ∧ δ.length = δ1.length)
    (hs : ∀ i x acc δ, items[i]? = some x → P i acc δ → ∃ δx b δ2, Gd K (others δ1.length vs) g x δ δx ∧ δx.length = δ1.length ∧ Rt K tt δx b δ2 ∧ (b = true → ∃ y δ3, Ry te δ2 y δ3 ∧ Pc vs P (i + 1) (acc ++ [y]) δ3) ∧ (b = false → Pc vs P (i + 1) acc δ2)) {out : List α} {δo : Env}
    (hd : ∀ acc δ, P items.length acc δ → acc = out ∧ Less δo δ) : Ro K (tLc wi g tt te vs) δ (mk out) δo := fun z M σ H r Q q =>
  hw z M σ H r _ fun M1 J H1 e1 r1 it Dl hD => by
    have hln := r1.ln
    refine ⟨fun i m H2 => m = items.length - i ∧ i ≤ items.length ∧ ∃ M2 δ2 acc, Same M1 M2 ∧ RR K ⟨z.s ++ [some (.ref Dl)], z.e ++ [some (mk acc)]⟩ M2 σ H2 δ2 ∧ P i acc δ2 ∧ acc.length ≤ i,
      ⟨items.length, by simp, Nat.zero_le _, M1, δ1, [], Same.refl M1, ⟨?_, r1.ln⟩, h0, Nat.le_refl _⟩, ?_⟩
    · have := hmk0 r1.r hD
      simpa [List.append_assoc] using this
    · rintro i m H2 ⟨rfl, hi, M2, δ2, acc, e2, r2, p2, la⟩
      obtain ⟨ok2, wp2, ln2⟩ := ho i acc δ2 p2
      obtain ⟨go, stop⟩ := it _ i M2 σ H2 δ2 e2 r2 Keep.refl ok2
      have frame : ∀ {δ : Env} {σ' : L2.St} {z M H}, wipeE δ vs = δ → σ'.length = σ.length → (∀ i : Nat, i ∉ vs → σ'[i]? = σ[i]?) → RR K z M σ H δ → RR K z M σ' H δ := fun {δ σ' z M H} hwp hl hk r => r.other hl fun i t ht => hk i fun hi => by
        rw [← hwp] at ht
        exact wipeE_in hi t ht
      by_cases hlt : i < items.length
      · obtain ⟨g1, g2⟩ := go hlt
        refine .inr ⟨g1, fun H3 => ∃ M3 δ3 acc', Same M1 M3 ∧ RR K ⟨z.s ++ [some (.ref Dl)], z.e ++ [some (mk acc')]⟩ M3 σ H3 δ3 ∧ P (i + 1) acc' δ3 ∧ acc'.length ≤ i + 1, fun H3 h3 => ⟨items.length - (i + 1), by omega, rfl, hlt, h3⟩, fun x H' y => ?_⟩
        obtain ⟨M3, e3, r3, d, hd1, rd⟩ := g2 x H' y
        obtain ⟨δx, b, δ4, hg, hlx, ht, hy, hno⟩ := hs i d acc δ2 hd1 p2
        have r3' : RR K _ M3 (wipe σ vs) H' δ2 := frame wp2 (wipe_length σ vs) (fun j hj => wipe_out hj) r3
        refine hg _ M3 (wipe σ vs) H' x r3' rd _ fun σ4 r4 k4 => ⟨?_, ?_⟩
        · have h1 : (wipe σ vs).length = δ1.length := by rw [wipe_length, hln]
          have h2 : σ4.length = δ1.length := by rw [r4.ln, hlx]
          have ww : wipe (wipe σ vs) vs = wipe σ vs := by
            apply List.ext_getElem?
            intro j
            by_cases hj : j ∈ vs
            · by_cases hjn : j < σ.length
              · have a : ∀ {τ : L2.St}, j < τ.length → (wipe τ vs)[j]? = some none := fun {τ} ht => by
                  cases e : (wipe τ vs)[j]? with
                  | none =>
                    have := List.getElem?_eq_none_iff.mp e
                    rw [wipe_length] at this
                    omega
                  | some x =>
                    cases x with
                    | none => rfl
                    | some v => exact absurd hj (wipe_some e).2
                rw [a (by rw [wipe_length]; exact hjn), a hjn]
              · rw [List.getElem?_eq_none (by rw [wipe_length, wipe_length]; omega), List.getElem?_eq_none (by rw [wipe_length]; omega)]
            · rw [wipe_out hj]
          rw [wipe_keep k4 h1 h2, ww]
        · refine ht _ M3 σ4 H' r4 _ fun M5 H5 e5 r5 => ?_
          have back : ∀ {δ : Env} {z M H}, RR K z M σ4 H δ → RR K z M σ H (wipeE δ vs) := fun {δ z M H} r => by
            refine (r.less less_wipe).other ?_ fun j t hj => ?_
            · rw [hln, r4.ln, hlx]
            · by_cases hjv : j ∈ vs
              · exact absurd hj (wipeE_in hjv t)
              · by_cases hjn : j < δ1.length
                · have := k4 j (by simp [others, hjn, hjv])
                  rw [wipe_out hjv] at this
                  exact this.symm
                · rw [List.getElem?_eq_none (by omega), List.getElem?_eq_none (by rw [r4.ln, hlx]; omega)]
          cases b with
          | true =>
            obtain ⟨y, δ6, hy1, δ7, l7, p7⟩ := hy rfl
            refine hmk2 hy1 r5 _ fun M6 v H6 e6 ⟨av, h6, hal, r6⟩ => ⟨av, h6, by rw [hal]; exact len_ok (by omega), M6, δ7, acc ++ [y], e2.trans (e3.trans (e5.trans e6)), (back r6).less l7, p7, by simp; omega⟩
          | false =>
            obtain ⟨δ7, l7, p7⟩ := hno rfl
            exact ⟨M5, δ7, acc, e2.trans (e3.trans e5), (back r5).less l7, p7, by omega⟩
      · have hi2 : i = items.length := by omega
        subst hi2
        obtain ⟨rfl, lo⟩ := hd acc δ2 p2
        refine .inl ⟨stop (Nat.le_refl _), q M2 _ H2 (e1.trans e2) ⟨?_, (r2.less lo).ln⟩⟩
        have := (r2.less lo).r
        simpa [List.append_assoc] using this
/-- a comprehension whose items are data -/
theorem ro_lc {wi : TI} {g : TG} {vs : List Nat} {items : List TV.D} {srcs : Srcs} (hw : Wk K wi δ items srcs δ1) (P : Nat → List TV.D → Env → Prop) (h0 : P 0 [] δ1) (hn : wipeE δ1 vs = δ1) (hz : items.length ≤ 100000)
    (ho : ∀ i acc δ, P i acc δ → okS δ srcs ∧ wipeE δ vs = δ ∧ δ.length = δ1.length)
    (hs : ∀ i x acc δ, items[i]? = some x → P i acc δ → ∃ δx b δ2, Gd K (others δ1.length vs) g x δ δx ∧ δx.length = δ1.length ∧ Rt K tt δx b δ2 ∧ (b = true → ∃ y δ3, Rd K te δ2 (.d y) δ3 ∧ Pc vs P (i + 1) (acc ++ [y]) δ3) ∧ (b = false → Pc vs P (i + 1) acc δ2)) {out : List TV.D} {δo : Env}
    (hd : ∀ acc δ, P items.length acc δ → acc = out ∧ Less δo δ) : Ro K (tLc wi g tt te vs) δ (.ls out) δo := by
  have top : ∀ {M : Hp} {σ : L2.St} {H : Hp} {δ : Env} {Dl : Addr} {acc : List TV.D}, R K M (σ ++ [some (.ref Dl)]) H (δ ++ [some (.ls acc)]) → ∃ av, H Dl = some (.lst av) ∧ RpL K M acc av := fun {M σ H δ Dl acc} r => by
    obtain ⟨v, hv, P, ow, _⟩ := r.at get_top
    have ln : σ.length = δ.length := by simpa using r.ln
    rw [← ln, get_top] at hv
    cases hv
    obtain ⟨a, vs, e, _, h3, h4⟩ := ow
    cases e
    exact ⟨vs, h3, h4⟩
  refine lc_core (mk := T.ls) hw P h0 hn hz (fun r hD => r.pushNew hD trivial fun P hp => ⟨_, [], rfl, hp, upd_same, rfl⟩) (fun r => ?_) (fun te δ y δ' => Rd K te δ (.d y) δ') (fun {te z M σ2 H δ2 δ3 y Dl acc} hy r Q q => ?_) ho hs hd
  · obtain ⟨av, h1, h2⟩ := top r
    exact ⟨av, h1, h2.length.symm⟩
  · refine hy _ M σ2 H r Q fun M' v H' e r' rp => q M' v H' e ?_
    have rr := r'.r
    have rr : R K M' ((σ2 ++ z.s) ++ [some (.ref Dl)]) H' ((δ3 ++ z.e) ++ [some (.ls acc)]) := by simpa [List.append_assoc] using rr
    obtain ⟨av, h1, h2⟩ := top rr
    refine ⟨av, h1, h2.length.symm, ?_, r'.ln⟩
    have ln : (σ2 ++ z.s).length = (δ3 ++ z.e).length := by
      have := rr.ln
      simp only [List.length_append, List.length_singleton] at this ⊢
      omega
    have w := rr.write (i := (δ3 ++ z.e).length) (t := .ls acc) (t' := .ls (acc ++ [y])) (a := Dl) (o := .lst (av ++ [v])) (v := .ref Dl) get_top (by rw [← ln]; exact get_top) trivial fun P ow => by
      obtain ⟨a, vs, e, p, h3, h4⟩ := ow
      cases e
      rw [h1] at h3
      cases h3
      exact ⟨p, _, _, rfl, p, upd_same, h4.append (RpL.one rp)⟩
    have e5 : ((δ3 ++ z.e) ++ [some (T.ls acc)]).set (δ3 ++ z.e).length (some (.ls (acc ++ [y]))) = (δ3 ++ z.e) ++ [some (.ls (acc ++ [y]))] := by
      rw [List.set_append_right _ _ (Nat.le_refl _)]
      simp
    rw [e5] at w
    simpa [List.append_assoc] using w
/-- .. whose items are new lists -/
theorem ro_lcL {wi : TI} {g : TG} {vs : List Nat} {items : List TV.D} {srcs : Srcs} (hw : Wk K wi δ items srcs δ1) (P : Nat → List (List TV.D) → Env → Prop) (h0 : P 0 [] δ1) (hn : wipeE δ1 vs = δ1) (hz : items.length ≤ 100000)
    (ho : ∀ i acc δ, P i acc δ → okS δ srcs ∧ wipeE δ vs = δ ∧ δ.length = δ1.length)
    (hs : ∀ i x acc δ, items[i]? = some x → P i acc δ → ∃ δx b δ2, Gd K (others δ1.length vs) g x δ δx ∧ δx.length = δ1.length ∧ Rt K tt δx b δ2 ∧ (b = true → ∃ y δ3, Ro K te δ2 (.ls y) δ3 ∧ Pc vs P (i + 1) (acc ++ [y]) δ3) ∧ (b = false → Pc vs P (i + 1) acc δ2)) {out : List (List TV.D)} {δo : Env}
    (hd : ∀ acc δ, P items.length acc δ → acc = out ∧ Less δo δ) : Ro K (tLc wi g tt te vs) δ (.ll out) δo := by
  have top : ∀ {M : Hp} {σ : L2.St} {H : Hp} {δ : Env} {Dl : Addr} {acc : List (List TV.D)}, R K M (σ ++ [some (.ref Dl)]) H (δ ++ [some (.ll acc)]) → ∃ as : List Addr, H Dl = some (.lst (as.map V.ref)) ∧ as.length = acc.length := fun {M σ H δ Dl acc} r => by
    obtain ⟨v, hv, P, ow, _⟩ := r.at get_top
    have ln : σ.length = δ.length := by simpa using r.ln
    rw [← ln, get_top] at hv
    cases hv
    obtain ⟨a, as, e, _, _, _, h3, h4⟩ := ow
    cases e
    exact ⟨as, h3, h4.length.symm⟩
  refine lc_core (mk := T.ll) hw P h0 hn hz (fun r hD => r.pushNew hD trivial fun P hp => ⟨_, [], rfl, hp, fun _ z => by simp at z, by simp, upd_same, rfl⟩) (fun r => ?_) (fun te δ y δ' => Ro K te δ (.ls y) δ') (fun {te z M σ2 H δ2 δ3 y Dl acc} hy r Q q => ?_) ho hs hd
  · obtain ⟨as, h1, h2⟩ := top r
    exact ⟨_, h1, by rw [List.length_map, h2]⟩
  · refine hy _ M σ2 H r Q fun M' v H' e r' => q M' v H' e ?_
    have ln : (σ2 ++ z.s).length = (δ3 ++ z.e).length := by
      have := r'.1.ln
      simp only [List.length_append, List.length_singleton] at this ⊢
      omega
    have rr : R K M' (((σ2 ++ z.s) ++ [some (.ref Dl)]) ++ [some v]) H' (((δ3 ++ z.e) ++ [some (.ll acc)]) ++ [some (.ls y)]) := by simpa [RT, List.append_assoc] using r'.1
    obtain ⟨as, h1, h2⟩ := top rr.pop
    obtain ⟨as', b, rfl, h1', h2', w⟩ := rr.adopt (i := (δ3 ++ z.e).length) (a := Dl) get_top (by rw [← ln]; exact get_top)
    refine ⟨as'.map V.ref, h1', by rw [List.length_map, h2'], ?_, r'.2⟩
    have e5 : ((δ3 ++ z.e) ++ [some (T.ll acc)]).set (δ3 ++ z.e).length (some (.ll (acc ++ [y]))) = (δ3 ++ z.e) ++ [some (.ll (acc ++ [y]))] := by
      rw [List.set_append_right _ _ (Nat.le_refl _)]
      simp
    rw [e5] at w
    simpa [List.append_assoc] using w
theorem rt_yes : Rt K tYes δ true δ := fun z M σ H r Q q => q M H (Same.refl M) r
/-- a comprehension that changes nothing: what F says of each item -/
theorem ro_lcF {wi : TI} {g : TG} {vs : List Nat} {items : List TV.D} {srcs : Srcs} (F : TV.D → Option TV.D) (hw : Wk K wi δ items srcs δ1) (hk : okS δ1 srcs) (hn : wipeE δ1 vs = δ1) (hz : items.length ≤ 100000)
    (hs : ∀ (i : Nat) (x : TV.D), items[i]? = some x → ∃ δx, Gd K (others δ1.length vs) g x δ1 δx ∧ wipeE δx vs = δ1 ∧ δx.length = δ1.length ∧ Rt K tt δx (F x).isSome δx ∧ ∀ y, F x = some y → Rd K te δx (.d y) δx) : Ro K (tLc wi g tt te vs) δ (.ls (items.filterMap F)) δ1 := by
  refine ro_lc hw (fun i acc δ => δ = δ1 ∧ acc = (items.take i).filterMap F) ⟨rfl, rfl⟩ hn hz (fun i acc δ p => by rw [p.1]; exact ⟨hk, hn, rfl⟩) (fun i x acc δ hi p => ?_) (fun acc δ p => ?_)
  · obtain ⟨rfl, rfl⟩ := p
    obtain ⟨δx, h1, h2, h3, h4, h5⟩ := hs i x hi
    refine ⟨δx, _, δx, h1, h3, h4, fun hb => ?_, fun hb => ?_⟩
    · obtain ⟨y, hy⟩ := Option.isSome_iff_exists.mp hb
      refine ⟨y, δx, h5 y hy, δ, by rw [h2]; exact Less.refl, rfl, ?_⟩
      rw [List.take_add_one, hi, List.filterMap_append]
      simp [hy]
    · refine ⟨δ, by rw [h2]; exact Less.refl, rfl, ?_⟩
      rw [List.take_add_one, hi, List.filterMap_append]
      have : F x = none := by
        cases e : F x with
        | none => rfl
        | some y => rw [e] at hb; cases hb
      simp [this]
  · obtain ⟨rfl, rfl⟩ := p
    rw [List.take_length]
    exact ⟨rfl, Less.refl⟩
end
end TV

namespace TV
open PySem PySem.Spec PyProof.Rows L2
/-! ### data -/
mutual
def py : D → PyData
  | .non => .none
  | .bl b => .bool b
  | .int i => .int i
  | .str x => .str x
  | .ty _ => .none
  | .tup ds => .tuple (pyL ds)
  | .lst ds => .list (pyL ds)
  | .scr ds => .list (pyL ds)
def pyL : List D → List PyData
  | [] => []
  | d :: ds => py d :: pyL ds
end
theorem pyL_map : ∀ ds : List D, pyL ds = ds.map py
  | [] => rfl
  | d :: ds => by rw [pyL, pyL_map ds]; rfl
mutual
/-- data proper: no type, no script -/
def isDat : D → Bool
  | .ty _ => false
  | .scr _ => false
  | .tup ds => isDats ds
  | .lst ds => isDats ds
  | _ => true
def isDats : List D → Bool
  | [] => true
  | d :: ds => isDat d && isDats ds
end
theorem isDats_all : ∀ ds : List D, isDats ds = ds.all isDat
  | [] => rfl
  | d :: ds => by rw [isDats, isDats_all ds]; rfl
mutual
def noTy : D → Bool
  | .ty _ => false
  | .scr ds => noTys ds
  | .tup ds => noTys ds
  | .lst ds => noTys ds
  | _ => true
def noTys : List D → Bool
  | [] => true
  | d :: ds => noTy d && noTys ds
end
mutual
theorem py_inj : ∀ {d e : D}, isDat d = true → isDat e = true → py d = py e → d = e
  | .non, e, _, h2, h => by cases e <;> first | rfl | (simp [py] at h; done) | (simp [isDat] at h2)
  | .bl b, e, _, h2, h => by cases e <;> first | (simp [py] at h; rw [h]; done) | (simp [py] at h; done) | (simp [isDat] at h2)
  | .int b, e, _, h2, h => by cases e <;> first | (simp [py] at h; rw [h]; done) | (simp [py] at h; done) | (simp [isDat] at h2)
  | .str b, e, _, h2, h => by cases e <;> first | (simp [py] at h; rw [h]; done) | (simp [py] at h; done) | (simp [isDat] at h2)
  | .ty _, _, h1, _, _ => by simp [isDat] at h1
  | .scr _, _, h1, _, _ => by simp [isDat] at h1
  | .tup ds, e, h1, h2, h => by
    cases e with
    | tup es =>
      simp only [py, PyData.tuple.injEq] at h
      rw [pyL_inj h1 h2 h]
    | _ => first | (simp [py] at h; done) | (simp [isDat] at h2)
  | .lst ds, e, h1, h2, h => by
    cases e with
    | lst es =>
      simp only [py, PyData.list.injEq] at h
      rw [pyL_inj h1 h2 h]
    | _ => first | (simp [py] at h; done) | (simp [isDat] at h2)
theorem pyL_inj : ∀ {ds es : List D}, isDats ds = true → isDats es = true → pyL ds = pyL es → ds = es
  | [], [], _, _, _ => rfl
  | [], _ :: _, _, _, h => by simp [pyL] at h
  | _ :: _, [], _, _, h => by simp [pyL] at h
  | d :: ds, e :: es, h1, h2, h => by
    simp only [pyL, List.cons.injEq] at h
    simp only [isDats, Bool.and_eq_true] at h1 h2
    rw [py_inj h1.1 h2.1 h.1, pyL_inj h1.2 h2.2 h.2]
end
mutual
theorem py_plain : ∀ d : D, (py d).plain = true
  | .non => rfl
  | .bl _ => rfl
  | .int _ => rfl
  | .str _ => rfl
  | .ty _ => rfl
  | .tup ds => by simp only [py, PyData.plain]; exact pyL_plain ds
  | .lst ds => by simp only [py, PyData.plain]; exact pyL_plain ds
  | .scr ds => by simp only [py, PyData.plain]; exact pyL_plain ds
theorem pyL_plain : ∀ ds : List D, PyData.plainAll (pyL ds) = true
  | [] => rfl
  | d :: ds => by simp only [pyL, PyData.plainAll, py_plain d, pyL_plain ds, Bool.and_self]
end
section
variable {K : PySem.W.Frag} {M H : Hp}
mutual
theorem Rp.dp (e : Same M H) : ∀ {d : D} {v : V}, noTy d = true → Rp K M d v → Dp K H v (py d)
  | .non, _, _, h => by cases h; exact .non
  | .bl _, _, _, h => by cases h; exact .bl _
  | .int _, _, _, h => by cases h; exact .int _
  | .str _, _, _, h => by cases h; exact .str _
  | .ty _, _, n, _ => by simp [noTy] at n
  | .tup _, _, n, ⟨a, vs, h1, h2, h3⟩ => by subst h1; exact .tup (Same.sqT e h2) (RpL.dp e n h3)
  | .lst _, _, n, ⟨a, vs, h1, h2, h3⟩ => by subst h1; exact .lst (.inl (.inl (e _ _ h2))) (RpL.dp e n h3)
  | .scr _, _, n, ⟨a, vs, h1, h2, h3⟩ => by subst h1; exact .lst (Same.sqL e h2) (RpL.dp e n h3)
theorem RpL.dp (e : Same M H) : ∀ {ds : List D} {vs : List V}, noTys ds = true → RpL K M ds vs → DpAll K H vs (pyL ds)
  | [], _, _, h => by cases h; exact .nil
  | d :: ds, _, n, ⟨v, r, h1, h2, h3⟩ => by
    subst h1
    simp only [noTys, Bool.and_eq_true] at n
    exact .cons (Rp.dp e n.1 h2) (RpL.dp e n.2 h3)
end
end
mutual
theorem isDat_noTy : ∀ {d : D}, isDat d = true → noTy d = true
  | .non, _ => rfl
  | .bl _, _ => rfl
  | .int _, _ => rfl
  | .str _, _ => rfl
  | .ty _, h => by simp [isDat] at h
  | .scr _, h => by simp [isDat] at h
  | .tup _, h => isDats_noTys h
  | .lst _, h => isDats_noTys h
theorem isDats_noTys : ∀ {ds : List D}, isDats ds = true → noTys ds = true
  | [], _ => rfl
  | d :: ds, h => by
    simp only [isDats, Bool.and_eq_true] at h
    simp only [noTys, Bool.and_eq_true]
    exact ⟨isDat_noTy h.1, isDats_noTys h.2⟩
end
/-- data of depth n at most -/
def okD : Nat → D → Bool
  | _, .non => true
  | _, .bl _ => true
  | _, .int _ => true
  | _, .str _ => true
  | _, .ty _ => false
  | _, .scr _ => false
  | 0, .tup _ => false
  | 0, .lst _ => false
  | n + 1, .tup ds => ds.all (okD n)
  | n + 1, .lst ds => ds.all (okD n)
theorem okD_dat : ∀ {n : Nat} {d : D}, okD n d = true → isDat d = true
  | _, .non, _ => rfl
  | _, .bl _, _ => rfl
  | _, .int _, _ => rfl
  | _, .str _, _ => rfl
  | 0, .ty _, h => by simp [okD] at h
  | _ + 1, .ty _, h => by simp [okD] at h
  | 0, .scr _, h => by simp [okD] at h
  | _ + 1, .scr _, h => by simp [okD] at h
  | 0, .tup _, h => by simp [okD] at h
  | 0, .lst _, h => by simp [okD] at h
  | n + 1, .tup ds, h => by
    show isDats ds = true
    rw [isDats_all, List.all_eq_true]
    exact fun x hx => okD_dat (List.all_eq_true.mp h x hx)
  | n + 1, .lst ds, h => by
    show isDats ds = true
    rw [isDats_all, List.all_eq_true]
    exact fun x hx => okD_dat (List.all_eq_true.mp h x hx)
theorem depthAll_le : ∀ {ds : List D} {n : Nat}, (∀ d, d ∈ ds → (py d).depth ≤ n) → PyData.depthAll (pyL ds) ≤ n
  | [], _, _ => Nat.zero_le _
  | d :: ds, n, h => by
    simp only [pyL, PyData.depthAll]
    exact Nat.max_le.mpr ⟨h d (by simp), depthAll_le fun e he => h e (by simp [he])⟩
theorem okD_depth : ∀ {n : Nat} {d : D}, okD n d = true → (py d).depth ≤ n
  | _, .non, _ => Nat.zero_le _
  | _, .bl _, _ => Nat.zero_le _
  | _, .int _, _ => Nat.zero_le _
  | _, .str _, _ => Nat.zero_le _
  | 0, .ty _, h => by simp [okD] at h
  | _ + 1, .ty _, h => by simp [okD] at h
  | 0, .scr _, h => by simp [okD] at h
  | _ + 1, .scr _, h => by simp [okD] at h
  | 0, .tup _, h => by simp [okD] at h
  | 0, .lst _, h => by simp [okD] at h
  | n + 1, .tup ds, h => by
    simp only [py, PyData.depth]
    exact Nat.succ_le_succ (depthAll_le fun x hx => okD_depth (List.all_eq_true.mp h x hx))
  | n + 1, .lst ds, h => by
    simp only [py, PyData.depth]
    exact Nat.succ_le_succ (depthAll_le fun x hx => okD_depth (List.all_eq_true.mp h x hx))
theorem okD_py : ∀ {n : Nat} {d : D}, okD n d = true → noTy d = true := fun h => isDat_noTy (okD_dat h)
/-! rules of the hand layer over data -/
def rEqP (K : PySem.W.Frag) (u : Nat) : R2 := fun x y H Q => ∃ d e, Dp K H x d ∧ Dp K H y e ∧ d.plain = true ∧ e.plain = true ∧ d.depth ≤ 16 ∧ Q (.bl (PyData.eqv d e)) H
def rNeP (K : PySem.W.Frag) (u : Nat) : R2 := fun x y H Q => ∃ d e, Dp K H x d ∧ Dp K H y e ∧ d.plain = true ∧ e.plain = true ∧ d.depth ≤ 16 ∧ Q (.bl (!PyData.eqv d e)) H
def rInP (K : PySem.W.Frag) (neg : Bool) : R2 := fun x y H Q => ∃ d es, Dp K H x d ∧ (Dp K H y (.list es) ∨ Dp K H y (.tuple es)) ∧ d.plain = true ∧ PyData.plainAll es = true ∧ d.depth ≤ 16 ∧ Q (.bl (if neg then !es.any (fun y => PyData.eqv y d) else es.any fun y => PyData.eqv y d)) H
def rMinP (K : PySem.W.Frag) : List V → Hp → VK → Prop := fun vs H Q => ∃ a xs d ds, vs = [.ref a] ∧ SqL K H a xs ∧ DpAll K H xs (d :: ds) ∧ PySem.W.AlikeAll (d :: ds) ∧ PyData.plainAll (d :: ds) = true ∧ PyData.depthAll (d :: ds) ≤ 16 ∧ ∀ (i : Nat) v e, xs[i]? = some v → (d :: ds)[i]? = some e → e = PySem.W.minD d ds → Q v H
def rMaxP (K : PySem.W.Frag) : List V → Hp → VK → Prop := fun vs H Q => ∃ a xs d ds, vs = [.ref a] ∧ SqL K H a xs ∧ DpAll K H xs (d :: ds) ∧ PySem.W.AlikeAll (d :: ds) ∧ PyData.plainAll (d :: ds) = true ∧ PyData.depthAll (d :: ds) ≤ 16 ∧ ∀ (i : Nat) v e, xs[i]? = some v → (d :: ds)[i]? = some e → e = PySem.W.maxD d ds → Q v H
theorem dpAll_get {K : PySem.W.Frag} {H : Hp} : ∀ {xs : List V} {ds : List PyData} {i : Nat} {v : V}, DpAll K H xs ds → xs[i]? = some v → ∃ d, ds[i]? = some d ∧ Dp K H v d
  | _, _, i, _, .nil, h => by simp at h
  | _, _, 0, _, .cons a b, h => by simp at h; subst h; exact ⟨_, rfl, a⟩
  | _, _, i + 1, _, .cons a b, h => by simpa using dpAll_get b (by simpa using h)
theorem Vals.get2 : ∀ {xs : List V} {us : List Value} {i : Nat} {u : Value}, Vals xs us → us[i]? = some u → ∃ x, xs[i]? = some x ∧ RelV x u
  | _, _, _, _, .nil, e => by simp at e
  | _, _, 0, _, .cons r _, e => by simp at e; subst e; exact ⟨_, rfl, r⟩
  | _, _, i + 1, x, .cons _ t, e => by simpa using Vals.get2 t (by simpa using e)
theorem plainAll_get : ∀ {ds : List PyData} {i : Nat} {d : PyData}, PyData.plainAll ds = true → ds[i]? = some d → d.plain = true
  | [], i, _, _, h => by simp at h
  | x :: xs, 0, d, p, h => by simp [PyData.plainAll] at p; simp at h; subst h; exact p.1
  | x :: xs, i + 1, d, p, h => by simp [PyData.plainAll] at p; exact plainAll_get p.2 (by simpa using h)
section
variable {X : Cx}
theorem op_eqP (hu : X.A.units + 64 < cLine) : OpR X (compareOp .Eq) (rEqP X.K X.A.units) := by
  intro pins s σ H x y v u Q I rx ry h
  obtain ⟨d, e, hd, he, sd, se, hu, q⟩ := h
  obtain ⟨as, r1⟩ := Dp.reads I d x v hd rx
  obtain ⟨bs, r2⟩ := Dp.reads I e y u he ry
  exact SeqAt.eq_plain r1 r2 sd se (by have := Nat.min_le_left d.depth e.depth; omega) ⟨.bl _, H, I, rfl, q⟩
theorem op_neP (hu : X.A.units + 64 < cLine) : OpR X (compareOp .NotEq) (rNeP X.K X.A.units) := by
  intro pins s σ H x y v u Q I rx ry h
  obtain ⟨d, e, hd, he, sd, se, hu, q⟩ := h
  obtain ⟨as, r1⟩ := Dp.reads I d x v hd rx
  obtain ⟨bs, r2⟩ := Dp.reads I e y u he ry
  exact SeqAt.ne_plain r1 r2 sd se (by have := Nat.min_le_left d.depth e.depth; omega) ⟨.bl _, H, I, rfl, q⟩
theorem op_inP (hu : X.A.units + 64 < cLine) : OpR X (compareOp .In) (rInP X.K false) := by
  intro pins s σ H x y v u Q I rx ry h
  obtain ⟨d, es, hd, he, sd, se, hu, q⟩ := h
  obtain ⟨as, r1⟩ := Dp.reads I d x v hd rx
  rcases he with he | he
  · obtain ⟨bs, r2⟩ := Dp.reads I _ y u he ry
    exact SeqAt.in_list_data r2 r1 se sd (by have := Nat.min_le_right (PyData.depthAll es) d.depth; omega) ⟨.bl _, H, I, rfl, q⟩
  · obtain ⟨bs, r2⟩ := Dp.reads I _ y u he ry
    exact SeqAt.in_tuple_data r2 r1 se sd (by have := Nat.min_le_right (PyData.depthAll es) d.depth; omega) ⟨.bl _, H, I, rfl, q⟩
theorem op_notInP (hu : X.A.units + 64 < cLine) : OpR X (compareOp .NotIn) (rInP X.K true) := by
  intro pins s σ H x y v u Q I rx ry h
  obtain ⟨d, es, hd, he, sd, se, hu, q⟩ := h
  obtain ⟨as, r1⟩ := Dp.reads I d x v hd rx
  rcases he with he | he
  · obtain ⟨bs, r2⟩ := Dp.reads I _ y u he ry
    exact SeqAt.notIn_list_data r2 r1 se sd (by have := Nat.min_le_right (PyData.depthAll es) d.depth; omega) ⟨.bl _, H, I, rfl, q⟩
  · obtain ⟨bs, r2⟩ := Dp.reads I _ y u he ry
    exact SeqAt.notIn_tuple_data r2 r1 se sd (by have := Nat.min_le_right (PyData.depthAll es) d.depth; omega) ⟨.bl _, H, I, rfl, q⟩
theorem cr_minP (hc : X.calm = true) (hu : X.A.units + 64 < cLine) : CallR X (.builtin "min") (rMinP X.K) := by
  intro pins s σ H xs us Q I r h
  obtain ⟨a, ys, d, ds, rfl, hS, hd, al, pl, dp, q⟩ := h
  obtain ⟨u1, rfl, rx⟩ := vals1 r
  cases rx
  obtain ⟨its, rv, hl, _⟩ := I.list hS
  obtain ⟨as, rs⟩ := Dp.readsAll I _ _ _ hd rv
  refine PySem.W.min_list_data (I.ok.hd hc) hl.isList (by simpa using rs) al (by omega) fun i v h' tk bs hv hr hk => ?_
  obtain ⟨x, hx, rxv⟩ := Vals.get2 rv (by simpa using hv)
  obtain ⟨e, he, hde⟩ := dpAll_get hd hx
  have I' : Inv X pins σ H { s with heap := h', toks := tk } := I.kept hk
  obtain ⟨cs, r2⟩ := Dp.reads I' e x v hde rxv
  exact ⟨x, H, I', rxv, q i x e hx he (SeqAt.plain_unique e _ v _ _ (plainAll_get pl he) r2 hr)⟩
theorem cr_maxP (hc : X.calm = true) (hu : X.A.units + 64 < cLine) : CallR X (.builtin "max") (rMaxP X.K) := by
  intro pins s σ H xs us Q I r h
  obtain ⟨a, ys, d, ds, rfl, hS, hd, al, pl, dp, q⟩ := h
  obtain ⟨u1, rfl, rx⟩ := vals1 r
  cases rx
  obtain ⟨its, rv, hl, _⟩ := I.list hS
  obtain ⟨as, rs⟩ := Dp.readsAll I _ _ _ hd rv
  refine PySem.W.max_list_data (I.ok.hd hc) hl.isList (by simpa using rs) al (by omega) fun i v h' tk bs hv hr hk => ?_
  obtain ⟨x, hx, rxv⟩ := Vals.get2 rv (by simpa using hv)
  obtain ⟨e, he, hde⟩ := dpAll_get hd hx
  have I' : Inv X pins σ H { s with heap := h', toks := tk } := I.kept hk
  obtain ⟨cs, r2⟩ := Dp.reads I' e x v hde rxv
  exact ⟨x, H, I', rxv, q i x e hx he (SeqAt.plain_unique e _ v _ _ (plainAll_get pl he) r2 hr)⟩
end
/-! over trees -/
section
variable {K : PySem.W.Frag} {ps : List Nat} {δ δ1 δ2 δ3 : Env} {ta tb te : TE} {tt tu : TT} {t u : TS} {D : EndT}
/-- what an argument is, as data -/
def datA (δ : Env) : Arg → Option TV.D
  | .d x => some x
  | .sl i => match δ[i]? with
    | some (some t) => fz t
    | _ => none
theorem RR.datA {z : Z} {M H : Hp} {σ : L2.St} (r : RR K z M σ H δ) {x : Arg} {d : TV.D} {v : V} (h : TV.datA δ x = some d) (ok : ArgOk K M σ x v) : ∃ M', Same M M' ∧ Same M' H ∧ Rp K M' d v := by
  cases x with
  | d y => cases h; exact ⟨M, Same.refl M, r.ex, ok⟩
  | sl i =>
    simp only [TV.datA] at h
    split at h
    · rename_i t e
      obtain ⟨v', hv, P, ow, _⟩ := r.at e
      have ok : σ[i]? = some (some v) := ok
      rw [ok] at hv
      cases hv
      exact ⟨H, r.ex, Same.refl H, ow.freeze r.ex (fun _ _ _ q => q) (fun _ _ q => q) h⟩
    · cases h
theorem rd_eqP {u : Nat} {r s : Arg} {x y : TV.D} (ha : Rd K ta δ r δ1) (hb : Rd K tb δ1 s δ2) (hx : TV.datA δ2 r = some x) (hy : TV.datA δ2 s = some y) (ox : okD 16 x = true) (oy : noTy y = true) : Rd K (tOp (rEqP K u) ta tb) δ (.d (.bl (PyData.eqv (py x) (py y)))) δ2 := fun z M σ H r0 Q q =>
  ha z M σ H r0 _ fun M1 v H1 e1 r1 p1 => hb z M1 σ H1 r1 _ fun M2 w H2 e2 r2 p2 => by
    obtain ⟨Ma, ea, sa, pa⟩ := r2.datA hx (p1.mono e2)
    obtain ⟨Mb, eb, sb, pb⟩ := r2.datA hy p2
    exact ⟨py x, py y, pa.dp sa (okD_py ox), pb.dp sb oy, py_plain x, py_plain y, okD_depth ox, q M2 _ H2 (e1.trans e2) r2 rfl⟩
theorem rd_neP {u : Nat} {r s : Arg} {x y : TV.D} (ha : Rd K ta δ r δ1) (hb : Rd K tb δ1 s δ2) (hx : TV.datA δ2 r = some x) (hy : TV.datA δ2 s = some y) (ox : okD 16 x = true) (oy : noTy y = true) : Rd K (tOp (rNeP K u) ta tb) δ (.d (.bl (!PyData.eqv (py x) (py y)))) δ2 := fun z M σ H r0 Q q =>
  ha z M σ H r0 _ fun M1 v H1 e1 r1 p1 => hb z M1 σ H1 r1 _ fun M2 w H2 e2 r2 p2 => by
    obtain ⟨Ma, ea, sa, pa⟩ := r2.datA hx (p1.mono e2)
    obtain ⟨Mb, eb, sb, pb⟩ := r2.datA hy p2
    exact ⟨py x, py y, pa.dp sa (okD_py ox), pb.dp sb oy, py_plain x, py_plain y, okD_depth ox, q M2 _ H2 (e1.trans e2) r2 rfl⟩
/-- the first least of the items, by the order of data -/
def minDD (d : TV.D) (ds : List TV.D) : TV.D := ds.foldl (fun a y => if PySem.W.dataLt (py y) (py a) then y else a) d
theorem py_minDD : ∀ (ds : List TV.D) (d : TV.D), py (minDD d ds) = PySem.W.minD (py d) (pyL ds)
  | [], _ => rfl
  | e :: ds, d => by
    have := py_minDD ds (if PySem.W.dataLt (py e) (py d) then e else d)
    unfold minDD PySem.W.minD at this ⊢
    rw [List.foldl_cons, this, pyL, List.foldl_cons]
    split <;> rfl
theorem minDD_mem : ∀ (ds : List TV.D) (d : TV.D), minDD d ds ∈ d :: ds
  | [], d => by simp [minDD]
  | e :: ds, d => by
    have h := minDD_mem ds (if PySem.W.dataLt (py e) (py d) then e else d)
    have e1 : minDD d (e :: ds) = minDD (if PySem.W.dataLt (py e) (py d) then e else d) ds := rfl
    rw [e1]
    rcases List.mem_cons.mp h with h | h
    · rw [h]
      split <;> simp
    · simp [h]
def alikeB (ds : List TV.D) : Bool := ds.all fun x => ds.all fun y => PySem.W.alike (py x) (py y)
theorem alike_none {ds : List TV.D} (h : ds.all (fun x => match x with | .non => false | .ty _ => false | _ => true) = true) : ∀ x ∈ pyL ds, x ≠ .none := fun x hx => by
  rw [pyL_map] at hx
  obtain ⟨d, hd, rfl⟩ := List.mem_map.mp hx
  have := List.all_eq_true.mp h d hd
  cases d <;> simp [py] at this ⊢
theorem rd_minP {r : Arg} {d : TV.D} {ds : List TV.D} (ha : Rd K ta δ r δ1) (hv : viewL δ1 r = some (d :: ds)) (ok : (d :: ds).all (okD 15) = true) (al : ∀ x ∈ d :: ds, ∀ y ∈ d :: ds, PySem.W.alike (py x) (py y) = true) (nn : ∀ x ∈ d :: ds, py x ≠ .none) :
    Rd K (tCB (rMinP K) (tCons ta tNil)) δ (.d (minDD d ds)) δ1 := fun z M σ H r0 Q q =>
  ha z M σ H r0 _ fun M1 v H1 e1 r1 p1 => by
    obtain ⟨a, vs, rfl, h1, h2⟩ := r1.view hv p1
    have okm : ∀ x ∈ d :: ds, okD 15 x = true := fun x hx => List.all_eq_true.mp ok x hx
    have nt : noTys (d :: ds) = true := isDats_noTys (by rw [isDats_all, List.all_eq_true]; exact fun x hx => okD_dat (okm x hx))
    refine ⟨a, vs, py d, pyL ds, rfl, h1, h2.dp r1.ex nt, ⟨fun x hx y hy => ?_, fun x hx => ?_⟩, pyL_plain (d :: ds), Nat.le_trans (depthAll_le (ds := d :: ds) fun x hx => okD_depth (okm x hx)) (by decide), fun i v e hx he em => ?_⟩
    · have e0 : py d :: pyL ds = (d :: ds).map py := by rw [pyL_map]; rfl
      rw [e0] at hx hy
      obtain ⟨x', hx', rfl⟩ := List.mem_map.mp hx
      obtain ⟨y', hy', rfl⟩ := List.mem_map.mp hy
      exact al x' hx' y' hy'
    · have e0 : py d :: pyL ds = (d :: ds).map py := by rw [pyL_map]; rfl
      rw [e0] at hx
      obtain ⟨x', hx', rfl⟩ := List.mem_map.mp hx
      exact nn x' hx'
    · obtain ⟨x, hxx, rx⟩ := h2.get' hx
      have e0 : py d :: pyL ds = (d :: ds).map py := by rw [pyL_map]; rfl
      rw [e0, List.getElem?_map, hxx] at he
      cases he
      rw [← py_minDD] at em
      have hm : x ∈ d :: ds := List.mem_of_getElem? hxx
      have := py_inj (okD_dat (okm x hm)) (okD_dat (okm _ (minDD_mem ds d))) em
      subst this
      exact q M1 v H1 e1 r1 rx
end
end TV

namespace TV
open PySem PySem.Spec PyProof.Rows L2
section
variable {K : PySem.W.Frag} {ps : List Nat} {δ δ1 δ2 δ3 : Env} {ta tb te : TE} {tt tu : TT} {t u : TS} {D : EndT}
/-- a built-in's call that gives data -/
theorem rd_cb {r : List V → Hp → VK → Prop} {t : TA} {rs : List Arg} {x : TV.D} (ha : Ra K t δ rs δ1) (hr : ∀ (z : Z) M σ vs H, RR K z M σ H δ1 → ArgsOk K M σ rs vs → ∀ Q : VK, (∀ v, Rp K M x v → Q v H) → r vs H Q) : Rd K (tCB r t) δ (.d x) δ1 := fun z M σ H r0 Q q =>
  ha z M σ H r0 _ fun M1 vs H1 e1 r1 p1 => hr z M1 σ vs H1 r1 p1 Q fun v rv => q M1 v H1 e1 r1 rv
/-- .. that gives a new list -/
theorem ro_cb {r : List V → Hp → VK → Prop} {t : TA} {rs : List Arg} {ds : List TV.D} (ha : Ra K t δ rs δ1) (hr : ∀ (z : Z) M σ vs H, RR K z M σ H δ1 → ArgsOk K M σ rs vs → ∀ Q : VK, (∀ p us, H p = none → RpL K M ds us → Q (.ref p) (upd H p (.lst us))) → r vs H Q) : Ro K (tCB r t) δ (.ls ds) δ1 := fun z M σ H r0 Q q =>
  ha z M σ H r0 _ fun M1 vs H1 e1 r1 p1 => hr z M1 σ vs H1 r1 p1 Q fun p us np ru => q M1 _ _ e1 (r1.pushNew np trivial fun P hp => ⟨p, us, rfl, hp, upd_same, ru⟩)
theorem args1 {M : Hp} {σ : L2.St} {r : Arg} {vs : List V} (h : ArgsOk K M σ [r] vs) : ∃ v, vs = [v] ∧ ArgOk K M σ r v := by
  obtain ⟨v, q, rfl, h1, rfl⟩ := h
  exact ⟨v, rfl, h1⟩
theorem args2 {M : Hp} {σ : L2.St} {r s : Arg} {vs : List V} (h : ArgsOk K M σ [r, s] vs) : ∃ v w, vs = [v, w] ∧ ArgOk K M σ r v ∧ ArgOk K M σ s w := by
  obtain ⟨v, q, rfl, h1, w, q', rfl, h2, rfl⟩ := h
  exact ⟨v, w, rfl, h1, h2⟩
theorem rd_min2 {i j : Int} (ha : Rd K ta δ (.d (.int i)) δ1) (hb : Rd K tb δ1 (.d (.int j)) δ2) : Rd K (tCB (fun xs H Q => ∃ i j, xs = [V.int i, V.int j] ∧ Q (.int (if j < i then j else i)) H) (tCons ta (tCons tb tNil))) δ (.d (.int (min i j))) δ2 :=
  rd_cb (ra_cons ha (ra_cons hb ra_nil)) fun z M σ vs H r p Q q => by
    obtain ⟨v, w, rfl, h1, h2⟩ := args2 p
    cases (show v = .int i from h1)
    cases (show w = .int j from h2)
    exact ⟨i, j, rfl, q _ (by show _ = _; congr 1; split <;> omega)⟩
theorem rd_max2 {i j : Int} (ha : Rd K ta δ (.d (.int i)) δ1) (hb : Rd K tb δ1 (.d (.int j)) δ2) : Rd K (tCB (fun xs H Q => ∃ i j, xs = [V.int i, V.int j] ∧ Q (.int (if j > i then j else i)) H) (tCons ta (tCons tb tNil))) δ (.d (.int (max i j))) δ2 :=
  rd_cb (ra_cons ha (ra_cons hb ra_nil)) fun z M σ vs H r p Q q => by
    obtain ⟨v, w, rfl, h1, h2⟩ := args2 p
    cases (show v = .int i from h1)
    cases (show w = .int j from h2)
    exact ⟨i, j, rfl, q _ (by show _ = _; congr 1; split <;> omega)⟩
theorem rd_abs {i : Int} (ha : Rd K ta δ (.d (.int i)) δ1) : Rd K (tCB (fun xs H Q => ∃ i, xs = [V.int i] ∧ Q (.int (if i < 0 then -i else i)) H) (tCons ta tNil)) δ (.d (.int i.natAbs)) δ1 :=
  rd_cb (ra_cons ha ra_nil) fun z M σ vs H r p Q q => by
    obtain ⟨v, rfl, h1⟩ := args1 p
    cases (show v = .int i from h1)
    exact ⟨i, rfl, q _ (by show _ = _; congr 1; split <;> omega)⟩
/-- int(n), int(b) -/
theorem rd_intI {i : Int} (ha : Rd K ta δ (.d (.int i)) δ1) : Rd K (tCB (fun xs H Q => (∃ i, xs = [V.int i] ∧ Q (.int i) H) ∨ ∃ k, xs = [V.bl k] ∧ Q (.int (if k then 1 else 0)) H) (tCons ta tNil)) δ (.d (.int i)) δ1 :=
  rd_cb (ra_cons ha ra_nil) fun z M σ vs H r p Q q => by
    obtain ⟨v, rfl, h1⟩ := args1 p
    cases (show v = .int i from h1)
    exact .inl ⟨i, rfl, q _ rfl⟩
theorem rd_intB {b : Bool} (ha : Rd K ta δ (.d (.bl b)) δ1) : Rd K (tCB (fun xs H Q => (∃ i, xs = [V.int i] ∧ Q (.int i) H) ∨ ∃ k, xs = [V.bl k] ∧ Q (.int (if k then 1 else 0)) H) (tCons ta tNil)) δ (.d (.int (if b then 1 else 0))) δ1 :=
  rd_cb (ra_cons ha ra_nil) fun z M σ vs H r p Q q => by
    obtain ⟨v, rfl, h1⟩ := args1 p
    cases (show v = .bl b from h1)
    exact .inr ⟨b, rfl, q _ rfl⟩
/-- list(xs) -/
theorem ro_list {r : Arg} {ds : List TV.D} (ha : Rd K ta δ r δ1) (hv : viewL δ1 r = some ds) : Ro K (tCB (fun xs H Q => ∃ p ys, xs = [V.ref p] ∧ (SqL K H p ys ∨ SqT K H p ys) ∧ ∀ l, H l = none → Q (.ref l) (upd H l (.lst ys))) (tCons ta tNil)) δ (.ls ds) δ1 :=
  ro_cb (ra_cons ha ra_nil) fun z M σ vs H r p Q q => by
    obtain ⟨v, rfl, h1⟩ := args1 p
    obtain ⟨a, us, rfl, h2, h3⟩ := r.view hv h1
    exact ⟨a, us, rfl, .inl h2, fun l hl => q l us hl h3⟩
theorem ro_listT {ds : List TV.D} (ha : Rd K ta δ (.d (.tup ds)) δ1) : Ro K (tCB (fun xs H Q => ∃ p ys, xs = [V.ref p] ∧ (SqL K H p ys ∨ SqT K H p ys) ∧ ∀ l, H l = none → Q (.ref l) (upd H l (.lst ys))) (tCons ta tNil)) δ (.ls ds) δ1 :=
  ro_cb (ra_cons ha ra_nil) fun z M σ vs H r p Q q => by
    obtain ⟨v, rfl, h1⟩ := args1 p
    obtain ⟨a, us, rfl, h2, h3⟩ := h1
    exact ⟨a, us, rfl, .inr (Same.sqT r.ex h2), fun l hl => q l us hl h3⟩
theorem rgV_rp {M : Hp} (lo hi : Int) : RpL K M (rngD lo (hi - lo).toNat) (rgV lo hi) := by
  have e1 : rngD lo (hi - lo).toNat = ((List.range (hi - lo).toNat).map fun (i : Nat) => lo + (i : Int)).map TV.D.int := by simp [rngD]
  have e2 : rgV lo hi = ((List.range (hi - lo).toNat).map fun (i : Nat) => lo + (i : Int)).map V.int := by simp [rgV]
  rw [e1, e2]
  exact RpL.ints _
/-- list(range(n)), list(range(m, n)) -/
theorem ro_listRg1 {n : Int} (ha : Rd K ta δ (.d (.int n)) δ1) (h1 : -16777216 ≤ n) (h2 : n ≤ 16777216) : Ro K (tLstRg (tRg1 ta)) δ (.ls (rngD 0 n.toNat)) δ1 := fun z M σ H r Q q =>
  ha z M σ H r _ fun M1 v H1 e1 r1 p1 => by
    have e : (n - 0).toNat = n.toNat := by rw [Int.sub_zero]
    refine ⟨n, p1, ⟨by omega, by omega, by omega, by omega, by omega⟩, fun l hl => q M1 _ _ e1 (r1.pushNew hl trivial fun P hp => ⟨l, _, rfl, hp, upd_same, ?_⟩)⟩
    have := rgV_rp (K := K) (M := M1) 0 n
    rwa [e] at this
theorem ro_listRg2 {m n : Int} (ha : Rd K ta δ (.d (.int m)) δ1) (hb : Rd K tb δ1 (.d (.int n)) δ2) (h : -16777216 ≤ m ∧ m ≤ 16777216 ∧ -16777216 ≤ n ∧ n ≤ 16777216 ∧ n - m ≤ 16777216) : Ro K (tLstRg (tRg2 ta tb)) δ (.ls (rngD m (n - m).toNat)) δ2 := fun z M σ H r Q q =>
  ha z M σ H r _ fun M1 v H1 e1 r1 p1 => hb z M1 σ H1 r1 _ fun M2 w H2 e2 r2 p2 => ⟨m, n, p1, p2, ⟨by omega, by omega, by omega, by omega, by omega⟩, fun l hl =>
    q M2 _ _ (e1.trans e2) (r2.pushNew hl trivial fun P hp => ⟨l, _, rfl, hp, upd_same, rgV_rp m n⟩)⟩
/-- xs[a:b] -/
def cutL {α : Type} (xs : List α) (lo hi : Option Int) : List α := (xs.drop (HT.sIx xs.length 0 lo)).take (HT.sIx xs.length xs.length hi - HT.sIx xs.length 0 lo)
theorem rn_none : Rn K tNoPart δ none δ := fun z M σ H r Q q => q M H (Same.refl M) r
theorem rn_some {i : Int} (h : Rd K te δ (.d (.int i)) δ1) : Rn K (tPart te) δ (some i) δ1 := fun z M σ H r Q q => h z M σ H r _ fun M' v H' e r' p => ⟨i, p, q M' H' e r'⟩
theorem ro_slice {r : Arg} {ds : List TV.D} {lo hi : Option Int} {tl th : TO} (ha : Rd K te δ r δ1) (hl : Rn K tl δ1 lo δ2) (hh : Rn K th δ2 hi δ3) (hv : viewL δ3 r = some ds) : Ro K (tSl (rSlL K) te tl th) δ (.ls (cutL ds lo hi)) δ3 := fun z M σ H r0 Q q =>
  ha z M σ H r0 _ fun M1 v H1 e1 r1 p1 => hl z M1 σ H1 r1 _ fun M2 H2 e2 r2 => hh z M2 σ H2 r2 _ fun M3 H3 e3 r3 => by
    obtain ⟨a, vs, rfl, h1, h2⟩ := r3.view hv (p1.mono (e2.trans e3))
    refine ⟨a, vs, rfl, h1, fun p hp => q M3 _ _ (e1.trans (e2.trans e3)) (r3.pushNew hp trivial fun P pp => ⟨p, _, rfl, pp, upd_same, ?_⟩)⟩
    unfold cutL cutV
    rw [← h2.length]
    exact (h2.drop _).take _
/-- xs + ys -/
def dirL (δ : Env) : Arg → Option (List TV.D)
  | .d (.lst ds) => some ds
  | .sl i => match δ[i]? with
    | some (some (.ls ds)) => some ds
    | _ => none
  | _ => none
theorem RR.dir {z : Z} {M H : Hp} {σ : L2.St} (r : RR K z M σ H δ) {x : Arg} {ds : List TV.D} {v : V} (h : dirL δ x = some ds) (ok : ArgOk K M σ x v) : ∃ a vs, v = .ref a ∧ H a = some (.lst vs) ∧ RpL K M ds vs := by
  unfold dirL at h
  split at h
  · cases h
    obtain ⟨a, vs, h1, h2, h3⟩ := ok
    exact ⟨a, vs, h1, r.ex _ _ h2, h3⟩
  · split at h
    · rename_i i _ ds' e
      cases h
      obtain ⟨u, hu, P, ow, _⟩ := r.at e
      obtain ⟨a, vs, h1, h2, h3, h4⟩ := ow
      have ok : σ[i]? = some (some v) := ok
      rw [ok] at hu
      cases hu
      exact ⟨a, vs, h1, h3, h4⟩
    · cases h
  · cases h
theorem ro_cat {r s : Arg} {ds es : List TV.D} (ha : Rd K ta δ r δ1) (hb : Rd K tb δ1 s δ2) (hv : dirL δ2 r = some ds) (hw : dirL δ2 s = some es) (hl : ds.length + es.length ≤ 100000) : Ro K (tOp rCat ta tb) δ (.ls (ds ++ es)) δ2 := fun z M σ H r0 Q q =>
  ha z M σ H r0 _ fun M1 v H1 e1 r1 p1 => hb z M1 σ H1 r1 _ fun M2 w H2 e2 r2 p2 => by
    obtain ⟨a, vs, rfl, h1, h2⟩ := r2.dir hv (p1.mono e2)
    obtain ⟨b, ws, rfl, h3, h4⟩ := r2.dir hw p2
    exact ⟨a, b, vs, ws, rfl, rfl, h1, h3, by rw [← h2.length, ← h4.length]; exact Nat.le_trans hl (by decide), fun p hp => q M2 _ _ (e1.trans e2) (r2.pushNew hp trivial fun P pp => ⟨p, _, rfl, pp, upd_same, h2.append h4⟩)⟩
/-- sum(xs) of whole numbers -/
theorem rd_sum {r : Arg} {ns : List Int} (ha : Rd K ta δ r δ1) (hv : viewL δ1 r = some (ns.map TV.D.int)) : Rd K (tCB (rSum K) (tCons ta tNil)) δ (.d (.int ns.sum)) δ1 :=
  rd_cb (ra_cons ha ra_nil) fun z M σ vs H r p Q q => by
    obtain ⟨v, rfl, h1⟩ := args1 p
    obtain ⟨a, us, rfl, h2, h3⟩ := r.view hv h1
    rw [h3.ints_of] at h2
    exact ⟨a, ns, rfl, h2, q _ rfl⟩
theorem rd_all {r : Arg} {bs : List Bool} (ha : Rd K ta δ r δ1) (hv : viewL δ1 r = some (bs.map TV.D.bl)) : Rd K (tCB (rAll K) (tCons ta tNil)) δ (.d (.bl (bs.all id))) δ1 :=
  rd_cb (ra_cons ha ra_nil) fun z M σ vs H r p Q q => by
    obtain ⟨v, rfl, h1⟩ := args1 p
    obtain ⟨a, us, rfl, h2, h3⟩ := r.view hv h1
    rw [h3.bls_of] at h2
    exact ⟨a, bs, rfl, h2, q _ rfl⟩
theorem rd_any {r : Arg} {bs : List Bool} (ha : Rd K ta δ r δ1) (hv : viewL δ1 r = some (bs.map TV.D.bl)) : Rd K (tCB (rAny K) (tCons ta tNil)) δ (.d (.bl (bs.any id))) δ1 :=
  rd_cb (ra_cons ha ra_nil) fun z M σ vs H r p Q q => by
    obtain ⟨v, rfl, h1⟩ := args1 p
    obtain ⟨a, us, rfl, h2, h3⟩ := r.view hv h1
    rw [h3.bls_of] at h2
    exact ⟨a, bs, rfl, h2, q _ rfl⟩
/-- truth -/
def truA (δ : Env) : Arg → Option Bool
  | .d .non => some false
  | .d (.bl b) => some b
  | .d (.int i) => some (i != 0)
  | .d (.lst ds) => some (!ds.isEmpty)
  | .d (.scr ds) => some (!ds.isEmpty)
  | .d (.tup ds) => some (!ds.isEmpty)
  | .sl i => match δ[i]? with
    | some (some (.ls ds)) => some (!ds.isEmpty)
    | some (some (.ll ds)) => some (!ds.isEmpty)
    | _ => none
  | _ => none
theorem isEmpty_len {α β : Type} {xs : List α} {ys : List β} (h : xs.length = ys.length) : (!xs.isEmpty) = !ys.isEmpty := by
  cases xs <;> cases ys <;> first | rfl | cases h
theorem RR.tru {z : Z} {M H : Hp} {σ : L2.St} (r : RR K z M σ H δ) {x : Arg} {b : Bool} {v : V} (h : truA δ x = some b) (ok : ArgOk K M σ x v) : TruV K v H b := by
  unfold truA at h
  split at h
  · cases h; cases (show v = .non from ok); rfl
  · cases h; cases (show v = .bl _ from ok); rfl
  · cases h; cases (show v = .int _ from ok); rfl
  · cases h
    obtain ⟨a, vs, rfl, h2, h3⟩ := ok
    exact .inl ⟨vs, .inl (.inl (r.ex _ _ h2)), isEmpty_len h3.length⟩
  · cases h
    obtain ⟨a, vs, rfl, h2, h3⟩ := ok
    exact .inl ⟨vs, Same.sqL r.ex h2, isEmpty_len h3.length⟩
  · cases h
    obtain ⟨a, vs, rfl, h2, h3⟩ := ok
    exact .inr (.inl ⟨vs, Same.sqT r.ex h2, isEmpty_len h3.length⟩)
  · split at h
    · rename_i i _ ds e
      cases h
      obtain ⟨u, hu, P, ow, _⟩ := r.at e
      obtain ⟨a, vs, rfl, h2, h3, h4⟩ := ow
      have ok : σ[i]? = some (some v) := ok
      rw [ok] at hu
      cases hu
      exact .inl ⟨vs, .inl (.inl h3), isEmpty_len h4.length⟩
    · rename_i i _ ds e
      cases h
      obtain ⟨u, hu, P, ow, _⟩ := r.at e
      obtain ⟨a, as, rfl, h2, h3, h4, h5, h6⟩ := ow
      have ok : σ[i]? = some (some v) := ok
      rw [ok] at hu
      cases hu
      exact .inl ⟨_, .inl (.inl h5), isEmpty_len (by rw [h6.length, List.length_map])⟩
    · cases h
  · cases h
theorem rt_tru {r : Arg} {b : Bool} (ha : Rd K ta δ r δ1) (h : truA δ1 r = some b) : Rt K (fun σ H Q => ta σ H fun x H' => ∃ k, TruV K x H' k ∧ Q k H') δ b δ1 := fun z M σ H r0 Q q =>
  ha z M σ H r0 _ fun M1 v H1 e1 r1 p1 => ⟨b, r1.tru h p1, q M1 H1 e1 r1⟩
/-- is None -/
def isNonA : Arg → Bool
  | .d .non => true
  | _ => false
theorem nonA {M H : Hp} {σ : L2.St} {z : Z} (r : RR K z M σ H δ) {x : Arg} {v : V} (hx : ∀ i, x = .sl i → ∃ t, δ[i]? = some (some t) ∧ ∀ d, t ≠ .d d) (ok : ArgOk K M σ x v) : decide (v = .non) = isNonA x := by
  cases x with
  | d y =>
    cases y with
    | non => cases (show v = .non from ok); rfl
    | bl b => cases (show v = .bl b from ok); rfl
    | int b => cases (show v = .int b from ok); rfl
    | str b => cases (show v = .str b from ok); rfl
    | ty b => cases (show v = .ty b from ok); rfl
    | tup ds => obtain ⟨a, vs, rfl, _⟩ := ok; rfl
    | lst ds => obtain ⟨a, vs, rfl, _⟩ := ok; rfl
    | scr ds => obtain ⟨a, vs, rfl, _⟩ := ok; rfl
  | sl i =>
    obtain ⟨t, ht, nt⟩ := hx i rfl
    obtain ⟨u, hu, P, ow, _⟩ := r.at ht
    have ok : σ[i]? = some (some v) := ok
    rw [ok] at hu
    cases hu
    cases t with
    | d x => exact absurd rfl (nt x)
    | ls ds => obtain ⟨a, vs, rfl, _⟩ := ow; rfl
    | ll ds => obtain ⟨a, vs, rfl, _⟩ := ow; rfl
    | dk ds => obtain ⟨a, vs, rfl, _⟩ := ow; rfl
    | dt ds => obtain ⟨a, vs, rfl, _⟩ := ow; rfl
    | pr a b => obtain ⟨a, _, _, _, _, rfl, _⟩ := ow; rfl
theorem rd_isN {x : TV.D} (ha : Rd K ta δ (.d x) δ1) : Rd K (tIsN ta) δ (.d (.bl (isNonA (.d x)))) δ1 := fun z M σ H r Q q =>
  ha z M σ H r _ fun M1 v H1 e1 r1 p1 => q M1 _ H1 e1 r1 (by rw [nonA r1 (fun i h => by cases h) p1]; rfl)
theorem rd_notN {x : TV.D} (ha : Rd K ta δ (.d x) δ1) : Rd K (tNotN ta) δ (.d (.bl (!isNonA (.d x)))) δ1 := fun z M σ H r Q q =>
  ha z M σ H r _ fun M1 v H1 e1 r1 p1 => q M1 _ H1 e1 r1 (by rw [nonA r1 (fun i h => by cases h) p1]; rfl)
/-! isinstance -/
def tyA (δ : Env) : Arg → Option String
  | .d (.bl _) => some "bool"
  | .d (.int _) => some "int"
  | .d (.str _) => some "str"
  | .d (.lst _) => some "list"
  | .d (.tup _) => some "tuple"
  | .d .non => some "NoneType"
  | .sl i => match δ[i]? with
    | some (some (.ls _)) => some "list"
    | some (some (.ll _)) => some "list"
    | _ => none
  | _ => none
theorem RR.ty {z : Z} {M H : Hp} {σ : L2.St} (r : RR K z M σ H δ) {x : Arg} {n : String} {v : V} (h : tyA δ x = some n) (ok : ArgOk K M σ x v) : TyX K H v (.type n) := by
  unfold tyA at h
  split at h
  · cases h; cases (show v = .bl _ from ok); exact .base (.bl _)
  · cases h; cases (show v = .int _ from ok); exact .base (.int _)
  · cases h; cases (show v = .str _ from ok); exact .base (.str _)
  · cases h; obtain ⟨a, vs, rfl, h2, _⟩ := ok; exact .base (.lst (r.ex _ _ h2))
  · cases h
    obtain ⟨a, vs, rfl, h2, _⟩ := ok
    rcases Same.sqT r.ex h2 with (h2 | ⟨o, h2⟩) | ⟨o, its, m, h2, h3, _⟩
    · exact .base (.tup h2)
    · exact .fTuple h2
    · exact .kTuple h2 h3
  · cases h; cases (show v = .non from ok); exact .base .non
  · split at h
    · rename_i i _ ds e
      cases h
      obtain ⟨u, hu, P, ow, _⟩ := r.at e
      obtain ⟨a, vs, rfl, h2, h3, h4⟩ := ow
      have ok : σ[i]? = some (some v) := ok
      rw [ok] at hu
      cases hu
      exact .base (.lst h3)
    · rename_i i _ ds e
      cases h
      obtain ⟨u, hu, P, ow, _⟩ := r.at e
      obtain ⟨a, as, rfl, h2, h3, h4, h5, h6⟩ := ow
      have ok : σ[i]? = some (some v) := ok
      rw [ok] at hu
      cases hu
      exact .base (.lst h5)
    · cases h
  · cases h
theorem rd_isi {r : Arg} {n c : String} {b : Bool} (ha : Rd K ta δ r δ1) (h : tyA δ1 r = some n) (k : PySem.W.kitOne K (.type n) (.type c) = some b) : Rd K (tCB (rIsi K) (tCons ta (tCons (tC (.ty c)) tNil))) δ (.d (.bl b)) δ1 :=
  rd_cb (ra_cons ha (ra_cons rd_ty ra_nil)) fun z M σ vs H r p Q q => by
    obtain ⟨v, w, rfl, h1, h2⟩ := args2 p
    cases (show w = .ty c from h2)
    exact ⟨v, .ty c, .type n, .type c, b, rfl, .ty c, r.ty h h1, k, q _ rfl⟩
theorem rd_isiT2 {r : Arg} {n c1 c2 : String} {b : Bool} (ha : Rd K ta δ r δ1) (h : tyA δ1 r = some n) (k : PySem.W.kitAny K (.type n) [.type c1, .type c2] = some b) : Rd K (tCB (rIsiT K) (tCons ta (tCons (tTup (tCons (tC (.ty c1)) (tCons (tC (.ty c2)) tNil))) tNil))) δ (.d (.bl b)) δ1 := fun z M σ H r0 Q q =>
  ha z M σ H r0 _ fun M1 v H1 e1 r1 p1 => by
    refine ⟨by show 2 ≤ sizeLine; decide, fun p hp => ?_⟩
    obtain ⟨s2, r2⟩ := r1.laid (o := .tup [.ty c1, .ty c2]) hp
    exact ⟨v, p, [.ty c1, .ty c2], .type n, [.type c1, .type c2], b, rfl, upd_same, .cons (.ty c1) (.cons (.ty c2) .nil), r2.ty h (p1.mono s2), k, q _ _ _ (e1.trans s2) r2 rfl⟩
/-- sorted(xs) of whole numbers -/
def sortI (ns : List Int) : List Int := ns.mergeSort (fun a b => decide (a ≤ b))
theorem sortI_perm (ns : List Int) : (sortI ns).Perm ns := List.mergeSort_perm _ _
theorem sortI_sorted (ns : List Int) : (sortI ns).Pairwise (· ≤ ·) := by
  have h := List.pairwise_mergeSort (le := fun a b : Int => decide (a ≤ b)) (fun a b c h1 h2 => by simp at *; omega) (fun a b => by simp; omega) ns
  exact h.imp fun h => by simpa using h
theorem sorted_one {a b : List Int} (p : a.Perm b) (h1 : a.Pairwise (· ≤ ·)) (h2 : b.Pairwise (· ≤ ·)) : a = b :=
  List.Perm.eq_of_pairwise (le := (· ≤ ·)) (fun x y _ _ h1 h2 => Int.le_antisymm h1 h2) h1 h2 p
theorem ro_sorted {r : Arg} {ns : List Int} (ha : Rd K ta δ r δ1) (hv : viewL δ1 r = some (ns.map TV.D.int)) : Ro K (tCB (rSortedI K) (tCons ta tNil)) δ (.ls ((sortI ns).map TV.D.int)) δ1 :=
  ro_cb (ra_cons ha ra_nil) fun z M σ vs H r p Q q => by
    obtain ⟨v, rfl, h1⟩ := args1 p
    obtain ⟨a, us, rfl, h2, h3⟩ := r.view hv h1
    rw [h3.ints_of] at h2
    refine ⟨a, ns, rfl, h2, fun ns' p hp hs hn => q p _ hn ?_⟩
    rw [sorted_one (hp.trans (sortI_perm ns).symm) hs (sortI_sorted ns)]
    exact RpL.ints _
/-! a part of a pair that came back -/
theorem ro_fst {τ1 τ2 : T} (ha : Ro K ta δ (.pr τ1 τ2) δ1) : Ro K (tOp (rIxT K) ta (tC (.int 0))) δ τ1 δ1 := fun z M σ H r Q q =>
  ha z M σ H r _ fun M1 v H1 e1 r1 => by
    obtain ⟨⟨ex, ln, ω, w1, w2, w3⟩, l⟩ := r1
    obtain ⟨u, hu, a, x, y, P1, P2, h1, h2, h3, h4, h5, h6, h7⟩ := w3 _ _ get_top
    have ln' : (σ ++ z.s).length = (δ1 ++ z.e).length := by simp only [List.length_append, List.length_singleton] at ln ⊢; omega
    rw [← ln', get_top] at hu
    cases hu
    subst h1
    refine ⟨a, [x, y], 0, x, rfl, rfl, .inl (.inl h2), rfl, q M1 x H1 e1 ⟨⟨ex, by simp only [List.length_append, List.length_singleton] at ln' ⊢; omega, fun i b => if i = (δ1 ++ z.e).length then P1 b else ω i b, fun i j b g1 g2 => ?_, fun i b g1 => ?_, fun i t ht => ?_⟩, l⟩⟩
    · by_cases hi : i = (δ1 ++ z.e).length <;> by_cases hj : j = (δ1 ++ z.e).length <;> simp only [hi, hj, if_true, if_false] at g1 g2
      · omega
      · exact (hj (w1 _ _ _ g2 (h3 b g1))).elim
      · exact (hi (w1 _ _ _ g1 (h3 b g2))).elim
      · exact w1 _ _ _ g1 g2
    · by_cases hi : i = (δ1 ++ z.e).length <;> simp only [hi, if_true, if_false] at g1
      · exact w2 _ _ (h3 b g1)
      · exact w2 _ _ g1
    · rcases get_push ht with g | ⟨g, g'⟩
      · obtain ⟨u, hu, ow⟩ := w3 i t (get_left g)
        have hi := (List.getElem?_eq_some_iff.mp g).1
        rcases get_push hu with g2 | ⟨g2, _⟩
        · refine ⟨u, get_left g2, ?_⟩
          have hne : i ≠ (δ1 ++ z.e).length := by omega
          simp only [hne, if_false]
          exact ow
        · omega
      · cases g'
        subst g
        refine ⟨x, by rw [← ln']; exact get_top, ?_⟩
        simp only [if_true]
        exact h6
theorem ro_snd {τ1 τ2 : T} (ha : Ro K ta δ (.pr τ1 τ2) δ1) : Ro K (tOp (rIxT K) ta (tC (.int 1))) δ τ2 δ1 := fun z M σ H r Q q =>
  ha z M σ H r _ fun M1 v H1 e1 r1 => by
    obtain ⟨⟨ex, ln, ω, w1, w2, w3⟩, l⟩ := r1
    obtain ⟨u, hu, a, x, y, P1, P2, h1, h2, h3, h4, h5, h6, h7⟩ := w3 _ _ get_top
    have ln' : (σ ++ z.s).length = (δ1 ++ z.e).length := by simp only [List.length_append, List.length_singleton] at ln ⊢; omega
    rw [← ln', get_top] at hu
    cases hu
    subst h1
    refine ⟨a, [x, y], 1, y, rfl, rfl, .inl (.inl h2), rfl, q M1 y H1 e1 ⟨⟨ex, by simp only [List.length_append, List.length_singleton] at ln' ⊢; omega, fun i b => if i = (δ1 ++ z.e).length then P2 b else ω i b, fun i j b g1 g2 => ?_, fun i b g1 => ?_, fun i t ht => ?_⟩, l⟩⟩
    · by_cases hi : i = (δ1 ++ z.e).length <;> by_cases hj : j = (δ1 ++ z.e).length <;> simp only [hi, hj, if_true, if_false] at g1 g2
      · omega
      · exact (hj (w1 _ _ _ g2 (h4 b g1))).elim
      · exact (hi (w1 _ _ _ g1 (h4 b g2))).elim
      · exact w1 _ _ _ g1 g2
    · by_cases hi : i = (δ1 ++ z.e).length <;> simp only [hi, if_true, if_false] at g1
      · exact w2 _ _ (h4 b g1)
      · exact w2 _ _ g1
    · rcases get_push ht with g | ⟨g, g'⟩
      · obtain ⟨u, hu, ow⟩ := w3 i t (get_left g)
        have hi := (List.getElem?_eq_some_iff.mp g).1
        rcases get_push hu with g2 | ⟨g2, _⟩
        · refine ⟨u, get_left g2, ?_⟩
          have hne : i ≠ (δ1 ++ z.e).length := by omega
          simp only [hne, if_false]
          exact ow
        · omega
      · cases g'
        subst g
        refine ⟨y, by rw [← ln']; exact get_top, ?_⟩
        simp only [if_true]
        exact h7
/-- (a, b) of two slots' own things: both are handed on -/
theorem ro_pair {i j : Nat} {τ1 τ2 : T} (h1 : δ[i]? = some (some τ1)) (h2 : δ[j]? = some (some τ2)) (hij : i ≠ j) : Ro K (tTup (tCons (tVar i) (tCons (tVar j) tNil))) δ (.pr τ1 τ2) ((δ.set i none).set j none) := fun z M σ H r Q q => by
  obtain ⟨v, hv, _⟩ := r.at h1
  obtain ⟨w, hw, _⟩ := r.at h2
  refine ⟨v, hv, w, hw, by show 2 ≤ sizeLine; decide, fun p hp => ?_⟩
  obtain ⟨s1, r1⟩ := r.laid (o := .tup [v, w]) hp
  have r2 : R K M (σ ++ z.s) (upd H p (.tup [v, w])) (δ ++ z.e) := r.r.grow (same_upd hp)
  obtain ⟨ex, ln, ω, w1, w2, w3⟩ := r2
  have l1 := (List.getElem?_eq_some_iff.mp h1).1
  have l2 := (List.getElem?_eq_some_iff.mp h2).1
  obtain ⟨v', hv', o1⟩ := w3 i _ (get_leftL h1)
  obtain ⟨w', hw', o2⟩ := w3 j _ (get_leftL h2)
  rw [get_leftL hv] at hv'
  rw [get_leftL hw] at hw'
  cases hv'
  cases hw'
  have ee : (((δ.set i none).set j none) ++ z.e).length = (δ ++ z.e).length := by simp
  refine q M _ _ (Same.refl M) ⟨⟨ex, by simp only [List.length_append, List.length_singleton, List.length_set] at ln ⊢; omega, fun k b => if k = (δ ++ z.e).length then ω i b ∨ ω j b else if k = i ∨ k = j then False else ω k b, fun k m b g1 g2 => ?_, fun k b g1 => ?_, fun k t ht => ?_⟩, by simp [r.ln]⟩
  · have li : i ≠ (δ ++ z.e).length := by simp only [List.length_append]; omega
    have lj : j ≠ (δ ++ z.e).length := by simp only [List.length_append]; omega
    by_cases hk : k = (δ ++ z.e).length <;> by_cases hm : m = (δ ++ z.e).length <;> simp only [hk, hm, if_true, if_false] at g1 g2
    · omega
    · split at g2
      · exact g2.elim
      · rename_i hn
        rcases g1 with g1 | g1
        · exact absurd (.inl (w1 _ _ _ g2 g1)) hn
        · exact absurd (.inr (w1 _ _ _ g2 g1)) hn
    · split at g1
      · exact g1.elim
      · rename_i hn
        rcases g2 with g2 | g2
        · exact absurd (.inl (w1 _ _ _ g1 g2)) hn
        · exact absurd (.inr (w1 _ _ _ g1 g2)) hn
    · split at g1
      · exact g1.elim
      · split at g2
        · exact g2.elim
        · exact w1 _ _ _ g1 g2
  · by_cases hk : k = (δ ++ z.e).length <;> simp only [hk, if_true, if_false] at g1
    · rcases g1 with g1 | g1
      · exact w2 _ _ g1
      · exact w2 _ _ g1
    · split at g1
      · exact g1.elim
      · exact w2 _ _ g1
  · rcases get_push ht with g | ⟨g, g'⟩
    · have hkl := (List.getElem?_eq_some_iff.mp g).1
      rw [ee] at hkl
      have hki : k ≠ i ∧ k ≠ j := by
        constructor
        · rintro rfl
          rw [List.getElem?_append_left (by simpa using l1), List.getElem?_set_ne (Ne.symm hij), List.getElem?_set_self l1] at g
          cases g
        · rintro rfl
          rw [List.getElem?_append_left (by simpa using l2), List.getElem?_set_self (by simpa using l2)] at g
          cases g
      have g0 : (δ ++ z.e)[k]? = some (some t) := by
        by_cases hd : k < δ.length
        · rw [List.getElem?_append_left (by simpa using hd), List.getElem?_set_ne (Ne.symm hki.2), List.getElem?_set_ne (Ne.symm hki.1)] at g
          rw [List.getElem?_append_left hd]
          exact g
        · rw [List.getElem?_append_right (by simp; omega)] at g
          rw [List.getElem?_append_right (by omega)]
          simpa using g
      obtain ⟨u, hu, ow⟩ := w3 k t g0
      refine ⟨u, get_left hu, ?_⟩
      have hne : k ≠ (δ ++ z.e).length := by omega
      simp only [hne, hki.1, hki.2, if_false, or_self]
      exact ow
    · cases g'
      rw [ee] at g
      subst g
      have le : (σ ++ z.s).length = (δ ++ z.e).length := by simpa using ln
      refine ⟨.ref p, by rw [← le]; exact get_top, p, v, w, ω i, ω j, rfl, upd_same, fun b hb => ?_, fun b hb => ?_, fun b b1 b2 => hij (w1 _ _ _ b1 b2), o1, o2⟩
      · simp only [if_true]; exact .inl hb
      · simp only [if_true]; exact .inr hb
end
end TV

namespace TV
open PySem PySem.Spec PyProof.Rows L2
/-! ### rules that a printed term uses -/
def tOrE (t t' : TE) : TE := fun σ H Q => t σ H Q ∨ t' σ H Q
def rAddX : R2 := fun x y H Q => rI0 (fun i j => .int (i + j)) x y H Q ∨ rCat x y H Q ∨ ∃ i j, x = .str i ∧ y = .str j ∧ i.length + j.length ≤ sizeLine ∧ Q (.str (i ++ j)) H
/-- * of two factors of together less than a hundred million bits -/
def CMulB (i j : Int) : Prop := i.natAbs.log2 + j.natAbs.log2 < 100000000
theorem CMulB.ok {i j : Int} (h : CMulB i j) : IntMulOk i j := by
  have b : ∀ x : Int, Builtin.Int.intBits x ≤ x.natAbs.log2 + 1 := fun x => by
    unfold Builtin.Int.intBits
    split <;> omega
  have h1 := b i
  have h2 := b j
  have h3 : i.natAbs.log2 + j.natAbs.log2 < 100000000 := h
  have e : bitsLine = 134217728 := by decide
  unfold IntMulOk
  intro z
  rw [Bool.and_eq_true] at z
  have z2 := z.2
  unfold Builtin.Int.intTooBig at z2
  have z3 := of_decide_eq_true z2
  rw [e] at z3
  omega
theorem op_mulB {X : Cx} : OpR X (binaryOp .Mult) (rI CMulB fun i j => .int (i * j)) := opI fun _ _ _ _ _ _ _ hc q => mul_int q hc.ok
theorem big_mul {i j : Int} {a b : Nat} (ha : i.natAbs < 2 ^ a) (hb : j.natAbs < 2 ^ b) (h0 : 0 < a) (h1 : 0 < b) (h : a + b ≤ 10000000) : CMulB i j := by
  have x := PySem.Flt.log2_lt_of h0 ha
  have y := PySem.Flt.log2_lt_of h1 hb
  unfold CMulB
  omega
def rMulX : R2 := fun x y H Q => rI CMulB (fun i j => .int (i * j)) x y H Q ∨ rRep x y H Q
def rEqX (K : PySem.W.Frag) (u : Nat) : R2 := fun x y H Q => rEq x y H Q ∨ rEqP K u x y H Q
def rNeX (K : PySem.W.Frag) (u : Nat) : R2 := fun x y H Q => rNe x y H Q ∨ rNeP K u x y H Q
/-- a def that is called: its promise, its place, how its arguments bind -/
structure Cal (P : Program) (w : World) (K : PySem.W.Frag) (mg : Str → Option Value) (base : Heap) (k : Nat) (x : Str) (ps : List Str) (c : Con) : Prop where
  ex : ∃ f fd, FnOk P w K mg base CX0 k f fd ps (spOf K c) ∧ mg x = some (.ref f) ∧ PySem.W.keepIn K (.ref f) = true ∧ Binds K fd ps []
/-- .. by keywords alone -/
structure CalK (P : Program) (w : World) (K : PySem.W.Frag) (mg : Str → Option Value) (base : Heap) (k : Nat) (x : Str) (ps ks : List Str) (gV : List V → List V → List V) (c : Con) : Prop where
  ex : ∃ f fd g, FnOk P w K mg base CX0 k f fd ps (spOf K c) ∧ mg x = some (.ref f) ∧ PySem.W.keepIn K (.ref f) = true ∧ KBinds K fd ps ks g gV
section
variable {X : Cx} {e a b : Expr} {es : List Expr} {pos pos' : Pos} {t t' ta tb te : TE}
theorem pe_or (h : PE X e t) (h' : PE X e t') : PE X e (tOrE t t') := ⟨fun pins s σ H Q I q => q.elim (h.run pins s σ H Q I) (h'.run pins s σ H Q I)⟩
theorem op_addX : OpR X (binaryOp .Add) rAddX := op_add.or (op_cat.or op_add_str)
theorem op_mulX : OpR X (binaryOp .Mult) rMulX := op_mulB.or op_rep
theorem op_eqX (hu : X.A.units + 64 < cLine) : OpR X (compareOp .Eq) (rEqX X.K X.A.units) := op_eq.or (op_eqP hu)
theorem op_neX (hu : X.A.units + 64 < cLine) : OpR X (compareOp .NotEq) (rNeX X.K X.A.units) := op_ne.or (op_neP hu)
theorem pcall {k m : Nat} {x : Str} {ps : List Str} {c : Con} {p : Pos} {tx : TA} (C : Cal X.prog X.w X.K X.mg X.base k x ps c) (hr : Room m X.A) (hk : k ≤ m) (hg : Gl X x) (ha : PA X (e :: es) tx)
    (hdb : (x == ("__debug__" : Str)) = false := by decide) (he : starEach (e :: es) X.env = (false, eval e X.env) :: starEach es X.env := by rfl) (hpl : (backTo pos (starEach es X.env)).any (·.1) = false := by rfl) : PE X (.Call (.Name x p) (e :: es) [] pos) (tCall (spOf X.K c) [] E0 tx) := by
  obtain ⟨f, fd, F, hm, hkp, hb⟩ := C.ex
  exact pe_call F (hr.mono hk) hg hm hkp hb .nil pass0 ha hdb he hpl
def tCallK0 (sp : Sp) (gV : List V → List V → List V) (E : XK) (tk : TA) : TE := fun σ H Q => tk σ H fun zs H1 => sp (gV [] zs) H1 Q E
theorem pcallK {k m : Nat} {x : Str} {ps ks : List Str} {c : Con} {p : Pos} {tk : TA} {kws : List Keyword} {gV : List V → List V → List V} (C : CalK X.prog X.w X.K X.mg X.base k x ps ks gV c) (hr : Room m X.A) (hk : k ≤ m) (hg : Gl X x) (hkw : PK X kws tk)
    (hall : (backToKw pos (keywordEach kws X.env)).all (·.1.isSome) = true := by rfl) (hks : (backToKw pos (keywordEach kws X.env)).filterMap (·.1) = ks := by rfl)
    (hdb : (x == ("__debug__" : Str)) = false := by decide) (hpl : ((backTo pos (starEach [] X.env)).any (·.1) || (backToKw pos (keywordEach kws X.env)).any (·.1.isNone)) = false := by rfl) : PE X (.Call (.Name x p) [] kws pos) (tCallK0 (spOf X.K c) gV E0 tk) := by
  obtain ⟨f, fd, g, F, hm, hkp, hb⟩ := C.ex
  refine ⟨fun pins s σ H Q I h => ?_⟩
  refine wpAny_Call_Name_kw (ld_glob I hg hm ?_ hdb)
  refine PySem.W.callWith_KW0 (h₀ := X.base) I.ok.mod.kin hkp hall (thn (hkw.run pos pins s σ H _ I h) fun ws s2 ⟨zs, H2, I2, rz, q2⟩ => ⟨I2.kIn, ?_⟩) hpl
  rw [hks]
  exact run_fnk (F.mono hk) hr hb pass0 I2 .nil rz q2
/-- x = e, x a name of the def -/
theorem qset (i : Nat) {x : Str} {te : TE} (he : PE X e te) (nd : X.N.Nodup) (hi : X.N[i]? = some x := by rfl) (hx : Loc X.env.scope x := by first | exact .inl rfl | exact .inr rfl) (hs : swapsWith e (some (.Name x pos')) pos.line X.env = pure false := by rfl) (hf : X.fn x = true ∨ X.env.scope.names.lookup x = some .local := by first | exact .inl rfl | exact .inr rfl) :
    PS X (.Assign [.Name x pos'] e pos) (tAsg te (gName i)) := ps_set nd hi hx he hs hf
theorem gnm (i : Nat) {x : Str} (nd : X.N.Nodup) (hi : X.N[i]? = some x := by rfl) (hx : Loc X.env.scope x := by first | exact .inl rfl | exact .inr rfl) (hf : X.fn x = true ∨ X.env.scope.names.lookup x = some .local := by first | exact .inl rfl | exact .inr rfl) : PG X (.Name x pos) (gName i) := pg_name nd hi hx hf
end
/-! ### what they evaluate to -/
section
variable {K : PySem.W.Frag} {ps : List Nat} {δ δ1 δ2 δ3 : Env} {ta tb te te' : TE} {tt tu : TT} {t u : TS} {D : EndT}
theorem rd_orL {r : Arg} (h : Rd K ta δ r δ1) : Rd K (tOrE ta tb) δ r δ1 := fun z M σ H r Q q => .inl (h z M σ H r Q q)
theorem rd_orR {r : Arg} (h : Rd K tb δ r δ1) : Rd K (tOrE ta tb) δ r δ1 := fun z M σ H r Q q => .inr (h z M σ H r Q q)
theorem ro_orL {τ : T} (h : Ro K ta δ τ δ1) : Ro K (tOrE ta tb) δ τ δ1 := fun z M σ H r Q q => .inl (h z M σ H r Q q)
theorem ro_orR {τ : T} (h : Ro K tb δ τ δ1) : Ro K (tOrE ta tb) δ τ δ1 := fun z M σ H r Q q => .inr (h z M σ H r Q q)
theorem rd_addI {i j : Int} (ha : Rd K ta δ (.d (.int i)) δ1) (hb : Rd K tb δ1 (.d (.int j)) δ2) : Rd K (tOp rAddX ta tb) δ (.d (.int (i + j))) δ2 :=
  rd_op2 ha hb fun M v w H h1 h2 Q q => .inl ⟨i, j, h1, h2, q _ rfl⟩
theorem rd_subI {i j : Int} (ha : Rd K ta δ (.d (.int i)) δ1) (hb : Rd K tb δ1 (.d (.int j)) δ2) : Rd K (tOp (rI0 fun i j => .int (i - j)) ta tb) δ (.d (.int (i - j))) δ2 := rd_opI ha hb
theorem rd_mulI {i j : Int} (ha : Rd K ta δ (.d (.int i)) δ1) (hb : Rd K tb δ1 (.d (.int j)) δ2) (hc : CMulB i j) : Rd K (tOp rMulX ta tb) δ (.d (.int (i * j))) δ2 :=
  rd_op2 ha hb fun M v w H h1 h2 Q q => .inl ⟨i, j, h1, h2, hc, q _ rfl⟩
theorem rd_modI {i j : Int} (ha : Rd K ta δ (.d (.int i)) δ1) (hb : Rd K tb δ1 (.d (.int j)) δ2) (hc : 0 < j) : Rd K (tOp (rI (fun _ j => 0 < j) fun i j => .int (i % j)) ta tb) δ (.d (.int (i % j))) δ2 := rd_opC ha hb hc
theorem rd_divI {i j : Int} (ha : Rd K ta δ (.d (.int i)) δ1) (hb : Rd K tb δ1 (.d (.int j)) δ2) (hc : CDivW i j) : Rd K (tOp (rI CDivW fun i j => .int (i / j)) ta tb) δ (.d (.int (i / j))) δ2 := rd_opC ha hb hc
theorem rd_powI {i j : Int} (ha : Rd K ta δ (.d (.int i)) δ1) (hb : Rd K tb δ1 (.d (.int j)) δ2) (hc : CPow i j) : Rd K (tOp (rI CPow fun i j => .int (i ^ j.toNat)) ta tb) δ (.d (.int (i ^ j.toNat))) δ2 := rd_opC ha hb hc
theorem rd_addL {r s : Arg} {ds es : List TV.D} (ha : Rd K ta δ r δ1) (hb : Rd K tb δ1 s δ2) (hv : dirL δ2 r = some ds) (hw : dirL δ2 s = some es) (hl : ds.length + es.length ≤ 100000) : Ro K (tOp rAddX ta tb) δ (.ls (ds ++ es)) δ2 := fun z M σ H r0 Q q =>
  ha z M σ H r0 _ fun M1 v H1 e1 r1 p1 => hb z M1 σ H1 r1 _ fun M2 w H2 e2 r2 p2 => by
    obtain ⟨a, vs, rfl, h1, h2⟩ := r2.dir hv (p1.mono e2)
    obtain ⟨b, ws, rfl, h3, h4⟩ := r2.dir hw p2
    exact .inr (.inl ⟨a, b, vs, ws, rfl, rfl, h1, h3, by rw [← h2.length, ← h4.length]; exact Nat.le_trans hl (by decide), fun p hp => q M2 _ _ (e1.trans e2) (r2.pushNew hp trivial fun P pp => ⟨p, _, rfl, pp, upd_same, h2.append h4⟩)⟩)
theorem rd_eqXI {m : Nat} {i j : Int} (ha : Rd K ta δ (.d (.int i)) δ1) (hb : Rd K tb δ1 (.d (.int j)) δ2) : Rd K (tOp (rEqX K m) ta tb) δ (.d (.bl (decide (i = j)))) δ2 :=
  rd_op2 ha hb fun M v w H h1 h2 Q q => by cases h1; cases h2; exact .inl ⟨rfl, q _ (by simp [Rp])⟩
theorem rd_neXI {m : Nat} {i j : Int} (ha : Rd K ta δ (.d (.int i)) δ1) (hb : Rd K tb δ1 (.d (.int j)) δ2) : Rd K (tOp (rNeX K m) ta tb) δ (.d (.bl (!decide (i = j)))) δ2 :=
  rd_op2 ha hb fun M v w H h1 h2 Q q => by cases h1; cases h2; exact .inl ⟨rfl, q _ (by simp [Rp])⟩
theorem rd_eqXB {m : Nat} {i j : Bool} (ha : Rd K ta δ (.d (.bl i)) δ1) (hb : Rd K tb δ1 (.d (.bl j)) δ2) : Rd K (tOp (rEqX K m) ta tb) δ (.d (.bl (decide (i = j)))) δ2 :=
  rd_op2 ha hb fun M v w H h1 h2 Q q => by cases h1; cases h2; exact .inl ⟨rfl, q _ (by simp [Rp])⟩
theorem rd_neXB {m : Nat} {i j : Bool} (ha : Rd K ta δ (.d (.bl i)) δ1) (hb : Rd K tb δ1 (.d (.bl j)) δ2) : Rd K (tOp (rNeX K m) ta tb) δ (.d (.bl (!decide (i = j)))) δ2 :=
  rd_op2 ha hb fun M v w H h1 h2 Q q => by cases h1; cases h2; exact .inl ⟨rfl, q _ (by simp [Rp])⟩
theorem rd_eqXS {m : Nat} {i j : Str} (ha : Rd K ta δ (.d (.str i)) δ1) (hb : Rd K tb δ1 (.d (.str j)) δ2) : Rd K (tOp (rEqX K m) ta tb) δ (.d (.bl (decide (i = j)))) δ2 :=
  rd_op2 ha hb fun M v w H h1 h2 Q q => by cases h1; cases h2; exact .inl ⟨rfl, q _ (by simp [Rp])⟩
theorem rd_neXS {m : Nat} {i j : Str} (ha : Rd K ta δ (.d (.str i)) δ1) (hb : Rd K tb δ1 (.d (.str j)) δ2) : Rd K (tOp (rNeX K m) ta tb) δ (.d (.bl (!decide (i = j)))) δ2 :=
  rd_op2 ha hb fun M v w H h1 h2 Q q => by cases h1; cases h2; exact .inl ⟨rfl, q _ (by simp [Rp])⟩
theorem rd_eqXP {m : Nat} {r s : Arg} {x y : TV.D} (ha : Rd K ta δ r δ1) (hb : Rd K tb δ1 s δ2) (hx : TV.datA δ2 r = some x) (hy : TV.datA δ2 s = some y) (ox : okD 16 x = true) (oy : noTy y = true) : Rd K (tOp (rEqX K m) ta tb) δ (.d (.bl (PyData.eqv (py x) (py y)))) δ2 := fun z M σ H r0 Q q =>
  ha z M σ H r0 _ fun M1 v H1 e1 r1 p1 => hb z M1 σ H1 r1 _ fun M2 w H2 e2 r2 p2 => by
    obtain ⟨Ma, ea, sa, pa⟩ := r2.datA hx (p1.mono e2)
    obtain ⟨Mb, eb, sb, pb⟩ := r2.datA hy p2
    exact .inr ⟨py x, py y, pa.dp sa (okD_py ox), pb.dp sb oy, py_plain x, py_plain y, okD_depth ox, q M2 _ H2 (e1.trans e2) r2 rfl⟩
theorem rd_neXP {m : Nat} {r s : Arg} {x y : TV.D} (ha : Rd K ta δ r δ1) (hb : Rd K tb δ1 s δ2) (hx : TV.datA δ2 r = some x) (hy : TV.datA δ2 s = some y) (ox : okD 16 x = true) (oy : noTy y = true) : Rd K (tOp (rNeX K m) ta tb) δ (.d (.bl (!PyData.eqv (py x) (py y)))) δ2 := fun z M σ H r0 Q q =>
  ha z M σ H r0 _ fun M1 v H1 e1 r1 p1 => hb z M1 σ H1 r1 _ fun M2 w H2 e2 r2 p2 => by
    obtain ⟨Ma, ea, sa, pa⟩ := r2.datA hx (p1.mono e2)
    obtain ⟨Mb, eb, sb, pb⟩ := r2.datA hy p2
    exact .inr ⟨py x, py y, pa.dp sa (okD_py ox), pb.dp sb oy, py_plain x, py_plain y, okD_depth ox, q M2 _ H2 (e1.trans e2) r2 rfl⟩
theorem rd_ixX {r : Arg} {ds : List TV.D} {k : Int} {x : TV.D} (ha : Rd K ta δ r δ1) (hb : Rd K tb δ1 (.d (.int k)) δ2) (hv : viewL δ2 r = some ds) (hx : atI ds k = some x) : Rd K (tOp (rIx K) ta tb) δ (.d x) δ2 := fun z M σ H r0 Q q =>
  ha z M σ H r0 _ fun M1 v H1 e1 r1 p1 => hb z M1 σ H1 r1 _ fun M2 w H2 e2 r2 p2 => by
    obtain ⟨a, vs, h1, h2, h3⟩ := r2.view hv (p1.mono e2)
    obtain ⟨z, hz, rz⟩ := atI_rp h3 hx
    exact .inl ⟨a, vs, k, z, h1, p2, h2, hz, q M2 z H2 (e1.trans e2) r2 rz⟩
theorem rd_ixXT {ds : List TV.D} {k : Int} {x : TV.D} (ha : Rd K ta δ (.d (.tup ds)) δ1) (hb : Rd K tb δ1 (.d (.int k)) δ2) (hx : atI ds k = some x) : Rd K (tOp (rIx K) ta tb) δ (.d x) δ2 := fun z M σ H r0 Q q =>
  ha z M σ H r0 _ fun M1 v H1 e1 r1 p1 => hb z M1 σ H1 r1 _ fun M2 w H2 e2 r2 p2 => by
    obtain ⟨a, vs, h1, h2, h3⟩ := p1.mono e2
    obtain ⟨z, hz, rz⟩ := atI_rp h3 hx
    exact .inr (.inl ⟨a, vs, k, z, h1, p2, Same.sqT r2.ex h2, hz, q M2 z H2 (e1.trans e2) r2 rz⟩)
theorem rd_orT {r : Arg} {b : Bool} (ha : Rd K ta δ r δ1) (h : truA δ1 r = some b) {s : Arg} (h1 : b = true → r = s) (h2 : b = false → Rd K tb δ1 s δ1) : Rd K (tOrT K ta tb) δ s δ1 := fun z M σ H r0 Q q =>
  ha z M σ H r0 _ fun M1 v H1 e1 r1 p1 => ⟨b, r1.tru h p1, by
    cases b with
    | true => rw [if_pos rfl]; exact q M1 v H1 e1 r1 (h1 rfl ▸ p1)
    | false => rw [if_neg Bool.false_ne_true]; exact h2 rfl z M1 σ H1 r1 Q fun M2 w H2 e2 => q M2 w H2 (e1.trans e2)⟩
theorem rd_orTB {a b : Bool} (ha : Rd K ta δ (.d (.bl a)) δ1) (h2 : a = false → Rd K tb δ1 (.d (.bl b)) δ1) : Rd K (tOrT K ta tb) δ (.d (.bl (a || b))) δ1 := rd_orT ha rfl (fun h => by rw [h]; rfl) fun h => by rw [h]; exact h2 h
theorem rd_andTB {a b : Bool} (ha : Rd K ta δ (.d (.bl a)) δ1) (h2 : a = true → Rd K tb δ1 (.d (.bl b)) δ2) (d3 : δ3 = if a = true then δ2 else δ1) : Rd K (tAndT K ta tb) δ (.d (.bl (a && b))) δ3 := fun z M σ H r0 Q q =>
  ha z M σ H r0 _ fun M1 v H1 e1 r1 p1 => ⟨a, r1.tru rfl p1, by
    cases a with
    | false => rw [if_neg Bool.false_ne_true]; exact q M1 v H1 e1 (d3 ▸ r1) p1
    | true => rw [if_pos rfl]; exact h2 rfl z M1 σ H1 r1 Q fun M2 w H2 e2 r2 p2 => q M2 w H2 (e1.trans e2) (d3 ▸ r2) p2⟩
theorem rd_notT {r : Arg} {b : Bool} (ha : Rd K ta δ r δ1) (h : truA δ1 r = some b) : Rd K (tNotT K ta) δ (.d (.bl (!b))) δ1 := fun z M σ H r0 Q q =>
  ha z M σ H r0 _ fun M1 v H1 e1 r1 p1 => ⟨b, r1.tru h p1, q M1 _ H1 e1 r1 rfl⟩
/-- a call by keywords -/
theorem ro_callK {c : Con} {E : XK} {gV : List V → List V → List V} {tk : TA} {rs rs' : List Arg} {ts outs : List T} {τ : T} (ha : Ra K tk δ rs δ1) (hg : ∀ M σ vs, ArgsOk K M σ rs vs → ArgsOk K M σ rs' (gV [] vs)) (ht : argsT δ1 none rs' = some ts) (h : ∀ Q : T → List T → Prop, Q τ outs → c ts Q) (hl : outs.length = ts.length := by rfl) (hf : flatT τ = true := by rfl) :
    Ro K (tCallK0 (spOf K c) gV E tk) δ τ δ1 := fun z M σ H r Q q =>
  ha z M σ H r _ fun M1 vs H1 e1 r1 p1 => by
    obtain ⟨Mc, rc, fin⟩ := r1.r.call (p := 0) (hg _ _ _ p1).left (argsT_left ht) (fun i z => nomatch z)
    refine ⟨Mc, ts, rc, h _ ⟨hl, fun M' v H' s r' => ?_⟩⟩
    obtain ⟨s2, r2⟩ := fin M' v H' outs τ s r' hl hf (fun i z => nomatch z)
    exact q _ v H' (e1.trans s2) ⟨r2, r1.ln⟩
end
end TV

namespace TV
open PySem PySem.Spec PyProof.Rows L2
/-- a contract of a def that changes none of its arguments -/
def rdC (n : Nat) (f : List D → (T → Prop) → Prop) : Con := fun ts Q => ∃ ds : List D, ts = ds.map T.d ∧ ds.length = n ∧ f ds fun r => Q r ts
theorem Cal.mk' {P : Program} {w : World} {K : PySem.W.Frag} {mg : Str → Option Value} {base : Heap} {x qual : Str} {st : Stmt} {f : Addr} {fd : FuncData} {params : List Str} {k : Nat} {c : Con} (F : Fun K x qual st f fd) (g : mg x = some (.ref f)) (b : L2.Binds K fd params [])
    (h : FnOk P w K mg base CX0 k f fd params (spOf K c)) : Cal P w K mg base k x params c := ⟨f, fd, h, g, F.kp, b⟩
theorem Cal.mono {P : Program} {w : World} {K : PySem.W.Frag} {mg : Str → Option Value} {base : Heap} {x : Str} {params : List Str} {k m : Nat} {c : Con} (C : Cal P w K mg base k x params c) (h : k ≤ m) : Cal P w K mg base m x params c :=
  let ⟨f, fd, a, b, d, e⟩ := C.ex
  ⟨f, fd, a.mono h, b, d, e⟩
section
variable {P : Program} {w : World} {K : PySem.W.Frag} {mg : Str → Option Value} {base : Heap} {x qual : Str} {st : Stmt} {f : Addr} {fd : FuncData} {N params : List Str} {k : Nat}
theorem outsOf_nil {ts : List T} {δ : Env} : outsOf [] ts δ = ts := by
  unfold outsOf
  apply List.ext_getElem?
  intro i
  rw [List.getElem?_mapIdx]
  cases ts[i]? <;> simp
/-- a def that changes none of its arguments, by its body -/
theorem rd_ok (m n : Nat) (fc : List D → (T → Prop) → Prop) (F : Fun K x qual st f fd) (g : mg x = some (.ref f)) (b : L2.Binds K fd params []) (S : FnScope N params (defScope st)) (hm : params.length = m) (hN : N.length = m + n)
    (hbody : ∀ (cdv : Value) (A : Around) (outer : List PySem.Env) (s : Shared) (H : Hp) (E : XK), Room k (A.deeper (envOfC qual (defScope st) s.heap.objs.size f cdv)) →
      ∃ t, PSs (cxOf CX0 P w K mg base N qual (defScope st) f cdv A outer s H E).nox (defBody st) t ∧ ∀ (ds : List D) (Q : T → Prop), fc ds Q → ds.length = m → Sd K [] t (ds.map (fun d => some (T.d d)) ++ List.replicate n none) { nx := fun _ => Q (.d .non), rt := fun τ _ => Q τ }) :
    Cal P w K mg base (k + 1) x params (rdC m fc) := by
  refine Cal.mk' F g b (con_ok [] n F S (by rw [hN, hm]) (fun ts Q h => ?_) (fun ts Q h k t hk _ => ?_) fun cdv A outer s H E hr => ?_)
  · obtain ⟨ds, rfl, hl, _⟩ := h
    rw [List.length_map, hl, hm]
  · obtain ⟨ds, rfl, _⟩ := h
    rw [List.getElem?_map] at hk
    cases e : ds[k]? with
    | none => rw [e] at hk; cases hk
    | some x => rw [e] at hk; cases hk; exact ⟨x, rfl⟩
  · obtain ⟨t, ht, hb⟩ := hbody cdv A outer s H E hr
    refine ⟨t, ht, fun ts Q h => ?_⟩
    obtain ⟨ds, rfl, hl, hf⟩ := h
    have := hb ds _ hf hl
    rw [List.map_map]
    intro z M σ H r E hE
    refine this z M σ H r E ⟨fun M' σ' H δ a1 a2 a3 a4 => hE.nx M' σ' H δ a1 a2 a3 ⟨fun k hk => by simp at hk, by rw [outsOf_nil]; exact a4⟩, fun M' σ' v H δ τ a1 a2 a3 a4 => hE.rt M' σ' v H δ τ a1 a2 a3 ⟨fun k hk => by simp at hk, by rw [outsOf_nil]; exact a4⟩, fun _ _ _ _ _ _ _ q => q.elim, fun _ _ _ _ _ _ _ q => q.elim⟩
/-- a call of such a def -/
theorem ro_callR {K : PySem.W.Frag} {δ δ1 : Env} {E : XK} {ta : TA} {rs : List Arg} {ds : List D} {τ : T} {m : Nat} {fc : List D → (T → Prop) → Prop} (ha : Ra K ta δ rs δ1) (ht : argsT δ1 none rs = some (ds.map T.d)) (h : ∀ Q : T → Prop, Q τ → fc ds Q) (hl : ds.length = m := by rfl) (hf : flatT τ = true := by rfl) :
    Ro K (tCall (spOf K (rdC m fc)) [] E ta) δ τ δ1 := ro_call ha ht (fun Q q => ⟨ds, rfl, hl, h _ q⟩) rfl hf
theorem rd_callR {K : PySem.W.Frag} {δ δ1 : Env} {E : XK} {ta : TA} {rs : List Arg} {ds : List D} {x : D} {m : Nat} {fc : List D → (T → Prop) → Prop} (ha : Ra K ta δ rs δ1) (ht : argsT δ1 none rs = some (ds.map T.d)) (h : ∀ Q : T → Prop, Q (.d x) → fc ds Q) (hl : ds.length = m := by rfl) (hf : flatD x = true := by rfl) :
    Rd K (tCall (spOf K (rdC m fc)) [] E ta) δ (.d x) δ1 := rd_call ha ht (fun Q q => ⟨ds, rfl, hl, h _ q⟩) rfl hf
end
theorem cxK {CX : CXT} {P : Program} {w : World} {K : PySem.W.Frag} {mg : Str → Option Value} {base : Heap} {N : List Str} {q : Str} {sc : Scope} {f : Addr} {cd : Value} {A : Around} {o : List PySem.Env} {s : Shared} {H : Hp} {E : XK} : (cxOf CX P w K mg base N q sc f cd A o s H E).K = K := rfl
theorem cxKn {CX : CXT} {P : Program} {w : World} {K : PySem.W.Frag} {mg : Str → Option Value} {base : Heap} {N : List Str} {q : Str} {sc : Scope} {f : Addr} {cd : Value} {A : Around} {o : List PySem.Env} {s : Shared} {H : Hp} {E : XK} : (cxOf CX P w K mg base N q sc f cd A o s H E).nox.K = K := rfl
def toDs : List Arg → Option (List TV.D)
  | [] => some []
  | .d x :: r => (toDs r).map (x :: ·)
  | _ => none
theorem toDs_eq : ∀ {rs : List Arg} {ds : List TV.D}, toDs rs = some ds → rs = ds.map Arg.d
  | [], _, h => by cases h; rfl
  | .d x :: r, ds, h => by
    unfold toDs at h
    cases e : toDs r with
    | none => rw [e] at h; cases h
    | some es => rw [e] at h; cases h; rw [toDs_eq e]; rfl
  | .sl _ :: _, _, h => by cases h
theorem ro_lst' {K : PySem.W.Frag} {δ δ1 : Env} {t : TA} {rs : List Arg} {ds : List TV.D} (h : Ra K t δ rs δ1) (e : toDs rs = some ds) (hl : Nat.ble ds.length 1000 = true) : Ro K (tLst t) δ (.ls ds) δ1 := ro_lst h (toDs_eq e) (Nat.le_of_ble_eq_true hl)
theorem rd_tup' {K : PySem.W.Frag} {δ δ1 : Env} {t : TA} {rs : List Arg} {ds : List TV.D} (h : Ra K t δ rs δ1) (e : toDs rs = some ds) (hl : Nat.ble ds.length 1000 = true) : Rd K (tTup t) δ (.d (.tup ds)) δ1 := rd_tup h (toDs_eq e) (Nat.le_of_ble_eq_true hl)
/-! short words for readings -/
end TV

namespace TV
open PySem PySem.Spec PyProof.Rows L2
/-! the rules with the kept part named: a comprehension's own reading must not hang on its block -/
section
variable {X : Cx} (K : PySem.W.Frag)
theorem kix (hK : X.K = K := by rfl) : IxR X (rIx K) := hK ▸ ix_seq
theorem ksl (hK : X.K = K := by rfl) : SlR X (rSlL K) := hK ▸ sl_list
theorem kcsum (hc : X.calm = true := by rfl) (hK : X.K = K := by rfl) : CallR X (.builtin "sum") (rSum K) := hK ▸ cr_sum hc
theorem kcall (hc : X.calm = true := by rfl) (hK : X.K = K := by rfl) : CallR X (.builtin "all") (rAll K) := hK ▸ cr_all hc
theorem kcany (hc : X.calm = true := by rfl) (hK : X.K = K := by rfl) : CallR X (.builtin "any") (rAny K) := hK ▸ cr_any hc
theorem kcsorted (hK : X.K = K := by rfl) : CallR X (.builtin "sorted") (rSortedI K) := hK ▸ cr_sortedI
theorem kcisi (hK : X.K = K := by rfl) : CallR X (.builtin "isinstance") (rIsi K) := hK ▸ call_isi
theorem kcisiT (hK : X.K = K := by rfl) : CallR X (.builtin "isinstance") (rIsiT K) := hK ▸ call_isiT
theorem kclen (hK : X.K = K := by rfl) : CallR X (.builtin "len") fun xs H Q => ∃ p ys, xs = [V.ref p] ∧ (SqL K H p ys ∨ SqT K H p ys) ∧ Q (.int ys.length) H := by
  subst hK
  exact call_len_seq
theorem kclist (hK : X.K = K := by rfl) : CallR X (.type "list") fun xs H Q => ∃ p ys, xs = [V.ref p] ∧ (SqL K H p ys ∨ SqT K H p ys) ∧ ∀ l, H l = none → Q (.ref l) (upd H l (.lst ys)) := by
  subst hK
  exact call_list_of
theorem kcmin (hu : X.A.units + 64 < cLine) (hc : X.calm = true := by rfl) (hK : X.K = K := by rfl) : CallR X (.builtin "min") (rMinP K) := hK ▸ cr_minP hc hu
theorem kcmax (hu : X.A.units + 64 < cLine) (hc : X.calm = true := by rfl) (hK : X.K = K := by rfl) : CallR X (.builtin "max") (rMaxP K) := hK ▸ cr_maxP hc hu
theorem keq (hu : X.A.units + 64 < cLine) (hK : X.K = K := by rfl) : OpR X (compareOp .Eq) (rEqX K 0) := hK ▸ (op_eqX hu : OpR X (compareOp .Eq) (rEqX X.K 0))
theorem kne (hu : X.A.units + 64 < cLine) (hK : X.K = K := by rfl) : OpR X (compareOp .NotEq) (rNeX K 0) := hK ▸ (op_neX hu : OpR X (compareOp .NotEq) (rNeX X.K 0))
theorem kin (hu : X.A.units + 64 < cLine) (hK : X.K = K := by rfl) : OpR X (compareOp .In) (rInP K false) := hK ▸ op_inP hu
theorem knotIn (hu : X.A.units + 64 < cLine) (hK : X.K = K := by rfl) : OpR X (compareOp .NotIn) (rInP K true) := hK ▸ op_notInP hu
theorem kpi_list {tg l : Expr} {tl : TE} (h : PE X l tl) (hK : X.K = K := by rfl) : PI X tg l (iList K tl) := hK ▸ pi_list h
theorem kpi_enum {e : Expr} {ta : TA} {p pos tpos : Pos} {elts : List Expr} {kk : Nat} (h1 : Gl X "enumerate") (h2 : X.mg "enumerate" = none) (h3 : PA X [e] ta) (h4 : starEach [e] X.env = [(false, eval e X.env)] := by rfl) (hK : X.K = K := by rfl) :
    PI X (.Tuple elts kk tpos) (.Call (.Name "enumerate" p) [e] [] pos) (iEnum K ta) := hK ▸ pi_enum h1 h2 h3 h4
theorem kpi_zip {e e2 : Expr} {ta : TA} {p pos tpos : Pos} {elts : List Expr} {kk : Nat} (h1 : Gl X "zip") (h2 : X.mg "zip" = none) (h3 : PA X [e, e2] ta) (h4 : starEach [e, e2] X.env = (false, eval e X.env) :: starEach [e2] X.env := by rfl) (h5 : (backTo pos (starEach [e2] X.env)).any (·.1) = false := by rfl) (hK : X.K = K := by rfl) :
    PI X (.Tuple elts kk tpos) (.Call (.Name "zip" p) [e, e2] [] pos) (iZip K ta) := hK ▸ pi_zip h1 h2 h3 h4 h5
theorem kor {a b : Expr} {ta tb : TE} {rest : List Expr} {pos : Pos} (h : PE X a ta) (h2 : PE X (.BoolOp .Or (b :: rest) pos) tb) (hK : X.K = K := by rfl) : PE X (.BoolOp .Or (a :: b :: rest) pos) (tOrT K ta tb) := hK ▸ pe_orT h h2
theorem kand {a b : Expr} {ta tb : TE} {rest : List Expr} {pos : Pos} (h : PE X a ta) (h2 : PE X (.BoolOp .And (b :: rest) pos) tb) (hK : X.K = K := by rfl) : PE X (.BoolOp .And (a :: b :: rest) pos) (tAndT K ta tb) := hK ▸ pe_andT h h2
theorem knot {a : Expr} {ta : TE} {pos : Pos} (h : PE X a ta) (hK : X.K = K := by rfl) : PE X (.UnaryOp .Not a pos) (tNotT K ta) := hK ▸ pe_notT h
def tTru (K : PySem.W.Frag) (ta : TE) : TT := fun σ H Q => ta σ H fun x H' => ∃ k, TruV K x H' k ∧ Q k H'
theorem ktruth {a : Expr} {ta : TE} (h : PE X a ta) (h2 : ∀ whole : Sem Value, PySem.isTrue a X.env whole = (do let v ← whole; standAt a.pos; holding [v] (truthy v)) := by intro _; rfl) (hK : X.K = K := by rfl) : PT X a (tTru K ta) := hK ▸ pt_truth h h2
theorem kbm {o e : Expr} {es : List Expr} {to : TE} {t : TA} {name : Str} {apos cpos : Pos} {T id : String} {r : V → List V → Hp → VK → Prop} (h1 : PlainAttrs T) (h2 : Slot T name id) (h3 : typeOf (.builtin id) = pure (.type "method_descriptor")) (h4 : MtR X id r) (h5 : PE X o to) (h6 : PA X (e :: es) t)
    (h7 : attributeBase o name X.env (eval o X.env) = eval o X.env := by rfl) (h8 : ((backTo cpos (starEach (e :: es) X.env)).all (fun x => !x.1) && (backToKw cpos (keywordEach [] X.env)).all (fun x => x.1.isSome) && decide ((e :: es).length + ([] : List Keyword).length + (if ([] : List Keyword).isEmpty then 0 else 1) < 30)) = true := by rfl)
    (h9 : (apos.endLine == cpos.line) = true := by rfl) (h10 : starEach (e :: es) X.env = (false, eval e X.env) :: starEach es X.env := by rfl) (h11 : (backTo cpos (starEach es X.env)).any (·.1) = false := by rfl) (hK : X.K = K := by rfl) :
    PE X (.Call (.Attribute o name apos) (e :: es) [] cpos) (tBM K T r to t) := hK ▸ pe_bm h1 h2 h3 h4 h5 h6 h7 h8 h9 h10 h11
theorem kbm0 {o : Expr} {to : TE} {name : Str} {apos cpos : Pos} {T id : String} {r : V → List V → Hp → VK → Prop} (h1 : PlainAttrs T) (h2 : Slot T name id) (h3 : typeOf (.builtin id) = pure (.type "method_descriptor")) (h4 : MtR X id r) (h5 : PE X o to)
    (h6 : attributeBase o name X.env (eval o X.env) = eval o X.env := by rfl) (h7 : (apos.endLine == cpos.line) = true := by rfl) (hK : X.K = K := by rfl) :
    PE X (.Call (.Attribute o name apos) [] [] cpos) (tBM0 K T r to) := hK ▸ pe_bm0 h1 h2 h3 h4 h5 h6 h7
theorem kpg_tup {pos : Pos} {es : List Expr} {k : Nat} {t : TGs} {n : Nat} (hc : X.calm = true) (h : PGs X es t) (hn : (assignEach es X.env).length = n := by rfl) (hf : (assignEach es X.env).findIdx? (·.1) = none := by rfl) (hK : X.K = K := by rfl) : PG X (.Tuple es k pos) (gTup K n t) := hK ▸ pg_tup hc h hn hf
end
section
variable {X : Cx} {e : Expr} {es : List Expr} {pos : Pos} {P : Program} {w : World} {K : PySem.W.Frag} {mg : Str → Option Value} {base : Heap}
theorem kcl {k m : Nat} {x : Str} {ps : List Str} {c : Con} {p : Pos} {tx : TA} (C : Cal P w K mg base k x ps c) (hr : Room m X.A) (hk : k ≤ m) (hg : Gl X x) (ha : PA X (e :: es) tx)
    (hP : X.prog = P := by rfl) (hw : X.w = w := by rfl) (hK : X.K = K := by rfl) (hm : X.mg = mg := by rfl) (hb : X.base = base := by rfl)
    (hdb : (x == ("__debug__" : Str)) = false := by decide) (he : starEach (e :: es) X.env = (false, eval e X.env) :: starEach es X.env := by rfl) (hpl : (backTo pos (starEach es X.env)).any (·.1) = false := by rfl) : PE X (.Call (.Name x p) (e :: es) [] pos) (tCall (spOf K c) [] E0 tx) := by
  subst hP hw hK hm hb
  exact pcall C hr hk hg ha hdb he hpl
theorem kclK {k m : Nat} {x : Str} {ps ks : List Str} {c : Con} {p : Pos} {tk : TA} {kws : List Keyword} {gV : List V → List V → List V} (C : CalK P w K mg base k x ps ks gV c) (hr : Room m X.A) (hk : k ≤ m) (hg : Gl X x) (hkw : PK X kws tk)
    (hP : X.prog = P := by rfl) (hw : X.w = w := by rfl) (hK : X.K = K := by rfl) (hm : X.mg = mg := by rfl) (hb : X.base = base := by rfl)
    (hall : (backToKw pos (keywordEach kws X.env)).all (·.1.isSome) = true := by rfl) (hks : (backToKw pos (keywordEach kws X.env)).filterMap (·.1) = ks := by rfl)
    (hdb : (x == ("__debug__" : Str)) = false := by decide) (hpl : ((backTo pos (starEach [] X.env)).any (·.1) || (backToKw pos (keywordEach kws X.env)).any (·.1.isNone)) = false := by rfl) : PE X (.Call (.Name x p) [] kws pos) (tCallK0 (spOf K c) gV E0 tk) := by
  subst hP hw hK hm hb
  exact pcallK C hr hk hg hkw hall hks hdb hpl
end
section
variable {K : PySem.W.Frag} {δ δ1 : Env} {ta : TE}
theorem rt_truK {r : Arg} {b : Bool} (ha : Rd K ta δ r δ1) (h : truA δ1 r = some b) : Rt K (tTru K ta) δ b δ1 := rt_tru ha h
def onlyAt (rs : List Arg) (i p : Nat) : Bool := rs.zipIdx.all fun q => match q.1 with
  | .sl j => j != i || q.2 == p
  | _ => true
theorem onlyAt_of {rs : List Arg} {i p : Nat} (h : onlyAt rs i p = true) : ∀ k, rs[k]? = some (.sl i) → k = p := fun k hk => by
  have h1 := List.all_eq_true.mp h (.sl i, k) (by
    rw [List.mem_iff_getElem?]
    exact ⟨k, by rw [List.getElem?_zipIdx, hk]; simp⟩)
  simpa using h1
/-- a call that changes its p-th argument, an owned slot -/
theorem rd_cw (p : Nat) {i : Nat} {c : Con} {E : XK} {ta : TA} {rs : List Arg} {ts outs : List T} {x : TV.D} {t : T} (ha : Ra K ta δ rs δ1) (hp : rs[p]? = some (.sl i)) (ht : argsT δ1 (some i) rs = some ts) (hq : onlyAt rs i p = true) (h : ∀ Q : T → List T → Prop, Q (.d x) outs → c ts Q) (ho : outs[p]? = some t)
    (hl : outs.length = ts.length) (hf : flatD x = true) (hg : flatT t = true) : Rd K (tCall (spOf K c) [] E ta) δ (.d x) (δ1.set i (some t)) := rd_callW i p ha ht hp (onlyAt_of hq) h ho hl hf hg
theorem ro_cw (p : Nat) {i : Nat} {c : Con} {E : XK} {ta : TA} {rs : List Arg} {ts outs : List T} {τ : T} {t : T} (ha : Ra K ta δ rs δ1) (hp : rs[p]? = some (.sl i)) (ht : argsT δ1 (some i) rs = some ts) (hq : onlyAt rs i p = true) (h : ∀ Q : T → List T → Prop, Q τ outs → c ts Q) (ho : outs[p]? = some t)
    (hl : outs.length = ts.length) (hf : flatT τ = true) (hg : flatT t = true) : Ro K (tCall (spOf K c) [] E ta) δ τ (δ1.set i (some t)) := ro_callW i p ha ht hp (onlyAt_of hq) h ho hl hf hg
theorem flat_int : ∀ ns : List Int, flatDs (ns.map TV.D.int) = true
  | [] => rfl
  | _ :: r => flat_int r
end
end TV

namespace TV
open PySem PySem.Spec PyProof.Rows L2
theorem FnOk.none' {P : Program} {w : World} {K : PySem.W.Frag} {mg : Str → Option Value} {base : Heap} {k : Nat} {f : Addr} {fd : FuncData} {ps : List Str} {m : Nat} : FnOk P w K mg base CX0 k f fd ps (spOf K (rdC m fun _ _ => False)) :=
  ⟨fun vs H Q E h => by obtain ⟨_, _, _, _, _, _, h⟩ := h; exact h.elim, fun A outer s H args us vs Q E _ _ _ _ h => by obtain ⟨_, _, _, _, _, _, h⟩ := h; exact h.elim⟩
theorem kpi_zipA {X : Cx} (K : PySem.W.Frag) {e e2 : Expr} {ta : TA} {p pos tpos : Pos} {elts : List Expr} {kk : Nat} (h1 : Gl X "zip") (h2 : X.mg "zip" = none) (h3 : PA X [e, e2] ta) (h4 : starEach [e, e2] X.env = (false, eval e X.env) :: starEach [e2] X.env := by rfl) (h5 : (backTo pos (starEach [e2] X.env)).any (·.1) = false := by rfl) (hK : X.K = K := by rfl) :
    PI X (.Tuple elts kk tpos) (.Call (.Name "zip" p) [e, e2] [] pos) (RZ.iZipA K ta) := hK ▸ RZ.pi_zipA h1 h2 h3 h4 h5
section
variable {K : PySem.W.Frag} {δ δ1 : Env}
theorem wk_zipL {t : TA} {r s : Arg} {ds es : List TV.D} (h : Ra K t δ [r, s] δ1) (hv : viewL δ1 r = some ds) (hw : viewL δ1 s = some es) : Wk K (RZ.iZipA K t) δ ((ds.zip es).map fun p => .tup [p.1, p.2]) [(r, ds), (s, es)] δ1 := fun z M σ H r0 Rk q =>
  h z M σ H r0 _ fun M1 vs H1 e1 r1 p1 => by
    obtain ⟨v, w, rfl, p, v', w', rfl, p', rfl⟩ := p1
    obtain ⟨a, us, rfl, h1, h2⟩ := r1.view hv p
    obtain ⟨b, us', rfl, h1', h2'⟩ := r1.view hw p'
    refine ⟨a, b, us, us', rfl, .inl ⟨h1, h1', q M1 _ H1 e1 r1 fun z i M2 σ2 H2 δ' e2 r2 k ok => ?_⟩⟩
    obtain ⟨vs2, g1, g2⟩ := src_at p e2 r2 (k.sub fun j hj => by simp [keepS, hj]) (ok (r, ds) (by simp))
    obtain ⟨vs3, g1', g2'⟩ := src_at p' e2 r2 (k.sub fun j hj => by simp [keepS, hj]) (ok (s, es) (by simp))
    have l1 : ds.length = vs2.length := g2.length
    have l2 : es.length = vs3.length := g2'.length
    rw [List.length_map, List.length_zip]
    refine ⟨fun hi => ⟨⟨vs2, vs3, vs2[i]'(by omega), vs3[i]'(by omega), g1, g1', by rw [List.getElem?_eq_getElem], by rw [List.getElem?_eq_getElem]⟩, fun x H' y => ?_⟩, fun hi => ⟨vs2, vs3, g1, g1', by omega⟩⟩
    obtain ⟨T, x1, y1, rfl, nT, rfl, f, f'⟩ := y
    obtain ⟨d, hd, rd⟩ := g2.get' (f vs2 g1)
    obtain ⟨d', hd', rd'⟩ := g2'.get' (f' vs3 g1')
    have hd : ds[i]? = some d := hd
    have hd' : es[i]? = some d' := hd'
    obtain ⟨s3, r3⟩ := r2.laid (o := .tup [x1, y1]) nT
    refine ⟨_, s3, r3, .tup [d, d'], ?_, T, _, rfl, .inl (.inl upd_same), _, _, rfl, rd.mono s3, _, _, rfl, rd'.mono s3, rfl⟩
    rw [List.getElem?_map, (List.getElem?_zip_eq_some (z := (d, d'))).mpr ⟨hd, hd'⟩]
    rfl
theorem wk_zipT {t : TA} {ds es : List TV.D} (h : Ra K t δ [.d (.tup ds), .d (.tup es)] δ1) : Wk K (RZ.iZipA K t) δ ((ds.zip es).map fun p => .tup [p.1, p.2]) [] δ1 := fun z M σ H r0 Rk q =>
  h z M σ H r0 _ fun M1 vs H1 e1 r1 p1 => by
    obtain ⟨v, w, rfl, p, v', w', rfl, p', rfl⟩ := p1
    obtain ⟨a, us, rfl, h1, h2⟩ := p
    obtain ⟨b, us', rfl, h1', h2'⟩ := p'
    refine ⟨a, b, us, us', rfl, .inr ⟨Same.sqT r1.ex h1, Same.sqT r1.ex h1', q M1 _ H1 e1 r1 fun z i M2 σ2 H2 δ' e2 r2 k ok => ?_⟩⟩
    have g1 : SqT K H2 a us := Same.sqT (e2.trans r2.ex) h1
    have g1' : SqT K H2 b us' := Same.sqT (e2.trans r2.ex) h1'
    have g2 := h2.mono e2
    have g2' := h2'.mono e2
    have l1 : ds.length = us.length := g2.length
    have l2 : es.length = us'.length := g2'.length
    rw [List.length_map, List.length_zip]
    refine ⟨fun hi => ⟨⟨us, us', us[i]'(by omega), us'[i]'(by omega), g1, g1', by rw [List.getElem?_eq_getElem], by rw [List.getElem?_eq_getElem]⟩, fun x H' y => ?_⟩, fun hi => ⟨us, us', g1, g1', by omega⟩⟩
    obtain ⟨T, x1, y1, rfl, nT, rfl, f, f'⟩ := y
    obtain ⟨d, hd, rd⟩ := g2.get' (f us g1)
    obtain ⟨d', hd', rd'⟩ := g2'.get' (f' us' g1')
    have hd : ds[i]? = some d := hd
    have hd' : es[i]? = some d' := hd'
    obtain ⟨s3, r3⟩ := r2.laid (o := .tup [x1, y1]) nT
    refine ⟨_, s3, r3, .tup [d, d'], ?_, T, _, rfl, .inl (.inl upd_same), _, _, rfl, rd.mono s3, _, _, rfl, rd'.mono s3, rfl⟩
    rw [List.getElem?_map, (List.getElem?_zip_eq_some (z := (d, d'))).mpr ⟨hd, hd'⟩]
    rfl
/-- what must hold between two statements -/
theorem sd_cut {ps : List Nat} {t u : TS} {D : EndT} (P : Env → Prop) (h : Sd K ps t δ { D with nx := P }) (k : ∀ δ', P δ' → Sd K ps u δ' D) : Sd K ps (tSeq t u) δ D := fun z M σ H r E hE =>
  h z M σ H r { E with nx := u E } ⟨fun M' σ' H' δ' e r' kk p => k δ' p z M' σ' H' r' E (hE.on e kk), hE.rt, hE.bk, hE.ct⟩
variable {ta : TE}
theorem ro_fstX {τ1 τ2 : T} (ha : Ro K ta δ (.pr τ1 τ2) δ1) : Ro K (tOp (rIx K) ta (tC (.int 0))) δ τ1 δ1 := fun z M σ H r Q q =>
  ha z M σ H r _ fun M1 v H1 e1 r1 => by
    obtain ⟨⟨ex, ln, ω, w1, w2, w3⟩, l⟩ := r1
    obtain ⟨u, hu, a, x, y, P1, P2, h1, h2, h3, h4, h5, h6, h7⟩ := w3 _ _ get_top
    have ln' : (σ ++ z.s).length = (δ1 ++ z.e).length := by simp only [List.length_append, List.length_singleton] at ln ⊢; omega
    rw [← ln', get_top] at hu
    cases hu
    subst h1
    refine .inr (.inl ⟨a, [x, y], 0, x, rfl, rfl, .inl (.inl h2), rfl, q M1 x H1 e1 ⟨⟨ex, by simp only [List.length_append, List.length_singleton] at ln' ⊢; omega, fun i b => if i = (δ1 ++ z.e).length then P1 b else ω i b, fun i j b g1 g2 => ?_, fun i b g1 => ?_, fun i t ht => ?_⟩, l⟩⟩)
    · by_cases hi : i = (δ1 ++ z.e).length <;> by_cases hj : j = (δ1 ++ z.e).length <;> simp only [hi, hj, if_true, if_false] at g1 g2
      · omega
      · exact (hj (w1 _ _ _ g2 (h3 b g1))).elim
      · exact (hi (w1 _ _ _ g1 (h3 b g2))).elim
      · exact w1 _ _ _ g1 g2
    · by_cases hi : i = (δ1 ++ z.e).length <;> simp only [hi, if_true, if_false] at g1
      · exact w2 _ _ (h3 b g1)
      · exact w2 _ _ g1
    · rcases get_push ht with g | ⟨g, g'⟩
      · obtain ⟨u, hu, ow⟩ := w3 i t (get_left g)
        have hi := (List.getElem?_eq_some_iff.mp g).1
        rcases get_push hu with g2 | ⟨g2, _⟩
        · refine ⟨u, get_left g2, ?_⟩
          have hne : i ≠ (δ1 ++ z.e).length := by omega
          simp only [hne, if_false]
          exact ow
        · omega
      · cases g'
        subst g
        refine ⟨x, by rw [← ln']; exact get_top, ?_⟩
        simp only [if_true]
        exact h6
theorem ro_sndX {τ1 τ2 : T} (ha : Ro K ta δ (.pr τ1 τ2) δ1) : Ro K (tOp (rIx K) ta (tC (.int 1))) δ τ2 δ1 := fun z M σ H r Q q =>
  ha z M σ H r _ fun M1 v H1 e1 r1 => by
    obtain ⟨⟨ex, ln, ω, w1, w2, w3⟩, l⟩ := r1
    obtain ⟨u, hu, a, x, y, P1, P2, h1, h2, h3, h4, h5, h6, h7⟩ := w3 _ _ get_top
    have ln' : (σ ++ z.s).length = (δ1 ++ z.e).length := by simp only [List.length_append, List.length_singleton] at ln ⊢; omega
    rw [← ln', get_top] at hu
    cases hu
    subst h1
    refine .inr (.inl ⟨a, [x, y], 1, y, rfl, rfl, .inl (.inl h2), rfl, q M1 y H1 e1 ⟨⟨ex, by simp only [List.length_append, List.length_singleton] at ln' ⊢; omega, fun i b => if i = (δ1 ++ z.e).length then P2 b else ω i b, fun i j b g1 g2 => ?_, fun i b g1 => ?_, fun i t ht => ?_⟩, l⟩⟩)
    · by_cases hi : i = (δ1 ++ z.e).length <;> by_cases hj : j = (δ1 ++ z.e).length <;> simp only [hi, hj, if_true, if_false] at g1 g2
      · omega
      · exact (hj (w1 _ _ _ g2 (h4 b g1))).elim
      · exact (hi (w1 _ _ _ g1 (h4 b g2))).elim
      · exact w1 _ _ _ g1 g2
    · by_cases hi : i = (δ1 ++ z.e).length <;> simp only [hi, if_true, if_false] at g1
      · exact w2 _ _ (h4 b g1)
      · exact w2 _ _ g1
    · rcases get_push ht with g | ⟨g, g'⟩
      · obtain ⟨u, hu, ow⟩ := w3 i t (get_left g)
        have hi := (List.getElem?_eq_some_iff.mp g).1
        rcases get_push hu with g2 | ⟨g2, _⟩
        · refine ⟨u, get_left g2, ?_⟩
          have hne : i ≠ (δ1 ++ z.e).length := by omega
          simp only [hne, if_false]
          exact ow
        · omega
      · cases g'
        subst g
        refine ⟨y, by rw [← ln']; exact get_top, ?_⟩
        simp only [if_true]
        exact h7
end
/-- a def that changes none of its arguments, by its body -/
theorem rd_okF {P : Program} {w : World} {K : PySem.W.Frag} {mg : Str → Option Value} {base : Heap} {x qual : Str} {st : Stmt} {f : Addr} {fd : FuncData} {N params : List Str} {k : Nat} (m n : Nat) (fc : List D → (T → Prop) → Prop) (F : Fun K x qual st f fd) (S : FnScope N params (defScope st)) (hm : params.length = m) (hN : N.length = m + n)
    (hbody : ∀ (cdv : Value) (A : Around) (outer : List PySem.Env) (s : Shared) (H : Hp) (E : XK), Room k (A.deeper (envOfC qual (defScope st) s.heap.objs.size f cdv)) →
      ∃ t, PSs (cxOf CX0 P w K mg base N qual (defScope st) f cdv A outer s H E).nox (defBody st) t ∧ ∀ (ds : List D) (Q : T → Prop), fc ds Q → ds.length = m → Sd K [] t (ds.map (fun d => some (T.d d)) ++ List.replicate n none) { nx := fun _ => Q (.d .non), rt := fun τ _ => Q τ }) :
    FnOk P w K mg base CX0 (k + 1) f fd params (spOf K (rdC m fc)) := by
  refine (con_ok [] n F S (by rw [hN, hm]) (fun ts Q h => ?_) (fun ts Q h k t hk _ => ?_) fun cdv A outer s H E hr => ?_)
  · obtain ⟨ds, rfl, hl, _⟩ := h
    rw [List.length_map, hl, hm]
  · obtain ⟨ds, rfl, _⟩ := h
    rw [List.getElem?_map] at hk
    cases e : ds[k]? with
    | none => rw [e] at hk; cases hk
    | some x => rw [e] at hk; cases hk; exact ⟨x, rfl⟩
  · obtain ⟨t, ht, hb⟩ := hbody cdv A outer s H E hr
    refine ⟨t, ht, fun ts Q h => ?_⟩
    obtain ⟨ds, rfl, hl, hf⟩ := h
    have := hb ds _ hf hl
    rw [List.map_map]
    intro z M σ H r E hE
    refine this z M σ H r E ⟨fun M' σ' H δ a1 a2 a3 a4 => hE.nx M' σ' H δ a1 a2 a3 ⟨fun k hk => by simp at hk, by rw [outsOf_nil]; exact a4⟩, fun M' σ' v H δ τ a1 a2 a3 a4 => hE.rt M' σ' v H δ τ a1 a2 a3 ⟨fun k hk => by simp at hk, by rw [outsOf_nil]; exact a4⟩, fun _ _ _ _ _ _ _ q => q.elim, fun _ _ _ _ _ _ _ q => q.elim⟩
/-! keyword calls -/
def gK (n : Nat) (perm : List Nat) {α : Type} (us ws : List α) : List α := if us.length = 0 ∧ ws.length = n then perm.filterMap (fun i => ws[i]?) else []
theorem vals_get {vs : List V} {us : List Value} (h : Vals vs us) (i : Nat) : (vs[i]? = none ∧ us[i]? = none) ∨ ∃ v u, vs[i]? = some v ∧ us[i]? = some u ∧ RelV v u := by
  induction h generalizing i with
  | nil => exact .inl ⟨rfl, rfl⟩
  | cons r _ ih =>
    cases i with
    | zero => exact .inr ⟨_, _, rfl, rfl, r⟩
    | succ i => exact ih i
theorem vals_perm {vs : List V} {us : List Value} (h : Vals vs us) : ∀ perm : List Nat, Vals (perm.filterMap fun i => vs[i]?) (perm.filterMap fun i => us[i]?)
  | [] => .nil
  | i :: r => by
    have ih := vals_perm h r
    rcases vals_get h i with ⟨h1, h2⟩ | ⟨v, u, h1, h2, hr⟩
    · rw [List.filterMap_cons, List.filterMap_cons, h1, h2]
      exact ih
    · rw [List.filterMap_cons, List.filterMap_cons, h1, h2]
      exact .cons hr ih
theorem kb_of {K : PySem.W.Frag} {x qual : Str} {st : Stmt} {f : Addr} {fd : FuncData} {ps ks : List Str} {n : Nat} {perm : List Nat} (F : Fun K x qual st f fd) (hp : 0 < ps.length)
    (h : ∀ (kV doc pm : Value) (an : Option Addr) (cdv ct : Value) (ws : List Value), ws.length = n → bindArgs (PySem.W.fnOf x qual (defArgs st) (defBody st) (defScope st) .none kV doc pm an cdv ct) ⟨[], ks.zip ws⟩ = pure (ps.zip (perm.filterMap fun i => ws[i]?))) : KBinds K fd ps ks (gK n perm) (gK n perm) := by
  obtain ⟨oc, od, kV, doc, pm, an, cdv, ct, osl, rfl, lk, hcd⟩ := F.ex
  refine ⟨fun s us ws _ hl => ?_, fun {vs us zs ws} r rz => ?_⟩
  · unfold gK at hl ⊢
    by_cases hc : us.length = 0 ∧ ws.length = n
    · rw [if_pos hc]
      obtain ⟨h1, h2⟩ := hc
      have : us = [] := List.length_eq_zero_iff.mp h1
      subst this
      exact .of_eq (h kV doc pm an cdv ct ws h2)
    · rw [if_neg hc] at hl
      simp at hl
      omega
  · unfold gK
    rw [r.length, rz.length]
    split
    · exact vals_perm rz perm
    · exact .nil
theorem CalK.mk' {P : Program} {w : World} {K : PySem.W.Frag} {mg : Str → Option Value} {base : Heap} {k : Nat} {x qual : Str} {st : Stmt} {f : Addr} {fd : FuncData} {ps ks : List Str} {n : Nat} {perm : List Nat} {c : Con} (F : Fun K x qual st f fd) (g : mg x = some (.ref f)) (h : FnOk P w K mg base CX0 k f fd ps (spOf K c)) (b : KBinds K fd ps ks (gK n perm) (gK n perm)) : CalK P w K mg base k x ps ks (gK n perm) c := ⟨f, fd, _, h, g, F.kp, b⟩
/-! the law's own call -/
theorem law_sp {K : PySem.W.Frag} {H : Hp} {a : Addr} {ns : List Int} {fl : List TV.D → (T → Prop) → Prop} (hS : SqL K H a (ns.map V.int)) (h : ∀ Q : T → Prop, Q (.d (.bl true)) → fl [.scr (ns.map TV.D.int)] Q) : spOf K (rdC 1 fl) [.ref a] H (fun v _ => v = .bl true) fun _ _ _ => False := by
  refine ⟨H, [.d (.scr (ns.map TV.D.int))], ⟨Same.refl H, rfl, fun _ _ => False, fun _ _ _ z => z.elim, fun _ _ z => z.elim, fun i t ht => ?_⟩, [.scr (ns.map TV.D.int)], rfl, rfl, h _ ⟨rfl, fun M' v H' s r => ?_⟩⟩
  · rcases i with _ | i
    · simp at ht
      subst ht
      exact ⟨.ref a, rfl, a, ns.map V.int, rfl, hS, RpL.ints ns⟩
    · simp at ht
  · obtain ⟨_, _, ω, _, _, h3⟩ := r
    obtain ⟨u, hu, ow⟩ := h3 1 (.d (.bl true)) rfl
    have hu : some (some v) = some (some u) := hu
    cases hu
    exact ow
theorem has_bind {K : PySem.W.Frag} {x : Str} {st : Stmt} {f : Addr} {oc : Value} {od an : Option Addr} {osl : Array (Option Value)} {kV doc pm cdv ct : Value} {ps : List Str} (l : K.lookup f = some ⟨oc, od, .func (PySem.W.fnOf x x (defArgs st) (defBody st) (defScope st) .none kV doc pm an cdv ct), osl⟩) (c : PySem.W.codeIn K cdv x = true) (k : PySem.W.keepIn K (.ref f) = true)
    (hb : ∀ (kV doc pm : Value) (an : Option Addr) (cdv ct : Value) (us : List Value), us.length = ps.length → bindArgs (PySem.W.fnOf x x (defArgs st) (defBody st) (defScope st) .none kV doc pm an cdv ct) ⟨us, []⟩ = pure (ps.zip us)) : L2.Binds K (PySem.W.fnOf x x (defArgs st) (defBody st) (defScope st) .none kV doc pm an cdv ct) ps [] := (fun_mk l c k).binds hb
end TV

namespace TV
open PySem PySem.Spec PyProof.Rows L2
theorem ksrev {X : Cx} (K : PySem.W.Frag) {b : Bool} (hK : X.K = K := by rfl) : CallRK X (.builtin "sorted") [Str.ofString "reverse"] (rSortedKw K b [.bl b]) := hK ▸ cr_sortedRev
section
variable {K : PySem.W.Frag} {δ δ1 : Env} {ta : TE}
theorem rev_one {a : List Int} {ns : List Int} (p : a.Perm ns) (h : a.Pairwise (· ≥ ·)) : a = (sortI ns).reverse := by
  have h1 : a.reverse = sortI ns := sorted_one ((List.reverse_perm a).trans (p.trans (sortI_perm ns).symm)) (List.pairwise_reverse.mpr h) (sortI_sorted ns)
  rw [← h1, List.reverse_reverse]
theorem ro_sortedRev {r : Arg} {ns : List Int} (ha : Rd K ta δ r δ1) (hv : viewL δ1 r = some (ns.map TV.D.int)) : Ro K (tCKw (rSortedKw K true [.bl true]) (tCons ta tNil) (tCons (tC (.bl true)) tNil)) δ (.ls ((sortI ns).reverse.map TV.D.int)) δ1 := fun z M σ H r0 Q q =>
  ha z M σ H r0 _ fun M1 v H1 e1 r1 p1 => by
    obtain ⟨a, vs, rfl, h1, h2⟩ := r1.view hv p1
    rw [h2.ints_of] at h1
    refine ⟨a, ns, rfl, rfl, h1, fun ns' p hp ho hn => q M1 _ _ e1 ?_⟩
    rw [rev_one hp ho]
    exact r1.pushNew hn trivial fun P pp => ⟨p, _, rfl, pp, upd_same, RpL.ints _⟩
end
end TV

namespace TV
open PySem PySem.Spec PyProof.Rows L2
theorem bits_log {z : Int} (h : Builtin.Int.intBits z ≤ 1048576) : z.natAbs.log2 < 2000000 := by
  unfold Builtin.Int.intBits at h
  split at h
  · next e =>
    have : z = 0 := by simpa using e
    subst this
    decide
  · omega
end TV

namespace TV
open PySem PySem.Spec PyProof.Rows L2
section
variable {K : PySem.W.Frag} {ps : List Nat} {δ δ1 δ2 δ3 : Env} {ta tb te : TE} {tt tu : TT} {t u : TS} {D : EndT}
theorem pd_ixX {ds : List TV.D} {k : Int} {x : TV.D} (ha : Pd K ta δ (.lst ds)) (hb : Pd K tb δ (.int k)) (hx : atI ds k = some x) : Pd K (tOp (rIx K) ta tb) δ x := fun z M σ H r Q q =>
  ha z M σ H r _ fun M1 v H1 e1 s1 r1 p1 => hb z M1 σ H1 r1 _ fun M2 w H2 e2 s2 r2 p2 => by
    obtain ⟨a, vs, h1, h2, h3⟩ := p1.mono e2
    obtain ⟨z, hz, rz⟩ := atI_rp h3 hx
    exact .inl ⟨a, vs, k, z, h1, p2, .inl (.inl (r2.ex _ _ h2)), hz, q M2 z H2 (e1.trans e2) (s1.trans s2) r2 rz⟩
theorem pd_ixSX {i : Nat} {ds : List TV.D} {k : Int} {x : TV.D} (h : δ[i]? = some (some (.ls ds))) (hb : Pd K tb δ (.int k)) (hx : atI ds k = some x) : Pd K (tOp (rIx K) (tVar i) tb) δ x := fun z M σ H r Q q => by
  obtain ⟨v, hv, _⟩ := r.at h
  refine ⟨v, hv, hb z M σ H r _ fun M2 w H2 e2 s2 r2 p2 => ?_⟩
  obtain ⟨a, vs, h1, h2, h3⟩ := r2.view (x := .sl i) (ds := ds) (by simp only [viewL, h]) hv
  obtain ⟨z, hz, rz⟩ := atI_rp h3 hx
  exact .inl ⟨a, vs, k, z, h1, p2, h2, hz, q M2 z H2 e2 s2 r2 rz⟩
theorem sd_append2X {i : Nat} {tk : TE} {k : Int} {j : Nat} {x : TV.D} {dss : List (List TV.D)} {ds : List TV.D} (h0 : δ[i]? = some (some (.ll dss))) (hk : Pd K tk δ (.int k)) (h : Pd K te δ x) (hj : ixN dss.length k = some j) (hd : dss[j]? = some ds) (hl : ds.length < 100000)
    (hn : D.nx (δ.set i (some (.ll (dss.set j (ds ++ [x])))))) : Sd K ps (tDrop (tBM K "list" rAppend (tOp (rIx K) (tVar i) tk) (tCons te tNil))) δ D := fun z M σ H r E hE => by
  obtain ⟨a, as, hv0, g1, nd, g2⟩ := r.llAt h0
  refine ⟨.ref a, hv0, hk z M σ H r _ fun M1 w H1 e1 s1 r1 q1 => ?_⟩
  obtain ⟨b, vs, hb, hB, hr⟩ := g2.get hd
  have q1 : w = .int k := q1
  refine .inl ⟨a, as.map V.ref, k, .ref b, rfl, q1, .inl (.inl (s1 _ _ g1)), ?_, .inl ⟨rfl, _, .inl (.inl (s1 _ _ hB))⟩, h z M1 σ H1 r1 _ fun M2 y H2 e2 s2 r2 py => ?_⟩
  · show (ixN (as.map V.ref).length k).bind _ = _
    rw [List.length_map, ← g2.length, hj]
    show (as.map V.ref)[j]? = _
    rw [List.getElem?_map, hb]
    rfl
  · refine ⟨b, vs, y, rfl, rfl, s2 _ _ (s1 _ _ hB), by rw [← hr.length]; exact len_ok hl, hE.nx M2 σ _ _ (e1.trans e2) (r2.write h0 hv0 trivial fun P ow => ?_) Keep.refl hn⟩
    obtain ⟨a', as', ea, p1, p2, nd', g1', g2'⟩ := ow
    cases ea
    have g1q := g1'
    rw [s2 _ _ (s1 _ _ g1)] at g1'
    have eas : as = as' := by
      have := HO.lst.inj (Option.some.inj g1')
      exact refs_inj this
    subst eas
    obtain ⟨b', vs', hb', hB', hr'⟩ := g2'.get hd
    rw [hb] at hb'
    cases hb'
    have hbm : b ∈ as := List.mem_of_getElem? hb
    have nab : a ≠ b := by
      rintro rfl
      exact (List.nodup_cons.mp nd).1 hbm
    refine ⟨p2 b hbm, a, as, rfl, p1, p2, nd, by rw [upd_ne nab]; exact g1q, g2'.set (List.nodup_cons.mp nd).2 hb (RpL.append ?_ (RpL.one py))⟩
    rw [s2 _ _ (s1 _ _ hB)] at hB'
    cases hB'
    exact hr'
end
end TV

namespace TV
open PySem PySem.Spec PyProof.Rows L2
section
variable {K : PySem.W.Frag} {ps : List Nat} {δ δ1 δ2 δ3 : Env} {ta tb te : TE} {tt tu : TT} {t u : TS} {D : EndT}
/-- x = xs[k], an inner list, and at once x.append(e): x is forgotten, xs is changed -/
theorem sd_alias {i j0 : Nat} {tk : TE} {k : Int} {j : Nat} {x : TV.D} {dss : List (List TV.D)} {ds : List TV.D} (h0 : δ[i]? = some (some (.ll dss))) (hij : j0 ≠ i) (hp : j0 ∉ ps) (hlt : j0 < δ.length) (hk : Pd K tk δ (.int k)) (h : Pd K te (δ.set j0 none) x) (hj : ixN dss.length k = some j) (hd : dss[j]? = some ds) (hl : ds.length < 100000)
    (hn : Sd K ps u ((δ.set j0 none).set i (some (.ll (dss.set j (ds ++ [x]))))) D) : Sd K ps (tSeq (tAsg (tOp (rIx K) (tVar i) tk) (gName j0)) (tSeq (tDrop (tBM K "list" rAppend (tVar j0) (tCons te tNil))) u)) δ D := fun z M σ H r E hE => by
  obtain ⟨a, as, hv0, g1, nd, g2⟩ := r.llAt h0
  refine ⟨.ref a, hv0, hk z M σ H r _ fun M1 w H1 e1 s1 r1 q1 => ?_⟩
  obtain ⟨b, vs, hb, hB, hr⟩ := g2.get hd
  have q1 : w = .int k := q1
  refine .inl ⟨a, as.map V.ref, k, .ref b, rfl, q1, .inl (.inl (s1 _ _ g1)), ?_, ?_⟩
  · show (ixN (as.map V.ref).length k).bind _ = _
    rw [List.length_map, ← g2.length, hj]
    show (as.map V.ref)[j]? = _
    rw [List.getElem?_map, hb]
    rfl
  have r1' : RR K z M1 (σ.set j0 (some (.ref b))) H1 (δ.set j0 none) := (r1.less (less_none (i := j0))).other (by simp) fun q t hq => by
    have : q ≠ j0 := by
      rintro rfl
      rw [List.getElem?_set_self hlt] at hq
      cases hq
    rw [List.getElem?_set_ne (Ne.symm this)]
  have h0' : (δ.set j0 none)[i]? = some (some (.ll dss)) := by rw [List.getElem?_set_ne hij]; exact h0
  have hv0' : (σ.set j0 (some (V.ref b)))[i]? = some (some (.ref a)) := by rw [List.getElem?_set_ne hij]; exact hv0
  have hsl : σ.length = δ.length := by
    have := r.ln
    exact this
  have hvj : (σ.set j0 (some (V.ref b)))[j0]? = some (some (.ref b)) := List.getElem?_set_self (by omega)
  refine ⟨.ref b, hvj, .inl ⟨rfl, _, .inl (.inl (s1 _ _ hB))⟩, h z M1 _ H1 r1' _ fun M2 y H2 e2 s2 r2 py => ?_⟩
  refine ⟨b, vs, y, rfl, rfl, s2 _ _ (s1 _ _ hB), by rw [← hr.length]; exact len_ok hl, hn z M2 _ _ ?_ E (hE.on (e1.trans e2) (Keep.set hp))⟩
  refine r2.write h0' hv0' trivial fun P ow => ?_
  obtain ⟨a', as', ea, p1, p2, nd', g1', g2'⟩ := ow
  cases ea
  have g1q := g1'
  rw [s2 _ _ (s1 _ _ g1)] at g1'
  have eas : as = as' := by
    have := HO.lst.inj (Option.some.inj g1')
    exact refs_inj this
  subst eas
  obtain ⟨b', vs', hb', hB', hr'⟩ := g2'.get hd
  rw [hb] at hb'
  cases hb'
  have hbm : b ∈ as := List.mem_of_getElem? hb
  have nab : a ≠ b := by
    rintro rfl
    exact (List.nodup_cons.mp nd).1 hbm
  refine ⟨p2 b hbm, a, as, rfl, p1, p2, nd, by rw [upd_ne nab]; exact g1q, g2'.set (List.nodup_cons.mp nd).2 hb (RpL.append ?_ (RpL.one py))⟩
  rw [s2 _ _ (s1 _ _ hB)] at hB'
  cases hB'
  exact hr'
end
end TV

namespace TV
open PySem PySem.Spec PyProof.Rows L2
/-- all slots as data that stand still -/
def frzE (δ : Env) : Env := δ.map fun o => o.bind fun t => (fz t).map T.d
theorem frzE_get {δ : Env} {i : Nat} {t : T} (h : (frzE δ)[i]? = some (some t)) : ∃ t0 x, δ[i]? = some (some t0) ∧ fz t0 = some x ∧ t = .d x := by
  unfold frzE at h
  rw [List.getElem?_map] at h
  cases e : δ[i]? with
  | none => rw [e] at h; cases h
  | some o =>
    rw [e] at h
    cases o with
    | none => cases h
    | some t0 =>
      have h : (fz t0).map T.d = some t := Option.some.inj h
      cases ez : fz t0 with
      | none => rw [ez] at h; cases h
      | some x => rw [ez] at h; cases h; exact ⟨t0, x, rfl, ez, rfl⟩
section
variable {K : PySem.W.Frag} {δ : Env} {te : TE}
theorem R.stand {M H : Hp} {σ : L2.St} (r : R K M σ H δ) : R K H σ H (frzE δ) := by
  obtain ⟨ex, ln, ω, w1, w2, w3⟩ := r
  refine ⟨Same.refl H, by unfold frzE; simpa using ln, fun _ _ => False, fun _ _ _ z => z.elim, fun _ _ z => z.elim, fun i t hi => ?_⟩
  obtain ⟨t0, x, h1, h2, rfl⟩ := frzE_get hi
  obtain ⟨v, hv, ow⟩ := w3 i t0 h1
  exact ⟨v, hv, ow.freeze ex (fun b u _ q => q) (fun b xs q => q) h2⟩
theorem R.back {M H M' H' : Hp} {σ : L2.St} (r : R K M σ H δ) (s1 : Same H M') (s2 : Same M' H') : Same M (tx M H') ∧ R K (tx M H') σ H' δ := by
  obtain ⟨ex, ln, ω, w1, w2, w3⟩ := r
  have sHH : Same H H' := s1.trans s2
  have sMH : Same M H' := ex.trans sHH
  have eq : ∀ i a, ω i a → H' a = H a := fun i a h => by
    obtain ⟨o, ho⟩ := mut_some (w2 i a h).2
    rw [ho]
    exact sHH a o ho
  refine ⟨tx_same sMH, tx_sub sMH, ln, ω, w1, fun i a h => ⟨tx_none (w2 i a h).1 (by rw [eq i a h]; exact (w2 i a h).2), by rw [eq i a h]; exact (w2 i a h).2⟩, fun i t hi => ?_⟩
  obtain ⟨v, hv, ow⟩ := w3 i t hi
  exact ⟨v, hv, ow.mono (tx_same sMH) (fun b hb => hb) (fun b hb => eq i b hb) fun b xs q => sHH b _ q⟩
/-- an expression that only reads, seen with all slots standing still -/
theorem rd_stand {x : TV.D} (h : Rd K te (frzE δ) (.d x) (frzE δ)) (hx : flatD x = true) : Rd K te δ (.d x) δ := fun z M σ H r Q q => by
  refine h ⟨z.s, frzE z.e⟩ H σ H ?_ Q fun M' v H' e r' p => ?_
  · have := r.r.stand
    unfold frzE at this
    rw [List.map_append] at this
    exact ⟨this, by unfold frzE; simpa using r.ln⟩
  · obtain ⟨a, b⟩ := r.r.back e r'.r.ex
    exact q (tx M H') v H' a ⟨b, r.ln⟩ (Rp.tx r'.r.ex hx p)
end
end TV

namespace TV
open PySem PySem.Spec PyProof.Rows L2
section
variable {K : PySem.W.Frag} {ps : List Nat} {δ δ1 δ2 δ3 : Env} {ta tb te : TE} {tt tu : TT} {t u : TS} {D : EndT}
/-- .. as the last two statements of a block -/
theorem sd_alias1 {i j0 : Nat} {tk : TE} {k : Int} {j : Nat} {x : TV.D} {dss : List (List TV.D)} {ds : List TV.D} (h0 : δ[i]? = some (some (.ll dss))) (hij : j0 ≠ i) (hp : j0 ∉ ps) (hlt : j0 < δ.length) (hk : Pd K tk δ (.int k)) (h : Pd K te (δ.set j0 none) x) (hj : ixN dss.length k = some j) (hd : dss[j]? = some ds) (hl : ds.length < 100000)
    (hn : D.nx ((δ.set j0 none).set i (some (.ll (dss.set j (ds ++ [x])))))) : Sd K ps (tSeq (tAsg (tOp (rIx K) (tVar i) tk) (gName j0)) (tDrop (tBM K "list" rAppend (tVar j0) (tCons te tNil)))) δ D := fun z M σ H r E hE => by
  obtain ⟨a, as, hv0, g1, nd, g2⟩ := r.llAt h0
  refine ⟨.ref a, hv0, hk z M σ H r _ fun M1 w H1 e1 s1 r1 q1 => ?_⟩
  obtain ⟨b, vs, hb, hB, hr⟩ := g2.get hd
  have q1 : w = .int k := q1
  refine .inl ⟨a, as.map V.ref, k, .ref b, rfl, q1, .inl (.inl (s1 _ _ g1)), ?_, ?_⟩
  · show (ixN (as.map V.ref).length k).bind _ = _
    rw [List.length_map, ← g2.length, hj]
    show (as.map V.ref)[j]? = _
    rw [List.getElem?_map, hb]
    rfl
  have r1' : RR K z M1 (σ.set j0 (some (.ref b))) H1 (δ.set j0 none) := (r1.less (less_none (i := j0))).other (by simp) fun q t hq => by
    have : q ≠ j0 := by
      rintro rfl
      rw [List.getElem?_set_self hlt] at hq
      cases hq
    rw [List.getElem?_set_ne (Ne.symm this)]
  have h0' : (δ.set j0 none)[i]? = some (some (.ll dss)) := by rw [List.getElem?_set_ne hij]; exact h0
  have hv0' : (σ.set j0 (some (V.ref b)))[i]? = some (some (.ref a)) := by rw [List.getElem?_set_ne hij]; exact hv0
  have hsl : σ.length = δ.length := by
    have := r.ln
    exact this
  have hvj : (σ.set j0 (some (V.ref b)))[j0]? = some (some (.ref b)) := List.getElem?_set_self (by omega)
  refine ⟨.ref b, hvj, .inl ⟨rfl, _, .inl (.inl (s1 _ _ hB))⟩, h z M1 _ H1 r1' _ fun M2 y H2 e2 s2 r2 py => ?_⟩
  refine ⟨b, vs, y, rfl, rfl, s2 _ _ (s1 _ _ hB), by rw [← hr.length]; exact len_ok hl, hE.nx M2 _ _ _ (e1.trans e2) ?_ (Keep.set hp) hn⟩
  refine r2.write h0' hv0' trivial fun P ow => ?_
  obtain ⟨a', as', ea, p1, p2, nd', g1', g2'⟩ := ow
  cases ea
  have g1q := g1'
  rw [s2 _ _ (s1 _ _ g1)] at g1'
  have eas : as = as' := by
    have := HO.lst.inj (Option.some.inj g1')
    exact refs_inj this
  subst eas
  obtain ⟨b', vs', hb', hB', hr'⟩ := g2'.get hd
  rw [hb] at hb'
  cases hb'
  have hbm : b ∈ as := List.mem_of_getElem? hb
  have nab : a ≠ b := by
    rintro rfl
    exact (List.nodup_cons.mp nd).1 hbm
  refine ⟨p2 b hbm, a, as, rfl, p1, p2, nd, by rw [upd_ne nab]; exact g1q, g2'.set (List.nodup_cons.mp nd).2 hb (RpL.append ?_ (RpL.one py))⟩
  rw [s2 _ _ (s1 _ _ hB)] at hB'
  cases hB'
  exact hr'
end
end TV

namespace TV
open PySem PySem.Spec PyProof.Rows L2
section
variable {K : PySem.W.Frag} {ps : List Nat} {δ δ1 δ2 δ3 : Env} {ta tb te : TE} {tt tu : TT} {t u : TS} {D : EndT}
/-! calls, compares, tests in a shape for walking by tactic -/
def unD : List T → Option (List TV.D)
  | [] => some []
  | .d x :: r => match unD r with
    | some ds => some (x :: ds)
    | none => none
  | _ :: _ => none
theorem unD_eq : ∀ {ts : List T} {ds : List TV.D}, unD ts = some ds → ts = ds.map T.d
  | [], _, h => by cases h; rfl
  | .d x :: r, ds, h => by
    unfold unD at h
    split at h
    · rename_i ds' e
      cases h
      rw [unD_eq e]
      rfl
    · cases h
  | .ls _ :: _, _, h => by cases h
  | .ll _ :: _, _, h => by cases h
  | .dk _ :: _, _, h => by cases h
  | .dt _ :: _, _, h => by cases h
  | .pr _ _ :: _, _, h => by cases h
theorem rd_callQ {E : XK} {ta : TA} {rs : List Arg} {ts : List T} {ds : List TV.D} {x : TV.D} {m : Nat} {fc : List TV.D → (T → Prop) → Prop} (ha : Ra K ta δ rs δ1) (ht : argsT δ1 none rs = some ts) (hd : unD ts = some ds) (hl : ds.length = m) (h : ∀ Q : T → Prop, Q (.d x) → fc ds Q) (hf : flatD x = true) : Rd K (tCall (spOf K (rdC m fc)) [] E ta) δ (.d x) δ1 :=
  rd_callR (E := E) ha (ht.trans (congrArg some (unD_eq hd))) h hl hf
theorem ro_callQ {E : XK} {ta : TA} {rs : List Arg} {ts : List T} {ds : List TV.D} {τ : T} {m : Nat} {fc : List TV.D → (T → Prop) → Prop} (ha : Ra K ta δ rs δ1) (ht : argsT δ1 none rs = some ts) (hd : unD ts = some ds) (hl : ds.length = m) (h : ∀ Q : T → Prop, Q τ → fc ds Q) (hf : flatT τ = true) : Ro K (tCall (spOf K (rdC m fc)) [] E ta) δ τ δ1 :=
  ro_callR (E := E) ha (ht.trans (congrArg some (unD_eq hd))) h hl hf
theorem gK_args {M : Hp} {σ : L2.St} {rs : List Arg} {vs : List V} (h : ArgsOk K M σ rs vs) (n : Nat) : ∀ {perm : List Nat} {rs' : List Arg}, perm.map (fun i => rs[i]?) = rs'.map some → ArgsOk K M σ rs' (perm.filterMap fun i => vs[i]?)
  | [], [], _ => rfl
  | [], _ :: _, e => by cases e
  | _ :: _, [], e => by cases e
  | i :: p, r :: rs', e => by
    simp only [List.map_cons, List.cons.injEq] at e
    obtain ⟨v, hv, ok⟩ := h.get e.1
    rw [List.filterMap_cons, hv]
    exact ⟨v, _, rfl, ok, gK_args h n e.2⟩
def pick (rs : List Arg) : List Nat → Option (List Arg)
  | [] => some []
  | i :: p => match rs[i]?, pick rs p with
    | some r, some q => some (r :: q)
    | _, _ => none
theorem pick_eq {rs : List Arg} : ∀ {perm : List Nat} {rs' : List Arg}, pick rs perm = some rs' → perm.map (fun i => rs[i]?) = rs'.map some
  | [], _, h => by cases h; rfl
  | i :: p, rs', h => by
    unfold pick at h
    split at h
    · rename_i r q e1 e2
      cases h
      rw [List.map_cons, List.map_cons, e1, pick_eq e2]
    · cases h
theorem ro_callKQ {E : XK} {n m : Nat} {perm : List Nat} {tk : TA} {rs rs' : List Arg} {ts : List T} {ds : List TV.D} {τ : T} {fc : List TV.D → (T → Prop) → Prop} (ha : Ra K tk δ rs δ1) (hg : pick rs perm = some rs') (hn : rs.length = n) (ht : argsT δ1 none rs' = some ts) (hd : unD ts = some ds) (hl : ds.length = m) (h : ∀ Q : T → Prop, Q τ → fc ds Q) (hf : flatT τ = true) : Ro K (tCallK0 (spOf K (rdC m fc)) (gK n perm) E tk) δ τ δ1 :=
  ro_callK (c := rdC m fc) (E := E) (gV := gK n perm) (rs := rs) (rs' := rs') (ts := ts) (outs := ts) (τ := τ) ha (fun M σ vs ok => by
    have l := ok.length
    have : gK n perm [] vs = perm.filterMap fun i => vs[i]? := if_pos ⟨rfl, by omega⟩
    rw [this]
    exact gK_args ok n (pick_eq hg)) ht (fun Q q => ⟨ds, unD_eq hd, hl, h _ q⟩) rfl hf
theorem Ro.d {x : TV.D} (h : Ro K te δ (.d x) δ1) : Rd K te δ (.d x) δ1 := Ro.frz h rfl
theorem eqv_refl (x : TV.D) : PyData.eqv (py x) (py x) = true := PySem.SeqAt.eqv_refl_plain _ (py_plain x)
theorem rd_eqSame {m : Nat} {r s : Arg} {x : TV.D} (ha : Rd K ta δ r δ1) (hb : Rd K tb δ1 s δ2) (hx : TV.datA δ2 r = some x) (hy : TV.datA δ2 s = some x) (ox : okD 16 x = true) : Rd K (tOp (rEqX K m) ta tb) δ (.d (.bl true)) δ2 :=
  Rd.is (rd_eqXP ha hb hx hy ox (okD_py ox)) (by rw [eqv_refl])
theorem rd_neSame {m : Nat} {r s : Arg} {x : TV.D} (ha : Rd K ta δ r δ1) (hb : Rd K tb δ1 s δ2) (hx : TV.datA δ2 r = some x) (hy : TV.datA δ2 s = some x) (ox : okD 16 x = true) : Rd K (tOp (rNeX K m) ta tb) δ (.d (.bl false)) δ2 :=
  Rd.is (rd_neXP ha hb hx hy ox (okD_py ox)) (by rw [eqv_refl]; rfl)
theorem eqvI : ∀ a b : List Int, PyData.eqvAll (pyL (a.map TV.D.int)) (pyL (b.map TV.D.int)) = decide (a = b)
  | [], [] => rfl
  | [], _ :: _ => rfl
  | _ :: _, [] => rfl
  | x :: a, y :: b => by
    show (decide (x = y) && PyData.eqvAll _ _) = _
    rw [eqvI a b]
    by_cases h : x = y <;> by_cases g : a = b <;> simp [h, g]
theorem okI (ns : List Int) : okD 16 (.lst (ns.map TV.D.int)) = true := by
  show List.all _ (okD 15) = true
  rw [List.all_eq_true]
  intro x hx
  obtain ⟨y, _, rfl⟩ := List.mem_map.mp hx
  rfl
theorem okIt (ns : List Int) : okD 16 (.tup (ns.map TV.D.int)) = true := by
  show List.all _ (okD 15) = true
  rw [List.all_eq_true]
  intro x hx
  obtain ⟨y, _, rfl⟩ := List.mem_map.mp hx
  rfl
theorem okB (ns : List Bool) : okD 16 (.lst (ns.map TV.D.bl)) = true := by
  show List.all _ (okD 15) = true
  rw [List.all_eq_true]
  intro x hx
  obtain ⟨y, _, rfl⟩ := List.mem_map.mp hx
  rfl
theorem okII (nss : List (List Int)) : okD 16 (.lst ((nss.map fun ns => ns.map TV.D.int).map TV.D.lst)) = true := by
  show List.all _ (okD 15) = true
  rw [List.all_eq_true]
  intro x hx
  obtain ⟨y, hy, rfl⟩ := List.mem_map.mp hx
  obtain ⟨z, _, rfl⟩ := List.mem_map.mp hy
  show List.all _ (okD 14) = true
  rw [List.all_eq_true]
  intro x hx
  obtain ⟨y, _, rfl⟩ := List.mem_map.mp hx
  rfl
theorem rd_eqLI {m : Nat} {r s : Arg} {a b : List Int} (ha : Rd K ta δ r δ1) (hb : Rd K tb δ1 s δ2) (hx : TV.datA δ2 r = some (.lst (a.map TV.D.int))) (hy : TV.datA δ2 s = some (.lst (b.map TV.D.int))) : Rd K (tOp (rEqX K m) ta tb) δ (.d (.bl (decide (a = b)))) δ2 :=
  Rd.is (rd_eqXP ha hb hx hy (okI a) (okD_py (okI b))) (by rw [← eqvI]; rfl)
theorem rd_neLI {m : Nat} {r s : Arg} {a b : List Int} (ha : Rd K ta δ r δ1) (hb : Rd K tb δ1 s δ2) (hx : TV.datA δ2 r = some (.lst (a.map TV.D.int))) (hy : TV.datA δ2 s = some (.lst (b.map TV.D.int))) : Rd K (tOp (rNeX K m) ta tb) δ (.d (.bl (!decide (a = b)))) δ2 :=
  Rd.is (rd_neXP ha hb hx hy (okI a) (okD_py (okI b))) (by rw [← eqvI]; rfl)
theorem eqv_nil (ds : List TV.D) : PyData.eqv (py (.lst ds)) (py (.lst [])) = ds.isEmpty := by
  cases ds with
  | nil => rfl
  | cons d r => rfl
theorem rd_eqNil {m : Nat} {r s : Arg} {ds : List TV.D} (ha : Rd K ta δ r δ1) (hb : Rd K tb δ1 s δ2) (hx : TV.datA δ2 r = some (.lst ds)) (hy : TV.datA δ2 s = some (.lst [])) (ox : okD 16 (.lst ds) = true) : Rd K (tOp (rEqX K m) ta tb) δ (.d (.bl ds.isEmpty)) δ2 :=
  Rd.is (rd_eqXP ha hb hx hy ox rfl) (by rw [eqv_nil])
theorem rd_neNil {m : Nat} {r s : Arg} {ds : List TV.D} (ha : Rd K ta δ r δ1) (hb : Rd K tb δ1 s δ2) (hx : TV.datA δ2 r = some (.lst ds)) (hy : TV.datA δ2 s = some (.lst [])) (ox : okD 16 (.lst ds) = true) : Rd K (tOp (rNeX K m) ta tb) δ (.d (.bl (!ds.isEmpty))) δ2 :=
  Rd.is (rd_neXP ha hb hx hy ox rfl) (by rw [eqv_nil])
/-- a test that must be false: the way behind it is never gone -/
theorem sd_chk (h : Rt K tt δ false δ1) (h2 : Sd K ps u δ1 D) : Sd K ps (tIfS tt t u) δ D := sd_if h (fun z => by cases z) fun _ => h2
theorem sd_chkT (h : Rt K tt δ true δ1) (h1 : Sd K ps t δ1 D) : Sd K ps (tIfS tt t u) δ D := sd_if h (fun _ => h1) fun z => by cases z
theorem rt_orF (h : Rt K tt δ false δ1) (g : Rt K tu δ1 false δ1) : Rt K (tOr tt tu) δ false δ1 := rt_or (a := false) (b := false) h fun _ => g
theorem rt_notF (h : Rt K tt δ true δ1) : Rt K (tNot tt) δ false δ1 := rt_not (b := true) h
theorem rt_notT (h : Rt K tt δ false δ1) : Rt K (tNot tt) δ true δ1 := rt_not (b := false) h
theorem rt_andF1 (h : Rt K tt δ false δ1) : Rt K (tAnd tt tu) δ false δ1 := rt_and (a := false) (b := false) h fun z => by cases z
theorem rt_andFa {a : Bool} (h : Rt K tt δ a δ1) (g : Rt K tu δ1 false δ1) : Rt K (tAnd tt tu) δ false δ1 := Rt.is (rt_and (a := a) (b := false) h fun _ => g) (by simp)
/-- what is known of one slot behind a statement, the rest is forgotten or kept -/
theorem sd_mid {α : Type} (i : Nat) (f : α → T) (p : α → Prop) (h : Sd K ps t δ { D with nx := fun δ' => ∃ a, p a ∧ Less (δ.set i (some (f a))) δ' }) (k : ∀ a, p a → Sd K ps u (δ.set i (some (f a))) D) : Sd K ps (tSeq t u) δ D :=
  sd_cut (fun δ' => ∃ a, p a ∧ Less (δ.set i (some (f a))) δ') h fun δ' ⟨a, pa, l⟩ => sd_less (k a pa) l
theorem less_set {i : Nat} {τ : T} (l : Less δ1 δ2) : Less (δ1.set i (some τ)) (δ2.set i (some τ)) := by
  refine ⟨by simp [l.1], fun j s h => ?_⟩
  by_cases e : i = j
  · subst e
    rw [List.getElem?_set] at h ⊢
    rw [if_pos rfl] at h ⊢
    rw [← l.1]
    exact h
  · rw [List.getElem?_set_ne e] at h ⊢
    exact l.2 j s h
theorem less_nones {r : Env} : Less (List.replicate r.length none) r := ⟨by simp, fun j s h => by
  rw [List.getElem?_replicate] at h
  split at h <;> cases h⟩
theorem less_cons {a : Option T} {r r' : Env} (l : Less r' r) : Less (a :: r') (a :: r) := ⟨by simp [l.1], fun j s h => by
  cases j with
  | zero => exact h
  | succ j => exact l.2 j s (by simpa using h)⟩
theorem less_consN {a : Option T} {r r' : Env} (l : Less r' r) : Less (none :: r') (a :: r) := ⟨by simp [l.1], fun j s h => by
  cases j with
  | zero => simp at h
  | succ j => exact l.2 j s (by simpa using h)⟩
theorem less_fin {a : Option T} {r : Env} {n : Nat} (h : r.length = n) : ∃ δ'', Less δ'' (a :: r) ∧ δ'' = a :: List.replicate n none := ⟨_, less_cons less_nones, by rw [h]⟩
/-- a comprehension over range(..) that changes one slot -/
theorem ro_lcS {wi : TI} {g : TG} {vs : List Nat} {items : List TV.D} {srcs : Srcs} (s : Nat) (st : Nat → T) (f : Nat → TV.D) (hw : Wk K wi δ items srcs δ1) (h0 : δ1.set s (some (st 0)) = δ1) (hz : items.length ≤ 100000) (hk : ∀ τ, okS (δ1.set s (some τ)) srcs) (hn : ∀ τ, wipeE (δ1.set s (some τ)) vs = δ1.set s (some τ))
    (hs : ∀ i x, items[i]? = some x → ∃ δx, Gd K (others δ1.length vs) g x (δ1.set s (some (st i))) δx ∧ δx.length = δ1.length ∧ Rt K tt δx true δx ∧ ∃ δ3, Rd K te δx (.d (f i)) δ3 ∧ Less (δ1.set s (some (st (i + 1)))) (wipeE δ3 vs)) : Ro K (tLc wi g tt te vs) δ (.ls ((List.range items.length).map f)) (δ1.set s (some (st items.length))) := by
  refine ro_lc hw (fun i acc δ => δ = δ1.set s (some (st i)) ∧ acc = (List.range i).map f) ⟨h0.symm, rfl⟩ ?_ hz (fun i acc δ p => ?_) (fun i x acc δ hi p => ?_) (fun acc δ p => ?_)
  · have := hn (st 0)
    rw [h0] at this
    exact this
  · rw [p.1]
    exact ⟨hk _, hn _, by simp⟩
  · obtain ⟨rfl, rfl⟩ := p
    obtain ⟨δx, h1, h2, h3, δ3, h4, h5⟩ := hs i x hi
    refine ⟨δx, true, δx, h1, h2, h3, fun _ => ⟨f i, δ3, h4, _, h5, rfl, ?_⟩, fun z => by cases z⟩
    rw [List.range_succ, List.map_append]
    rfl
  · obtain ⟨rfl, rfl⟩ := p
    exact ⟨rfl, Less.refl⟩
end
end TV

namespace TV
open PySem PySem.Spec PyProof.Rows L2
section
variable {K : PySem.W.Frag} {ps : List Nat} {δ δ1 δ2 δ3 : Env} {ta tb te : TE} {tt tu : TT} {t u : TS} {D : EndT}
theorem less_nil : Less [] [] := Less.refl
theorem less_consE {a b : Option T} {r r' : Env} (e : a = b) (l : Less r' r) : Less (a :: r') (b :: r) := e ▸ less_cons l
theorem Less.trans' {a b c : Env} (l : Less a b) (m : Less b c) : Less a c := ⟨l.1.trans m.1, fun i s h => m.2 i s (l.2 i s h)⟩
/-- for: the slots at each item are told by E -/
theorem sd_forE {wi : TI} {g : TG} {tb : TS} {items : List TV.D} {srcs : Srcs} (E : Nat → Env) (hw : Wk K wi δ items srcs δ1) (h0 : Less (E 0) δ1) (hk : ∀ i, okS (E i) srcs)
    (hs : ∀ (i : Nat) (x : TV.D), items[i]? = some x → ∃ δx, Gd K (keepS srcs ++ ps) g x (E i) δx ∧ Sd K (keepS srcs ++ ps) tb δx { D with nx := fun δ' => Less (E (i + 1)) δ', ct := fun δ' => Less (E (i + 1)) δ', bk := D.nx })
    (hd : D.nx (E items.length)) : Sd K ps (tFor wi g tb) δ D := fun z M σ H r Ee hE => by
  have hw' : Wk K wi δ items srcs (E 0) := fun z M σ H r Rk q => hw z M σ H r Rk fun M' J H' e r' it => q M' J H' e (r'.less h0) it
  refine sd_for hw' (fun i δ => δ = E i) rfl (fun i δ p => by rw [p]; exact hk i) (fun i x δ hi p => ?_) (fun δ p => by rw [p]; exact hd) z M σ H r Ee hE
  subst p
  obtain ⟨δx, h1, h2⟩ := hs i x hi
  refine ⟨δx, h1, ?_⟩
  have hf : ∀ δ', Less (E (i + 1)) δ' → Pn (fun i δ => δ = E i) (i + 1) δ' := fun δ' l => ⟨_, l, rfl⟩
  intro z M σ H r Ee hE
  exact h2 z M σ H r Ee ⟨fun M' σ' H' δ' e r' k p => hE.nx M' σ' H' δ' e r' k (hf δ' p), fun M' σ' v H' δ' τ e r' k p => hE.rt M' σ' v H' δ' τ e r' k p, fun M' σ' H' δ' e r' k p => hE.bk M' σ' H' δ' e r' k p, fun M' σ' H' δ' e r' k p => hE.ct M' σ' H' δ' e r' k (hf δ' p)⟩
/-- for: nothing changes but the slots vs, that are forgotten -/
theorem sd_forS {wi : TI} {g : TG} {tb : TS} {items : List TV.D} {srcs : Srcs} (vs : List Nat) (hw : Wk K wi δ items srcs δ1) (hk : okS (wipeE δ1 vs) srcs)
    (hs : ∀ (i : Nat) (x : TV.D), items[i]? = some x → ∃ δx, Gd K (keepS srcs ++ ps) g x (wipeE δ1 vs) δx ∧ Sd K (keepS srcs ++ ps) tb δx { D with nx := fun δ' => Less (wipeE δ1 vs) δ', ct := fun δ' => Less (wipeE δ1 vs) δ', bk := D.nx })
    (hd : D.nx (wipeE δ1 vs)) : Sd K ps (tFor wi g tb) δ D := sd_forE (fun _ => wipeE δ1 vs) hw less_wipe (fun _ => hk) hs hd
/-- for: one slot s changes, besides vs -/
theorem sd_for1 {wi : TI} {g : TG} {tb : TS} {items : List TV.D} {srcs : Srcs} (vs : List Nat) (s : Nat) (st : Nat → T) (hw : Wk K wi δ items srcs δ1) (h0 : (wipeE δ1 vs).set s (some (st 0)) = wipeE δ1 vs) (hk : ∀ i, okS ((wipeE δ1 vs).set s (some (st i))) srcs)
    (hs : ∀ (i : Nat) (x : TV.D), items[i]? = some x → ∃ δx, Gd K (keepS srcs ++ ps) g x ((wipeE δ1 vs).set s (some (st i))) δx ∧ Sd K (keepS srcs ++ ps) tb δx { D with nx := fun δ' => Less ((wipeE δ1 vs).set s (some (st (i + 1)))) δ', ct := fun δ' => Less ((wipeE δ1 vs).set s (some (st (i + 1)))) δ', bk := D.nx })
    (hd : D.nx ((wipeE δ1 vs).set s (some (st items.length)))) : Sd K ps (tFor wi g tb) δ D := sd_forE (fun i => (wipeE δ1 vs).set s (some (st i))) hw (show Less ((wipeE δ1 vs).set s (some (st 0))) δ1 by rw [h0]; exact less_wipe) hk hs hd
end
end TV

namespace TV
open PySem PySem.Spec PyProof.Rows L2
theorem kmindex {X : Cx} (K : PySem.W.Frag) (hK : X.K = K := by rfl) : MtR X "list.index" (rIndex K) := hK ▸ mt_index
section
variable {K : PySem.W.Frag} {ps : List Nat} {δ δ1 δ2 δ3 : Env} {ta tb te : TE} {tt tu : TT} {t u : TS} {D : EndT}
theorem RR.tyL {z : Z} {M H : Hp} {σ : L2.St} (r : RR K z M σ H δ) {x : Arg} {ds : List TV.D} {v : V} (h : viewL δ x = some ds) (ok : ArgOk K M σ x v) : tyV K "list" v H := by
  obtain ⟨a, vs, rfl, h1, _⟩ := r.view h ok
  exact .inl ⟨rfl, vs, h1⟩
theorem flat_ints (ns : List Int) : (ns.map V.int).all flatV = true := by
  rw [List.all_eq_true]
  intro x hx
  obtain ⟨i, _, rfl⟩ := List.mem_map.mp hx
  rfl
theorem rd_indexI {r : Arg} {ns : List Int} {k : Int} {j : Nat} (ha : Rd K ta δ r δ1) (hv0 : viewL δ1 r = some (ns.map TV.D.int)) (hb : Rd K tb δ1 (.d (.int k)) δ2) (hv : viewL δ2 r = some (ns.map TV.D.int)) (hj : ns[j]? = some k) (hn : ∀ m : Nat, m < j → ns[m]? ≠ some k) : Rd K (tBM K "list" (rIndex K) ta (tCons tb tNil)) δ (.d (.int (j : Nat))) δ2 := fun z M σ H r0 Q q =>
  ha z M σ H r0 _ fun M1 v H1 e1 r1 p1 => by
    refine ⟨r1.tyL hv0 p1, hb z M1 σ H1 r1 _ fun M2 w H2 e2 r2 p2 => ?_⟩
    obtain ⟨a, vs, rfl, h1, h2⟩ := r2.view hv (p1.mono e2)
    have p2 : w = .int k := p2
    subst p2
    have e := h2.ints_of
    subst e
    refine ⟨a, ns.map V.int, .int k, j, .int k, rfl, rfl, h1, rfl, flat_ints ns, by rw [List.getElem?_map, hj]; rfl, by simp [eqV], fun m z' hm hz => ?_, q M2 _ H2 (e1.trans e2) r2 rfl⟩
    rw [List.getElem?_map] at hz
    cases e : ns[m]? with
    | none => rw [e] at hz; cases hz
    | some c =>
      rw [e] at hz
      cases hz
      have := hn m hm
      rw [e] at this
      simp only [eqV]
      simpa using this
theorem minDD_ints : ∀ (r : List Int) (a : Int), ∃ v, minDD (.int a) (r.map TV.D.int) = .int v ∧ v ∈ a :: r ∧ ∀ x ∈ a :: r, v ≤ x
  | [], a => ⟨a, rfl, by simp, by simp⟩
  | b :: r, a => by
    have e : minDD (.int a) ((b :: r).map TV.D.int) = minDD (if PySem.W.dataLt (.int b) (.int a) then .int b else .int a) (r.map TV.D.int) := rfl
    have e2 : PySem.W.dataLt (.int b) (.int a) = decide (b < a) := PySem.W.dataLt_int b a
    rw [e, e2]
    by_cases h : b < a
    · rw [if_pos (by simpa using h)]
      obtain ⟨v, h1, h2, h3⟩ := minDD_ints r b
      refine ⟨v, h1, by simp at h2 ⊢; rcases h2 with h | h <;> simp [h], fun x hx => ?_⟩
      simp at hx
      rcases hx with hx | hx | hx
      · have := h3 b (by simp)
        omega
      · have := h3 b (by simp)
        omega
      · exact h3 x (by simp [hx])
    · rw [if_neg (by simpa using h)]
      obtain ⟨v, h1, h2, h3⟩ := minDD_ints r a
      refine ⟨v, h1, by simp at h2 ⊢; rcases h2 with h | h <;> simp [h], fun x hx => ?_⟩
      simp at hx
      rcases hx with hx | hx | hx
      · have := h3 a (by simp)
        omega
      · have := h3 a (by simp)
        omega
      · exact h3 x (by simp [hx])
theorem rd_minI {r : Arg} {ns : List Int} {v : Int} (ha : Rd K ta δ r δ1) (hv : viewL δ1 r = some (ns.map TV.D.int)) (hm : v ∈ ns) (hl : ∀ x ∈ ns, v ≤ x) : Rd K (tCB (rMinP K) (tCons ta tNil)) δ (.d (.int v)) δ1 := by
  cases ns with
  | nil => cases hm
  | cons a rr =>
    obtain ⟨v', h1, h2, h3⟩ := minDD_ints rr a
    have e : v = v' := by
      have := hl v' h2
      have := h3 v hm
      omega
    subst e
    have h := rd_minP (K := K) (r := r) (d := .int a) (ds := rr.map TV.D.int) ha hv (by
      rw [List.all_eq_true]
      intro x hx
      have hx : x ∈ (a :: rr).map TV.D.int := hx
      obtain ⟨i, _, rfl⟩ := List.mem_map.mp hx
      rfl) (fun x hx y hy => by
      have hx : x ∈ (a :: rr).map TV.D.int := hx
      have hy : y ∈ (a :: rr).map TV.D.int := hy
      obtain ⟨i, _, rfl⟩ := List.mem_map.mp hx
      obtain ⟨j, _, rfl⟩ := List.mem_map.mp hy
      rfl) (fun x hx => by
      have hx : x ∈ (a :: rr).map TV.D.int := hx
      obtain ⟨i, _, rfl⟩ := List.mem_map.mp hx
      intro z
      cases z)
    rw [h1] at h
    exact h
/-- comprehensions that change nothing, their items told by index -/
theorem ro_lcP {wi : TI} {g : TG} {vs : List Nat} {items : List TV.D} {srcs : Srcs} (f : Nat → TV.D) (hw : Wk K wi δ items srcs δ1) (hk : okS δ1 srcs) (hn : wipeE δ1 vs = δ1) (hz : items.length ≤ 100000)
    (hs : ∀ (i : Nat) (x : TV.D), items[i]? = some x → ∃ δx, Gd K (others δ1.length vs) g x δ1 δx ∧ wipeE δx vs = δ1 ∧ δx.length = δ1.length ∧ Rt K tt δx true δx ∧ Rd K te δx (.d (f i)) δx) : Ro K (tLc wi g tt te vs) δ (.ls ((List.range items.length).map f)) δ1 := by
  refine ro_lc hw (fun i acc δ => δ = δ1 ∧ acc = (List.range i).map f) ⟨rfl, rfl⟩ hn hz (fun i acc δ p => by rw [p.1]; exact ⟨hk, hn, rfl⟩) (fun i x acc δ hi p => ?_) (fun acc δ p => ?_)
  · obtain ⟨rfl, rfl⟩ := p
    obtain ⟨δx, h1, h2, h3, h4, h5⟩ := hs i x hi
    refine ⟨δx, true, δx, h1, h3, h4, fun _ => ⟨f i, δx, h5, δ, by rw [h2]; exact Less.refl, rfl, ?_⟩, fun z => by cases z⟩
    rw [List.range_succ, List.map_append]
    rfl
  · obtain ⟨rfl, rfl⟩ := p
    exact ⟨rfl, Less.refl⟩
theorem ro_lcPI {wi : TI} {g : TG} {vs : List Nat} {items : List TV.D} {srcs : Srcs} {n : Nat} (f : Nat → Int) (hw : Wk K wi δ items srcs δ1) (hk : okS δ1 srcs) (hn : wipeE δ1 vs = δ1) (hl : items.length = n) (hz : n ≤ 100000)
    (hs : ∀ (i : Nat) (x : TV.D), items[i]? = some x → ∃ δx, Gd K (others δ1.length vs) g x δ1 δx ∧ wipeE δx vs = δ1 ∧ δx.length = δ1.length ∧ Rt K tt δx true δx ∧ Rd K te δx (.d (.int (f i))) δx) : Ro K (tLc wi g tt te vs) δ (.ls (((List.range n).map f).map TV.D.int)) δ1 :=
  Ro.is (ro_lcP (fun i => .int (f i)) hw hk hn (by rw [hl]; exact hz) hs) (by rw [List.map_map, hl]; rfl)
theorem ro_lcSI {wi : TI} {g : TG} {vs : List Nat} {items : List TV.D} {srcs : Srcs} {n : Nat} (s : Nat) (st : Nat → T) (f : Nat → Int) (hw : Wk K wi δ items srcs δ1) (h0 : δ1.set s (some (st 0)) = δ1) (hl : items.length = n) (hz : n ≤ 100000) (hk : ∀ τ, okS (δ1.set s (some τ)) srcs) (hn : ∀ τ, wipeE (δ1.set s (some τ)) vs = δ1.set s (some τ))
    (hs : ∀ (i : Nat) (x : TV.D), items[i]? = some x → ∃ δx, Gd K (others δ1.length vs) g x (δ1.set s (some (st i))) δx ∧ δx.length = δ1.length ∧ Rt K tt δx true δx ∧ ∃ δ3, Rd K te δx (.d (.int (f i))) δ3 ∧ Less (δ1.set s (some (st (i + 1)))) (wipeE δ3 vs)) : Ro K (tLc wi g tt te vs) δ (.ls (((List.range n).map f).map TV.D.int)) (δ1.set s (some (st n))) :=
  hl ▸ Ro.is (ro_lcS s st (fun i => .int (f i)) hw h0 (by rw [hl]; exact hz) hk hn hs) (by rw [List.map_map]; rfl)
end
/-! looking for the first -/
theorem find_at {p : Nat → Bool} {n i : Nat} (h : ∀ j, j < i → p j = false) (hi : p i = true) (hn : i < n) : (List.range n).find? p = some i := by
  rw [List.find?_range_eq_some]
  exact ⟨hi, by simpa using hn, fun j hj => by simp [h j hj]⟩
theorem find_no {p : Nat → Bool} {n : Nat} (h : ∀ j, j < n → p j = false) : (List.range n).find? p = none := by
  rw [List.find?_eq_none]
  intro j hj
  have := h j (by simpa using hj)
  simp [this]
end TV

namespace TV
open PySem PySem.Spec PyProof.Rows L2
section
variable {K : PySem.W.Frag} {ps : List Nat} {δ δ1 δ2 δ3 : Env} {ta tb te : TE} {tt tu : TT} {t u : TS} {D : EndT}
theorem cutT {α : Type} (xs : List α) (j : Nat) : cutL xs none (some (j : Int)) = xs.take j := by
  unfold cutL
  rw [HT.sIx_nat, HT.sIx_none]
  simp only [List.drop_zero, Nat.sub_zero]
  rcases Nat.le_total j xs.length with h | h
  · rw [Nat.min_eq_left h]
  · rw [Nat.min_eq_right h, List.take_of_length_le (Nat.le_refl _), List.take_of_length_le h]
theorem cutD {α : Type} (xs : List α) (j : Nat) : cutL xs (some (j : Int)) none = xs.drop j := by
  unfold cutL
  rw [HT.sIx_nat, HT.sIx_none]
  rcases Nat.le_total j xs.length with h | h
  · rw [Nat.min_eq_left h]
    exact List.take_of_length_le (by rw [List.length_drop]; exact Nat.le_refl _)
  · rw [Nat.min_eq_right h, List.drop_of_length_le (Nat.le_refl _), List.drop_of_length_le h]
    simp
theorem ro_takeI {r : Arg} {ns : List Int} {k : Int} {th : TO} (ha : Rd K te δ r δ1) (hh : Rn K th δ1 (some k) δ3) (hv : viewL δ3 r = some (ns.map TV.D.int)) (h0 : 0 ≤ k) : Ro K (tSl (rSlL K) te tNoPart th) δ (.ls ((ns.take k.toNat).map TV.D.int)) δ3 :=
  Ro.is (ro_slice ha rn_none hh hv) (by
    obtain ⟨j, rfl⟩ := Int.eq_ofNat_of_zero_le h0
    rw [cutT, List.map_take]
    rfl)
theorem ro_dropI {r : Arg} {ns : List Int} {k : Int} {tl : TO} (ha : Rd K te δ r δ1) (hh : Rn K tl δ1 (some k) δ3) (hv : viewL δ3 r = some (ns.map TV.D.int)) (h0 : 0 ≤ k) : Ro K (tSl (rSlL K) te tl tNoPart) δ (.ls ((ns.drop k.toNat).map TV.D.int)) δ3 :=
  Ro.is (ro_slice ha hh rn_none hv) (by
    obtain ⟨j, rfl⟩ := Int.eq_ofNat_of_zero_le h0
    rw [cutD, List.map_drop]
    rfl)
theorem ro_takeX {r : Arg} {ns : List TV.D} {k : Int} {th : TO} (ha : Rd K te δ r δ1) (hh : Rn K th δ1 (some k) δ3) (hv : viewL δ3 r = some ns) (h0 : 0 ≤ k) : Ro K (tSl (rSlL K) te tNoPart th) δ (.ls (ns.take k.toNat)) δ3 :=
  Ro.is (ro_slice ha rn_none hh hv) (by
    obtain ⟨j, rfl⟩ := Int.eq_ofNat_of_zero_le h0
    rw [cutT]
    rfl)
theorem ro_dropX {r : Arg} {ns : List TV.D} {k : Int} {tl : TO} (ha : Rd K te δ r δ1) (hh : Rn K tl δ1 (some k) δ3) (hv : viewL δ3 r = some ns) (h0 : 0 ≤ k) : Ro K (tSl (rSlL K) te tl tNoPart) δ (.ls (ns.drop k.toNat)) δ3 :=
  Ro.is (ro_slice ha hh rn_none hv) (by
    obtain ⟨j, rfl⟩ := Int.eq_ofNat_of_zero_le h0
    rw [cutD]
    rfl)
theorem rd_addLI {r s : Arg} {a b : List Int} (ha : Rd K ta δ r δ1) (hb : Rd K tb δ1 s δ2) (hv : dirL δ2 r = some (a.map TV.D.int)) (hw : dirL δ2 s = some (b.map TV.D.int)) (hl : a.length + b.length ≤ 100000) : Ro K (tOp rAddX ta tb) δ (.ls ((a ++ b).map TV.D.int)) δ2 :=
  Ro.is (rd_addL ha hb hv hw (by simpa using hl)) (by rw [List.map_append])
/-- [1, 2, 3][v] of whole numbers -/
theorem rd_tab (xs : List Int) {t : TA} {v : Int} (ha : Ra K t δ (xs.map fun i => Arg.d (.int i)) δ1) (hb : Rd K tb δ1 (.d (.int v)) δ2) (h0 : 0 ≤ v) (h1 : v < xs.length) (hl : xs.length ≤ 1000) : Rd K (tOp (rIx K) (tLst t) tb) δ (.d (.int (xs.getD v.toNat 0))) δ2 := by
  obtain ⟨j, rfl⟩ := Int.eq_ofNat_of_zero_le h0
  have hj : j < xs.length := by omega
  refine rd_ixX (Ro.frz (x := .lst (xs.map TV.D.int)) (ro_lst (ds := xs.map TV.D.int) ha (by rw [List.map_map]; rfl) (by simpa using hl)) rfl) hb rfl (atI_nat ?_)
  rw [List.getElem?_map, List.getElem?_eq_getElem hj]
  simp [hj]
theorem tab_mem (xs : List Int) (j : Nat) : xs.getD j 0 ∈ 0 :: xs := by
  rw [List.getD_eq_getElem?_getD]
  cases e : xs[j]? with
  | none => simp
  | some v => simp [List.mem_of_getElem? e]
theorem rng0_get {n i : Nat} {x : TV.D} (h : (rngD 0 n)[i]? = some x) : i < n ∧ x = .int (i : Nat) := by
  obtain ⟨h1, rfl⟩ := rngD_get h
  exact ⟨h1, by rw [Int.zero_add]⟩
theorem rngD_len {lo : Int} {n m : Nat} (h : n = m) : (rngD lo n).length = m := by rw [rngD_length, h]
end
end TV

namespace TV
open PySem PySem.Spec PyProof.Rows L2
section
variable {K : PySem.W.Frag} {ps : List Nat} {δ δ1 δ2 δ3 : Env} {ta tb te : TE} {tt tu : TT} {t u : TS} {D : EndT}
theorem sd_mid2 {α : Type} (i j : Nat) (f g : α → T) (p : α → Prop) (h : Sd K ps t δ { D with nx := fun δ' => ∃ a, p a ∧ Less ((δ.set i (some (f a))).set j (some (g a))) δ' }) (k : ∀ a, p a → Sd K ps u ((δ.set i (some (f a))).set j (some (g a))) D) : Sd K ps (tSeq t u) δ D :=
  sd_cut (fun δ' => ∃ a, p a ∧ Less ((δ.set i (some (f a))).set j (some (g a))) δ') h fun δ' ⟨a, pa, l⟩ => sd_less (k a pa) l
/-- what is known of all slots behind a statement -/
theorem sd_midE {α : Type} (E : α → Env) (p : α → Prop) (h : Sd K ps t δ { D with nx := fun δ' => ∃ a, p a ∧ Less (E a) δ' }) (k : ∀ a, p a → Sd K ps u (E a) D) : Sd K ps (tSeq t u) δ D :=
  sd_cut (fun δ' => ∃ a, p a ∧ Less (E a) δ') h fun δ' ⟨a, pa, l⟩ => sd_less (k a pa) l
theorem rt_andT {b : Bool} (h : Rt K tt δ true δ1) (g : Rt K tu δ1 b δ2) : Rt K (tAnd tt tu) δ b δ2 := Rt.is (rt_andE (a := true) h (fun _ => g) rfl) (by simp)
theorem rt_orS {b : Bool} (h : Rt K tt δ false δ1) (g : Rt K tu δ1 b δ2) : Rt K (tOr tt tu) δ b δ2 := Rt.is (rt_orE (a := false) h (fun _ => g) rfl) (by simp)
theorem rt_orT (h : Rt K tt δ true δ1) : Rt K (tOr tt tu) δ true δ1 := rt_or (a := true) (b := true) h fun z => by cases z
theorem tab_nat (xs : List Int) (j b : Nat) (h : ∀ x ∈ 0 :: xs, 0 ≤ x ∧ x ≤ (b : Int)) : ∃ n : Nat, xs.getD j 0 = (n : Int) ∧ n ≤ b := by
  obtain ⟨h1, h2⟩ := h _ (tab_mem xs j)
  exact ⟨(xs.getD j 0).toNat, by omega, by omega⟩
theorem tab_rng (xs : List Int) (j : Nat) (lo hi : Int) (h : ∀ x ∈ 0 :: xs, lo ≤ x ∧ x ≤ hi) : lo ≤ xs.getD j 0 ∧ xs.getD j 0 ≤ hi := h _ (tab_mem xs j)
theorem ixNn {n j : Nat} (hj : j < n) : ixN n (j : Int) = some j := by
  unfold ixN
  rw [if_pos (by omega), if_pos (by omega)]
  simp
theorem atTab {xs : List Int} {v : Int} (h0 : 0 ≤ v) (h1 : v < xs.length) : atI (xs.map TV.D.int) v = some (.int (xs.getD v.toNat 0)) := by
  obtain ⟨j, rfl⟩ := Int.eq_ofNat_of_zero_le h0
  have hj : j < xs.length := by omega
  refine atI_nat ?_
  rw [List.getElem?_map, List.getElem?_eq_getElem hj]
  simp [hj]
end
end TV

namespace TV
open PySem PySem.Spec PyProof.Rows L2
/-! dicts with whole numbers and texts as keys, tuples unpacked, extend -/
section
variable {X : Cx} {o i e value : Expr} {pos pos' tpos : Pos} {td ty tv : TE}
theorem kdin (hu : X.A.units + 64 < cLine) (hi : PE X i ty) (ho : PE X o td) : PC X .In i o (tDIn ty td) := pc_din (by omega) hi ho
theorem kdnotin (hu : X.A.units + 64 < cLine) (hi : PE X i ty) (ho : PE X o td) : PC X .NotIn i o (tDNotIn ty td) := pc_dnotin (by omega) hi ho
theorem kdput (hu : X.A.units + 64 < cLine) (ho : PE X o td) (hi : PE X i ty) (hv : PE X value tv) (hs : swapsWith value (some (.Subscript o i pos')) pos.line X.env = pure false) : PS X (.Assign [.Subscript o i pos'] value pos) (sDPut td ty tv) := ps_dput (by omega) ho hi hv hs
theorem kdget (hu : X.A.units + 64 < cLine) (ho : PE X o td) (hi : PE X i ty) (hs : NoSl i) : PE X (.Subscript o i pos) (tDGet td ty) := pe_dget (by omega) ho hi hs
end
def putD {κ : Type} [DecidableEq κ] (kvs : List (κ × D)) (k : κ) (v : D) : List (κ × D) :=
  if (kvs.any fun kv => decide (kv.1 = k)) = true then kvs.map (fun kv => if kv.1 = k then (kv.1, v) else kv) else kvs ++ [(k, v)]
def valD {κ : Type} [DecidableEq κ] (kvs : List (κ × D)) (k : κ) : Option D := (kvs.find? fun kv => decide (kv.1 = k)).map (·.2)
section
variable {K : PySem.W.Frag} {M : Hp} {κ : Type} [DecidableEq κ]
theorem KR.any : ∀ {kvs : List (κ × D)} {kv : List (κ × V)} (k : κ), KR K M kvs kv → (kv.any fun p => decide (p.1 = k)) = kvs.any fun p => decide (p.1 = k)
  | [], _, _, h => by cases h; rfl
  | p :: r, _, k, ⟨v, q, e, h1, h2⟩ => by
    subst e
    rw [List.any_cons, List.any_cons, KR.any k h2]
theorem KR.append : ∀ {a b : List (κ × D)} {a' b' : List (κ × V)}, KR K M a a' → KR K M b b' → KR K M (a ++ b) (a' ++ b')
  | [], _, _, _, h, g => by cases h; exact g
  | p :: r, _, _, _, ⟨v, q, e, h1, h2⟩, g => by
    subst e
    exact ⟨v, _, rfl, h1, KR.append h2 g⟩
theorem KR.mapPut : ∀ {kvs : List (κ × D)} {kv : List (κ × V)} {k : κ} {x : D} {v : V}, KR K M kvs kv → Rp K M x v → KR K M (kvs.map fun p => if p.1 = k then (p.1, x) else p) (kv.map fun p => if p.1 = k then (p.1, v) else p)
  | [], _, _, _, _, h, _ => by cases h; rfl
  | p :: r, _, k, x, v, ⟨u, q, e, h1, h2⟩, g => by
    subst e
    rw [List.map_cons, List.map_cons]
    by_cases hk : p.1 = k
    · rw [if_pos hk, if_pos hk]
      exact ⟨v, _, rfl, g, KR.mapPut h2 g⟩
    · rw [if_neg hk, if_neg hk]
      exact ⟨u, _, rfl, h1, KR.mapPut h2 g⟩
theorem KR.put {kvs : List (κ × D)} {kv : List (κ × V)} {k : κ} {x : D} {v : V} (h : KR K M kvs kv) (g : Rp K M x v) : KR K M (putD kvs k x) (putK kv k v) := by
  unfold putD putK
  rw [h.any k]
  split
  · exact h.mapPut g
  · exact h.append ⟨v, [], rfl, g, rfl⟩
theorem KR.length : ∀ {kvs : List (κ × D)} {kv : List (κ × V)}, KR K M kvs kv → kv.length = kvs.length
  | [], _, h => by cases h; rfl
  | p :: r, _, ⟨v, q, e, h1, h2⟩ => by subst e; simp [KR.length h2]
theorem KR.val : ∀ {kvs : List (κ × D)} {kv : List (κ × V)} (k : κ), KR K M kvs kv → (valD kvs k = none ∧ valV kv k = none) ∨ ∃ x v, valD kvs k = some x ∧ valV kv k = some v ∧ Rp K M x v
  | [], _, _, h => by cases h; exact .inl ⟨rfl, rfl⟩
  | p :: r, _, k, ⟨v, q, e, h1, h2⟩ => by
    subst e
    by_cases hk : p.1 = k
    · exact .inr ⟨p.2, v, by simp [valD, hk], by simp [valV, hk], h1⟩
    · rcases KR.val k h2 with ⟨a, b⟩ | ⟨x, w, a, b, c⟩
      · exact .inl ⟨by simpa [valD, List.find?_cons, hk] using a, by simpa [valV, List.find?_cons, hk] using b⟩
      · exact .inr ⟨x, w, by simpa [valD, List.find?_cons, hk] using a, by simpa [valV, List.find?_cons, hk] using b, c⟩
end
section
variable {K : PySem.W.Frag} {ps : List Nat} {δ δ1 δ2 δ3 : Env} {ta tb te td ty tv : TE} {tt tu : TT} {t u : TS} {D : EndT}
theorem RR.dkAt {z : Z} {M H : Hp} {σ : L2.St} (r : RR K z M σ H δ) {i : Nat} {kvs : List (Key × TV.D)} (h : δ[i]? = some (some (.dk kvs))) :
    ∃ a kv, σ[i]? = some (some (.ref a)) ∧ H a = some (.dK kv) ∧ KR K M kvs kv ∧ ∀ kvs' kv', KR K M kvs' kv' → RR K z M σ (upd H a (.dK kv')) (δ.set i (some (.dk kvs'))) := by
  obtain ⟨v, hv, P, ow, _⟩ := r.at h
  obtain ⟨a, kv, rfl, h2, h3, h4⟩ := ow
  refine ⟨a, kv, hv, h3, h4, fun kvs' kv' hr => r.write h hv trivial fun P' ow' => ?_⟩
  obtain ⟨a', vs2, e, p2, _, _⟩ := ow'
  cases e
  exact ⟨p2, a, kv', rfl, p2, upd_same, hr⟩
theorem ro_dnewK : Ro K tDNewK δ (.dk []) δ := fun z M σ H r Q q => fun p hp => q M (.ref p) _ (Same.refl M) (r.pushNew hp trivial fun P hP => ⟨p, [], rfl, hP, upd_same, rfl⟩)
theorem hasV {κ : Type} [DecidableEq κ] (kv : List (κ × V)) (k : κ) : (valV kv k).isSome = kv.any fun p => decide (p.1 = k) := (valV_any k kv).symm
theorem rd_dnotinI {i : Nat} {k : Int} {kvs : List (Key × TV.D)} (ha : Rd K ty δ (.d (.int k)) δ1) (hi : δ1[i]? = some (some (.dk kvs))) : Rd K (tDNotIn ty (tVar i)) δ (.d (.bl (!kvs.any fun p => decide (p.1 = .inl k)))) δ1 := fun z M σ H r Q q =>
  ha z M σ H r _ fun M1 v H1 e1 r1 p1 => by
    obtain ⟨a, kv, hv, hH, hr, _⟩ := r1.dkAt hi
    have p1 : v = .int k := p1
    subst p1
    refine ⟨.ref a, hv, a, valV kv (.inl k), rfl, DGet.k (k := .inl k) hH, q M1 _ H1 e1 r1 ?_⟩
    show _ = _
    rw [hasV, hr.any]
theorem rd_dinI {i : Nat} {k : Int} {kvs : List (Key × TV.D)} (ha : Rd K ty δ (.d (.int k)) δ1) (hi : δ1[i]? = some (some (.dk kvs))) : Rd K (tDIn ty (tVar i)) δ (.d (.bl (kvs.any fun p => decide (p.1 = .inl k)))) δ1 := fun z M σ H r Q q =>
  ha z M σ H r _ fun M1 v H1 e1 r1 p1 => by
    obtain ⟨a, kv, hv, hH, hr, _⟩ := r1.dkAt hi
    have p1 : v = .int k := p1
    subst p1
    refine ⟨.ref a, hv, a, valV kv (.inl k), rfl, DGet.k (k := .inl k) hH, q M1 _ H1 e1 r1 ?_⟩
    show _ = _
    rw [hasV, hr.any]
theorem rd_dgetI {i : Nat} {k : Int} {x : TV.D} {kvs : List (Key × TV.D)} (h0 : ∃ kvs0, δ[i]? = some (some (.dk kvs0))) (ha : Rd K ty δ (.d (.int k)) δ1) (hi : δ1[i]? = some (some (.dk kvs))) (hx : valD kvs (.inl k) = some x) : Rd K (tDGet (tVar i) ty) δ (.d x) δ1 := fun z M σ H r Q q => by
  obtain ⟨kvs0, h0⟩ := h0
  obtain ⟨a0, kv0, hv0, _⟩ := r.dkAt h0
  refine ⟨.ref a0, hv0, ha z M σ H r _ fun M1 v H1 e1 r1 p1 => ?_⟩
  obtain ⟨a, kv, hv, hH, hr, _⟩ := r1.dkAt hi
  rw [hv] at hv0
  cases hv0
  have p1 : v = .int k := p1
  subst p1
  rcases hr.val (.inl k) with ⟨n, _⟩ | ⟨y, w, e, e2, rp⟩
  · rw [hx] at n; cases n
  · rw [hx] at e
    cases e
    exact ⟨a0, w, rfl, .inl ⟨kv, .inl k, .inl hH, rfl, e2.symm⟩, q M1 w H1 e1 r1 rp⟩
theorem sd_dputI {i : Nat} {k : Int} {x : TV.D} {kvs0 kvs : List (Key × TV.D)} (hv : Rd K tv δ (.d x) δ1) (h1 : δ1[i]? = some (some (.dk kvs0))) (ha : Rd K ty δ1 (.d (.int k)) δ2) (h2 : δ2[i]? = some (some (.dk kvs))) (hl : kvs.length < 100000) (hn : D.nx (δ2.set i (some (.dk (putD kvs (.inl k) x))))) : Sd K ps (sDPut (tVar i) ty tv) δ D := fun z M σ H r E hE =>
  hv z M σ H r _ fun M1 v H1 e1 r1 p1 => by
    obtain ⟨a0, kv0, hv0, _⟩ := r1.dkAt h1
    refine ⟨.ref a0, hv0, ha z M1 σ H1 r1 _ fun M2 w H2 e2 r2 p2 => ?_⟩
    obtain ⟨a, kv, hva, hH, hr, wr⟩ := r2.dkAt h2
    rw [hva] at hv0
    cases hv0
    have p2 : w = .int k := p2
    subst p2
    exact ⟨a0, _, rfl, DPut.k (k := .inl k) hH (by rw [hr.length]; exact len_ok hl), hE.nx M2 σ _ _ (e1.trans e2) (wr _ _ (hr.put (p1.mono e2))) Keep.refl hn⟩
/-- xs.extend(e): the items of another list of data -/
theorem sd_extend {i : Nat} {ys : List TV.D} {ds : List TV.D} {rr : Arg} (h0 : isLs δ i = true) (h : Rd K te δ rr δ1) (hy : dirL δ1 rr = some ys) (h1 : δ1[i]? = some (some (.ls ds))) (hl : ds.length + ys.length < 100000) (hn : D.nx (δ1.set i (some (.ls (ds ++ ys))))) :
    Sd K ps (tDrop (tBM K "list" rExtend (tVar i) (tCons te tNil))) δ D := fun z M σ H r E hE => by
  obtain ⟨a, ha, ty⟩ := tyV_l r h0
  refine ⟨.ref a, ha, ty, h z M σ H r _ fun M' v H' e r' rp => ?_⟩
  obtain ⟨b, vs, hb, hH, hr, w⟩ := r'.lsAt h1
  rw [ha] at hb
  cases hb
  obtain ⟨c, ws, rfl, hc, hr2⟩ := r'.dir hy rp
  exact ⟨a, c, vs, ws, rfl, rfl, hH, hc, by rw [← hr.length, ← hr2.length]; exact Nat.le_of_lt (len_ok hl), hE.nx M' σ _ _ e (w _ _ (hr.append hr2)) Keep.refl hn⟩
/-- a, b = e of a pair of owned things -/
theorem sd_unpair {i j : Nat} {s s' : T} (h : Ro K te δ (.pr s s') δ1) (hi : i ∉ ps) (hj : j ∉ ps) (hij : i ≠ j) (hil : i < δ1.length) (hjl : j < δ1.length) (hn : D.nx ((δ1.set i (some s)).set j (some s'))) : Sd K ps (tAsg te (gTup K 2 (gCons (gName i) (gCons (gName j) gNil)))) δ D := fun z M σ H r E hE =>
  h z M σ H r _ fun M1 v H1 e1 r1 => by
    obtain ⟨⟨ex, ln, ω, w1, w2, w3⟩, l⟩ := r1
    obtain ⟨u, hu, a, x, y, P1, P2, h1, h2, h3, h4, h5, h6, h7⟩ := w3 _ _ get_top
    have ln' : (σ ++ z.s).length = (δ1 ++ z.e).length := by simp only [List.length_append, List.length_singleton] at ln ⊢; omega
    rw [← ln', get_top] at hu
    cases hu
    subst h1
    have R2 : R K M1 (((σ ++ z.s) ++ [some x]) ++ [some y]) H1 (((δ1 ++ z.e) ++ [some s]) ++ [some s']) := by
      generalize hL : (δ1 ++ z.e).length = L at *
      refine ⟨ex, by simp only [List.length_append, List.length_singleton] at ln' hL ⊢; omega, fun i b => (i = L ∧ P1 b) ∨ (i = L + 1 ∧ P2 b) ∨ (i < L ∧ ω i b), fun i j b g1 g2 => ?_, fun i b g1 => ?_, fun i t ht => ?_⟩
      · rcases g1 with ⟨a1, b1⟩ | ⟨a1, b1⟩ | ⟨a1, b1⟩ <;> rcases g2 with ⟨a2, b2⟩ | ⟨a2, b2⟩ | ⟨a2, b2⟩
        · omega
        · exact (h5 b b1 b2).elim
        · have := w1 _ _ _ b2 (h3 b b1); omega
        · exact (h5 b b2 b1).elim
        · omega
        · have := w1 _ _ _ b2 (h4 b b1); omega
        · have := w1 _ _ _ b1 (h3 b b2); omega
        · have := w1 _ _ _ b1 (h4 b b2); omega
        · exact w1 _ _ _ b1 b2
      · rcases g1 with ⟨_, b1⟩ | ⟨_, b1⟩ | ⟨_, b1⟩
        · exact w2 _ _ (h3 b b1)
        · exact w2 _ _ (h4 b b1)
        · exact w2 _ _ b1
      · rcases get_push ht with g | ⟨g, g'⟩
        · rcases get_push g with k | ⟨k, k'⟩
          · obtain ⟨u, hu, ow⟩ := w3 i t (get_left k)
            have hi := (List.getElem?_eq_some_iff.mp k).1
            rcases get_push hu with g2 | ⟨g2, _⟩
            · refine ⟨u, get_left (get_left g2), ?_⟩
              exact ow.mono (Same.refl _) (fun b hb => .inr (.inr ⟨by omega, hb⟩)) (fun _ _ => rfl) fun _ _ q => q
            · omega
          · cases k'
            subst k
            refine ⟨x, get_left (by rw [hL, ← ln']; exact get_top), ?_⟩
            exact h6.mono (Same.refl _) (fun b hb => .inl ⟨hL, hb⟩) (fun _ _ => rfl) fun _ _ q => q
        · cases g'
          subst g
          refine ⟨y, ?_, ?_⟩
          · have : ((δ1 ++ z.e) ++ [some s]).length = ((σ ++ z.s) ++ [some x]).length := by simp only [List.length_append, List.length_singleton] at ln' hL ⊢; omega
            rw [this]
            exact get_top
          · have e : ((δ1 ++ z.e) ++ [some s]).length = L + 1 := by rw [List.length_append, hL]; rfl
            exact h7.mono (Same.refl _) (fun b hb => .inr (.inl ⟨e, hb⟩)) (fun _ _ => rfl) fun _ _ q => q
    have q1 := R2.set j
    have l1 : j < (σ ++ z.s).length := by rw [List.length_append]; omega
    have l2 : j < (δ1 ++ z.e).length := by rw [List.length_append]; omega
    rw [List.set_append_left _ _ l1, List.set_append_left _ _ l2] at q1
    have q2 := q1.set i
    rw [set_append (by omega), set_append hjl, List.set_append_left _ _ (by rw [List.length_set]; omega), List.set_append_left _ _ (by rw [List.length_set]; exact hil)] at q2
    refine ⟨a, [x, y], rfl, .inl (.inl h2), rfl, x, [y], rfl, ?_⟩
    refine ⟨y, [], rfl, rfl, hE.nx M1 _ H1 _ e1 ⟨?_, by simp [l]⟩ ((Keep.set hi).trans (Keep.set hj)) hn⟩
    rw [List.set_comm (l := σ) _ _ hij, List.set_comm (l := δ1) _ _ hij]
    exact q2
end
end TV

namespace TV
open PySem PySem.Spec PyProof.Rows L2
section
variable {K : PySem.W.Frag} {ps : List Nat} {δ δ1 δ2 δ3 : Env} {ta tb te td ty tv : TE} {tt tu : TT} {t u : TS} {D : EndT}
/-- lists of lists by comprehension, told by index -/
theorem ro_lcLP {wi : TI} {g : TG} {vs : List Nat} {items : List TV.D} {srcs : Srcs} (f : Nat → List TV.D) (hw : Wk K wi δ items srcs δ1) (hk : okS δ1 srcs) (hn : wipeE δ1 vs = δ1) (hz : items.length ≤ 100000)
    (hs : ∀ (i : Nat) (x : TV.D), items[i]? = some x → ∃ δx, Gd K (others δ1.length vs) g x δ1 δx ∧ δx.length = δ1.length ∧ Rt K tt δx true δx ∧ ∃ δ3, Ro K te δx (.ls (f i)) δ3 ∧ Less δ1 (wipeE δ3 vs)) : Ro K (tLc wi g tt te vs) δ (.ll ((List.range items.length).map f)) δ1 := by
  refine ro_lcL hw (fun i acc δ => δ = δ1 ∧ acc = (List.range i).map f) ⟨rfl, rfl⟩ hn hz (fun i acc δ p => by rw [p.1]; exact ⟨hk, hn, rfl⟩) (fun i x acc δ hi p => ?_) (fun acc δ p => ?_)
  · obtain ⟨rfl, rfl⟩ := p
    obtain ⟨δx, h1, h3, h4, δ3, h5, h6⟩ := hs i x hi
    refine ⟨δx, true, δx, h1, h3, h4, fun _ => ⟨f i, δ3, h5, δ, h6, rfl, ?_⟩, fun z => by cases z⟩
    rw [List.range_succ, List.map_append]
    rfl
  · obtain ⟨rfl, rfl⟩ := p
    exact ⟨rfl, Less.refl⟩
theorem map_rng {α β : Type} (g : α → β) (xs : List α) (f : Nat → β) (h : ∀ (i : Nat) (x : α), xs[i]? = some x → f i = g x) : (List.range xs.length).map f = xs.map g := by
  apply List.ext_getElem?
  intro i
  rw [List.getElem?_map, List.getElem?_map]
  by_cases hi : i < xs.length
  · rw [List.getElem?_range hi, List.getElem?_eq_getElem hi]
    exact congrArg some (h i _ (List.getElem?_eq_getElem hi))
  · rw [List.getElem?_eq_none (by simpa using hi), List.getElem?_eq_none (by omega)]
    rfl
end
end TV

namespace TV
open PySem PySem.Spec PyProof.Rows L2
section
variable {K : PySem.W.Frag} {ps : List Nat} {δ δ1 δ2 δ3 : Env} {ta tb te td ty tv : TE} {tt tu : TT} {t u : TS} {D : EndT}
/-- range(n, -1, -1) -/
def rngDown (n : Nat) : List TV.D := (List.range (n + 1)).map fun (i : Nat) => TV.D.int (n - i)
theorem rngDown_len (n : Nat) : (rngDown n).length = n + 1 := by unfold rngDown; simp
theorem rngDown_get {n i : Nat} {x : TV.D} (h : (rngDown n)[i]? = some x) : i ≤ n ∧ x = .int ((n - i : Nat) : Int) := by
  have hl := (List.getElem?_eq_some_iff.mp h).1
  rw [rngDown_len] at hl
  unfold rngDown at h
  rw [List.getElem?_map, List.getElem?_range hl] at h
  refine ⟨by omega, ?_⟩
  have := (Option.some.inj h).symm
  rw [this]
  show TV.D.int ((n : Int) - (i : Int)) = _
  rw [show ((n : Int) - (i : Int)) = ((n - i : Nat) : Int) by omega]
theorem wk_rangeDown {t : TA} {n : Nat} (h : Ra K t δ [.d (.int (n : Nat)), .d (.int (-1)), .d (.int (-1))] δ1) (hn : n < 2 ^ 61) : Wk K (iRng3 t) δ (rngDown n) [] δ1 := fun z M σ H r0 Rk q =>
  h z M σ H r0 _ fun M1 vs H1 e1 r1 p1 => by
    obtain ⟨v, w, rfl, p, v2, w2, rfl, p2, v3, w3, rfl, p3, rfl⟩ := p1
    have p : v = .int n := p
    have p2 : v2 = .int (-1) := p2
    have p3 : v3 = .int (-1) := p3
    subst p p2 p3
    refine ⟨(n : Int), -1, -1, n + 1, rfl, ?_, q M1 _ H1 e1 r1 ?_⟩
    · have h2 : ((n : Int) - (-1)).toNat = n + 1 := by omega
      rw [← h2]
      exact RgC.neg (by omega) (by omega) (by omega) (by omega)
    · intro z i M2 σ2 H δ e r k ok
      rw [rngDown_len]
      refine ⟨fun hi => ⟨hi, fun x H' y => ?_⟩, fun hi => hi⟩
      obtain ⟨rfl, rfl⟩ := y
      refine ⟨M2, Same.refl M2, r, .int (n - i), by simp [rngDown, hi], ?_⟩
      show V.int _ = V.int _
      congr 1
      omega
/-- [x] * n -/
theorem ro_repI {r : Arg} {xs : List TV.D} {k : Int} (ha : Rd K ta δ r δ1) (hb : Rd K tb δ1 (.d (.int k)) δ2) (hv : dirL δ2 r = some xs) (h0 : -(2 ^ 63) ≤ k) (h1 : k < 2 ^ 63) (hl : xs.length * k.toNat ≤ 100000) : Ro K (tOp rMulX ta tb) δ (.ls (List.replicate k.toNat xs).flatten) δ2 := fun z M σ H r0 Q q =>
  ha z M σ H r0 _ fun M1 v H1 e1 r1 p1 => hb z M1 σ H1 r1 _ fun M2 w H2 e2 r2 p2 => by
    obtain ⟨a, vs, rfl, h2, h3⟩ := r2.dir hv (p1.mono e2)
    have p2 : w = .int k := p2
    subst p2
    refine .inr ⟨a, k, vs, rfl, rfl, h2, h0, h1, by rw [← h3.length]; exact Nat.le_trans hl (by decide), fun p hp => q M2 _ _ (e1.trans e2) (r2.pushNew hp trivial fun P hP => ⟨p, _, rfl, hP, upd_same, ?_⟩)⟩
    generalize k.toNat = n
    clear hl
    induction n with
    | zero => exact rfl
    | succ n ih =>
      rw [List.replicate_succ, List.replicate_succ, List.flatten_cons, List.flatten_cons]
      exact h3.append ih
end
end TV

namespace TV
open PySem PySem.Spec PyProof.Rows L2
/-- a if t else b as a test -/
def tIfT (t ta tb : TT) : TT := fun σ H Q => t σ H fun c H1 => if c = true then ta σ H1 Q else tb σ H1 Q
theorem pw_ifT {X : Cx} {c a b : Expr} {tc ta tb : TT} {pos : Pos} (hc : PT X c tc) (ha : PT X a ta) (hb : PT X b tb) : PW X (.IfExp c a b pos) (tIfT tc ta tb) :=
  ⟨fun whole pins s σ H Q I h => isTrue_IfExp (thn (hc.run pins s σ H _ I h) fun d s1 ⟨H1, I1, q1⟩ => by
    cases d with
    | true => exact ha.run pins s1 σ H1 Q I1 q1
    | false => exact hb.run pins s1 σ H1 Q I1 q1)⟩
section
variable {K : PySem.W.Frag} {ps : List Nat} {δ δ1 δ2 δ3 : Env} {tt tu tw : TT}
theorem rt_ifT {b v : Bool} (h : Rt K tt δ b δ1) (h1 : b = true → Rt K tu δ1 v δ2) (h2 : b = false → Rt K tw δ1 v δ2) : Rt K (tIfT tt tu tw) δ v δ2 := fun z M σ H r Q q => h z M σ H r _ fun M' H' e r' => by
  cases b with
  | true => exact h1 rfl z M' σ H' r' Q fun M2 H2 e2 r2 => q M2 H2 (e.trans e2) r2
  | false => exact h2 rfl z M' σ H' r' Q fun M2 H2 e2 r2 => q M2 H2 (e.trans e2) r2
end
end TV

namespace TV
open PySem PySem.Spec PyProof.Rows L2
section
variable {K : PySem.W.Frag} {ps : List Nat} {δ δ1 δ2 δ3 : Env} {ta tb te : TE} {tt tu tw : TT}
/-- what gives a new flat thing and else only reads, seen with all slots standing still -/
theorem ro_stand {τ : T} (h : Ro K te (frzE δ) τ (frzE δ)) (hx : flatT τ = true) : Ro K te δ τ δ := fun z M σ H r Q q => by
  refine h ⟨z.s, frzE z.e⟩ H σ H ?_ Q fun M' v H' s1 rt => ?_
  · have := r.r.stand
    unfold frzE at this
    rw [List.map_append] at this
    exact ⟨this, by unfold frzE; simpa using r.ln⟩
  · obtain ⟨ex, ln, ω, w1, w2, w3⟩ := r.r
    obtain ⟨ex', ln', ω', w1', w2', w3'⟩ := rt.1
    have lf : (frzE δ ++ frzE z.e).length = (δ ++ z.e).length := by unfold frzE; simp
    obtain ⟨u, hu, ow⟩ := w3' _ _ get_top
    have e1 : (frzE δ ++ frzE z.e).length = (σ ++ z.s).length := by rw [lf]; exact ln.symm
    rw [e1, get_top] at hu
    cases hu
    have sHH : Same H H' := s1.trans ex'
    have sMH : Same M H' := ex.trans sHH
    have sMM : Same M M' := ex.trans s1
    have eq : ∀ i a, ω i a → H' a = H a := fun i a h => by
      obtain ⟨o, ho⟩ := mut_some (w2 i a h).2
      rw [ho]
      exact sHH a o ho
    have no : ∀ i j a, ω i a → ω' j a → False := fun i j a h h' => by
      obtain ⟨o, ho⟩ := mut_some (w2 i a h).2
      have := s1 a o ho
      rw [(w2' j a h').1] at this
      cases this
    refine q (tx M H') v H' (tx_same sMH) ⟨⟨tx_sub sMH, by simp only [List.length_append, List.length_singleton] at ln ⊢; omega, fun i a => (i = (δ ++ z.e).length ∧ ω' (frzE δ ++ frzE z.e).length a) ∨ (i < (δ ++ z.e).length ∧ ω i a), fun i j a g1 g2 => ?_, fun i a g1 => ?_, fun i t ht => ?_⟩, r.ln⟩
    · rcases g1 with ⟨a1, b1⟩ | ⟨a1, b1⟩ <;> rcases g2 with ⟨a2, b2⟩ | ⟨a2, b2⟩
      · omega
      · exact (no _ _ _ b2 b1).elim
      · exact (no _ _ _ b1 b2).elim
      · exact w1 _ _ _ b1 b2
    · rcases g1 with ⟨a1, b1⟩ | ⟨a1, b1⟩
      · have m := w2' _ _ b1
        refine ⟨tx_none ?_ m.2, m.2⟩
        cases em : M a with
        | none => rfl
        | some o => rw [sMM a o em] at m; cases m.1
      · exact ⟨tx_none (w2 i a b1).1 (by rw [eq i a b1]; exact (w2 i a b1).2), by rw [eq i a b1]; exact (w2 i a b1).2⟩
    · rcases get_push ht with g | ⟨g, g'⟩
      · obtain ⟨v', hv, ow'⟩ := w3 i t g
        have hi := (List.getElem?_eq_some_iff.mp g).1
        exact ⟨v', get_left hv, ow'.mono (tx_same sMH) (fun b hb => .inr ⟨hi, hb⟩) (fun b hb => eq i b hb) fun b xs q => sHH b _ q⟩
      · cases g'
        subst g
        refine ⟨v, by rw [← ln]; exact get_top, ?_⟩
        exact (Own.tx ex' hx ow).mono (Same.refl _) (fun b hb => .inl ⟨rfl, hb⟩) (fun _ _ => rfl) fun _ _ q => q
/-- [a, b] of two new lists -/
theorem ro_lst2L {xs ys : List TV.D} (ha : Ro K ta δ (.ls xs) δ1) (hb : Ro K tb δ1 (.ls ys) δ2) : Ro K (tLst (tCons ta (tCons tb tNil))) δ (.ll [xs, ys]) δ2 := fun z M σ H r Q q =>
  ha z M σ H r _ fun M1 v1 H1 e1' r1 => by
    have r1' : RR K ⟨z.s ++ [some v1], z.e ++ [some (.ls xs)]⟩ M1 σ H1 δ1 := ⟨by have := r1.1; simpa [List.append_assoc] using this, r1.2⟩
    refine hb ⟨z.s ++ [some v1], z.e ++ [some (.ls xs)]⟩ M1 σ H1 r1' _ fun M2 v2 H2 e2' r2 => ?_
    refine ⟨by show (2 : Nat) ≤ sizeLine; decide, fun p hp => ?_⟩
    have R2 : R K M2 (((σ ++ z.s) ++ [some v1]) ++ [some v2]) H2 (((δ2 ++ z.e) ++ [some (.ls xs)]) ++ [some (.ls ys)]) := by have := r2.1; simpa [List.append_assoc] using this
    have ln2 : (σ ++ z.s).length = (δ2 ++ z.e).length := by
      have := R2.ln
      simp only [List.length_append, List.length_singleton] at this ⊢
      omega
    have R3 := R2.pushNew (p := p) (o := .lst []) (τ := .ll []) hp trivial fun P hP => ⟨p, [], rfl, hP, (fun _ z => by simp at z), by simp, upd_same, rfl⟩
    generalize hL : (δ2 ++ z.e).length = L at ln2
    generalize hS : σ ++ z.s = S at R3 ln2
    generalize hD : δ2 ++ z.e = DD at R3 hL
    have R4 := R3.move (i := L) (τ := .ls xs) (v := v1) (by simp [List.getElem?_append, hL]) (by simp [List.getElem?_append, ln2])
    obtain ⟨as4, b4, rfl, g4, l4, R5⟩ := R4.adopt (i := L + 2) (dss := []) (a := p) (by simp [List.getElem?_append, hL]) (by simp [List.getElem?_append, ln2])
    have has4 : as4 = [] := List.eq_nil_of_length_eq_zero (by simpa using l4)
    subst has4
    have R6 := R5.move (i := L + 1) (τ := .ls ys) (v := v2) (by simp [List.getElem?_append, List.getElem?_set, hL]) (by simp [List.getElem?_append, ln2])
    obtain ⟨as6, b6, rfl, g6, l6, R7⟩ := R6.adopt (i := L + 2) (dss := [] ++ [xs]) (a := p) (by simp [List.getElem?_append, List.getElem?_set, hL]) (by simp [List.getElem?_append, ln2])
    have hx : as6.map V.ref = [V.ref b4] := by
      rw [upd_same] at g6
      have := HO.lst.inj (Option.some.inj g6)
      rw [← this]
      rfl
    rw [hx, upd_upd, upd_upd] at R7
    have eS : ((((((DD ++ [some (T.ls xs)]) ++ [some (T.ls ys)]) ++ [some (T.ll [])]).set L none).set (L + 2) (some (T.ll ([] ++ [xs])))).set (L + 1) none).set (L + 2) (some (T.ll (([] ++ [xs]) ++ [ys]))) = ((DD ++ [none]) ++ [none]) ++ [some (T.ll [xs, ys])] := by
      subst hL
      simp [List.set_append]
    rw [eS] at R7
    have R8 := R7.set L
    have e1 : ((S ++ [some (V.ref b4)]) ++ [some (V.ref b6)]).set L (some (V.ref p)) = (S ++ [some (V.ref p)]) ++ [some (V.ref b6)] := by
      subst ln2
      simp [List.set_append]
    have e2 : ((DD ++ [none]) ++ [none]).set L (some (T.ll [xs, ys])) = (DD ++ [some (.ll [xs, ys])]) ++ [none] := by
      subst hL
      simp [List.set_append]
    rw [e1, e2] at R8
    have R9 := R8.pop
    refine q M2 _ _ (e1'.trans e2') ⟨?_, r2.2⟩
    rw [hS, hD]
    exact R9
end
end TV

namespace TV
open PySem PySem.Spec PyProof.Rows L2
theorem kltT {X : Cx} (K : PySem.W.Frag) (hu : X.A.units + 64 < cLine) (hK : X.K = K := by rfl) : OpR X (compareOp .Lt) (rLtT K) := hK ▸ op_ltT (by omega)
section
variable {K : PySem.W.Frag} {ps : List Nat} {δ δ1 δ2 δ3 : Env} {ta tb te : TE}
theorem rd_ltT {xs ys : List Int} (ha : Rd K ta δ (.d (.tup (xs.map TV.D.int))) δ1) (hb : Rd K tb δ1 (.d (.tup (ys.map TV.D.int))) δ2) : Rd K (tOp (rLtT K) ta tb) δ (.d (.bl (HT.lexLt xs ys))) δ2 := fun z M σ H r0 Q q =>
  ha z M σ H r0 _ fun M1 v H1 e1 r1 p1 => hb z M1 σ H1 r1 _ fun M2 w H2 e2 r2 p2 => by
    obtain ⟨a, vs, rfl, h1, h2⟩ := p1.mono e2
    obtain ⟨b, us, rfl, h3, h4⟩ := p2
    have i1 := h2.ints_of
    have i2 := h4.ints_of
    subst i1 i2
    exact ⟨a, b, xs, ys, rfl, rfl, Same.sqT r2.ex h1, Same.sqT r2.ex h3, q M2 _ H2 (e1.trans e2) r2 rfl⟩
end
end TV

namespace TV
open PySem PySem.Spec PyProof.Rows L2
section
variable {K : PySem.W.Frag} {ps : List Nat} {δ δ1 δ2 δ3 : Env} {ta tb te : TE}
theorem rd_inP {neg : Bool} {r s : Arg} {x : TV.D} {ys : List TV.D} (ha : Rd K ta δ r δ1) (hb : Rd K tb δ1 s δ2) (hx : TV.datA δ2 r = some x) (hy : TV.datA δ2 s = some (.lst ys)) (ox : okD 16 x = true) (oy : noTy (.lst ys) = true) : Rd K (tOp (rInP K neg) ta tb) δ (.d (.bl (if neg then !(pyL ys).any (fun y => PyData.eqv y (py x)) else (pyL ys).any fun y => PyData.eqv y (py x)))) δ2 := fun z M σ H r0 Q q =>
  ha z M σ H r0 _ fun M1 v H1 e1 r1 p1 => hb z M1 σ H1 r1 _ fun M2 w H2 e2 r2 p2 => by
    obtain ⟨Ma, ea, sa, pa⟩ := r2.datA hx (p1.mono e2)
    obtain ⟨Mb, eb, sb, pb⟩ := r2.datA hy p2
    exact ⟨py x, pyL ys, pa.dp sa (okD_py ox), .inl (pb.dp sb oy), py_plain x, (by have := py_plain (.lst ys); simpa [py, PyData.plain] using this), okD_depth ox, q M2 _ H2 (e1.trans e2) r2 rfl⟩
theorem any_eqI (ns : List Int) (k : Int) : ((pyL (ns.map TV.D.int)).any fun y => PyData.eqv y (py (.int k))) = decide (k ∈ ns) := by
  induction ns with
  | nil => rfl
  | cons a r ih =>
    show (PyData.eqv (.int a) (.int k) || _) = _
    rw [ih]
    by_cases h : a = k
    · subst h
      simp [PyData.eqv]
    · have : ¬k = a := fun z => h z.symm
      simp [PyData.eqv, h, this]
theorem noTyI (ns : List Int) : noTy (.lst (ns.map TV.D.int)) = true := okD_py (okI ns)
theorem rd_inI {r : Arg} {s : Arg} {ns : List Int} {k : Int} (ha : Rd K ta δ (.d (.int k)) δ1) (hb : Rd K tb δ1 s δ2) (hy : TV.datA δ2 s = some (.lst (ns.map TV.D.int))) : Rd K (tOp (rInP K false) ta tb) δ (.d (.bl (decide (k ∈ ns)))) δ2 :=
  Rd.is (rd_inP ha hb rfl hy rfl (noTyI ns)) (by
    show TV.Arg.d (.bl _) = _
    rw [if_neg (by decide), any_eqI])
theorem rd_notinI {s : Arg} {ns : List Int} {k : Int} (ha : Rd K ta δ (.d (.int k)) δ1) (hb : Rd K tb δ1 s δ2) (hy : TV.datA δ2 s = some (.lst (ns.map TV.D.int))) : Rd K (tOp (rInP K true) ta tb) δ (.d (.bl (!decide (k ∈ ns)))) δ2 :=
  Rd.is (rd_inP ha hb rfl hy rfl (noTyI ns)) (by
    show TV.Arg.d (.bl _) = _
    rw [if_pos (by decide), any_eqI])
end
end TV

namespace TV
open PySem PySem.Spec PyProof.Rows L2
section
variable {K : PySem.W.Frag} {ps : List Nat} {δ δ1 δ2 δ3 : Env} {ta tb te : TE} {D : EndT}
/-- a call that changes its owned argument p, of which only pp is told: what it may give is given a name -/
theorem sd_asgW (pp : T → List T → Prop) (p : Nat) {i j : Nat} {c : Con} {E : XK} {ta : TA} {rs : List Arg} {ts : List T} (ha : Ra K ta δ rs δ1) (hp : rs[p]? = some (.sl i)) (ht : argsT δ1 (some i) rs = some ts) (hq : onlyAt rs i p = true) (h : ∀ Q : T → List T → Prop, (∀ τ outs, pp τ outs → Q τ outs) → c ts Q) (hj : j ∉ ps)
    (hn : ∀ τ outs, pp τ outs → ∃ t, outs[p]? = some t ∧ outs.length = ts.length ∧ flatT τ = true ∧ flatT t = true ∧ D.nx ((δ1.set i (some t)).set j (some τ))) : Sd K ps (tAsg (tCall (spOf K c) [] E ta) (gName j)) δ D := fun z M σ H r Ee hE =>
  ha z M σ H r _ fun M1 vs H1 e1 r1 p1 => by
    obtain ⟨Mc, rc, fin⟩ := r1.r.call (p := p) p1.left (argsT_left ht) (fun i' z k hk => by cases z; exact onlyAt_of hq k hk)
    show spOf K c (vs ++ []) H1 _ E
    rw [List.append_nil]
    refine ⟨Mc, ts, rc, h _ fun τ outs hpp => ?_⟩
    obtain ⟨t, ho, hl, hf, hg, hnx⟩ := hn τ outs hpp
    refine ⟨hl, fun M' v H' s r' => ?_⟩
    obtain ⟨s2, r2⟩ := fin M' v H' outs τ s r' hl hf (fun i' z => by cases z; exact ⟨hp, t, ho, hg⟩)
    have e : outsTo (δ1 ++ z.e) (some i) p outs = δ1.set i (some t) ++ z.e := by
      show (δ1 ++ z.e).set i outs[p]? = _
      have hi : i < δ1.length := by
        obtain ⟨w, hw, okw⟩ := p1.get hp
        have okw : σ[i]? = some (some w) := okw
        rw [← r1.ln]
        exact (List.getElem?_eq_some_iff.mp okw).1
      rw [ho, set_append hi]
    rw [e] at r2
    have rt : RT K z (tx M1 H') σ H' (δ1.set i (some t)) τ v := ⟨r2, by simp [r1.ln]⟩
    exact hE.nx _ _ H' _ (e1.trans s2) (rt.set j) (Keep.set hj) hnx
end
end TV

namespace TV
open PySem PySem.Spec PyProof.Rows L2
def rIsB : R2 := fun x y H Q => ∃ c d, x = .bl c ∧ y = .bl d ∧ Q (.bl (c == d)) H
def rNotB : R2 := fun x y H Q => ∃ c d, x = .bl c ∧ y = .bl d ∧ Q (.bl (c != d)) H
theorem kisB {X : Cx} : OpR X (compareOp .Is) rIsB := by
  intro pins s σ H x y v u Q I rx ry h
  obtain ⟨c, d, rfl, rfl, q⟩ := h
  cases rx
  cases ry
  exact is_bool ⟨.bl _, H, I, rfl, q⟩
theorem knotB {X : Cx} : OpR X (compareOp .IsNot) rNotB := by
  intro pins s σ H x y v u Q I rx ry h
  obtain ⟨c, d, rfl, rfl, q⟩ := h
  cases rx
  cases ry
  exact isnot_bool ⟨.bl _, H, I, rfl, q⟩
section
variable {K : PySem.W.Frag} {ps : List Nat} {δ δ1 δ2 δ3 : Env} {ta tb te : TE} {D : EndT}
theorem rd_isB {c d : Bool} (ha : Rd K ta δ (.d (.bl c)) δ1) (hb : Rd K tb δ1 (.d (.bl d)) δ2) : Rd K (tOp rIsB ta tb) δ (.d (.bl (c == d))) δ2 :=
  rd_op2 ha hb fun M v w H h1 h2 Q q => by cases h1; cases h2; exact ⟨c, d, rfl, rfl, q _ (by simp [Rp])⟩
theorem rd_notB {c d : Bool} (ha : Rd K ta δ (.d (.bl c)) δ1) (hb : Rd K tb δ1 (.d (.bl d)) δ2) : Rd K (tOp rNotB ta tb) δ (.d (.bl (c != d))) δ2 :=
  rd_op2 ha hb fun M v w H h1 h2 Q q => by cases h1; cases h2; exact ⟨c, d, rfl, rfl, q _ (by simp [Rp])⟩
/-- range(0, n, c), c > 0 -/
def rngStep (c n : Nat) : List TV.D := (List.range ((n + c - 1) / c)).map fun (i : Nat) => TV.D.int ((c * i : Nat) : Int)
theorem rngStep_get {c n i : Nat} {x : TV.D} (hc : 0 < c) (h : (rngStep c n)[i]? = some x) : c * i < n ∧ x = .int ((c * i : Nat) : Int) := by
  have hl := (List.getElem?_eq_some_iff.mp h).1
  unfold rngStep at h hl
  rw [List.length_map, List.length_range] at hl
  rw [List.getElem?_map, List.getElem?_range hl] at h
  refine ⟨?_, (Option.some.inj h).symm⟩
  have h2 : (i + 1) * c ≤ n + c - 1 := (Nat.le_div_iff_mul_le hc).mp hl
  have h3 : (i + 1) * c = c * i + c := by rw [Nat.add_mul, Nat.mul_comm]; omega
  omega
theorem rngStep_len (c n : Nat) : (rngStep c n).length = (n + c - 1) / c := by unfold rngStep; simp
theorem wk_rangeStep {t : TA} {c n : Nat} (h : Ra K t δ [.d (.int 0), .d (.int (n : Nat)), .d (.int (c : Nat))] δ1) (hc : 0 < c) (hc2 : c < 2 ^ 30) (hn : n < 2 ^ 61) : Wk K (iRng3 t) δ (rngStep c n) [] δ1 := fun z M σ H r0 Rk q =>
  h z M σ H r0 _ fun M1 vs H1 e1 r1 p1 => by
    obtain ⟨v, w, rfl, p, v2, w2, rfl, p2, v3, w3, rfl, p3, rfl⟩ := p1
    have p : v = .int 0 := p
    have p2 : v2 = .int n := p2
    have p3 : v3 = .int c := p3
    subst p p2 p3
    refine ⟨0, (n : Int), (c : Int), (n + c - 1) / c, rfl, ?_, q M1 _ H1 e1 r1 ?_⟩
    · have es : Builtin.Range.rangeSize 0 (n : Int) (c : Int) = (((n + c - 1) / c : Nat) : Int) := by
        unfold Builtin.Range.rangeSize
        rw [if_pos (by omega)]
        split
        · rename_i hp
          have h1 : n + c - 1 = (n - 1) + c := by omega
          rw [h1, Nat.add_div_right _ hc]
          have h2 : (n : Int) - 0 - 1 = ((n - 1 : Nat) : Int) := by omega
          rw [h2]
          rfl
        · have : n = 0 := by omega
          subst this
          rw [Nat.div_eq_of_lt (by omega)]
          rfl
      refine ⟨by omega, by omega, ?_, es⟩
      unfold Builtin.Range.small
      rw [es]
      have hb : (n + c - 1) / c ≤ n + c - 1 := Nat.div_le_self _ _
      simp only [Builtin.Range.rangeFitsLong, Bool.and_eq_true, Bool.or_eq_true, decide_eq_true_eq, beq_iff_eq, show ((c : Int) > 0) by omega, if_true]
      generalize (n + c - 1) / c = k at hb
      omega
    · intro z i M2 σ2 H δ e r k ok
      rw [rngStep_len]
      refine ⟨fun hi => ⟨hi, fun x H' y => ?_⟩, fun hi => hi⟩
      obtain ⟨rfl, rfl⟩ := y
      refine ⟨M2, Same.refl M2, r, .int ((c * i : Nat) : Int), by simp [rngStep, hi], ?_⟩
      show V.int _ = V.int _
      congr 1
      simp [Int.mul_comm]
end
end TV

/-! errors of the program: a class whose __init__ is PileError's (after the kit's skeleton 42) -/
namespace PySem
namespace ErrX
open PySem.W PySem.Calls PyProof.Rows PySem.HandSPX
/-! ### the text of __init__ -/
def iA (p1 p2 : Pos) : Arguments := { posonlyargs := [], args := [{ arg := "self", annotation := none, pos := p1 }, { arg := "value", annotation := none, pos := p2 }], vararg := none, kwonlyargs := [], kw_defaults := [], kwarg := none, defaults := [] }
def iB (q1 q2 q3 q4 : Pos) : List Stmt := [.Assign [.Attribute (.Name "self" q1) "value" q2] (.Name "value" q3) q4]
def iS : Scope := { kind := .function, names := [(PySem.Str.ofString "self", .local), (PySem.Str.ofString "value", .local)], isGenerator := false, isCoroutine := false, more := [] }
/-- what the written part says of Low, at C, and of its __init__, at fI -/
structure ErrTxt (K : Frag) (C fI : Addr) : Prop where
  cls : ∃ nm q N bs bm sn sub ab col dd k0 k1 k2 k3 k5, K.lookup C = some (excClassObj nm q C N bs bm true sn sub ab col dd k0 k1 k2 k3 k5 "ValueError.__new__") ∧ refsVE bm = true
  sa : findIn K (.ref C) "__setattr__" = some (some (.builtin "object.__setattr__"))
  ga : findIn K (.ref C) "__getattribute__" = some (some (.builtin "BaseException.__getattribute__"))
  gg : findIn K (.ref C) "__getattr__" = some none
  noN : findIn K (.ref C) "value" = some none
  iC : findIn K (.ref C) "__init__" = some (some (.ref fI))
  tC : typeIn K (.ref fI) = some (.type "function")
  kC : keepIn K (.ref C) = true
  exC : subIn K (.ref C) (.type "BaseException") = some true
  tyC : typeIn K (.ref C) = some (.type "type")
  hdC : hasDictIn K C = true
  te : exmOne K (.ref C) (.ref C) = some true
  fn : ∃ (oc : Value) (od : Option Addr) (doc pm : Value) (an : Option Addr) (cdv ct : Value) (osl : Array (Option Value)) (p1 p2 q1 q2 q3 q4 : Pos),
    K.lookup fI = some ⟨oc, od, .func (fnOf "__init__" "PileError.__init__" (iA p1 p2) (iB q1 q2 q3 q4) iS .none .none doc pm an cdv ct), osl⟩ ∧ codeIn K cdv "PileError.__init__" = true
theorem one_size (v : Value) : [v].length ≤ sizeLine := by
  rw [sizeLine_eq]
  exact (by decide : 1 ≤ 16777216)
theorem kept_but {K : Frag} {h h' : Heap} {x : Addr} (X : K.In h) (hx : K.lookup x = none) (k : ∀ b o, b ≠ x → h.get? b = some o → h'.get? b = some o) : K.In h' := fun a o e =>
  k a o (fun z => by rw [z, hx] at e; cases e) (X a o e)
theorem ldC {M : Model} {s : Shared} {name : Str} {scope : Scope} {L a : Addr} {cd : Value} {m : Str → Option Value} {x : Str} {pos : Pos} {v : Value} {Q : Value → Shared → Prop} {A : Around} {E : Value → Shared → Prop} (hn : s.heap.Ns L m) (hv : m x = some v) (h : Q v s)
    (hk : scope.kind = .function := by rfl) (hl : (envOfC name scope L a cd).kindOf x = some .local := by rfl) (hd : (x == ("__debug__" : Str)) = false := by decide) :
    wpAny M A (eval (.Name x pos) (envOfC name scope L a cd)) Q E s := wpAny_Name (wpAny_loadName_local hk hl hn hv h) hd
/-- what __init__ leaves of a fresh exception at x -/
structure InitEnd (h h' : Heap) (x C dx t1 : Addr) (v : Value) : Prop where
  keep : ∀ b o, b ≠ x → h.get? b = some o → h'.get? b = some o
  obj : h'.get? x = some { cls := .ref C, dict := some dx, data := .fields #[.ref t1, .none, .none, .none, .bool false, .none] }
  dbig : h.objs.size ≤ dx
  dne : dx ≠ x
  ns : h'.Ns1 dx (fun y => if y = "value" then some v else none)
/-- a made Low -/
structure OwnMade (h h' : Heap) (e C d : Addr) (v : Value) : Prop where
  keep : ∀ b o, h.get? b = some o → h'.get? b = some o
  new : h.objs.size ≤ e
  obj : ∃ oe vs, h'.get? e = some oe ∧ oe.cls = .ref C ∧ oe.dict = some d ∧ oe.data = .fields vs ∧ vs[1]? = some .none
  dbig : h.objs.size ≤ d
  dne : d ≠ e
  ns : h'.Ns1 d (fun y => if y = "value" then some v else none)
section
variable {prog : Program} {w : World} {A : Around} {E : Value → Shared → Prop} {R : Result → Shared → Prop} {s : Shared} {K : Frag} {mg : Str → Option Value} {C fI : Addr}
theorem err_init (T : ErrTxt K C fI) {x t0 : Addr} {v : Value} (X : K.In s.heap) (hlim : s.heap.NoLimit) (hx : s.heap.get? x = some (excO C t0)) (hnx : K.lookup x = none) (hroom : A.depth < recursionLimit)
    (hq : ∀ h' tk dx, InitEnd s.heap h' x C dx t0 v → R (.ok (.ret .none)) { s with heap := h', toks := tk }) :
    codeAny (model prog w) A (.call (.ref fI) ⟨[.ref x, v], []⟩) R s := by
  obtain ⟨oc, od, doc, pm, an, cdv, ct, osl, p1, p2, q1, q2, q3, q4, ho, hcd⟩ := T.fn
  obtain ⟨nm, q, N, bs, bm, sn, sub, ab, col, dd, k0, k1, k2, k3, k5, hC, hbm⟩ := T.cls
  have hcl : clsIn K C = some { name := nm, bases := bs, mro := .ref C :: bm, ns := N, qualname := q, hasDict := true, slotNames := sn, subclasses := sub, abstract := ab, collection := col, hasDel := false } := by unfold clsIn; rw [hC] <;> rfl
  refine Att.call_fn (binds := [("self", .ref x), ("value", v)]) X hlim ho hcd hroom (BindsTo.of_eq (by first | rfl | with_unfolding_all rfl)) (by first | rfl | decide | with_unfolding_all rfl) (fun s₁ IC => ?_) rfl rfl rfl
  obtain ⟨h₁, tk₁, rfl⟩ := IC.toInCall.same
  have k : ∀ b o, s.heap.get? b = some o → h₁.get? b = some o := IC.toInCall.keep
  have hn := IC.toInCall.ns
  have hxL : s.heap.objs.size ≠ x := Nat.ne_of_gt (Heap.lt_size hx)
  have X₁ : K.In h₁ := X.keeps k
  have hx₁ := k _ _ hx
  -- self.by = by
  show wpAny _ _ (execs _ _) _ _ _
  refine wpAny_execs_cons (plainObj_wpAny_Assign_Attribute ?_)
  refine ldC (v := v) hn (by first | rfl | with_unfolding_all rfl | kernel_rfl) (ldC (v := .ref x) hn (by first | rfl | with_unfolding_all rfl | kernel_rfl) ?_)
  refine set_plain X₁ (ox := excO C t0) (od := none) ⟨hx₁, rfl, rfl, trivial⟩ T.sa ?_
  refine exc_osa X₁ hx₁ hcl (show refsVE (.ref C :: bm) = true from hbm) rfl T.noN (fun h₃ tk₃ dx k₃ dn dne hx₃ hn₃ => ?_)
  show wpAny _ _ (execs _ _) _ _ _
  have z : s.heap.objs.size < h₁.objs.size := hn.lt
  exact wpAny_execs_nil (hq h₃ tk₃ dx ⟨fun b o hb e => k₃ b o hb (k b o e), hx₃, Nat.le_of_lt (Nat.lt_of_lt_of_le z dn), dne, hn₃⟩)
theorem err_made (T : ErrTxt K C fI) {v : Value} (X : K.In s.heap) (hlim : s.heap.NoLimit) (hroom : A.depth + 1 < recursionLimit)
    (hq : ∀ h' tk e d, OwnMade s.heap h' e C d v → R (.ok (.ret (.ref e))) { s with heap := h', toks := tk }) :
    codeAny (model prog w) A (.call (.ref C) ⟨[v], []⟩) R s := by
  obtain ⟨nm, q, N, bs, bm, sn, sub, ab, col, dd, k0, k1, k2, k3, k5, hC, hbm⟩ := T.cls
  obtain ⟨hp, g, dr, tk, os⟩ := s
  have k : ∀ b o, hp.get? b = some o → ((hp.push (kdv_tup [v])).push (excO C hp.objs.size)).get? b = some o := fun b o e => Heap.get?_push_of_some _ (Heap.get?_push_of_some _ e)
  have hget : ((hp.push (kdv_tup [v])).push (excO C hp.objs.size)).get? (hp.objs.size + 1) = some (excO C hp.objs.size) := by heap_get
  have hnx : K.lookup (hp.objs.size + 1) = none := by
    cases e : K.lookup (hp.objs.size + 1) with
    | none => rfl
    | some o =>
      have z : hp.get? (hp.objs.size + 1) = some o := X _ _ e
      exact absurd (Nat.lt_of_succ_lt (Heap.lt_size z)) (Nat.lt_irrefl _)
  refine call_own F.excBase_ValueError (fun X => refsVE_contains X bm hbm) (X _ _ hC) (looks_findIn X T.iC) (fun self => bind_fn X self T.tC) (one_size v) ?_
  refine err_init (s := ⟨(hp.push (kdv_tup [v])).push (excO C hp.objs.size), g, dr, tk, os⟩) T (X.keeps k) (hlim.keeps k) hget hnx ?_ fun h' tk' dx ⟨k', hx, dn, dne, hns⟩ => ?_
  · show A.depth + 1 < recursionLimit
    exact hroom
  · have old : ∀ b o, hp.get? b = some o → h'.get? b = some o := fun b o e => k' b o (Nat.ne_of_lt (Nat.lt_succ_of_lt (Heap.lt_size e))) (k b o e)
    have z : hp.objs.size + 1 + 1 ≤ dx := by
      first
        | (simpa only [Heap.size_push] using dn)
        | exact dn
        | (have q := dn; rw [Heap.size_push, Heap.size_push] at q; exact q)
    exact ⟨rfl, hq h' tk' (hp.objs.size + 1) dx ⟨old, Nat.le_succ _, ⟨_, _, hx, rfl, rfl, rfl, rfl⟩, Nat.le_trans (Nat.le_trans (Nat.le_succ _) (Nat.le_succ _)) z, dne, hns⟩⟩
end
end ErrX
end PySem
namespace L2
open PySem PySem.Spec PyProof.Rows
theorem relO_err {v : V} {v' : Value} (r : RelV v v') (f : Str) : RelO (List.lookup f [(("value" : Str), v)]) (if f = "value" then some v' else none) := by
  by_cases hw : f = "value"
  · subst hw
    rw [if_pos rfl]
    have q : List.lookup ("value" : Str) [(("value" : Str), v)] = some v := by simp [List.lookup]
    rw [q]
    exact r
  · rw [if_neg hw]
    have qw : (f == ("value" : Str)) = false := by simpa using hw
    have q2 : List.lookup f [(("value" : Str), v)] = none := by simp [List.lookup, qw]
    rw [q2]
    trivial
section
variable {X : Cx} {C fI : Addr} {x : Str}
/-- Low(e) -/
def tMkErr (C : Addr) (ta : TA) : St → Hp → XK → Prop := fun σ H Q => ta σ H fun vs H1 => ∃ v, vs = [v] ∧ ∀ d, H1 d = none → Q (.ref C) (some d) (upd H1 d (.xd [(("value" : Str), v)]))
theorem pmk_err {a : Expr} {ta : TA} {p pos : Pos} {k : Nat} (T : PySem.ErrX.ErrTxt X.K C fI) (hr : Room k X.A) (ha : PA X [a] ta) (hg : Gl X x) (hm : X.mg x = some (.ref C)) (hdb : (x == ("__debug__" : Str)) = false := by decide)
    (he : starEach (a :: []) X.env = (false, eval a X.env) :: starEach [] X.env := by rfl) (hpl : (backTo pos (starEach [] X.env)).any (·.1) = false := by rfl) :
    PMk X (.Call (.Name x p) [a] [] pos) (tMkErr C ta) := by
  intro pins s σ H Q I h
  refine wpAny_Call_Name_kw (ld_glob I hg hm ?_ hdb)
  refine PySem.W.callWith_K (h₀ := X.base) I.ok.mod.kin T.kC (thn (ha.run pos pins s σ H _ I h) fun us s1 hh => ?_) he hpl
  obtain ⟨vs, H1, I1, r1, v, ev, q1⟩ := hh
  subst ev
  refine ⟨I1.kIn, ?_⟩
  cases r1 with
  | cons rv rn =>
    rename_i v' us'
    cases rn
    show wpAny _ _ (call (.ref C) [v']) _ _ _
    have hlim := I1.nolimit
    obtain ⟨hp, g, dr, tk, os⟩ := s1
    refine wpAny_call (PySem.ErrX.err_made T I1.kIn hlim (by have := hr.dp; omega) fun h' tk' e d M => ?_)
    show MkP X pins σ Q (.ref e) ⟨h', g, dr, tk', os⟩
    obtain ⟨oe, fv, hoe, hc, hd, hdat, h1⟩ := M.obj
    have hns := M.ns
    obtain ⟨G', g1, g2⟩ := restrict h' fun b => decide (b ≠ e)
    have gk : ∀ b, b ≠ e → G'.get? b = h'.get? b := fun b hb => g1 b (decide_eq_true hb)
    have ge : G'.get? e = none := g2 e (by simp)
    have old : ∀ b o, hp.get? b = some o → G'.get? b = some o := fun b o q => (gk b (Nat.ne_of_lt (Nat.lt_of_lt_of_le (Heap.lt_size q) M.new))).trans (M.keep b o q)
    have ob : ObjOk X.prog X.w (upd H1 d (.xd [(("value" : Str), v)])) G' d (.xd [(("value" : Str), v)]) :=
      ⟨_, hns.at (fun o q => (gk d M.dne).trans q), fun f => relO_err rv f⟩
    have J : Inv X pins σ (upd H1 d (.xd [(("value" : Str), v)])) ⟨G', g, dr, tk', os⟩ := I1.laid (t' := tk') old M.dbig ob
    refine ⟨e, oe, fv, ⟨G', g, dr, tk', os⟩, _, .ref C, some d, rfl, J, fun b o q => ?_, ge, hoe, ⟨hc, hd⟩, hdat, h1, ?_, rfl, I1.bare, raises_own T.exC T.tyC, q1 d (I1.hok.fresh M.dbig)⟩
    · by_cases hb : b = e
      · have q' : G'.get? b = some o := q
        rw [hb, ge] at q'; cases q'
      · exact (gk b hb).symm.trans q
    · rw [upd_ne (Ne.symm M.dne)]
      exact I1.hok.fresh M.new
/-- raise Low(e) -/
def tRaiseErr (C : Addr) (W : WX) (ta : TA) : TS := fun _ σ H => tMkErr C ta σ H fun cls d H' => W cls d σ H'
theorem ps_raiseErr {a : Expr} {ta : TA} {W : WX} {p pos pos2 : Pos} {k : Nat} (hc : X.calm = true) (T : PySem.ErrX.ErrTxt X.K C fI) (hr : Room k X.A) (tk : Takes X W) (ha : PA X [a] ta) (hg : Gl X x) (hm : X.mg x = some (.ref C)) (hdb : (x == ("__debug__" : Str)) = false := by decide)
    (he : starEach (a :: []) X.env = (false, eval a X.env) :: starEach [] X.env := by rfl) (hpl : (backTo pos (starEach [] X.env)).any (·.1) = false := by rfl) :
    PS X (.Raise (some (.Call (.Name x p) [a] [] pos)) none pos2) (tRaiseErr C W ta) := ps_raise hc tk (pmk_err T hr ha hg hm hdb he hpl)
/-- low.by, low the exception that the suite holds (at a; its class cls, its dict d) -/
def tErrVal (C : Addr) (a : Addr) (cls : Value) (d : Option Addr) (te : TE) : TE := fun σ H Q => te σ H fun x H1 => x = .ref a ∧ cls = .ref C ∧ ∃ (dd : Addr) (v : V), d = some dd ∧ H1 dd = some (.xd [(("value" : Str), v)]) ∧ Q v H1
theorem pe_errVal {a : Addr} {oe : Obj} {cls : Value} {d : Option Addr} {pn : List (Addr × Obj)} {e : Expr} {te : TE} {pos : Pos} (T : PySem.ErrX.ErrTxt X.K C fI) (hz : Zc cls d oe) (hf : ∃ vs, oe.data = .fields vs) (he : PE (X.suite a ((a, oe) :: pn)) e te)
    (hb : attributeBase e "value" X.env (eval e X.env) = eval e X.env := by rfl) :
    PE (X.suite a ((a, oe) :: pn)) (.Attribute e "value" pos) (tErrVal C a cls d te) := by
  refine ⟨fun pins s σ H Q I h => ?_⟩
  refine attr_of hb (thn (he.run pins s σ H _ I h) fun u s1 hh => ?_)
  obtain ⟨x, H1, I1, rx, ex, ec, dd, v, ed, ea, q⟩ := hh
  subst ex
  obtain rfl : u = Value.ref a := rx
  subst ec
  subst ed
  obtain ⟨ha, _⟩ := I1.pin (a, oe) (List.mem_append_left _ List.mem_cons_self)
  obtain ⟨vs, hd⟩ := hf
  have hx : ObjOk X.prog X.w H1 s1.heap dd (.xd [(("value" : Str), v)]) := I1.hok dd _ ea
  obtain ⟨mA, hns, hr⟩ := hx
  obtain ⟨od, ho, hl⟩ := lookIn_ns hns
  have l : List.lookup ("value" : Str) [(("value" : Str), v)] = some v := by simp [List.lookup]
  obtain ⟨u, hu, ru⟩ := RelO.some_of (v := v) (o := mA "value") (by rw [← l]; exact hr "value")
  have J : PySem.W.InstAt s1.heap a oe C (some od) := ⟨ha, hz.1, by unfold PySem.W.notCls; rw [hd] <;> rfl, by rw [hz.2]; exact ho⟩
  exact HandSPX.exc_get I1.kIn J T.ga T.gg T.exC (PySem.W.findObj_own T.hdC T.noN rfl (by rw [hl, hu])) (handed_of ru) ⟨v, H1, I1.tok _, ru, q⟩
end
end L2


/-! ways out by an error -/
namespace TV
open PySem PySem.Spec PyProof.Rows L2
abbrev CoX := List T → (T → List T → Prop) → (Addr → TV.D → Prop) → Prop
def rdX (n : Nat) (f : List TV.D → (T → Prop) → (Addr → TV.D → Prop) → Prop) : CoX := fun ts Q X => ∃ ds : List TV.D, ts = ds.map T.d ∧ ds.length = n ∧ f ds (fun r => Q r ts) X
def errO (v : V) : HO := .xd [("value", v)]
def spX (K : PySem.W.Frag) (c : CoX) : Sp := fun vs H Q E => ∃ M ts, R K M (vs.map some) H (ts.map some) ∧ c ts (fun r outs => outs.length = ts.length ∧ ∀ M' v H', Same M M' → R K M' (vs.map some ++ [some v]) H' (outs.map some ++ [some r]) → Q v H')
  (fun C x => ∀ M' v d H', Same M M' → R K M' (vs.map some ++ [some v]) H' (ts.map some ++ [some (.d x)]) → H' d = none → E (.ref C) (some d) (upd H' d (errO v)))
/-- what a wish takes of an error -/
def LiftX (K : PySem.W.Frag) (ps : List Nat) (z : Z) (σ : L2.St) (M : Hp) (PX : Addr → TV.D → Env → Prop) (W : WX) : Prop := ∀ M' σ' H δ C x v d, Same M M' → RR K z M' σ' H δ → Rp K M' x v → Keep ps σ σ' → PX C x δ → H d = none → W (.ref C) (some d) σ' (upd H d (errO v))
def SdX (K : PySem.W.Frag) (ps : List Nat) (t : WX → TS) (δ : Env) (D : EndT) (PX : Addr → TV.D → Env → Prop) : Prop := ∀ z M σ H, RR K z M σ H δ → ∀ E W, LiftE K ps z σ M D E → LiftX K ps z σ M PX W → t W E σ H
def RdX (K : PySem.W.Frag) (ps : List Nat) (t : WX → TE) (δ : Env) (PX : Addr → TV.D → Env → Prop) : Prop := ∀ z M σ H, RR K z M σ H δ → ∀ W, LiftX K ps z σ M PX W → ∀ Q, t W σ H Q
theorem LiftX.on {K : PySem.W.Frag} {ps : List Nat} {z : Z} {σ σ' : L2.St} {M M' : Hp} {PX : Addr → TV.D → Env → Prop} {W : WX} (l : LiftX K ps z σ M PX W) (e : Same M M') (k : Keep ps σ σ') : LiftX K ps z σ' M' PX W :=
  fun M2 σ2 H δ C x v d e2 r p k2 => l M2 σ2 H δ C x v d (e.trans e2) r p (k.trans k2)
section
variable {K : PySem.W.Frag} {ps : List Nat} {δ δ1 δ2 δ3 : Env} {ta tb te : TE} {tt : TT} {D : EndT} {PX : Addr → TV.D → Env → Prop} {t u : WX → TS}
theorem sdx_of {t : TS} (h : Sd K ps t δ D) : SdX K ps (fun _ => t) δ D PX := fun z M σ H r E W hE _ => h z M σ H r E hE
theorem sdx_seq (h : SdX K ps t δ { D with nx := fun δ' => SdX K ps u δ' D PX } PX) : SdX K ps (fun W => tSeq (t W) (u W)) δ D PX := fun z M σ H r E W hE hW =>
  h z M σ H r _ W ⟨fun M' σ' H' δ' e r' k q => q z M' σ' H' r' E W (hE.on e k) (hW.on e k), hE.rt, hE.bk, hE.ct⟩ hW
theorem sdx_if {b : Bool} (h : Rt K tt δ b δ1) (h1 : b = true → SdX K ps t δ1 D PX) (h2 : b = false → SdX K ps u δ1 D PX) : SdX K ps (fun W => tIfS tt (t W) (u W)) δ D PX := fun z M σ H r E W hE hW =>
  h z M σ H r _ fun M' H' e r' => by
    cases b with
    | true => exact h1 rfl z M' σ H' r' E W (hE.on e Keep.refl) (hW.on e Keep.refl)
    | false => exact h2 rfl z M' σ H' r' E W (hE.on e Keep.refl) (hW.on e Keep.refl)
theorem sdx_raise {C : Addr} {x : TV.D} {ta : TA} (h : Ra K ta δ [.d x] δ1) (hx : PX C x δ1) : SdX K ps (fun W => tRaiseErr C W ta) δ D PX := fun z M σ H r E W hE hW =>
  h z M σ H r _ fun M' vs H' e r' p => by
    obtain ⟨v, w, rfl, p, rfl⟩ := p
    exact ⟨v, rfl, fun d hd => hW M' σ H' δ1 C x v d e r' p Keep.refl hx hd⟩
theorem sdx_dropR {te : WX → TE} (h : RdX K ps te δ PX) : SdX K ps (fun W => tDrop (te W)) δ D PX := fun z M σ H r E W hE hW => h z M σ H r W hW _
theorem sdx_retR {te : WX → TE} (h : RdX K ps te δ PX) : SdX K ps (fun W => tRet (te W)) δ D PX := fun z M σ H r E W hE hW => h z M σ H r W hW _
theorem sdx_asgR {g : TG} {te : WX → TE} (h : RdX K ps te δ PX) : SdX K ps (fun W => tAsg (te W) g) δ D PX := fun z M σ H r E W hE hW => h z M σ H r W hW _
end
end TV

/-! calls of defs that may raise; a def that may raise, by its body -/
namespace TV
open PySem PySem.Spec PyProof.Rows L2
section
variable {K : PySem.W.Frag} {ps : List Nat} {δ δ1 δ2 δ3 : Env} {D : EndT} {PX : Addr → TV.D → Env → Prop}
/-- the call that lets the error out -/
theorem rdx_call {c : CoX} {ta : TA} {rs : List Arg} {ts : List T} {C : Addr} {x : TV.D} (ha : Ra K ta δ rs δ1) (ht : argsT δ1 none rs = some ts) (h : ∀ (Q : T → List T → Prop) (X : Addr → TV.D → Prop), X C x → c ts Q X) (hx : PX C x δ1) (hf : flatD x = true := by rfl) :
    RdX K ps (fun W => tCallS (spX K c) (WE W) ta) δ PX := fun z M σ H r W hW Q =>
  ha z M σ H r _ fun M1 vs H1 e1 r1 p1 => by
    obtain ⟨Mc, rc, fin⟩ := r1.r.call (p := 0) p1.left (argsT_left ht) (fun i z => nomatch z)
    refine ⟨Mc, ts, rc, h _ _ fun M' v d H' s r' hd => ?_⟩
    obtain ⟨s2, r2⟩ := fin M' v H' ts (.d x) s r' rfl hf (fun i z => nomatch z)
    have rt : RT K z (tx M1 H') σ H' δ1 (.d x) v := ⟨r2, r1.ln⟩
    obtain ⟨M3, e3, r3, p3⟩ := rt.freeze (x := x) rfl
    exact hW M3 σ H' δ1 C x v d ((e1.trans s2).trans e3) r3 p3 Keep.refl hx hd
/-- the call that comes back -/
theorem ro_callXN {c : CoX} {E : L2.St → XK} {ta : TA} {rs : List Arg} {ts outs : List T} {τ : T} (ha : Ra K ta δ rs δ1) (ht : argsT δ1 none rs = some ts) (h : ∀ (Q : T → List T → Prop) (X : Addr → TV.D → Prop), Q τ outs → c ts Q X) (hl : outs.length = ts.length := by rfl) (hf : flatT τ = true := by rfl) :
    Ro K (tCallS (spX K c) E ta) δ τ δ1 := fun z M σ H r Q q =>
  ha z M σ H r _ fun M1 vs H1 e1 r1 p1 => by
    obtain ⟨Mc, rc, fin⟩ := r1.r.call (p := 0) p1.left (argsT_left ht) (fun i z => nomatch z)
    refine ⟨Mc, ts, rc, h _ _ ⟨hl, fun M' v H' s r' => ?_⟩⟩
    obtain ⟨s2, r2⟩ := fin M' v H' outs τ s r' hl hf (fun i z => nomatch z)
    exact q _ v H' (e1.trans s2) ⟨r2, r1.ln⟩
theorem ro_callXQ {E : L2.St → XK} {ta : TA} {rs : List Arg} {ts : List T} {ds : List TV.D} {τ : T} {m : Nat} {fc : List TV.D → (T → Prop) → (Addr → TV.D → Prop) → Prop} (ha : Ra K ta δ rs δ1) (ht : argsT δ1 none rs = some ts) (hd : unD ts = some ds) (hl : ds.length = m) (h : ∀ (Q : T → Prop) (X : Addr → TV.D → Prop), Q τ → fc ds Q X) (hf : flatT τ = true) :
    Ro K (tCallS (spX K (rdX m fc)) E ta) δ τ δ1 := ro_callXN (outs := ts) ha ht (fun Q X q => ⟨ds, unD_eq hd, hl, h _ _ q⟩) rfl hf
theorem rd_callXQ {E : L2.St → XK} {ta : TA} {rs : List Arg} {ts : List T} {ds : List TV.D} {x : TV.D} {m : Nat} {fc : List TV.D → (T → Prop) → (Addr → TV.D → Prop) → Prop} (ha : Ra K ta δ rs δ1) (ht : argsT δ1 none rs = some ts) (hd : unD ts = some ds) (hl : ds.length = m) (h : ∀ (Q : T → Prop) (X : Addr → TV.D → Prop), Q (.d x) → fc ds Q X) (hf : flatD x = true) :
    Rd K (tCallS (spX K (rdX m fc)) E ta) δ (.d x) δ1 := (ro_callXQ (τ := .d x) ha ht hd hl h hf).frz rfl
theorem rdx_callQ {ta : TA} {rs : List Arg} {ts : List T} {ds : List TV.D} {m : Nat} {fc : List TV.D → (T → Prop) → (Addr → TV.D → Prop) → Prop} {C : Addr} {x : TV.D} (ha : Ra K ta δ rs δ1) (ht : argsT δ1 none rs = some ts) (hd : unD ts = some ds) (hl : ds.length = m) (h : ∀ (Q : T → Prop) (X : Addr → TV.D → Prop), X C x → fc ds Q X) (hx : PX C x δ1) (hf : flatD x = true := by rfl) :
    RdX K ps (fun W => tCallS (spX K (rdX m fc)) (WE W) ta) δ PX := rdx_call ha ht (fun Q X q => ⟨ds, unD_eq hd, hl, h _ _ q⟩) hx hf
end
end TV

namespace TV
open PySem PySem.Spec PyProof.Rows L2
/-- the wish of a def's own way out -/
abbrev WOut (E : XK) : WX := fun cls d _ H => E cls d H
structure CalX (P : Program) (w : World) (K : PySem.W.Frag) (mg : Str → Option Value) (base : Heap) (k : Nat) (x : Str) (ps : List Str) (c : CoX) : Prop where
  ex : ∃ f fd, FnOk P w K mg base (L2.CX P w) k f fd ps (spX K c) ∧ mg x = some (.ref f) ∧ PySem.W.keepIn K (.ref f) = true ∧ Binds K fd ps []
theorem CalX.mk' {P : Program} {w : World} {K : PySem.W.Frag} {mg : Str → Option Value} {base : Heap} {x qual : Str} {st : Stmt} {f : Addr} {fd : FuncData} {params : List Str} {k : Nat} {c : CoX} (F : Fun K x qual st f fd) (g : mg x = some (.ref f)) (b : L2.Binds K fd params [])
    (h : FnOk P w K mg base (L2.CX P w) k f fd params (spX K c)) : CalX P w K mg base k x params c := ⟨f, fd, h, g, F.kp, b⟩
theorem rdx_okF {P : Program} {w : World} {K : PySem.W.Frag} {mg : Str → Option Value} {base : Heap} {x qual : Str} {st : Stmt} {f : Addr} {fd : FuncData} {N params : List Str} {k : Nat} (m n : Nat) (fc : List TV.D → (T → Prop) → (Addr → TV.D → Prop) → Prop) (F : Fun K x qual st f fd) (S : FnScope N params (defScope st)) (hm : params.length = m) (hN : N.length = m + n)
    (hbody : ∀ (cdv : Value) (A : Around) (outer : List PySem.Env) (s : Shared) (H : Hp) (E : XK), Room k (A.deeper (envOfC qual (defScope st) s.heap.objs.size f cdv)) →
      ∃ t : WX → TS, (∀ W, Takes (cxOf (L2.CX P w) P w K mg base N qual (defScope st) f cdv A outer s H E) W → PSs (cxOf (L2.CX P w) P w K mg base N qual (defScope st) f cdv A outer s H E) (defBody st) (t W)) ∧ ∀ (ds : List TV.D) (Q : T → Prop) (X : Addr → TV.D → Prop), fc ds Q X → ds.length = m → SdX K [] t (ds.map (fun d => some (T.d d)) ++ List.replicate n none) { nx := fun _ => Q (.d .non), rt := fun τ _ => Q τ } (fun C x _ => X C x)) :
    FnOk P w K mg base (L2.CX P w) (k + 1) f fd params (spX K (rdX m fc)) := by
  refine F.okX S (fun vs H Q E h => ?_) (fun cdv A outer s H vs Q E hr h => ?_)
  · obtain ⟨M, ts, r, ds, rfl, hl, _⟩ := h
    have := r.ln
    rw [List.length_map, List.length_map, List.length_map] at this
    rw [this, hl, hm]
  · obtain ⟨M, ts, r, ds, rfl, hl, hf⟩ := h
    obtain ⟨t, ht, hw⟩ := hbody cdv A outer s H E hr
    refine ⟨t (WOut E), ht _ (takes_of rfl rfl rfl rfl), ?_⟩
    have lv : vs.length = ds.length := by simpa using r.ln
    have e : N.length - vs.length = n := by rw [hN, lv, hl]; omega
    have hd : ∀ (k : Nat) (t : T), (ds.map T.d)[k]? = some t → k ∉ ([] : List Nat) → ∃ x, t = .d x := fun k t hk _ => by
      rw [List.getElem?_map] at hk
      cases e : ds[k]? with
      | none => rw [e] at hk; cases hk
      | some x => rw [e] at hk; cases hk; exact ⟨x, rfl⟩
    have r0 : RR K ⟨[], []⟩ M (vs.map some ++ List.replicate n none) H (ds.map (fun d => some (T.d d)) ++ List.replicate n none) := by
      refine ⟨?_, by simp [lv]⟩
      have := r.start n
      rw [List.map_map] at this
      show R K M (_ ++ []) H (_ ++ [])
      rw [List.append_nil, List.append_nil]
      exact this
    rw [start_eq, e]
    have h0 : ∀ k : Nat, k ∈ ([] : List Nat) → k < (ds.map T.d).length → ∀ δ : Env, ∃ s, δ[k]? = some (some s) := fun k hk => by simp at hk
    refine hw ds _ _ hf hl ⟨[], []⟩ M _ H r0 _ (WOut E) ⟨fun M' σ' H' δ s1 r1 k1 q => ?_, fun M' σ' v H' δ τ s1 r1 k1 q => ?_, fun _ _ _ _ _ _ _ q => q.elim, fun _ _ _ _ _ _ _ q => q.elim⟩ (fun M' σ' H' δ C x v d s1 r1 p1 k1 q hn => ?_)
    · have f1 := r.finish s1 (by simpa [RT] using (r1.pushD (x := .non) (v := .non) rfl).1) k1 hd (fun k hk hl => h0 k hk hl δ)
      rw [outsOf_nil] at f1
      exact q.2 M' _ H' s1 f1
    · have f1 := r.finish s1 (by simpa [RT] using r1.1) k1 hd (fun k hk hl => h0 k hk hl δ)
      rw [outsOf_nil] at f1
      exact q.2 M' _ H' s1 f1
    · have f1 := r.finish s1 (by simpa [RT] using (r1.pushD (x := x) (v := v) p1).1) k1 hd (fun k hk hl => h0 k hk hl δ)
      rw [outsOf_nil] at f1
      exact q M' v d H' s1 f1 hn
end TV

/-! try .. except X as e -/
namespace TV
open PySem PySem.Spec PyProof.Rows L2
section
variable {K : PySem.W.Frag} {M H : Hp} {σ : L2.St} {δ : Env}
/-- a new object that is a fact: no slot's -/
theorem R.fact (r : R K M σ H δ) {d : Addr} {o : HO} (h : H d = none) (nm : ¬ Mut (some o)) : R K (upd M d o) σ (upd H d o) δ := by
  have md : M d = none := by
    cases e : M d with
    | none => rfl
    | some u => rw [r.ex d u e] at h; cases h
  refine (r.grow (same_upd (o := o) h)).still (same_upd md) (fun b x e => ?_) (fun b hb mu => ?_)
  · by_cases hd : b = d
    · subst hd
      rw [upd_same] at e ⊢
      exact e
    · rw [upd_ne hd] at e ⊢
      exact r.ex b x e
  · by_cases hd : b = d
    · subst hd
      rw [upd_same] at mu
      exact absurd mu nm
    · rw [upd_ne hd]
      exact hb
theorem R.slot (r : R K M σ H δ) (i : Nat) (y : Option V) : R K M (σ.set i y) H (δ.set i none) := by
  obtain ⟨ex, ln, ω, w1, w2, w3⟩ := r
  refine ⟨ex, by simp [ln], ω, w1, w2, fun j t ht => ?_⟩
  by_cases hj : i = j
  · subst hj
    by_cases hl : i < δ.length
    · rw [List.getElem?_set_self hl] at ht
      cases ht
    · rw [List.getElem?_eq_none (by simp; omega)] at ht
      cases ht
  · rw [List.getElem?_set_ne hj] at ht ⊢
    exact w3 j t ht
theorem RR.fact {z : Z} (r : RR K z M σ H δ) {d : Addr} {o : HO} (h : H d = none) (nm : ¬ Mut (some o)) : RR K z (upd M d o) σ (upd H d o) δ := ⟨r.r.fact h nm, r.ln⟩
theorem RR.slot {z : Z} (r : RR K z M σ H δ) (i : Nat) (y : Option V) : RR K z M (σ.set i y) H (δ.set i none) := by
  by_cases hi : i < δ.length
  · have h := r.r.slot i y
    rw [set_append hi, set_append (by rw [r.ln]; exact hi)] at h
    exact ⟨h, by simp [r.ln]⟩
  · have l := r.ln
    rw [List.set_eq_of_length_le (by omega), List.set_eq_of_length_le (by omega)]
    exact r
end
section
variable {K : PySem.W.Frag} {ps : List Nat} {δ δ1 δ2 δ3 : Env} {D : EndT} {PX : Addr → TV.D → Env → Prop}
/-- a suite that holds the error: in slot i the error at a, whose dict at d holds x -/
def SdE (K : PySem.W.Frag) (ps : List Nat) (i : Nat) (x : TV.D) (t : Addr → Addr → TS) (δ : Env) (D : EndT) : Prop := ∀ z M σ H a d v, RR K z M σ H δ → i ∈ ps → σ[i]? = some (some (.ref a)) → M d = some (errO v) → Rp K M x v → ∀ E, LiftE K ps z σ M D E → t a d E σ H
theorem sd_try {c : Value} {i : Nat} {tb : WX → TS} {ts : Addr → Value → Option Addr → TS} (hi : i ∉ ps) (hl : i < δ.length) (hb : SdX K ps tb δ D PX)
    (hs : ∀ C x δ', δ'.length = δ.length → PX C x δ' → PySem.W.exmOne K (.ref C) c = some true ∧ SdE K (i :: ps) i x (fun a d => ts a (.ref C) (some d)) (δ'.set i none) { nx := fun δ2 => D.nx (δ2.set i none), rt := D.rt, bk := fun δ2 => D.bk (δ2.set i none), ct := fun δ2 => D.ct (δ2.set i none) })
    (hlen : ∀ C x δ', PX C x δ' → δ'.length = δ.length) :
    Sd K ps (fun D' σ H => tb (wAs K c i ts (fun _ _ _ _ => False) D') D' σ H) δ D := fun z M σ H r E hE => by
  refine hb z M σ H r E _ hE (fun M' σ' H' δ' C x v d e r' p k q hd => ?_)
  have hll := hlen C x δ' q
  obtain ⟨h1, h2⟩ := hs C x δ' hll q
  refine ⟨true, h1, fun _ a ha => ?_, fun z => Bool.noConfusion z⟩
  have nm : ¬ Mut (some (errO v)) := fun z => by cases z
  have md : M' d = none := by
    cases e : M' d with
    | none => rfl
    | some u => rw [r'.r.ex d u e] at hd; cases hd
  have r3 := (r'.fact hd nm).slot i (some (.ref a))
  have k3 : Keep ps σ (σ'.set i (some (.ref a))) := k.trans (Keep.set hi)
  have e3 : Same M (upd M' d (errO v)) := e.trans (same_upd md)
  refine h2 z _ _ _ a d v r3 (by simp) (by rw [List.getElem?_set_self (by rw [r'.ln, hll]; exact hl)]) upd_same (p.mono (same_upd md)) _ ⟨fun M2 σ2 H2 δ2 e2 r2 k2 q2 => ?_, fun M2 σ2 v2 H2 δ2 τ e2 r2 k2 q2 => ?_, fun M2 σ2 H2 δ2 e2 r2 k2 q2 => ?_, fun M2 σ2 H2 δ2 e2 r2 k2 q2 => ?_⟩
  · exact hE.nx M2 _ H2 _ (e3.trans e2) (r2.slot i none) ((k3.trans (k2.sub fun j hj => by simp [hj])).trans (Keep.set hi)) q2
  · exact hE.rt M2 σ2 v2 H2 δ2 τ (e3.trans e2) r2 (k3.trans (k2.sub fun j hj => by simp [hj])) q2
  · exact hE.bk M2 _ H2 _ (e3.trans e2) (r2.slot i none) ((k3.trans (k2.sub fun j hj => by simp [hj])).trans (Keep.set hi)) q2
  · exact hE.ct M2 _ H2 _ (e3.trans e2) (r2.slot i none) ((k3.trans (k2.sub fun j hj => by simp [hj])).trans (Keep.set hi)) q2
end
end TV

/-! the suite of an except clause: readings under a fact G that lasts -/
namespace TV
open PySem PySem.Spec PyProof.Rows L2
abbrev Fact := Hp → L2.St → Prop
def Lasts (ps : List Nat) (G : Fact) : Prop := ∀ M M' σ σ', Same M M' → Keep ps σ σ' → G M σ → G M' σ'
def Grows (G : Fact) : Prop := ∀ M M' σ, Same M M' → G M σ → G M' σ
/-- slot i holds the error at a, whose dict d holds x -/
def Held (K : PySem.W.Frag) (i : Nat) (x : TV.D) (a d : Addr) : Fact := fun M σ => σ[i]? = some (some (.ref a)) ∧ ∃ v, M d = some (errO v) ∧ Rp K M x v
theorem held_lasts {K : PySem.W.Frag} {ps : List Nat} {i : Nat} {x : TV.D} {a d : Addr} (hi : i ∈ ps) : Lasts ps (Held K i x a d) := fun M M' σ σ' e k g => by
  obtain ⟨h1, v, h2, h3⟩ := g
  exact ⟨(k i hi).trans h1, v, e d _ h2, h3.mono e⟩
theorem held_grows {K : PySem.W.Frag} {i : Nat} {x : TV.D} {a d : Addr} : Grows (Held K i x a d) := fun M M' σ e g => by
  obtain ⟨h1, v, h2, h3⟩ := g
  exact ⟨h1, v, e d _ h2, h3.mono e⟩
def RdG (K : PySem.W.Frag) (G : Fact) (t : TE) (δ : Env) (r : Arg) (δ' : Env) : Prop := ∀ z M σ H, RR K z M σ H δ → G M σ → ∀ Q : VK, (∀ M' v H', Same M M' → RR K z M' σ H' δ' → ArgOk K M' σ r v → Q v H') → t σ H Q
def RoG (K : PySem.W.Frag) (G : Fact) (t : TE) (δ : Env) (τ : T) (δ' : Env) : Prop := ∀ z M σ H, RR K z M σ H δ → G M σ → ∀ Q : VK, (∀ M' v H', Same M M' → RT K z M' σ H' δ' τ v → Q v H') → t σ H Q
def RaG (K : PySem.W.Frag) (G : Fact) (t : TA) (δ : Env) (rs : List Arg) (δ' : Env) : Prop := ∀ z M σ H, RR K z M σ H δ → G M σ → ∀ Q : List V → Hp → Prop, (∀ M' vs H', Same M M' → RR K z M' σ H' δ' → ArgsOk K M' σ rs vs → Q vs H') → t σ H Q
def SdG (K : PySem.W.Frag) (ps : List Nat) (G : Fact) (t : TS) (δ : Env) (D : EndT) : Prop := ∀ z M σ H, RR K z M σ H δ → G M σ → ∀ E, LiftE K ps z σ M D E → t E σ H
section
variable {K : PySem.W.Frag} {ps : List Nat} {G : Fact} {δ δ1 δ2 δ3 : Env} {ta tb te : TE} {D : EndT} {t u : TS}
theorem rdG_of {r : Arg} (h : Rd K te δ r δ1) : RdG K G te δ r δ1 := fun z M σ H r0 _ => h z M σ H r0
theorem raG_of {ta : TA} {rs : List Arg} (h : Ra K ta δ rs δ1) : RaG K G ta δ rs δ1 := fun z M σ H r0 _ => h z M σ H r0
theorem sdG_of (h : Sd K ps t δ D) : SdG K ps G t δ D := fun z M σ H r _ => h z M σ H r
theorem raG_cons (hG : Grows G) {tr : TA} {r : Arg} {rs : List Arg} (h : RdG K G ta δ r δ1) (g : RaG K G tr δ1 rs δ2) : RaG K G (tCons ta tr) δ (r :: rs) δ2 := fun z M σ H r0 g0 Q q =>
  h z M σ H r0 g0 _ fun M1 v H1 e1 r1 p1 => g z M1 σ H1 r1 (hG _ _ _ e1 g0) _ fun M2 vs H2 e2 r2 p2 => q M2 (v :: vs) H2 (e1.trans e2) r2 ⟨v, vs, rfl, p1.mono e2, p2⟩
theorem roG_lst {ta : TA} {rs : List Arg} {ds : List TV.D} (h : RaG K G ta δ rs δ1) (e : toDs rs = some ds) (hl : Nat.ble ds.length 1000 = true) : RoG K G (tLst ta) δ (.ls ds) δ1 := fun z M σ H r g Q q =>
  h z M σ H r g _ fun M1 vs H1 e1 r1 p1 => by
    rw [toDs_eq e] at p1
    have p := p1.rpL
    refine ⟨Nat.le_of_lt (small1000 (by rw [← p.length]; exact Nat.le_of_ble_eq_true hl)), fun a ha => ?_⟩
    exact q _ _ _ e1 (r1.pushNew ha (by trivial) fun P hp => ⟨a, vs, rfl, hp, upd_same, p⟩)
theorem sdG_asgO {i : Nat} {τ : T} (h : RoG K G te δ τ δ1) (hi : i ∉ ps) (hn : D.nx (δ1.set i (some τ))) : SdG K ps G (tAsg te (gName i)) δ D := fun z M σ H r g E hE =>
  h z M σ H r g _ fun M' v H' e r' => hE.nx M' _ H' _ e (r'.set i) (Keep.set hi) hn
theorem sdG_asg {i : Nat} {x : TV.D} (h : RdG K G te δ (.d x) δ1) (hi : i ∉ ps) (hn : D.nx (δ1.set i (some (.d x)))) : SdG K ps G (tAsg te (gName i)) δ D := fun z M σ H r g E hE =>
  h z M σ H r g _ fun M' v H' e r' p => hE.nx M' _ H' _ e ((r'.pushD p).set i) (Keep.set hi) hn
theorem sdG_seq (hG : Lasts ps G) (h : SdG K ps G t δ { D with nx := fun δ' => SdG K ps G u δ' D }) : SdG K ps G (tSeq t u) δ D := fun z M σ H r g E hE =>
  h z M σ H r g _ ⟨fun M' σ' H' δ' e r' k q => q z M' σ' H' r' (hG _ _ _ _ e k g) E (hE.on e k), hE.rt, hE.bk, hE.ct⟩
/-- e.value -/
theorem rdG_val {i : Nat} {x : TV.D} {a d C : Addr} : RdG K (Held K i x a d) (tErrVal C a (.ref C) (some d) (tVar i)) δ (.d x) δ := fun z M σ H r g Q q => by
  obtain ⟨h1, v, h2, h3⟩ := g
  exact ⟨.ref a, h1, rfl, rfl, d, v, rfl, r.r.ex d _ h2, q M v H (Same.refl M) r h3⟩
theorem sdE_of {i : Nat} {x : TV.D} {t : Addr → Addr → TS} (h : ∀ a d, SdG K ps (Held K i x a d) (t a d) δ D) : SdE K ps i x t δ D := fun z M σ H a d v r _ h1 h2 h3 E hE => h a d z M σ H r ⟨h1, v, h2, h3⟩ E hE
end
end TV

namespace TV
open PySem PySem.Spec PyProof.Rows L2
section
variable {X : Cx} {P : Program} {w : World} {K : PySem.W.Frag} {mg : Str → Option Value} {base : Heap} {e : Expr} {es : List Expr} {pos : Pos}
/-- a call of a def that may raise -/
theorem kclX {W : WX} {k m : Nat} {x : Str} {ps : List Str} {c : CoX} {p : Pos} {tx : TA} (C : CalX P w K mg base k x ps c) (tk : Takes X W) (hr : Room m X.A) (hk : k ≤ m) (hg : Gl X x) (ha : PA X (e :: es) tx)
    (hP : X.prog = P := by rfl) (hw : X.w = w := by rfl) (hK : X.K = K := by rfl) (hm : X.mg = mg := by rfl) (hb : X.base = base := by rfl)
    (hdb : (x == ("__debug__" : Str)) = false := by decide) (he : starEach (e :: es) X.env = (false, eval e X.env) :: starEach es X.env := by rfl) (hpl : (backTo pos (starEach es X.env)).any (·.1) = false := by rfl) : PE X (.Call (.Name x p) (e :: es) [] pos) (tCallS (spX K c) (WE W) tx) := by
  subst hP hw hK hm hb
  obtain ⟨f, fd, h, g, kp, b⟩ := C.ex
  exact pe_callS h (hr.mono hk) hg g kp b (fun σ => passAt tk σ) ha hdb he hpl
end
end TV

/-! EV: values as trees, each object with its one owner; a wp over them for each construct. EV1: the trees and what stands for them. -/
namespace EV
open PySem PySem.Spec PyProof.Rows L2
inductive Con where
  | lst | tup | scr | dK (ks : List Key) | dT (ks : List (List Key)) | ins (C : Addr) (fs : List Str) | err (d : Addr)
inductive T where
  | non | bl (b : Bool) | int (i : Int) | str (x : Str) | ty (n : String) | adr (a : Addr) | nd (c : Con) (o : Bool) (ts : List T)
def obj : Con → Addr → List V → HO
  | .lst, _, vs => .lst vs
  | .tup, _, vs => .tup vs
  | .scr, _, vs => .lst vs
  | .dK ks, _, vs => .dK (ks.zip vs)
  | .dT ks, _, vs => .dT (ks.zip vs)
  | .ins C fs, b, vs => .ins C b (fs.zip vs)
  | .err _, _, vs => .xd ([("value" : Str)].zip vs)
def okc : Con → Nat → Prop
  | .dK ks, n => ks.length = n
  | .dT ks, n => ks.length = n
  | .ins _ fs, n => fs.length = n
  | .scr, _ => False
  | .err _, _ => False
  | .lst, _ => True
  | .tup, _ => True
def frObj (K : PySem.W.Frag) (M : Hp) : Con → Addr → List V → Prop
  | .tup, a, vs => SqT K M a vs
  | .scr, a, vs => SqL K M a vs
  | .lst, a, vs => M a = some (.lst vs)
  | .dK ks, a, vs => M a = some (.dK (ks.zip vs)) ∧ ks.length = vs.length
  | .dT ks, a, vs => M a = some (.dT (ks.zip vs)) ∧ ks.length = vs.length
  | .ins C fs, a, vs => (∃ b, M a = some (.ins C b (fs.zip vs))) ∧ fs.length = vs.length
  | .err d, a, vs => a = d ∧ M a = some (.xd ([("value" : Str)].zip vs)) ∧ vs.length = 1
mutual
def Rp (K : PySem.W.Frag) (M : Hp) : T → V → Prop
  | .non, v => v = .non
  | .bl b, v => v = .bl b
  | .int i, v => v = .int i
  | .str x, v => v = .str x
  | .ty n, v => v = .ty n
  | .adr a, v => v = .ref a
  | .nd c o ts, v => o = false ∧ ∃ a vs, v = .ref a ∧ frObj K M c a vs ∧ RpL K M ts vs
def RpL (K : PySem.W.Frag) (M : Hp) : List T → List V → Prop
  | [], vs => vs = []
  | d :: ds, vs => ∃ v r, vs = v :: r ∧ Rp K M d v ∧ RpL K M ds r
end
/-- trees with their places -/
inductive A where
  | lf (τ : T) (v : V) | nd (c : Con) (a b : Addr) (ts : List A)
def isTup : Con → Bool
  | .tup => true
  | _ => false
def val : A → V
  | .lf _ v => v
  | .nd _ a _ _ => .ref a
mutual
def er : A → T
  | .lf τ _ => τ
  | .nd c _ _ ts => .nd c true (erL ts)
def erL : List A → List T
  | [] => []
  | t :: r => er t :: erL r
end
mutual
def ct : A → Addr → Nat
  | .lf _ _, _ => 0
  | .nd c a _ ts, x => (if x = a ∧ isTup c = false then 1 else 0) + ctL ts x
def ctL : List A → Addr → Nat
  | [], _ => 0
  | t :: r, x => ct t x + ctL r x
end
mutual
def Hold (K : PySem.W.Frag) (M H : Hp) : A → Prop
  | .lf τ v => Rp K M τ v
  | .nd c a b ts => H a = some (obj c b (ts.map val)) ∧ okc c ts.length ∧ HoldL K M H ts
def HoldL (K : PySem.W.Frag) (M H : Hp) : List A → Prop
  | [] => True
  | t :: r => Hold K M H t ∧ HoldL K M H r
end
section
variable {K : PySem.W.Frag} {M M' H H' : Hp}
theorem frObj.mono (e : Same M M') : ∀ {c : Con} {a : Addr} {vs : List V}, frObj K M c a vs → frObj K M' c a vs
  | .tup, _, _, h => TV.Same.sqT e h
  | .scr, _, _, h => TV.Same.sqL e h
  | .lst, _, _, h => e _ _ h
  | .dK _, _, _, h => ⟨e _ _ h.1, h.2⟩
  | .dT _, _, _, h => ⟨e _ _ h.1, h.2⟩
  | .ins _ _, _, _, h => ⟨h.1.imp fun b q => e _ _ q, h.2⟩
  | .err _, _, _, h => ⟨h.1, e _ _ h.2.1, h.2.2⟩
mutual
theorem Rp.mono (e : Same M M') : ∀ {d : T} {v : V}, Rp K M d v → Rp K M' d v
  | .non, _, h => h
  | .bl _, _, h => h
  | .int _, _, h => h
  | .str _, _, h => h
  | .ty _, _, h => h
  | .adr _, _, h => h
  | .nd c o ts, _, ⟨h0, a, vs, h1, h2, h3⟩ => ⟨h0, a, vs, h1, h2.mono e, RpL.mono e h3⟩
theorem RpL.mono (e : Same M M') : ∀ {ds : List T} {vs : List V}, RpL K M ds vs → RpL K M' ds vs
  | [], _, h => h
  | _ :: _, _, ⟨v, r, h1, h2, h3⟩ => ⟨v, r, h1, Rp.mono e h2, RpL.mono e h3⟩
end
theorem RpL.length : ∀ {ds : List T} {vs : List V}, RpL K M ds vs → vs.length = ds.length
  | [], _, h => by cases h; rfl
  | _ :: _, _, ⟨v, r, h1, h2, h3⟩ => by subst h1; simp [RpL.length h3]
theorem RpL.get : ∀ {ds : List T} {vs : List V} {i : Nat} {d : T}, RpL K M ds vs → ds[i]? = some d → ∃ v, vs[i]? = some v ∧ Rp K M d v
  | [], _, i, _, _, h => by simp at h
  | x :: r, _, 0, d, ⟨v, q, h1, h2, h3⟩, h => by subst h1; simp at h; subst h; exact ⟨v, rfl, h2⟩
  | x :: r, _, i + 1, d, ⟨v, q, h1, h2, h3⟩, h => by subst h1; simpa using RpL.get h3 (by simpa using h)
theorem RpL.of_get : ∀ {ds : List T} {vs : List V}, vs.length = ds.length → (∀ (i : Nat) d v, ds[i]? = some d → vs[i]? = some v → Rp K M d v) → RpL K M ds vs
  | [], [], _, _ => rfl
  | [], _ :: _, h, _ => by cases h
  | _ :: _, [], h, _ => by cases h
  | d :: ds, v :: vs, h, g => ⟨v, vs, rfl, g 0 d v rfl rfl, RpL.of_get (by simpa using h) fun i d' v' a b => g (i + 1) d' v' (by simpa using a) (by simpa using b)⟩
theorem erL_map : ∀ ts : List A, erL ts = ts.map er
  | [] => rfl
  | t :: r => by rw [erL, erL_map r]; rfl
theorem erL_get {ts : List A} {i : Nat} {t : A} (h : ts[i]? = some t) : (erL ts)[i]? = some (er t) := by rw [erL_map, List.getElem?_map, h]; rfl
theorem erL_length (ts : List A) : (erL ts).length = ts.length := by rw [erL_map, List.length_map]
theorem HoldL_iff : ∀ {ts : List A}, HoldL K M H ts ↔ ∀ t ∈ ts, Hold K M H t
  | [] => by simp [HoldL]
  | t :: r => by rw [HoldL, HoldL_iff]; simp
theorem ctL_pos : ∀ {ts : List A} {t : A} {x : Addr}, t ∈ ts → ct t x ≤ ctL ts x
  | s :: r, t, x, h => by
    rw [ctL]
    rcases List.mem_cons.mp h with h | h
    · subst h; omega
    · have := ctL_pos (x := x) h; omega
theorem ctL_append : ∀ {ts us : List A} {x : Addr}, ctL (ts ++ us) x = ctL ts x + ctL us x
  | [], us, x => by simp [ctL]
  | t :: r, us, x => by simp only [List.cons_append, ctL, ctL_append (ts := r)]; omega
theorem ctL_set : ∀ {ts : List A} {i : Nat} {t t' : A} {x : Addr}, ts[i]? = some t → ctL (ts.set i t') x + ct t x = ctL ts x + ct t' x
  | [], i, _, _, _, h => by simp at h
  | s :: r, 0, t, t', x, h => by simp at h; subst h; simp only [List.set_cons_zero, ctL]; omega
  | s :: r, i + 1, t, t', x, h => by
    have := ctL_set (ts := r) (i := i) (t := t) (t' := t') (x := x) (by simpa using h)
    simp only [List.set_cons_succ, ctL]
    omega
theorem HoldL_set {ts : List A} {i : Nat} {t' : A} (h : HoldL K M H ts) (g : Hold K M H t') : HoldL K M H (ts.set i t') := by
  rw [HoldL_iff] at h ⊢
  intro t ht
  rcases List.mem_or_eq_of_mem_set ht with q | q
  · exact h t q
  · rw [q]; exact g
/-- tuples stay -/
def TupK (H H' : Hp) : Prop := ∀ x vs, H x = some (.tup vs) → H' x = some (.tup vs)
theorem TupK.refl : TupK H H := fun _ _ h => h
theorem TupK.same (e : Same H H') : TupK H H' := fun x vs h => e x _ h
theorem isTup_eq {c : Con} (h : isTup c = true) : c = .tup := by cases c <;> first | rfl | cases h
theorem keepAt {c : Con} {a b : Addr} {vs : List V} (tk : TupK H H') (k : isTup c = false → H' a = H a) (h : H a = some (obj c b vs)) : H' a = some (obj c b vs) := by
  cases e : isTup c with
  | true =>
    cases isTup_eq e
    exact tk a vs h
  | false => exact (k e).trans h
mutual
theorem Hold.mono (e : Same M M') (tk : TupK H H') : ∀ {t : A}, (∀ x, 0 < ct t x → H' x = H x) → Hold K M H t → Hold K M' H' t
  | .lf τ v, _, h => Rp.mono e h
  | .nd c a b ts, k, ⟨h1, h2, h3⟩ => ⟨keepAt tk (fun hc => k a (by rw [ct, if_pos ⟨rfl, hc⟩]; omega)) h1, h2, HoldL.mono e tk (fun x hx => k x (by rw [ct]; omega)) h3⟩
theorem HoldL.mono (e : Same M M') (tk : TupK H H') : ∀ {ts : List A}, (∀ x, 0 < ctL ts x → H' x = H x) → HoldL K M H ts → HoldL K M' H' ts
  | [], _, _ => trivial
  | t :: r, k, ⟨h1, h2⟩ => ⟨Hold.mono e tk (fun x hx => k x (by rw [ctL]; omega)) h1, HoldL.mono e tk (fun x hx => k x (by rw [ctL]; omega)) h2⟩
end
mutual
theorem Hold.dom : ∀ {t : A} {x : Addr}, Hold K M H t → 0 < ct t x → ∃ o, H x = some o
  | .lf _ _, _, _, h => by rw [ct] at h; omega
  | .nd c a b ts, x, ⟨h1, h2, h3⟩, h => by
    rw [ct] at h
    by_cases e : x = a ∧ isTup c = false
    · exact ⟨_, e.1 ▸ h1⟩
    · rw [if_neg e] at h
      exact HoldL.dom h3 (by omega)
theorem HoldL.dom : ∀ {ts : List A} {x : Addr}, HoldL K M H ts → 0 < ctL ts x → ∃ o, H x = some o
  | [], _, _, h => by rw [ctL] at h; omega
  | t :: r, x, ⟨h1, h2⟩, h => by
    rw [ctL] at h
    by_cases e : 0 < ct t x
    · exact Hold.dom h1 e
    · exact HoldL.dom h2 (by omega)
end
theorem obj_ntup {c : Con} {b : Addr} {vs ws : List V} (h : isTup c = false) : obj c b vs ≠ .tup ws := by
  intro z
  cases c <;> simp [obj, isTup] at z h
mutual
theorem Hold.ntup : ∀ {t : A} {x : Addr} {ws : List V}, Hold K M H t → 0 < ct t x → H x ≠ some (.tup ws)
  | .lf _ _, _, _, _, h => by rw [ct] at h; omega
  | .nd c a b ts, x, ws, ⟨h1, h2, h3⟩, h => by
    rw [ct] at h
    by_cases e : x = a ∧ isTup c = false
    · rw [e.1, h1]
      exact fun z => obj_ntup e.2 (Option.some.inj z)
    · rw [if_neg e] at h
      exact HoldL.ntup h3 (by omega)
theorem HoldL.ntup : ∀ {ts : List A} {x : Addr} {ws : List V}, HoldL K M H ts → 0 < ctL ts x → H x ≠ some (.tup ws)
  | [], _, _, _, h => by rw [ctL] at h; omega
  | t :: r, x, ws, ⟨h1, h2⟩, h => by
    rw [ctL] at h
    by_cases e : 0 < ct t x
    · exact Hold.ntup h1 e
    · exact HoldL.ntup h2 (by omega)
end
theorem HoldL.grow {ts : List A} (h : HoldL K M H ts) (e : Same M M') (e2 : Same H H') : HoldL K M' H' ts := h.mono e (TupK.same e2) fun x hx => by
  obtain ⟨o, ho⟩ := h.dom hx
  rw [ho, e2 _ _ ho]
/-! ### places in a tree -/
def isF : T → Bool
  | .nd _ o _ => !o
  | _ => true
def at' : List Nat → A → Option A
  | [], a => some a
  | k :: p, .nd _ _ _ ts => (ts[k]?).bind (at' p)
  | _ :: _, .lf _ _ => none
def put' : List Nat → A → A → A
  | [], b, _ => b
  | k :: p, b, .nd c a x ts => .nd c a x (match ts[k]? with | some t => ts.set k (put' p b t) | none => ts)
  | _ :: _, _, .lf τ v => .lf τ v
def T.at : List Nat → T → Option T
  | [], τ => some τ
  | k :: p, .nd _ true ts => (ts[k]?).bind (T.at p)
  | _ :: _, _ => none
def T.put : List Nat → T → T → T
  | [], b, _ => b
  | k :: p, b, .nd c true ts => .nd c true (match ts[k]? with | some t => ts.set k (T.put p b t) | none => ts)
  | _ :: _, _, τ => τ

theorem lf_froz {τ : T} {v : V} (h : Rp K M τ v) : isF τ = true := by
  cases τ <;> first | rfl | (obtain ⟨h0, _⟩ := h; subst h0; rfl)
theorem leaf_of : ∀ {a : A}, isF (er a) = true → ∃ τ v, a = .lf τ v
  | .lf τ v, _ => ⟨τ, v, rfl⟩
  | .nd _ _ _ _, h => by simp [er, isF] at h
theorem Hold.get {c : Con} {a b : Addr} {ts : List A} {k : Nat} {t : A} (h : Hold K M H (.nd c a b ts)) (hk : ts[k]? = some t) : Hold K M H t := (HoldL_iff.mp h.2.2) t (List.mem_of_getElem? hk)
theorem at_er : ∀ {p : List Nat} {a : A} {s : T}, Hold K M H a → T.at p (er a) = some s → ∃ b, at' p a = some b ∧ er b = s
  | [], a, s, _, h => ⟨a, rfl, by simpa [T.at] using h⟩
  | k :: p, .lf τ v, s, hh, h => by
    have := lf_froz hh
    cases τ <;> simp [er, T.at] at h
    rename_i c o ts
    cases o <;> simp [isF] at this
    simp [T.at] at h
  | k :: p, .nd c a b ts, s, hh, h => by
    simp only [er, T.at, erL_map, List.getElem?_map] at h
    cases e : ts[k]? with
    | none => rw [e] at h; cases h
    | some t =>
      rw [e] at h
      obtain ⟨b', h1, h2⟩ := at_er (hh.get e) h
      exact ⟨b', by simp only [at', e]; exact h1, h2⟩
theorem er_put : ∀ {p : List Nat} {a b b' : A}, at' p a = some b → er (put' p b' a) = T.put p (er b') (er a)
  | [], _, _, _, _ => rfl
  | k :: p, .lf τ v, b, b', h => by simp [at'] at h
  | k :: p, .nd c a x ts, b, b', h => by
    simp only [at'] at h
    cases e : ts[k]? with
    | none => rw [e] at h; cases h
    | some t =>
      rw [e] at h
      have ih := er_put (b' := b') (h : at' p t = some b)
      simp only [put', e, er, T.put, erL_map, List.getElem?_map, List.map_set, ih, Option.map_some]
theorem val_put : ∀ {p : List Nat} {a b b' : A}, at' p a = some b → val b' = val b → val (put' p b' a) = val a
  | [], a, b, b', h, g => by simp only [at'] at h; cases h; exact g
  | k :: p, .lf τ v, b, b', h, _ => by simp [at'] at h
  | k :: p, .nd c a x ts, b, b', _, _ => rfl
theorem Hold_at : ∀ {p : List Nat} {a b : A}, Hold K M H a → at' p a = some b → Hold K M H b
  | [], a, b, h, g => by simp only [at'] at g; cases g; exact h
  | k :: p, .lf τ v, b, _, g => by simp [at'] at g
  | k :: p, .nd c a x ts, b, h, g => by
    simp only [at'] at g
    cases e : ts[k]? with
    | none => rw [e] at g; cases g
    | some t => rw [e] at g; exact Hold_at (h.get e) g
theorem ct_at : ∀ {p : List Nat} {a b : A} {x : Addr}, at' p a = some b → ct b x ≤ ct a x
  | [], a, b, x, g => by simp only [at'] at g; cases g; exact Nat.le_refl _
  | k :: p, .lf τ v, b, x, g => by simp [at'] at g
  | k :: p, .nd c a y ts, b, x, g => by
    simp only [at'] at g
    cases e : ts[k]? with
    | none => rw [e] at g; cases g
    | some t =>
      rw [e] at g
      have h1 := ct_at (x := x) (g : at' p t = some b)
      have h2 := ctL_pos (x := x) (List.mem_of_getElem? e)
      rw [ct]
      omega
theorem ct_put : ∀ {p : List Nat} {a b b' : A} {x : Addr}, at' p a = some b → ct (put' p b' a) x + ct b x = ct a x + ct b' x
  | [], a, b, b', x, g => by simp only [at'] at g; cases g; rw [put']; omega
  | k :: p, .lf τ v, b, b', x, g => by simp [at'] at g
  | k :: p, .nd c a y ts, b, b', x, g => by
    simp only [at'] at g
    cases e : ts[k]? with
    | none => rw [e] at g; cases g
    | some t =>
      rw [e] at g
      have h1 := ct_put (b' := b') (x := x) (g : at' p t = some b)
      have h2 := ctL_set (t' := put' p b' t) (x := x) e
      simp only [put', e, ct]
      omega
theorem set_self {α : Type} : ∀ {l : List α} {k : Nat} {v : α}, l[k]? = some v → l.set k v = l
  | [], _, _, h => by simp at h
  | x :: r, 0, v, h => by simp at h; subst h; rfl
  | x :: r, k + 1, v, h => by rw [List.set_cons_succ, set_self (by simpa using h)]
/-- a part is replaced by one that stands; what lies outside of the part stands as it did -/
theorem Hold_put (e : Same M M') (tk : TupK H H') : ∀ {p : List Nat} {a b b' : A}, (∀ x, ct a x ≤ 1) → Hold K M H a → at' p a = some b → val b' = val b → (∀ x, 0 < ct a x → ct b x = 0 → H' x = H x) → Hold K M' H' b' → Hold K M' H' (put' p b' a)
  | [], a, b, b', _, _, _, _, _, h => h
  | k :: p, .lf τ v, b, b', _, _, g, _, _, _ => by simp [at'] at g
  | k :: p, .nd c a y ts, b, b', un, hh, g, vb, kx, hb => by
    simp only [at'] at g
    cases e1 : ts[k]? with
    | none => rw [e1] at g; cases g
    | some t =>
      rw [e1] at g
      have g : at' p t = some b := g
      have hl := (List.getElem?_eq_some_iff.mp e1).1
      have hcb : ∀ x, ct b x ≤ ct t x := fun x => ct_at g
      have htl : ∀ x, ct t x ≤ ctL ts x := fun x => ctL_pos (List.mem_of_getElem? e1)
      have unx : ∀ x, (if x = a ∧ isTup c = false then 1 else 0) + ctL ts x ≤ 1 := fun x => by have := un x; rwa [ct] at this
      have ih : Hold K M' H' (put' p b' t) := Hold_put e tk (fun x => by have := unx x; have := htl x; omega) (hh.get e1) g vb (fun x h1 h2 => kx x (by rw [ct]; have := htl x; omega) h2) hb
      obtain ⟨h1, h2, h3⟩ := hh
      simp only [put', e1]
      refine ⟨?_, by rw [List.length_set]; exact h2, ?_⟩
      · rw [List.map_set, val_put g vb]
        have : (ts.map val)[k]? = some (val t) := by rw [List.getElem?_map, e1]; rfl
        rw [set_self this]
        exact keepAt tk (fun hc => kx a (by rw [ct, if_pos ⟨rfl, hc⟩]; omega) (by have := unx a; rw [if_pos ⟨rfl, hc⟩] at this; have := hcb a; have := htl a; omega)) h1
      · rw [HoldL_iff] at h3 ⊢
        intro t' ht'
        obtain ⟨i, hi, et⟩ := List.getElem_of_mem ht'
        rw [List.length_set] at hi
        by_cases hik : i = k
        · subst hik
          rw [List.getElem_set_self] at et
          rw [← et]
          exact ih
        · rw [List.getElem_set_ne (Ne.symm hik)] at et
          subst et
          refine (h3 _ (List.getElem_mem hi)).mono e tk fun x hx => kx x ?_ ?_
          · have := ctL_pos (x := x) (List.getElem_mem hi)
            rw [ct]; omega
          · have q := ctL_set (t' := .lf .non .non) (x := x) e1
            have q2 : ct ts[i] x ≤ ctL (ts.set k (.lf .non .non)) x := ctL_pos (List.mem_of_getElem? (i := i) (by rw [List.getElem?_set_ne (Ne.symm hik)]; exact List.getElem?_eq_getElem hi))
            have := unx x
            have := hcb x
            have : ct (.lf .non .non) x = 0 := rfl
            omega
/-- where a place's value is found behind a change elsewhere -/
theorem at_put : ∀ {p q : List Nat} {a b b' c : A}, at' p a = some b → val b' = val b → at' q a = some c → (∀ r, q = p ++ r → r ≠ [] → ∃ c', at' r b' = some c' ∧ val c' = val c) → ∃ c', at' q (put' p b' a) = some c' ∧ val c' = val c
  | [], q, a, b, b', c, g, vb, hq, k => by
    simp only [at'] at g
    cases g
    cases q with
    | nil => simp only [at'] at hq; cases hq; exact ⟨b', rfl, vb⟩
    | cons x r => exact k (x :: r) rfl (by simp)
  | n :: p, q, .lf τ v, b, b', c, g, _, _, _ => by simp [at'] at g
  | n :: p, [], .nd d a y ts, b, b', c, g, vb, hq, k => by
    simp only [at'] at hq
    cases hq
    exact ⟨_, rfl, rfl⟩
  | n :: p, m :: q, .nd d a y ts, b, b', c, g, vb, hq, k => by
    simp only [at'] at g hq
    cases e1 : ts[n]? with
    | none => rw [e1] at g; cases g
    | some t =>
      rw [e1] at g
      have hl := (List.getElem?_eq_some_iff.mp e1).1
      by_cases hmn : m = n
      · subst hmn
        rw [e1] at hq
        obtain ⟨c', h1, h2⟩ := at_put (g : at' p t = some b) vb (hq : at' q t = some c) fun r hr hne => k r (by rw [hr]; rfl) hne
        exact ⟨c', by simp only [put', e1, at', List.getElem?_set_self hl]; exact h1, h2⟩
      · exact ⟨c, by simp only [put', e1, at', List.getElem?_set_ne (Ne.symm hmn)]; exact hq, rfl⟩
theorem at_app : ∀ {p r : List Nat} {a b c : A}, at' p a = some b → at' (p ++ r) a = some c → at' r b = some c
  | [], r, a, b, c, h, g => by simp only [at'] at h; cases h; exact g
  | k :: p, r, .lf τ v, b, c, h, _ => by simp [at'] at h
  | k :: p, r, .nd d x y ts, b, c, h, g => by
    simp only [at', List.cons_append] at h g
    cases e : ts[k]? with
    | none => rw [e] at h; cases h
    | some t => rw [e] at h g; exact at_app (h : at' p t = some b) g
theorem app_at : ∀ {p r : List Nat} {a b : A}, at' p a = some b → at' (p ++ r) a = at' r b
  | [], r, a, b, h => by simp only [at'] at h; cases h; rfl
  | k :: p, r, .lf τ v, b, h => by simp [at'] at h
  | k :: p, r, .nd d x y ts, b, h => by
    simp only [at', List.cons_append] at h ⊢
    cases e : ts[k]? with
    | none => rw [e] at h; cases h
    | some t => rw [e] at h; exact app_at (h : at' p t = some b)
end
end EV

/-! EV2: slots and what they own -/
namespace EV
open PySem PySem.Spec PyProof.Rows L2
inductive Sl where
  | t (τ : T) | al (j : Nat) (p : List Nat)
abbrev Env := List (Option Sl)
/-- σ: the slots and what stands beside them; β: what is in hand -/
structure RA (K : PySem.W.Frag) (M : Hp) (σ : L2.St) (H : Hp) (δ : Env) (α β : List A) : Prop where
  ex : Same M H
  ls : σ.length = δ.length
  la : α.length = δ.length
  un : ∀ x, ctL α x + ctL β x ≤ 1
  nm : ∀ x, 0 < ctL α x + ctL β x → M x = none
  ho : HoldL K M H α
  hb : HoldL K M H β
  own : ∀ (i : Nat) τ, δ[i]? = some (some (.t τ)) → ∃ a, α[i]? = some a ∧ er a = τ ∧ σ[i]? = some (some (val a))
  ali : ∀ (i j : Nat) p, δ[i]? = some (some (.al j p)) → ∃ τ a b, δ[j]? = some (some (.t τ)) ∧ α[j]? = some a ∧ at' p a = some b ∧ σ[i]? = some (some (val b))
def RB (K : PySem.W.Frag) (M : Hp) (σ : L2.St) (H : Hp) (δ : Env) (β : List A) : Prop := ∃ α, RA K M σ H δ α β
abbrev R (K : PySem.W.Frag) (M : Hp) (σ : L2.St) (H : Hp) (δ : Env) : Prop := RB K M σ H δ []
def Less (δ' δ : Env) : Prop := δ'.length = δ.length ∧ (∀ (i : Nat) (t : Sl), δ'[i]? = some (some t) → δ[i]? = some (some t)) ∧ ∀ (i j : Nat) p, δ'[i]? = some (some (.al j p)) → ∀ t, δ[j]? = some (some t) → δ'[j]? = some (some t)
section
variable {K : PySem.W.Frag} {M M' H H' : Hp} {σ : L2.St} {δ δ' : Env} {α β β' γ : List A}
theorem Less.refl : Less δ δ := ⟨rfl, fun _ _ h => h, fun _ _ _ _ _ h => h⟩
theorem RA.less (r : RA K M σ H δ α β) (l : Less δ' δ) : RA K M σ H δ' α β :=
  ⟨r.ex, r.ls.trans l.1.symm, r.la.trans l.1.symm, r.un, r.nm, r.ho, r.hb, fun i τ h => r.own i τ (l.2.1 i _ h), fun i j p h => by
    obtain ⟨τ, a, b, h1, h2⟩ := r.ali i j p (l.2.1 i _ h)
    exact ⟨τ, a, b, l.2.2 i j p h _ h1, h2⟩⟩
theorem RB.less (r : RB K M σ H δ β) (l : Less δ' δ) : RB K M σ H δ' β := r.imp fun _ r => r.less l
theorem RB.ex (r : RB K M σ H δ β) : Same M H := let ⟨_, r⟩ := r; r.ex
theorem RB.ls (r : RB K M σ H δ β) : σ.length = δ.length := let ⟨_, r⟩ := r; r.ls
theorem nmOf (r : RA K M σ H δ α β) {p : Addr} (hp : H p = none) : M p = none := by
  cases e : M p with
  | none => rfl
  | some u => rw [r.ex p u e] at hp; cases hp
theorem noC (r : RA K M σ H δ α β) {p : Addr} (hp : H p = none) : ctL α p = 0 ∧ ctL β p = 0 := by
  refine ⟨Nat.eq_zero_of_not_pos fun h => ?_, Nat.eq_zero_of_not_pos fun h => ?_⟩
  · obtain ⟨o, ho⟩ := r.ho.dom h
    rw [hp] at ho; cases ho
  · obtain ⟨o, ho⟩ := r.hb.dom h
    rw [hp] at ho; cases ho
theorem RB.grow (r : RB K M σ H δ β) (e : Same H H') : RB K M σ H' δ β := by
  obtain ⟨α, r⟩ := r
  exact ⟨α, r.ex.trans e, r.ls, r.la, r.un, r.nm, r.ho.grow (Same.refl M) e, r.hb.grow (Same.refl M) e, r.own, r.ali⟩
/-- more stands still -/
theorem RA.still (r : RA K M σ H δ α β) (e : Same M M') (e' : Same M' H) (n : ∀ x, M x = none → 0 < ctL α x + ctL β x → M' x = none) : RA K M' σ H δ α β :=
  ⟨e', r.ls, r.la, r.un, fun x h => n x (r.nm x h) h, r.ho.grow e (Same.refl H), r.hb.grow e (Same.refl H), r.own, r.ali⟩
theorem sameU {H : Hp} {p : Addr} {o : HO} (h : H p = none) : Same H (upd H p o) := fun b x e => by
  rw [upd_ne (ne_of_none e h)]
  exact e
theorem sameUU {p : Addr} {o : HO} (e : Same M H) : Same (upd M p o) (upd H p o) := fun b u h => by
  by_cases hb : b = p
  · subst hb
    rw [upd_same] at h ⊢
    exact h
  · rw [upd_ne hb] at h ⊢
    exact e b u h
/-- a new object that stands still -/
theorem RB.laid (r : RB K M σ H δ β) {p : Addr} {o : HO} (hp : H p = none) : Same M (upd M p o) ∧ RB K (upd M p o) σ (upd H p o) δ β := by
  obtain ⟨α, r⟩ := r
  have mp := nmOf r hp
  have no := noC r hp
  refine ⟨sameU mp, α, sameUU r.ex, r.ls, r.la, r.un, fun x h => ?_, r.ho.grow (sameU mp) (sameU hp), r.hb.grow (sameU mp) (sameU hp), r.own, r.ali⟩
  have : x ≠ p := by rintro rfl; omega
  rw [upd_ne this]
  exact r.nm x h
/-- a new object in hand, made of what is in hand -/
theorem RB.make (r : RB K M σ H δ (β ++ γ)) {p b : Addr} {c : Con} (hp : H p = none) (hc : okc c γ.length) : RB K M σ (upd H p (obj c b (γ.map val))) δ (β ++ [.nd c p b γ]) := by
  obtain ⟨α, r⟩ := r
  have no := noC r hp
  have e := r.un
  have hbg := r.hb
  rw [HoldL_iff] at hbg
  refine ⟨α, r.ex.trans (sameU hp), r.ls, r.la, fun x => ?_, fun x h => ?_, r.ho.grow (Same.refl M) (sameU hp), ?_, r.own, r.ali⟩
  · have := e x
    rw [ctL_append] at this ⊢
    simp only [ctL, ct]
    by_cases hx : x = p
    · subst hx
      rw [ctL_append] at no
      split <;> omega
    · rw [if_neg fun z => hx z.1]; omega
  · by_cases hx : x = p
    · subst hx; exact nmOf r hp
    · refine r.nm x ?_
      rw [ctL_append] at h ⊢
      simp only [ctL, ct, if_neg fun (z : x = p ∧ isTup c = false) => hx z.1] at h
      omega
  · rw [HoldL_iff]
    intro t ht
    rcases List.mem_append.mp ht with q | q
    · exact (hbg t (List.mem_append_left _ q)).mono (Same.refl M) (TupK.same (sameU hp)) fun x hx => upd_ne (by
        rintro rfl
        have := ctL_pos (x := x) (List.mem_append_left γ q)
        omega)
    · rw [List.mem_singleton.mp q]
      refine ⟨upd_same, hc, ?_⟩
      rw [HoldL_iff]
      intro s hs
      exact (hbg s (List.mem_append_right _ hs)).mono (Same.refl M) (TupK.same (sameU hp)) fun x hx => upd_ne (by
        rintro rfl
        have := ctL_pos (x := x) (List.mem_append_right β hs)
        omega)
theorem get_push {α : Type} {l : List α} {x y : α} {i : Nat} (h : (l ++ [x])[i]? = some y) : l[i]? = some y ∨ (i = l.length ∧ x = y) := TV.get_push h
theorem get_left {α : Type} {l m : List α} {y : α} {i : Nat} (h : l[i]? = some y) : (l ++ m)[i]? = some y := TV.get_leftL h
theorem get_top {α : Type} {l : List α} {x : α} : (l ++ [x])[l.length]? = some x := TV.get_top
/-- what is in hand goes on top -/
theorem RB.push {a : A} (r : RB K M σ H δ (β ++ [a])) : RB K M (σ ++ [some (val a)]) H (δ ++ [some (.t (er a))]) β := by
  obtain ⟨α, r⟩ := r
  have hb := r.hb
  rw [HoldL_iff] at hb
  refine ⟨α ++ [a], r.ex, by simp [r.ls], by simp [r.la], fun x => ?_, fun x h => r.nm x ?_, ?_, ?_, fun i τ h => ?_, fun i j p h => ?_⟩
  · have := r.un x
    rw [ctL_append] at this ⊢
    omega
  · rw [ctL_append] at h ⊢
    omega
  · have ho := r.ho
    rw [HoldL_iff] at ho ⊢
    intro t ht
    rcases List.mem_append.mp ht with q | q
    · exact ho t q
    · exact hb t (List.mem_append_right _ q)
  · rw [HoldL_iff]
    intro t ht
    exact hb t (List.mem_append_left _ ht)
  · rcases get_push h with q | ⟨q1, q2⟩
    · obtain ⟨a', h1, h2, h3⟩ := r.own i τ q
      exact ⟨a', get_left h1, h2, get_left h3⟩
    · cases q2
      refine ⟨a, by rw [q1, ← r.la]; exact get_top, rfl, by rw [q1, ← r.ls]; exact get_top⟩
  · rcases get_push h with q | ⟨q1, q2⟩
    · obtain ⟨τ, a', b, h1, h2, h3, h4⟩ := r.ali i j p q
      exact ⟨τ, a', b, get_left h1, get_left h2, h3, get_left h4⟩
    · cases q2
/-- a name for a part -/
theorem RA.pushAl {j : Nat} {p : List Nat} {a b : A} (r : RA K M σ H δ α β) (hj : δ[j]? = some (some (.t (er a)))) (h1 : α[j]? = some a) (hb : at' p a = some b) : RB K M (σ ++ [some (val b)]) H (δ ++ [some (.al j p)]) β := by
  refine ⟨α ++ [.lf .non .non], r.ex, by simp [r.ls], by simp [r.la], fun x => ?_, fun x h => r.nm x ?_, ?_, r.hb, fun i τ h => ?_, fun i j' p' h => ?_⟩
  · have := r.un x
    rw [ctL_append]
    simp only [ctL, ct]
    omega
  · rw [ctL_append] at h
    simp only [ctL, ct] at h
    omega
  · have ho := r.ho
    rw [HoldL_iff] at ho ⊢
    intro t ht
    rcases List.mem_append.mp ht with q | q
    · exact ho t q
    · rw [List.mem_singleton.mp q]; exact rfl
  · rcases get_push h with q | ⟨_, q2⟩
    · obtain ⟨a', h1, h2, h3⟩ := r.own i τ q
      exact ⟨a', get_left h1, h2, get_left h3⟩
    · cases q2
  · rcases get_push h with q | ⟨q1, q2⟩
    · obtain ⟨τ, a', b, h1, h2, h3, h4⟩ := r.ali i j' p' q
      exact ⟨τ, a', b, get_left h1, get_left h2, h3, get_left h4⟩
    · cases q2
      exact ⟨_, a, b, get_left hj, get_left h1, hb, by rw [q1, ← r.ls]; exact get_top⟩
/-- the reserve goes -/
def kil (f : Nat → List Nat → Bool) (δ : Env) : Env := δ.map fun o => match o with
  | some (.al j p) => if f j p then none else some (.al j p)
  | o => o
theorem kil_t {f : Nat → List Nat → Bool} {i : Nat} {τ : T} : (kil f δ)[i]? = some (some (.t τ)) ↔ δ[i]? = some (some (.t τ)) := by
  unfold kil
  rw [List.getElem?_map]
  cases e : δ[i]? with
  | none => simp
  | some o =>
    cases o with
    | none => simp
    | some s =>
      cases s with
      | t τ' => simp
      | al j p => simp
theorem kil_al {f : Nat → List Nat → Bool} {i j : Nat} {p : List Nat} (h : (kil f δ)[i]? = some (some (.al j p))) : δ[i]? = some (some (.al j p)) ∧ f j p = false := by
  unfold kil at h
  rw [List.getElem?_map] at h
  cases e : δ[i]? with
  | none => rw [e] at h; cases h
  | some o =>
    rw [e] at h
    cases o with
    | none => cases h
    | some s =>
      cases s with
      | t τ' => cases h
      | al j' p' =>
        simp only [Option.map_some] at h
        split at h
        · cases h
        · rename_i hf
          cases h
          exact ⟨rfl, by simpa using hf⟩
theorem kil_length {f : Nat → List Nat → Bool} : (kil f δ).length = δ.length := by simp [kil]
theorem kil_less {f : Nat → List Nat → Bool} (r : RA K M σ H δ α β) : RA K M σ H (kil f δ) α β :=
  ⟨r.ex, r.ls.trans kil_length.symm, r.la.trans kil_length.symm, r.un, r.nm, r.ho, r.hb, fun i τ h => r.own i τ (kil_t.mp h), fun i j p h => by
    obtain ⟨τ, a, b, h1, h2⟩ := r.ali i j p (kil_al h).1
    exact ⟨τ, a, b, kil_t.mpr h1, h2⟩⟩
/-- the part at p of slot j is another one from now on -/
theorem RA.wr (r : RA K M σ H δ α β) {j : Nat} {p : List Nat} {a b b' : A} (hd : δ[j]? = some (some (.t (er a)))) (hj : α[j]? = some a) (hp : at' p a = some b) (vb : val b' = val b) (e : Same M M') (ex' : Same M' H') (tk : TupK H H')
    (k : ∀ x, ct b x = 0 → H' x = H x) (un' : ∀ x, ct b' x + ctL β' x ≤ ct b x + ctL β x) (nm' : ∀ x, 0 < ctL α x + ctL β x → M' x ≠ M x → ct b' x = 0 ∧ ctL β' x = 0 ∧ 0 < ct b x) (hb' : Hold K M' H' b') (hbb : HoldL K M' H' β')
    (al' : ∀ (i : Nat) q, δ[i]? = some (some (.al j q)) → ∀ r, q = p ++ r → r ≠ [] → ∀ c, at' r b = some c → ∃ c', at' r b' = some c' ∧ val c' = val c) :
    RA K M' σ H' (δ.set j (some (.t (T.put p (er b') (er a))))) (α.set j (put' p b' a)) β' := by
  have hjl := (List.getElem?_eq_some_iff.mp hj).1
  have hdl := (List.getElem?_eq_some_iff.mp hd).1
  have ha : Hold K M H a := (HoldL_iff.mp r.ho) a (List.mem_of_getElem? hj)
  have una : ∀ x, ct a x ≤ 1 := fun x => by
    have := r.un x
    have := ctL_pos (x := x) (List.mem_of_getElem? hj)
    omega
  have cA : ∀ x, ctL (α.set j (put' p b' a)) x + ct b x = ctL α x + ct b' x := fun x => by
    have h1 := ctL_set (t' := put' p b' a) (x := x) hj
    have h2 := ct_put (b' := b') (x := x) hp
    omega
  have bA : ∀ x, ct b x ≤ ctL α x := fun x => by
    have h1 := ct_at (x := x) hp
    have := ctL_pos (x := x) (List.mem_of_getElem? hj)
    omega
  obtain ⟨va, hva, hvs, hsa⟩ := r.own j _ hd
  rw [hj] at hva
  cases hva
  refine ⟨ex', by simp [r.ls], by simp [r.la], fun x => ?_, fun x h => ?_, ?_, hbb, fun i τ h => ?_, fun i j' q h => ?_⟩
  · have := r.un x
    have := cA x
    have := un' x
    have := bA x
    omega
  · have h0 := r.un x
    have h1 := cA x
    have h2 := un' x
    have h3 := bA x
    by_cases hm : M' x = M x
    · rw [hm]
      exact r.nm x (by omega)
    · obtain ⟨g1, g2, g3⟩ := nm' x (by omega) hm
      omega
  · rw [HoldL_iff]
    intro t ht
    obtain ⟨i, hi, et⟩ := List.getElem_of_mem ht
    rw [List.length_set] at hi
    by_cases hij : i = j
    · subst hij
      rw [List.getElem_set_self] at et
      rw [← et]
      exact Hold_put e tk una ha hp vb (fun x _ h2 => k x h2) hb'
    · rw [List.getElem_set_ne (Ne.symm hij)] at et
      subst et
      refine ((HoldL_iff.mp r.ho) _ (List.getElem_mem hi)).mono e tk fun x hx => k x ?_
      have q := ctL_set (t' := .lf .non .non) (x := x) hj
      have q2 : ct α[i] x ≤ ctL (α.set j (.lf .non .non)) x := ctL_pos (List.mem_of_getElem? (i := i) (by rw [List.getElem?_set_ne (Ne.symm hij)]; exact List.getElem?_eq_getElem hi))
      have := r.un x
      have := ct_at (x := x) hp
      have : ct (.lf .non .non) x = 0 := rfl
      omega
  · by_cases hij : i = j
    · subst hij
      rw [List.getElem?_set_self hdl] at h
      cases h
      exact ⟨_, List.getElem?_set_self hjl, er_put hp, by rw [val_put hp vb]; exact hsa⟩
    · rw [List.getElem?_set_ne (Ne.symm hij)] at h
      obtain ⟨a', h1, h2⟩ := r.own i τ h
      exact ⟨a', by rw [List.getElem?_set_ne (Ne.symm hij)]; exact h1, h2⟩
  · have h0 : δ[i]? = some (some (.al j' q)) := by
      by_cases hij : i = j
      · subst hij
        rw [List.getElem?_set_self hdl] at h
        cases h
      · rwa [List.getElem?_set_ne (Ne.symm hij)] at h
    obtain ⟨τ, a', c, h1, h2, h3, h4⟩ := r.ali i j' q h0
    by_cases hjj : j' = j
    · subst hjj
      rw [hj] at h2
      cases h2
      obtain ⟨c', g1, g2⟩ := at_put hp vb h3 fun s hs hne => al' i q h0 s hs hne c (by
        rw [hs] at h3
        exact (at_app hp h3))
      exact ⟨_, _, c', List.getElem?_set_self hdl, List.getElem?_set_self hjl, g1, by rw [g2]; exact h4⟩
    · exact ⟨τ, a', c, by rw [List.getElem?_set_ne (Ne.symm hjj)]; exact h1, by rw [List.getElem?_set_ne (Ne.symm hjj)]; exact h2, h3, h4⟩
end
end EV

/-! EV3: arguments; what is handed on -/
namespace EV
open PySem PySem.Spec PyProof.Rows L2
inductive Arg where
  | v (τ : T) | sl (k : Nat)
def look (δ : Env) (k : Nat) : Option (Nat × List Nat) := match δ[k]? with
  | some (some (.t _)) => some (k, [])
  | some (some (.al j p)) => some (j, p)
  | _ => none
def tree (δ : Env) (j : Nat) : Option T := match δ[j]? with
  | some (some (.t τ)) => some τ
  | _ => none
def sub (δ : Env) (j : Nat) (p : List Nat) : Option T := (tree δ j).bind (T.at p)
def argT (δ : Env) : Arg → Option T
  | .v τ => some τ
  | .sl k => (look δ k).bind fun q => sub δ q.1 q.2
def ArgOk (K : PySem.W.Frag) (M : Hp) (S : L2.St) : Arg → V → Prop
  | .v τ, u => Rp K M τ u
  | .sl k, u => S[k]? = some (some u)
def below (p q : List Nat) : Bool := p.isPrefixOf q && !(p == q)
def putE (δ : Env) (j : Nat) (p : List Nat) (s : T) : Env := match tree δ j with
  | some τ => (kil (fun i q => i == j && below p q) δ).set j (some (.t (T.put p s τ)))
  | none => δ
/-- .. its own parts stay where they are -/
def putK (δ : Env) (j : Nat) (p : List Nat) (s : T) : Env := match tree δ j with
  | some τ => δ.set j (some (.t (T.put p s τ)))
  | none => δ
mutual
def fz : T → T
  | .nd c _ ts => .nd c false (fzL ts)
  | .non => .non
  | .bl b => .bl b
  | .int i => .int i
  | .str x => .str x
  | .ty n => .ty n
  | .adr a => .adr a
def fzL : List T → List T
  | [] => []
  | t :: r => fz t :: fzL r
end
def take1 (n : Nat) (δ : Env) : Arg → Option (T × Env)
  | .v τ => some (τ, δ)
  | .sl k => (look δ k).bind fun q => (sub δ q.1 q.2).bind fun s =>
    if isF s = true then some (s, δ) else if n ≤ q.1 then some (s, (kil (fun i _ => i == q.1) δ).set q.1 none) else some (fz s, putE δ q.1 q.2 (fz s))
section
variable {K : PySem.W.Frag} {M M' H H' : Hp} {S : L2.St} {δ δ' : Env} {α β γ : List A}
theorem ArgOk.mono (e : Same M M') : ∀ {r : Arg} {u : V}, ArgOk K M S r u → ArgOk K M' S r u
  | .v _, _, h => Rp.mono e h
  | .sl _, _, h => h
theorem tree_eq {j : Nat} {τ : T} (h : tree δ j = some τ) : δ[j]? = some (some (.t τ)) := by
  unfold tree at h
  split at h
  · rename_i e; cases h; exact e
  · cases h
theorem sub_eq {j : Nat} {p : List Nat} {s : T} (h : sub δ j p = some s) : ∃ τ, δ[j]? = some (some (.t τ)) ∧ T.at p τ = some s := by
  unfold sub at h
  cases e : tree δ j with
  | none => rw [e] at h; cases h
  | some τ => rw [e] at h; exact ⟨τ, tree_eq e, h⟩
theorem RA.look (r : RA K M S H δ α β) {k j : Nat} {p : List Nat} {s : T} (hl : look δ k = some (j, p)) (hs : sub δ j p = some s) :
    ∃ a b, δ[j]? = some (some (.t (er a))) ∧ α[j]? = some a ∧ at' p a = some b ∧ er b = s ∧ Hold K M H a ∧ Hold K M H b ∧ S[k]? = some (some (val b)) := by
  obtain ⟨τ, hj, hp⟩ := sub_eq hs
  obtain ⟨a, h1, h2, h3⟩ := r.own j τ hj
  have ha : Hold K M H a := (HoldL_iff.mp r.ho) a (List.mem_of_getElem? h1)
  subst h2
  obtain ⟨b, hb, hbs⟩ := at_er ha hp
  refine ⟨a, b, hj, h1, hb, hbs, ha, Hold_at ha hb, ?_⟩
  unfold EV.look at hl
  split at hl
  · rename_i τ' e
    cases hl
    simp only [at'] at hb
    cases hb
    exact h3
  · rename_i j' p' e
    cases hl
    obtain ⟨τ2, a2, b2, g1, g2, g3, g4⟩ := r.ali _ _ _ e
    rw [h1] at g2
    cases g2
    rw [hb] at g3
    cases g3
    exact g4
  · cases hl
theorem frOf {c : Con} {a b : Addr} {vs : List V} (h : H a = some (obj c b vs)) (o : okc c vs.length) : frObj K H c a vs := by
  cases c <;> first | exact h | exact .inl (.inl h) | exact ⟨h, o⟩ | exact ⟨⟨_, h⟩, o⟩ | exact o.elim
/-- an argument's own parts -/
theorem RB.kids (r : RB K M S H δ β) {x : Arg} {u : V} {c : Con} {o : Bool} {ts : List T} (h : argT δ x = some (.nd c o ts)) (ok : ArgOk K M S x u) :
    ∃ a vs, u = .ref a ∧ frObj K H c a vs ∧ vs.length = ts.length ∧ ∀ (i : Nat) τ, ts[i]? = some τ → isF τ = true → ∃ w, vs[i]? = some w ∧ Rp K M τ w := by
  obtain ⟨α, r⟩ := r
  have fr : ∀ {u : V}, Rp K M (.nd c o ts) u → ∃ a vs, u = .ref a ∧ frObj K H c a vs ∧ vs.length = ts.length ∧ ∀ (i : Nat) τ, ts[i]? = some τ → isF τ = true → ∃ w, vs[i]? = some w ∧ Rp K M τ w := fun {u} z => by
    obtain ⟨_, a, vs, h1, h2, h3⟩ := z
    exact ⟨a, vs, h1, h2.mono r.ex, h3.length, fun i τ hi _ => h3.get hi⟩
  cases x with
  | v τ =>
    cases h
    exact fr ok
  | sl k =>
    simp only [argT] at h
    cases e : look δ k with
    | none => rw [e] at h; cases h
    | some q =>
      rw [e] at h
      obtain ⟨a, b, h1, h2, h3, h4, h5, h6, h7⟩ := r.look e h
      have ok : S[k]? = some (some u) := ok
      rw [h7] at ok
      cases ok
      cases b with
      | lf τ v =>
        have h4 : τ = .nd c o ts := h4
        subst h4
        exact fr h6
      | nd d x y us =>
        obtain ⟨g1, g2, g3⟩ := h6
        have h4 : T.nd d true (erL us) = .nd c o ts := h4
        cases h4
        refine ⟨x, us.map val, rfl, frOf g1 (by rw [List.length_map]; exact g2), by rw [erL_length, List.length_map], fun i τ hi hf => ?_⟩
        rw [erL_map, List.getElem?_map] at hi
        cases ei : us[i]? with
        | none => rw [ei] at hi; cases hi
        | some t =>
          rw [ei] at hi
          cases hi
          obtain ⟨τ', v', rfl⟩ := leaf_of hf
          exact ⟨v', by rw [List.getElem?_map, ei]; rfl, (HoldL_iff.mp g3) _ (List.mem_of_getElem? ei)⟩
/-- an argument that is no object of one's own -/
theorem RB.flat (r : RB K M S H δ β) {x : Arg} {u : V} {τ : T} (h : argT δ x = some τ) (hf : isF τ = true) (ok : ArgOk K M S x u) : Rp K M τ u := by
  obtain ⟨α, r⟩ := r
  cases x with
  | v τ => cases h; exact ok
  | sl k =>
    simp only [argT] at h
    cases e : look δ k with
    | none => rw [e] at h; cases h
    | some q =>
      rw [e] at h
      obtain ⟨a, b, h1, h2, h3, h4, h5, h6, h7⟩ := r.look e h
      have ok : S[k]? = some (some u) := ok
      rw [h7] at ok
      cases ok
      subst h4
      obtain ⟨τ', v', rfl⟩ := leaf_of hf
      exact h6
mutual
theorem Rp.fz : ∀ {τ : T} {v : V}, Rp K M τ v → fz τ = τ
  | .non, _, _ => rfl
  | .bl _, _, _ => rfl
  | .int _, _, _ => rfl
  | .str _, _, _ => rfl
  | .ty _, _, _ => rfl
  | .adr _, _, _ => rfl
  | .nd c o ts, _, ⟨h0, a, vs, h1, h2, h3⟩ => by rw [EV.fz, RpL.fz h3, h0]
theorem RpL.fz : ∀ {ts : List T} {vs : List V}, RpL K M ts vs → fzL ts = ts
  | [], _, _ => rfl
  | _ :: _, _, ⟨v, r, h1, h2, h3⟩ => by rw [fzL, Rp.fz h2, RpL.fz h3]
end
mutual
theorem Hold.fz (e : Same M M') (tk : TupK H M') : ∀ {b : A}, (∀ x, 0 < ct b x → M' x = H x) → Hold K M H b → Rp K M' (fz (er b)) (val b)
  | .lf τ v, _, h => by
    show Rp K M' (EV.fz τ) v
    rw [Rp.fz (K := K) (M := M) h]
    exact Rp.mono e h
  | .nd c a b ts, k, ⟨h1, h2, h3⟩ => by
    refine ⟨rfl, a, ts.map val, rfl, frOf (b := b) ?_ (by rw [List.length_map]; exact h2), HoldL.fz e tk (fun x hx => k x (by rw [ct]; omega)) h3⟩
    exact keepAt tk (fun hc => k a (by rw [ct, if_pos ⟨rfl, hc⟩]; omega)) h1
theorem HoldL.fz (e : Same M M') (tk : TupK H M') : ∀ {ts : List A}, (∀ x, 0 < ctL ts x → M' x = H x) → HoldL K M H ts → RpL K M' (fzL (erL ts)) (ts.map val)
  | [], _, _ => rfl
  | t :: r, k, ⟨h1, h2⟩ => ⟨_, _, rfl, Hold.fz e tk (fun x hx => k x (by rw [ctL]; omega)) h1, HoldL.fz e tk (fun x hx => k x (by rw [ctL]; omega)) h2⟩
end
theorem below_pre {p q r : List Nat} (h : q = p ++ r) (hr : r ≠ []) : below p q = true := by
  subst h
  unfold below
  have h1 : p.isPrefixOf (p ++ r) = true := by simp
  have h2 : (p == p ++ r) = false := by
    rw [beq_eq_false_iff_ne]
    intro z
    exact hr (by simpa using congrArg (List.drop p.length) z.symm)
  rw [h1, h2]
  rfl
theorem RB.float (r : RB K M S H δ β) {τ : T} {v : V} (h : Rp K M τ v) : RB K M S H δ (β ++ [.lf τ v]) := by
  obtain ⟨α, r⟩ := r
  refine ⟨α, r.ex, r.ls, r.la, fun x => ?_, fun x hx => r.nm x ?_, r.ho, ?_, r.own, r.ali⟩
  · have := r.un x; rw [ctL_append]; simp only [ctL, ct]; omega
  · rw [ctL_append] at hx; simp only [ctL, ct] at hx; omega
  · have := r.hb
    rw [HoldL_iff] at this ⊢
    intro t ht
    rcases List.mem_append.mp ht with q | q
    · exact this t q
    · rw [List.mem_singleton.mp q]; exact h
theorem HoldL.and {ts us : List A} (h : HoldL K M H ts) (g : HoldL K M H us) : HoldL K M H (ts ++ us) := by
  rw [HoldL_iff] at h g ⊢
  intro t ht
  rcases List.mem_append.mp ht with q | q
  · exact h t q
  · exact g t q
open Classical in
/-- the part at p of slot j stands still from now on -/
theorem RA.freeze (r : RA K M S H δ α β) {j : Nat} {p : List Nat} {a b : A} (hd : δ[j]? = some (some (.t (er a)))) (hj : α[j]? = some a) (hp : at' p a = some b) :
    ∃ M', Same M M' ∧ Rp K M' (fz (er b)) (val b) ∧ RB K M' S H (putE δ j p (fz (er b))) β := by
  have ha : Hold K M H a := (HoldL_iff.mp r.ho) a (List.mem_of_getElem? hj)
  have hb : Hold K M H b := Hold_at ha hp
  let M' : Hp := fun x => if 0 < ct b x then H x else match H x with
    | some (.tup vs) => some (.tup vs)
    | _ => M x
  have hm1 : ∀ x, 0 < ct b x → M' x = H x := fun x hx => if_pos hx
  have tk : TupK H M' := fun x vs hx => by
    show (if 0 < ct b x then H x else _) = _
    split
    · exact hx
    · rw [hx]
  have e1 : Same M M' := fun x u q => by
    have q' := r.ex x u q
    show (if 0 < ct b x then H x else _) = some u
    split
    · exact q'
    · rw [q']
      cases u <;> first | exact q | rfl
  have e2 : Same M' H := fun x u q => by
    have q : (if 0 < ct b x then H x else match H x with
      | some (.tup vs) => some (.tup vs)
      | _ => M x) = some u := q
    split at q
    · exact q
    · split at q
      · rename_i vs e
        cases q
        exact e
      · exact r.ex x u q
  have hm2 : ∀ x, ct b x = 0 → (∀ vs, H x ≠ some (.tup vs)) → M' x = M x := fun x hx ht => by
    show (if 0 < ct b x then H x else _) = _
    rw [if_neg (by omega)]
    split
    · rename_i vs e
      exact absurd e (ht vs)
    · rfl
  have ntup : ∀ x, 0 < ctL α x + ctL β x → ∀ vs, H x ≠ some (.tup vs) := fun x hx => by
    by_cases h0 : 0 < ctL α x
    · exact fun vs => HoldL.ntup r.ho h0
    · exact fun vs => HoldL.ntup r.hb (by omega)
  have fr := Hold.fz e1 tk hm1 hb
  refine ⟨M', e1, fr, ?_⟩
  have ht : tree δ j = some (er a) := by unfold tree; rw [hd]
  unfold putE
  rw [ht]
  have r1 := kil_less (f := fun i q => i == j && below p q) r
  have rr := r1.wr (M' := M') (H' := H) (b' := .lf (fz (er b)) (val b)) (β' := β) (kil_t.mpr hd) hj hp rfl e1 e2 TupK.refl (fun _ _ => rfl) (fun x => ?_) (fun x h0 hx => ?_) fr ?_ (fun i q hi s hs hne c hc => ?_)
  · exact ⟨_, rr⟩
  · simp only [ct]; omega
  · by_cases hb0 : 0 < ct b x
    · have := r.un x
      have := ctL_pos (x := x) (List.mem_of_getElem? hj)
      have := ct_at (x := x) hp
      exact ⟨rfl, by omega, hb0⟩
    · exact absurd (hm2 x (by omega) (ntup x h0)) hx
  · exact r.hb.mono e1 TupK.refl fun _ _ => rfl
  · obtain ⟨h0, hf⟩ := kil_al hi
    exfalso
    obtain ⟨τ, a', b', g1, g2, _⟩ := r.ali i _ q h0
    rw [below_pre hs hne] at hf
    simp at hf
theorem take1_ok {n : Nat} {x : Arg} {τ : T} {u : V} (r : RB K M S H δ β) (h : take1 n δ x = some (τ, δ')) (ok : ArgOk K M S x u) : ∃ M' a, Same M M' ∧ RB K M' S H δ' (β ++ [a]) ∧ er a = τ ∧ val a = u := by
  cases x with
  | v τ' =>
    cases h
    exact ⟨M, .lf τ u, Same.refl M, r.float ok, rfl, rfl⟩
  | sl k =>
    simp only [take1] at h
    cases e : look δ k with
    | none => rw [e] at h; cases h
    | some q =>
      obtain ⟨j, p⟩ := q
      rw [e] at h
      simp only [Option.bind_some] at h
      cases es : sub δ j p with
      | none => rw [es] at h; cases h
      | some s =>
        rw [es] at h
        simp only [Option.bind_some] at h
        have r0 := r
        obtain ⟨α, ra⟩ := r
        obtain ⟨a, b, h1, h2, h3, h4, h5, h6, h7⟩ := ra.look e es
        have ok : S[k]? = some (some u) := ok
        rw [h7] at ok
        cases ok
        split at h
        · rename_i hf
          cases h
          subst h4
          obtain ⟨τ', v', rfl⟩ := leaf_of hf
          exact ⟨M, .lf τ' v', Same.refl M, r0.float h6, rfl, rfl⟩
        · split at h
          · cases h
            have hdl := (List.getElem?_eq_some_iff.mp h1).1
            refine ⟨M, b, Same.refl M, ⟨α.set j (.lf .non .non), ra.ex, by simp [ra.ls, kil_length], by simp [ra.la, kil_length], fun x => ?_, fun x hx => ra.nm x ?_, HoldL_set ra.ho rfl, ra.hb.and ⟨h6, trivial⟩, fun i τ hi => ?_, fun i j' p' hi => ?_⟩, h4, rfl⟩
            · have := ctL_set (t' := .lf .non .non) (x := x) h2
              have := ct_at (x := x) h3
              have := ra.un x
              rw [ctL_append]
              simp only [ctL, ct] at this ⊢
              have : ct (A.lf .non .non) x = 0 := rfl
              omega
            · have h8 := ctL_set (t' := .lf .non .non) (x := x) h2
              have h9 := ct_at (x := x) h3
              rw [ctL_append] at hx
              simp only [ctL, ct] at hx
              have : ct (A.lf .non .non) x = 0 := rfl
              omega
            · by_cases hij : i = j
              · subst hij
                rw [List.getElem?_set_self (by rw [kil_length]; exact hdl)] at hi
                cases hi
              · rw [List.getElem?_set_ne (Ne.symm hij)] at hi
                obtain ⟨a', g1, g2⟩ := ra.own i τ (kil_t.mp hi)
                exact ⟨a', by rw [List.getElem?_set_ne (Ne.symm hij)]; exact g1, g2⟩
            · by_cases hij : i = j
              · subst hij
                rw [List.getElem?_set_self (by rw [kil_length]; exact hdl)] at hi
                cases hi
              · rw [List.getElem?_set_ne (Ne.symm hij)] at hi
                obtain ⟨g0, gf⟩ := kil_al hi
                obtain ⟨τ', a', b', g1, g2, g3⟩ := ra.ali i j' p' g0
                have hjj : j' ≠ j := by simpa using gf
                exact ⟨τ', a', b', by rw [List.getElem?_set_ne (Ne.symm hjj)]; exact kil_t.mpr g1, by rw [List.getElem?_set_ne (Ne.symm hjj)]; exact g2, g3⟩
          · cases h
            subst h4
            obtain ⟨M', e1, fr, r'⟩ := ra.freeze h1 h2 h3
            exact ⟨M', .lf (fz (er b)) (val b), e1, r'.float fr, rfl, rfl⟩
end
end EV

/-! EV4: what an expression asks: judgements; operators, names, displays -/
namespace EV
open PySem PySem.Spec PyProof.Rows L2
def opt {α : Type} (o : Option α) (k : α → Prop) : Prop := match o with
  | some x => k x
  | none => False
@[simp] theorem opt_some {α : Type} {x : α} {k : α → Prop} : opt (some x) k = k x := rfl
theorem opt_elim {α : Type} {o : Option α} {k : α → Prop} (h : opt o k) : ∃ x, o = some x ∧ k x := by
  cases o with
  | none => exact h.elim
  | some x => exact ⟨x, rfl, h⟩
def AllF (ts : List T) : Prop := ∀ t ∈ ts, isF t = true
def Pre (S S' : L2.St) : Prop := ∃ ρ, S' = S ++ ρ
theorem Pre.refl {S : L2.St} : Pre S S := ⟨[], by simp⟩
theorem Pre.trans {S S1 S2 : L2.St} : Pre S S1 → Pre S1 S2 → Pre S S2
  | ⟨a, e⟩, ⟨b, f⟩ => ⟨a ++ b, by rw [f, e, List.append_assoc]⟩
theorem Pre.app {S ρ : L2.St} : Pre S (S ++ ρ) := ⟨ρ, rfl⟩
theorem ArgOk.pre {K : PySem.W.Frag} {M : Hp} {S S' : L2.St} (p : Pre S S') : ∀ {r : Arg} {u : V}, ArgOk K M S r u → ArgOk K M S' r u
  | .v _, _, h => h
  | .sl k, _, h => by
    obtain ⟨ρ, rfl⟩ := p
    exact get_left h
def ArgsOk (K : PySem.W.Frag) (M : Hp) (S : L2.St) : List Arg → List V → Prop
  | [], vs => vs = []
  | r :: rs, vs => ∃ v q, vs = v :: q ∧ ArgOk K M S r v ∧ ArgsOk K M S rs q
abbrev EK := Arg → Env → Prop
abbrev XK' := Addr → T → Env → Prop
abbrev WE' := Nat → Env → EK → XK' → Prop
abbrev WA' := Nat → Env → (List Arg → Env → Prop) → XK' → Prop
abbrev WT' := Nat → Env → (Bool → Env → Prop) → XK' → Prop
abbrev WO' := Nat → Env → (Option Int → Env → Prop) → XK' → Prop
section
variable (N : Nat) (K : PySem.W.Frag) (W : WX)
def NC (K : PySem.W.Frag) (M : Hp) (S : L2.St) (Q : EK) (Qm : VK) : Prop := ∀ M' u H' r δ' S', Same M M' → Pre S S' → R K M' S' H' δ' → ArgOk K M' S' r u → Q r δ' → Qm u H'
def XC (K : PySem.W.Frag) (W : WX) (σ : L2.St) (M : Hp) (S : L2.St) (X : XK') : Prop := ∀ M' H' C x u d δ' S', Same M M' → Pre S S' → R K M' S' H' δ' → Rp K M' x u → H' d = none → X C x δ' → W (.ref C) (some d) σ (upd H' d (TV.errO u))
def SE (t : TE) (w : WE') : Prop := ∀ n δ Q X, w n δ Q X → ∀ M σ S H, R K M S H δ → σ.length = N → Pre σ S → ∀ Qm, NC K M S Q Qm → XC K W σ M S X → t σ H Qm
def SA (t : TA) (w : WA') : Prop := ∀ n δ Q X, w n δ Q X → ∀ M σ S H, R K M S H δ → σ.length = N → Pre σ S → ∀ Qm : List V → Hp → Prop, (∀ M' us H' rs δ' S', Same M M' → Pre S S' → R K M' S' H' δ' → ArgsOk K M' S' rs us → Q rs δ' → Qm us H') → XC K W σ M S X → t σ H Qm
def ST (t : TT) (w : WT') : Prop := ∀ n δ Q X, w n δ Q X → ∀ M σ S H, R K M S H δ → σ.length = N → Pre σ S → ∀ Qm : Bool → Hp → Prop, (∀ M' H' b δ' S', Same M M' → Pre S S' → R K M' S' H' δ' → Q b δ' → Qm b H') → XC K W σ M S X → t σ H Qm
def SO (t : TO) (w : WO') : Prop := ∀ n δ Q X, w n δ Q X → ∀ M σ S H, R K M S H δ → σ.length = N → Pre σ S → ∀ Qm : Option Int → Hp → Prop, (∀ M' H' b δ' S', Same M M' → Pre S S' → R K M' S' H' δ' → Q b δ' → Qm b H') → XC K W σ M S X → t σ H Qm
end
section
variable {N : Nat} {K : PySem.W.Frag} {W : WX} {M M' M1 H H' : Hp} {σ S S1 : L2.St} {δ δ' : Env} {α β γ : List A} {Q : EK} {X : XK'} {Qm : VK}
theorem NC.on (h : NC K M S Q Qm) (e : Same M M1) (p : Pre S S1) : NC K M1 S1 Q Qm := fun M' u H' r δ' S' e' p' => h M' u H' r δ' S' (e.trans e') (p.trans p')
theorem XC.on (h : XC K W σ M S X) (e : Same M M1) (p : Pre S S1) : XC K W σ M1 S1 X := fun M' H' C x u d δ' S' e' p' => h M' H' C x u d δ' S' (e.trans e') (p.trans p')
theorem NC.val (h : NC K M S Q Qm) {τ : T} {u : V} (r : R K M S H δ) (ok : Rp K M τ u) (q : Q (.v τ) δ) : Qm u H := h M u H (.v τ) δ S (Same.refl M) Pre.refl r ok q
theorem NC.int (h : NC K M S Q Qm) {i : Int} (r : R K M S H δ) (q : Q (.v (.int i)) δ) : Qm (.int i) H := h.val (τ := .int i) r rfl q
theorem NC.bl (h : NC K M S Q Qm) {i : Bool} (r : R K M S H δ) (q : Q (.v (.bl i)) δ) : Qm (.bl i) H := h.val (τ := .bl i) r rfl q
theorem NC.str (h : NC K M S Q Qm) {i : Str} (r : R K M S H δ) (q : Q (.v (.str i)) δ) : Qm (.str i) H := h.val (τ := .str i) r rfl q
theorem NC.non (h : NC K M S Q Qm) (r : R K M S H δ) (q : Q (.v .non) δ) : Qm .non H := h.val (τ := .non) r rfl q
theorem NC.own (h : NC K M S Q Qm) {s : Sl} {u : V} (hs : S.length = δ.length) (r : R K M (S ++ [some u]) H' (δ ++ [some s])) (q : Q (.sl δ.length) (δ ++ [some s])) : Qm u H' :=
  h M u H' (.sl δ.length) _ _ (Same.refl M) Pre.app r (by show (S ++ [some u])[δ.length]? = _; rw [← hs]; exact get_top) q
/-! new objects -/
def lfs : List T → List V → List A
  | t :: ts, v :: vs => .lf t v :: lfs ts vs
  | _, _ => []
theorem lfs_er : ∀ {ts : List T} {vs : List V}, RpL K M ts vs → erL (lfs ts vs) = ts
  | [], _, _ => rfl
  | t :: r, _, ⟨v, q, h1, h2, h3⟩ => by subst h1; simp only [lfs, erL, er, lfs_er h3]
theorem lfs_val : ∀ {ts : List T} {vs : List V}, RpL K M ts vs → (lfs ts vs).map val = vs
  | [], _, h => by cases h; rfl
  | t :: r, _, ⟨v, q, h1, h2, h3⟩ => by subst h1; simp only [lfs, List.map_cons, val, lfs_val h3]
theorem RB.floats : ∀ {ts : List T} {vs : List V} {β : List A}, RB K M S H δ β → RpL K M ts vs → RB K M S H δ (β ++ lfs ts vs)
  | [], _, β, r, h => by cases h; simpa [lfs] using r
  | t :: ts, _, β, r, ⟨v, q, h1, h2, h3⟩ => by
    subst h1
    have := RB.floats (r.float h2) h3
    rw [List.append_assoc] at this
    exact this
theorem R.newL (r : R K M S H δ) {c : Con} {p : Addr} {ts : List T} {vs : List V} (hp : H p = none) (h : RpL K M ts vs) (hc : okc c ts.length) : R K M (S ++ [some (.ref p)]) (upd H p (obj c 0 vs)) (δ ++ [some (.t (.nd c true ts))]) := by
  have r1 : RB K M S H δ ([] ++ lfs ts vs) := r.floats h
  have hl : (lfs ts vs).length = ts.length := by rw [← erL_length, lfs_er h]
  have r2 := r1.make (b := 0) (c := c) hp (by rw [hl]; exact hc)
  rw [lfs_val h] at r2
  have r3 := RB.push r2
  simpa [er, val, lfs_er h] using r3
theorem RB.newT (r : RB K M S H δ β) {p : Addr} {ts : List T} {vs : List V} (hp : H p = none) (h : RpL K M ts vs) : Same M (upd M p (.tup vs)) ∧ RB K (upd M p (.tup vs)) S (upd H p (.tup vs)) δ β ∧ Rp K (upd M p (.tup vs)) (.nd .tup false ts) (.ref p) := by
  obtain ⟨e, r2⟩ := r.laid (o := .tup vs) hp
  exact ⟨e, r2, rfl, p, vs, rfl, .inl (.inl upd_same), RpL.mono e h⟩
theorem R.kidsF (r : RB K M S H δ β) {x : Arg} {u : V} {c : Con} {o : Bool} {ts : List T} (h : argT δ x = some (.nd c o ts)) (ok : ArgOk K M S x u) (hf : AllF ts) : ∃ a vs, u = .ref a ∧ frObj K H c a vs ∧ RpL K M ts vs := by
  obtain ⟨a, vs, h1, h2, h3, h4⟩ := r.kids h ok
  refine ⟨a, vs, h1, h2, RpL.of_get h3 fun i d v hd hv => ?_⟩
  obtain ⟨w, hw, rw⟩ := h4 i d hd (hf d (List.mem_of_getElem? hd))
  rw [hv] at hw
  cases hw
  exact rw
/-! names, constants -/
def varA (δ : Env) (i : Nat) : Option Arg := (argT δ (.sl i)).map fun s => if isF s = true then .v s else .sl i
def wVar (i : Nat) : WE' := fun n δ Q X => opt (varA δ i) fun r => Q r δ
theorem pre_get {i : Nat} {v : V} (p : Pre σ S) (hi : i < σ.length) (h : S[i]? = some (some v)) : σ[i]? = some (some v) := by
  obtain ⟨ρ, rfl⟩ := p
  rwa [List.getElem?_append_left hi] at h
theorem var_ok {i : Nat} {a : Arg} (r : R K M S H δ) (h : varA δ i = some a) : ∃ v, S[i]? = some (some v) ∧ ArgOk K M S a v := by
  unfold varA at h
  cases e : argT δ (.sl i) with
  | none => rw [e] at h; cases h
  | some s =>
    rw [e] at h
    simp only [Option.map_some, Option.some.injEq] at h
    have r0 := r
    obtain ⟨α, ra⟩ := r
    have e' := e
    simp only [argT] at e'
    cases el : look δ i with
    | none => rw [el] at e'; cases e'
    | some jp =>
      rw [el] at e'
      obtain ⟨a', b, h1, h2, h3, h4, h5, h6, h7⟩ := ra.look el e'
      refine ⟨val b, h7, ?_⟩
      split at h
      · rename_i hf
        subst h
        exact r0.flat e hf (show ArgOk K M S (.sl i) (val b) from h7)
      · subst h
        exact h7
theorem se_var {i : Nat} (hi : i < N) : SE N K W (tVar i) (wVar i) := fun n δ Q X h M σ S H r hN p Qm hn hx => by
  obtain ⟨a, ha, q⟩ := opt_elim h
  obtain ⟨v, hv, ok⟩ := var_ok r ha
  exact ⟨v, pre_get p (by omega) hv, hn M v H a δ S (Same.refl M) Pre.refl r ok q⟩
def wC (τ : T) : WE' := fun n δ Q X => Q (.v τ) δ
theorem se_c {τ : T} {v : V} (h : ∀ K M, Rp K M τ v) : SE N K W (tC v) (wC τ) := fun n δ Q X q M σ S H r hN p Qm hn hx => hn.val r (h K M) q
/-! operators -/
def P2 (K : PySem.W.Frag) (rr : R2) (k : Env → Arg → Arg → EK → Prop) : Prop := ∀ δ r s Q, k δ r s Q → ∀ M S H u v, R K M S H δ → ArgOk K M S r u → ArgOk K M S s v → ∀ Qm, NC K M S Q Qm → rr u v H Qm
def w2 (k : Env → Arg → Arg → EK → Prop) (wa wb : WE') : WE' := fun n δ Q X => wa n δ (fun r δ1 => wb n δ1 (fun s δ2 => k δ2 r s Q) X) X
theorem se_op {rr : R2} {k : Env → Arg → Arg → EK → Prop} {ta tb : TE} {wa wb : WE'} (hk : P2 K rr k) (ha : SE N K W ta wa) (hb : SE N K W tb wb) : SE N K W (tOp rr ta tb) (w2 k wa wb) := fun n δ Q X h M σ S H r hN p Qm hn hx =>
  ha n δ _ X h M σ S H r hN p _ (fun M1 u H1 a δ1 S1 e1 p1 r1 o1 h1 => hb n δ1 _ X h1 M1 σ S1 H1 r1 hN (p.trans p1) _ (fun M2 v H2 b δ2 S2 e2 p2 r2 o2 h2 =>
    hk δ2 a b Q h2 M2 S2 H2 u v r2 ((o1.mono e2).pre p2) o2 Qm (hn.on (e1.trans e2) (p1.trans p2))) (hx.on e1 p1)) hx
def P1 (K : PySem.W.Frag) (rr : V → Hp → VK → Prop) (k : Env → Arg → EK → Prop) : Prop := ∀ δ r Q, k δ r Q → ∀ M S H u, R K M S H δ → ArgOk K M S r u → ∀ Qm, NC K M S Q Qm → rr u H Qm
def w1 (k : Env → Arg → EK → Prop) (wa : WE') : WE' := fun n δ Q X => wa n δ (fun r δ1 => k δ1 r Q) X
theorem se_un {rr : V → Hp → VK → Prop} {k : Env → Arg → EK → Prop} {ta : TE} {wa : WE'} (hk : P1 K rr k) (ha : SE N K W ta wa) : SE N K W (tUn rr ta) (w1 k wa) := fun n δ Q X h M σ S H r hN p Qm hn hx =>
  ha n δ _ X h M σ S H r hN p _ (fun M1 u H1 a δ1 S1 e1 p1 r1 o1 h1 => hk δ1 a Q h1 M1 S1 H1 u r1 o1 Qm (hn.on e1 p1)) hx
def PB (K : PySem.W.Frag) (rr : List V → Hp → VK → Prop) (k : Env → List Arg → EK → Prop) : Prop := ∀ δ rs Q, k δ rs Q → ∀ M S H us, R K M S H δ → ArgsOk K M S rs us → ∀ Qm, NC K M S Q Qm → rr us H Qm
def wB (k : Env → List Arg → EK → Prop) (wa : WA') : WE' := fun n δ Q X => wa n δ (fun rs δ1 => k δ1 rs Q) X
theorem se_cb {rr : List V → Hp → VK → Prop} {k : Env → List Arg → EK → Prop} {ta : TA} {wa : WA'} (hk : PB K rr k) (ha : SA N K W ta wa) : SE N K W (tCB rr ta) (wB k wa) := fun n δ Q X h M σ S H r hN p Qm hn hx =>
  ha n δ _ X h M σ S H r hN p _ (fun M1 us H1 rs δ1 S1 e1 p1 r1 o1 h1 => hk δ1 rs Q h1 M1 S1 H1 us r1 o1 Qm (hn.on e1 p1)) hx
/-! arguments -/
def waNil : WA' := fun n δ Q X => Q [] δ
def waCons (wa : WE') (ws : WA') : WA' := fun n δ Q X => wa n δ (fun r δ1 => ws n δ1 (fun rs δ2 => Q (r :: rs) δ2) X) X
theorem sa_nil : SA N K W tNil waNil := fun n δ Q X h M σ S H r hN p Qm hn hx => hn M [] H [] δ S (Same.refl M) Pre.refl r rfl h
theorem sa_cons {ta : TE} {tr : TA} {wa : WE'} {ws : WA'} (ha : SE N K W ta wa) (hs : SA N K W tr ws) : SA N K W (tCons ta tr) (waCons wa ws) := fun n δ Q X h M σ S H r hN p Qm hn hx =>
  ha n δ _ X h M σ S H r hN p _ (fun M1 u H1 a δ1 S1 e1 p1 r1 o1 h1 => hs n δ1 _ X h1 M1 σ S1 H1 r1 hN (p.trans p1) _ (fun M2 vs H2 rs δ2 S2 e2 p2 r2 o2 h2 =>
    hn M2 (u :: vs) H2 (a :: rs) δ2 S2 (e1.trans e2) (p1.trans p2) r2 ⟨u, vs, rfl, (o1.mono e2).pre p2, o2⟩ h2) (hx.on e1 p1)) hx
/-! ints -/
def intA : Arg → Option Int
  | .v (.int i) => some i
  | _ => none
theorem intA_ok {r : Arg} {i : Int} {u : V} (h : intA r = some i) (ok : ArgOk K M S r u) : u = .int i := by
  unfold intA at h
  split at h
  · cases h; exact ok
  · cases h
def kI (C : Int → Int → Prop) (f : Int → Int → T) : Env → Arg → Arg → EK → Prop := fun δ r s Q => opt (intA r) fun i => opt (intA s) fun j => C i j ∧ Q (.v (f i j)) δ
theorem p2_int {C : Int → Int → Prop} {f : Int → Int → Int} : P2 K (rI C fun i j => .int (f i j)) (kI C fun i j => .int (f i j)) := fun δ r s Q h M S H u v rr o1 o2 Qm hn => by
  obtain ⟨i, hi, h⟩ := opt_elim h
  obtain ⟨j, hj, hc, q⟩ := opt_elim h
  exact ⟨i, j, intA_ok hi o1, intA_ok hj o2, hc, hn.int rr q⟩
def kI0 (f : Int → Int → T) : Env → Arg → Arg → EK → Prop := fun δ r s Q => opt (intA r) fun i => opt (intA s) fun j => Q (.v (f i j)) δ
theorem p2_int0 {f : Int → Int → Int} : P2 K (rI0 fun i j => .int (f i j)) (kI0 fun i j => .int (f i j)) := fun δ r s Q h M S H u v rr o1 o2 Qm hn => by
  obtain ⟨i, hi, h⟩ := opt_elim h
  obtain ⟨j, hj, q⟩ := opt_elim h
  exact ⟨i, j, intA_ok hi o1, intA_ok hj o2, hn.int rr q⟩
theorem p2_bool0 {f : Int → Int → Bool} : P2 K (rI0 fun i j => .bl (f i j)) (kI0 fun i j => .bl (f i j)) := fun δ r s Q h M S H u v rr o1 o2 Qm hn => by
  obtain ⟨i, hi, h⟩ := opt_elim h
  obtain ⟨j, hj, q⟩ := opt_elim h
  exact ⟨i, j, intA_ok hi o1, intA_ok hj o2, hn.bl rr q⟩
def kU (f : Int → T) : Env → Arg → EK → Prop := fun δ r Q => opt (intA r) fun i => Q (.v (f i)) δ
theorem p1_int {f : Int → Int} : P1 K (rU fun i => .int (f i)) (kU fun i => .int (f i)) := fun δ r Q h M S H u rr o1 Qm hn => by
  obtain ⟨i, hi, q⟩ := opt_elim h
  exact ⟨i, intA_ok hi o1, hn.int rr q⟩
/-! lists read -/
def lsK (δ : Env) (r : Arg) : Option (List T) := match argT δ r with
  | some (.nd .lst _ ts) => some ts
  | _ => none
/-- a list or the script -/
def lqK (δ : Env) (r : Arg) : Option (List T) := match argT δ r with
  | some (.nd .lst _ ts) => some ts
  | some (.nd .scr _ ts) => some ts
  | _ => none
theorem lsK_ok {r : Arg} {ts : List T} {u : V} (rr : RB K M S H δ β) (h : lsK δ r = some ts) (ok : ArgOk K M S r u) (hf : AllF ts) : ∃ a vs, u = .ref a ∧ H a = some (.lst vs) ∧ RpL K M ts vs := by
  unfold lsK at h
  split at h
  · rename_i o ts' e
    cases h
    exact R.kidsF rr e ok hf
  · cases h
theorem lqK_ok {r : Arg} {ts : List T} {u : V} (rr : RB K M S H δ β) (h : lqK δ r = some ts) (ok : ArgOk K M S r u) (hf : AllF ts) : ∃ a vs, u = .ref a ∧ SqL K H a vs ∧ RpL K M ts vs := by
  unfold lqK at h
  split at h
  · rename_i o ts' e
    cases h
    obtain ⟨a, vs, h1, h2, h3⟩ := R.kidsF rr e ok hf
    exact ⟨a, vs, h1, .inl (.inl h2), h3⟩
  · rename_i o ts' e
    cases h
    exact R.kidsF rr e ok hf
  · cases h
/-- a fresh thing of one's own -/
def ownQ (δ : Env) (τ : T) (Q : EK) : Prop := Q (.sl δ.length) (δ ++ [some (.t τ)])
abbrev L (ts : List T) : T := .nd .lst true ts
theorem NC.list (h : NC K M S Q Qm) {p : Addr} {ts : List T} {vs : List V} (r : R K M S H δ) (hp : H p = none) (hr : RpL K M ts vs) (q : ownQ δ (L ts) Q) : Qm (.ref p) (upd H p (.lst vs)) :=
  h.own r.ls (R.newL r (c := .lst) hp hr trivial) q
def len6 (n : Nat) : Prop := n ≤ 100000
theorem len6_ok {n : Nat} (h : len6 n) : n < sizeLine := Nat.lt_of_le_of_lt h (by decide)
def kAdd : Env → Arg → Arg → EK → Prop := fun δ r s Q => match r, s with
  | .v (.int i), .v (.int j) => Q (.v (.int (i + j))) δ
  | .v (.str x), .v (.str y) => len6 (x.length + y.length) ∧ Q (.v (.str (x ++ y))) δ
  | r, s => opt (lsK δ r) fun ts => opt (lsK δ s) fun us => AllF ts ∧ AllF us ∧ len6 (ts.length + us.length) ∧ ownQ δ (L (ts ++ us)) Q
theorem RpL.append : ∀ {ds es : List T} {vs ws : List V}, RpL K M ds vs → RpL K M es ws → RpL K M (ds ++ es) (vs ++ ws)
  | [], _, _, _, h, g => by cases h; exact g
  | _ :: _, _, _, _, ⟨v, r, h1, h2, h3⟩, g => by subst h1; exact ⟨v, _, rfl, h2, RpL.append h3 g⟩
theorem p2_add : P2 K TV.rAddX kAdd := fun δ r s Q h M S H u v rr o1 o2 Qm hn => by
  have gen : (opt (lsK δ r) fun ts => opt (lsK δ s) fun us => AllF ts ∧ AllF us ∧ len6 (ts.length + us.length) ∧ ownQ δ (L (ts ++ us)) Q) → TV.rAddX u v H Qm := fun h => by
    obtain ⟨ts, h1, h⟩ := opt_elim h
    obtain ⟨us, h2, f1, f2, hl, q⟩ := opt_elim h
    obtain ⟨a, vs, e1, g1, g2⟩ := lsK_ok rr h1 o1 f1
    obtain ⟨b, ws, e2, g3, g4⟩ := lsK_ok rr h2 o2 f2
    exact .inr (.inl ⟨a, b, vs, ws, e1, e2, g1, g3, by rw [g2.length, g4.length]; exact Nat.le_of_lt (len6_ok hl), fun p hp => hn.list rr hp (g2.append g4) q⟩)
  unfold kAdd at h
  split at h
  · rename_i i j
    exact .inl ⟨i, j, o1, o2, hn.int rr h⟩
  · rename_i x y
    exact .inr (.inr ⟨x, y, o1, o2, Nat.le_of_lt (len6_ok h.1), hn.str rr h.2⟩)
  · exact gen h
/-- xs * k -/
def kMul : Env → Arg → Arg → EK → Prop := fun δ r s Q => match r, s with
  | .v (.int i), .v (.int j) => TV.CMulB i j ∧ Q (.v (.int (i * j))) δ
  | r, .v (.int k) => opt (lsK δ r) fun ts => AllF ts ∧ (-(2 ^ 63) ≤ k ∧ k < 2 ^ 63) ∧ len6 (ts.length * k.toNat) ∧ ownQ δ (L (List.replicate k.toNat ts).flatten) Q
  | _, _ => False
theorem RpL.rep {ds : List T} {vs : List V} (h : RpL K M ds vs) : ∀ n : Nat, RpL K M (List.replicate n ds).flatten (List.replicate n vs).flatten
  | 0 => rfl
  | n + 1 => by
    rw [List.replicate_succ, List.replicate_succ, List.flatten_cons, List.flatten_cons]
    exact h.append (RpL.rep h n)
theorem p2_mul : P2 K TV.rMulX kMul := fun δ r s Q h M S H u v rr o1 o2 Qm hn => by
  unfold kMul at h
  split at h
  · rename_i i j
    exact .inl ⟨i, j, o1, o2, h.1, hn.int rr h.2⟩
  · rename_i k _
    obtain ⟨ts, h1, f1, hk, hl, q⟩ := opt_elim h
    obtain ⟨a, vs, e1, g1, g2⟩ := lsK_ok rr h1 o1 f1
    exact .inr ⟨a, k, vs, e1, o2, g1, hk.1, hk.2, by rw [g2.length]; exact Nat.le_of_lt (len6_ok hl), fun p hp => hn.list rr hp (g2.rep _) q⟩
  · exact h.elim
end
end EV

/-! EV5: what is read of lists; truth; equality; displays -/
namespace EV
open PySem PySem.Spec PyProof.Rows L2
section
variable {N : Nat} {K : PySem.W.Frag} {W : WX} {M M' M1 H H' : Hp} {σ S S1 : L2.St} {δ δ' : Env} {α β γ : List A} {Q : EK} {X : XK'} {Qm : VK}
theorem RpL.take : ∀ {ds : List T} {vs : List V} (n : Nat), RpL K M ds vs → RpL K M (ds.take n) (vs.take n)
  | _, _, 0, _ => by simp [RpL]
  | [], _, n + 1, h => by cases h; simp [RpL]
  | _ :: _, _, n + 1, ⟨v, r, h1, h2, h3⟩ => by subst h1; exact ⟨_, _, rfl, h2, RpL.take n h3⟩
theorem RpL.drop : ∀ {ds : List T} {vs : List V} (n : Nat), RpL K M ds vs → RpL K M (ds.drop n) (vs.drop n)
  | _, _, 0, h => by simpa using h
  | [], _, n + 1, h => by cases h; simp [RpL]
  | _ :: _, _, n + 1, ⟨v, r, h1, h2, h3⟩ => by subst h1; simpa using RpL.drop n h3
def plA (δ : Env) : Arg → Option (Nat × List Nat)
  | .v _ => none
  | .sl k => look δ k
/-- a part of a thing: a value, or a name for it -/
def kidQ (δ : Env) (r : Arg) (k : Nat) (t : T) (Q : EK) : Prop := if isF t = true then Q (.v t) δ else opt (plA δ r) fun q => Q (.sl δ.length) (δ ++ [some (.al q.1 (q.2 ++ [k]))])
theorem kid_ok {x : Arg} {u : V} {c : Con} {o : Bool} {ts : List T} {k : Nat} {t : T} (r : R K M S H δ) (h : argT δ x = some (.nd c o ts)) (ok : ArgOk K M S x u) (hk : ts[k]? = some t) (q : kidQ δ x k t Q) (hn : NC K M S Q Qm) :
    ∃ a vs w, u = .ref a ∧ frObj K H c a vs ∧ vs.length = ts.length ∧ vs[k]? = some w ∧ Qm w H := by
  obtain ⟨a, vs, h1, h2, h3, h4⟩ := r.kids h ok
  unfold kidQ at q
  split at q
  · rename_i hf
    obtain ⟨w, hw, rw⟩ := h4 k t hk hf
    exact ⟨a, vs, w, h1, h2, h3, hw, hn.val r rw q⟩
  · rename_i hf
    obtain ⟨⟨j, p⟩, hl, q2⟩ := opt_elim q
    cases x with
    | v τ => cases hl
    | sl k0 =>
      have hl : look δ k0 = some (j, p) := hl
      have hr := r
      obtain ⟨α, ra⟩ := r
      have h' : sub δ j p = some (.nd c o ts) := by simpa [argT, hl] using h
      obtain ⟨a', b, g1, g2, g3, g4, g5, g6, g7⟩ := ra.look hl h'
      have ok : S[k0]? = some (some u) := ok
      rw [g7] at ok
      cases ok
      cases b with
      | lf τ v =>
        exfalso
        have g4 : τ = .nd c o ts := g4
        subst g4
        obtain ⟨_, a2, vs2, _, _, g8⟩ := (g6 : Rp K M (.nd c o ts) v)
        obtain ⟨w, _, rw⟩ := g8.get hk
        exact hf (lf_froz rw)
      | nd d y z us =>
        have g4 : T.nd d true (erL us) = .nd c o ts := g4
        cases g4
        rw [erL_map, List.getElem?_map] at hk
        cases e : us[k]? with
        | none => rw [e] at hk; cases hk
        | some t' =>
          rw [e] at hk
          cases hk
          have hb : at' (p ++ [k]) a' = some t' := by rw [app_at g3]; simp [at', e]
          refine ⟨y, us.map val, val t', rfl, frOf g6.1 (by rw [List.length_map]; exact g6.2.1), by rw [erL_length, List.length_map], by rw [List.getElem?_map, e]; rfl, ?_⟩
          exact hn.own hr.ls (ra.pushAl g1 g2 hb) q2
def kIx : Env → Arg → Arg → EK → Prop := fun δ r s Q => opt (intA s) fun i => match argT δ r with
  | some (.nd .lst _ ts) => opt (ixN ts.length i) fun k => opt ts[k]? fun t => kidQ δ r k t Q
  | some (.nd .scr _ ts) => opt (ixN ts.length i) fun k => opt ts[k]? fun t => kidQ δ r k t Q
  | some (.nd .tup _ ts) => opt (ixN ts.length i) fun k => opt ts[k]? fun t => kidQ δ r k t Q
  | some (.str z) => len6 z.length ∧ opt (atI z.cps.toList i) fun c => Q (.v (.str ⟨#[c]⟩)) δ
  | _ => False
theorem p2_ix : P2 K (rIx K) kIx := fun δ r s Q h M S H u v rr o1 o2 Qm hn => by
  obtain ⟨i, hi, h⟩ := opt_elim h
  have hv := intA_ok hi o2
  have ati : ∀ {ts : List T} {vs : List V} {k : Nat} {w : V}, vs.length = ts.length → ixN ts.length i = some k → vs[k]? = some w → atI vs i = some w := fun {ts vs k w} e1 e2 e3 => by
    show (ixN vs.length i).bind _ = _
    rw [e1, e2]
    exact e3
  split at h
  · rename_i o ts e
    obtain ⟨k, hk, h⟩ := opt_elim h
    obtain ⟨t, ht, q⟩ := opt_elim h
    obtain ⟨a, vs, w, g1, g2, g3, g4, g5⟩ := kid_ok rr e o1 ht q hn
    exact .inl ⟨a, vs, i, w, g1, hv, .inl (.inl g2), ati g3 hk g4, g5⟩
  · rename_i o ts e
    obtain ⟨k, hk, h⟩ := opt_elim h
    obtain ⟨t, ht, q⟩ := opt_elim h
    obtain ⟨a, vs, w, g1, g2, g3, g4, g5⟩ := kid_ok rr e o1 ht q hn
    exact .inl ⟨a, vs, i, w, g1, hv, g2, ati g3 hk g4, g5⟩
  · rename_i o ts e
    obtain ⟨k, hk, h⟩ := opt_elim h
    obtain ⟨t, ht, q⟩ := opt_elim h
    obtain ⟨a, vs, w, g1, g2, g3, g4, g5⟩ := kid_ok rr e o1 ht q hn
    exact .inr (.inl ⟨a, vs, i, w, g1, hv, g2, ati g3 hk g4, g5⟩)
  · rename_i z e
    obtain ⟨hl, h⟩ := h
    obtain ⟨c, hc, q⟩ := opt_elim h
    have := rr.flat e rfl o1
    exact .inr (.inr ⟨z, i, c, this, hv, Nat.le_of_lt (len6_ok hl), hc, hn.str rr q⟩)
  · exact h.elim
/-! slices -/
def woNone : WO' := fun n δ Q X => Q none δ
def woSome (wa : WE') : WO' := fun n δ Q X => wa n δ (fun r δ1 => opt (intA r) fun i => Q (some i) δ1) X
theorem so_none : SO N K W tNoPart woNone := fun n δ Q X h M σ S H r hN p Qm hn hx => hn M H none δ S (Same.refl M) Pre.refl r h
theorem so_some {ta : TE} {wa : WE'} (ha : SE N K W ta wa) : SO N K W (tPart ta) (woSome wa) := fun n δ Q X h M σ S H r hN p Qm hn hx =>
  ha n δ _ X h M σ S H r hN p _ (fun M1 u H1 a δ1 S1 e1 p1 r1 o1 h1 => by
    obtain ⟨i, hi, q⟩ := opt_elim h1
    exact ⟨i, intA_ok hi o1, hn M1 H1 (some i) δ1 S1 e1 p1 r1 q⟩) hx
def kSl : Env → Arg → Option Int → Option Int → EK → Prop := fun δ r lo hi Q => match argT δ r with
  | some (.str z) => len6 z.length ∧ Q (.v (.str (cutS z lo hi))) δ
  | some (.nd .tup _ ts) => AllF ts ∧ ¬ (HT.sIx ts.length 0 lo = 0 ∧ HT.sIx ts.length ts.length hi = ts.length) ∧ Q (.v (.nd .tup false (TV.cutL ts lo hi))) δ
  | some (.nd .lst _ ts) => AllF ts ∧ ownQ δ (L (TV.cutL ts lo hi)) Q
  | some (.nd .scr _ ts) => AllF ts ∧ ownQ δ (L (TV.cutL ts lo hi)) Q
  | _ => False
def rSlX (K : PySem.W.Frag) : V → Option Int → Option Int → Hp → VK → Prop := fun x lo hi H Q => rSlL K x lo hi H Q ∨ rSlT K x lo hi H Q ∨ rSlS x lo hi H Q
theorem kslX {X : Cx} (K : PySem.W.Frag) (hK : X.K = K := by rfl) : SlR X (rSlX K) := hK ▸ (sl_list.or (sl_tup.or sl_str) : SlR X (rSlX X.K))
def wSl (wa : WE') (wl wh : WO') : WE' := fun n δ Q X => wa n δ (fun r δ1 => wl n δ1 (fun lo δ2 => wh n δ2 (fun hi δ3 => kSl δ3 r lo hi Q) X) X) X
theorem RpL.cut {ds : List T} {vs : List V} (h : RpL K M ds vs) (lo hi : Option Int) : RpL K M (TV.cutL ds lo hi) (cutV vs lo hi) := by
  unfold TV.cutL cutV
  rw [h.length]
  exact (h.drop _).take _
theorem se_sl {ta : TE} {tl th : TO} {wa : WE'} {wl wh : WO'} (ha : SE N K W ta wa) (hl : SO N K W tl wl) (hh : SO N K W th wh) : SE N K W (tSl (rSlX K) ta tl th) (wSl wa wl wh) := fun n δ Q X h M σ S H r hN p Qm hn hx =>
  ha n δ _ X h M σ S H r hN p _ (fun M1 u H1 a δ1 S1 e1 p1 r1 o1 h1 => hl n δ1 _ X h1 M1 σ S1 H1 r1 hN (p.trans p1) _ (fun M2 H2 lo δ2 S2 e2 p2 r2 h2 => hh n δ2 _ X h2 M2 σ S2 H2 r2 hN ((p.trans p1).trans p2) _ (fun M3 H3 hi δ3 S3 e3 p3 r3 h3 => by
    have ok : ArgOk K M3 S3 a u := (o1.mono (e2.trans e3)).pre (p2.trans p3)
    have hn3 := hn.on (e1.trans (e2.trans e3)) (p1.trans (p2.trans p3))
    unfold kSl at h3
    split at h3
    · rename_i z e
      exact .inr (.inr ⟨z, r3.flat e rfl ok, Nat.le_of_lt (len6_ok h3.1), hn3.str r3 h3.2⟩)
    · rename_i o ts e
      obtain ⟨hf, hw, q⟩ := h3
      obtain ⟨x, vs, g1, g2, g3⟩ := R.kidsF r3 e ok hf
      refine .inr (.inl ⟨x, vs, g1, g2, by rw [g3.length]; exact hw, fun q' hq => ?_⟩)
      obtain ⟨e4, r4, rp⟩ := RB.newT r3 hq (g3.cut lo hi)
      exact (hn3.on e4 Pre.refl).val r4 rp q
    · rename_i o ts e
      obtain ⟨hf, q⟩ := h3
      obtain ⟨x, vs, g1, g2, g3⟩ := R.kidsF r3 e ok hf
      exact .inl ⟨x, vs, g1, .inl (.inl g2), fun q' hq => hn3.list r3 hq (g3.cut lo hi) q⟩
    · rename_i o ts e
      obtain ⟨hf, q⟩ := h3
      obtain ⟨x, vs, g1, g2, g3⟩ := R.kidsF r3 e ok hf
      exact .inl ⟨x, vs, g1, g2, fun q' hq => hn3.list r3 hq (g3.cut lo hi) q⟩
    · exact h3.elim) (hx.on (e1.trans e2) (p1.trans p2))) (hx.on e1 p1)) hx
/-! len, sum, all, any -/
theorem ArgsOk.mono (e : Same M M') : ∀ {rs : List Arg} {us : List V}, ArgsOk K M S rs us → ArgsOk K M' S rs us
  | [], _, h => h
  | _ :: _, _, ⟨v, q, h1, h2, h3⟩ => ⟨v, q, h1, h2.mono e, ArgsOk.mono e h3⟩
theorem ArgsOk.pre (p : Pre S S1) : ∀ {rs : List Arg} {us : List V}, ArgsOk K M S rs us → ArgsOk K M S1 rs us
  | [], _, h => h
  | _ :: _, _, ⟨v, q, h1, h2, h3⟩ => ⟨v, q, h1, h2.pre p, ArgsOk.pre p h3⟩
theorem args1 {r : Arg} {vs : List V} (h : ArgsOk K M S [r] vs) : ∃ v, vs = [v] ∧ ArgOk K M S r v := by
  obtain ⟨v, q, h1, h2, h3⟩ := h
  cases h3
  exact ⟨v, h1, h2⟩
theorem args2 {r s : Arg} {vs : List V} (h : ArgsOk K M S [r, s] vs) : ∃ v w, vs = [v, w] ∧ ArgOk K M S r v ∧ ArgOk K M S s w := by
  obtain ⟨v, q, h1, h2, h3⟩ := h
  obtain ⟨w, h4, h5⟩ := args1 h3
  exact ⟨v, w, by rw [h1, h4], h2, h5⟩
def rLenX (K : PySem.W.Frag) : List V → Hp → VK → Prop := fun xs H Q => (∃ p ys, xs = [V.ref p] ∧ (SqL K H p ys ∨ SqT K H p ys) ∧ Q (.int ys.length) H) ∨ (∃ z, xs = [V.str z] ∧ z.length ≤ sizeLine ∧ Q (.int z.length) H)
theorem kclenX {X : Cx} (K : PySem.W.Frag) (hK : X.K = K := by rfl) : CallR X (.builtin "len") (rLenX K) := by
  subst hK
  exact call_len_seq.or call_len_str
def kLen : Env → List Arg → EK → Prop := fun δ rs Q => match rs with
  | [r] => (match argT δ r with
    | some (.nd .lst _ ts) => Q (.v (.int ts.length)) δ
    | some (.nd .scr _ ts) => Q (.v (.int ts.length)) δ
    | some (.nd .tup _ ts) => Q (.v (.int ts.length)) δ
    | some (.str z) => len6 z.length ∧ Q (.v (.int z.length)) δ
    | _ => False)
  | _ => False
theorem pb_len : PB K (rLenX K) kLen := fun δ rs Q h M S H us rr oo Qm hn => by
  unfold kLen at h
  split at h
  · rename_i r
    obtain ⟨v, rfl, o1⟩ := args1 oo
    split at h
    · rename_i o ts e
      obtain ⟨a, vs, h1, h2, h3, _⟩ := RB.kids rr e o1
      exact .inl ⟨a, vs, by rw [h1], .inl (.inl (.inl h2)), by rw [h3]; exact hn.int rr h⟩
    · rename_i o ts e
      obtain ⟨a, vs, h1, h2, h3, _⟩ := RB.kids rr e o1
      exact .inl ⟨a, vs, by rw [h1], .inl h2, by rw [h3]; exact hn.int rr h⟩
    · rename_i o ts e
      obtain ⟨a, vs, h1, h2, h3, _⟩ := RB.kids rr e o1
      exact .inl ⟨a, vs, by rw [h1], .inr h2, by rw [h3]; exact hn.int rr h⟩
    · rename_i z e
      have hv : v = .str z := rr.flat e rfl o1
      subst hv
      exact .inr ⟨z, rfl, Nat.le_of_lt (len6_ok h.1), hn.int rr h.2⟩
    · exact h.elim
  · exact h.elim
def tInt : T → Option Int
  | .int i => some i
  | _ => none
def tBl : T → Option Bool
  | .bl i => some i
  | _ => none
def seqO {α β : Type} (f : α → Option β) : List α → Option (List β)
  | [] => some []
  | x :: r => (f x).bind fun y => (seqO f r).map (y :: ·)
theorem ints_of : ∀ {ts : List T} {ns : List Int} {vs : List V}, seqO tInt ts = some ns → RpL K M ts vs → vs = ns.map V.int
  | [], ns, vs, h, g => by cases h; exact g
  | t :: r, ns, vs, h, ⟨v, q, h1, h2, h3⟩ => by
    simp only [seqO] at h
    cases e : tInt t with
    | none => rw [e] at h; cases h
    | some i =>
      rw [e] at h
      cases e2 : seqO tInt r with
      | none => rw [e2] at h; cases h
      | some is =>
        rw [e2] at h
        cases h
        cases t <;> cases e
        rw [h1, (h2 : v = .int i), ints_of e2 h3]
        rfl
theorem bls_of : ∀ {ts : List T} {ns : List Bool} {vs : List V}, seqO tBl ts = some ns → RpL K M ts vs → vs = ns.map V.bl
  | [], ns, vs, h, g => by cases h; exact g
  | t :: r, ns, vs, h, ⟨v, q, h1, h2, h3⟩ => by
    simp only [seqO] at h
    cases e : tBl t with
    | none => rw [e] at h; cases h
    | some i =>
      rw [e] at h
      cases e2 : seqO tBl r with
      | none => rw [e2] at h; cases h
      | some is =>
        rw [e2] at h
        cases h
        cases t <;> cases e
        rw [h1, (h2 : v = .bl i), bls_of e2 h3]
        rfl
theorem seqO_map {α β γ : Type} {f : α → Option β} {g : γ → α} {k : γ → β} (h : ∀ x, f (g x) = some (k x)) : ∀ l : List γ, seqO f (l.map g) = some (l.map k)
  | [] => rfl
  | x :: r => by rw [List.map_cons, seqO, h, seqO_map h r]; rfl
theorem seqF_int : ∀ {ts : List T} {ns : List Int}, seqO tInt ts = some ns → AllF ts
  | [], _, _ => fun t h => by simp at h
  | t :: r, ns, h => by
    simp only [seqO] at h
    cases e : tInt t with
    | none => rw [e] at h; cases h
    | some i =>
      rw [e] at h
      cases e2 : seqO tInt r with
      | none => rw [e2] at h; cases h
      | some is =>
        intro x hx
        rcases List.mem_cons.mp hx with hx | hx
        · subst hx; cases x <;> first | rfl | cases e
        · exact seqF_int e2 x hx
theorem seqF_bl : ∀ {ts : List T} {ns : List Bool}, seqO tBl ts = some ns → AllF ts
  | [], _, _ => fun t h => by simp at h
  | t :: r, ns, h => by
    simp only [seqO] at h
    cases e : tBl t with
    | none => rw [e] at h; cases h
    | some i =>
      rw [e] at h
      cases e2 : seqO tBl r with
      | none => rw [e2] at h; cases h
      | some is =>
        intro x hx
        rcases List.mem_cons.mp hx with hx | hx
        · subst hx; cases x <;> first | rfl | cases e
        · exact seqF_bl e2 x hx
def intsK (δ : Env) (r : Arg) : Option (List Int) := (lqK δ r).bind (seqO tInt)
def blsK (δ : Env) (r : Arg) : Option (List Bool) := (lqK δ r).bind (seqO tBl)
theorem intsK_ok {r : Arg} {ns : List Int} {u : V} (rr : RB K M S H δ β) (h : intsK δ r = some ns) (ok : ArgOk K M S r u) : ∃ a, u = .ref a ∧ SqL K H a (ns.map V.int) := by
  unfold intsK at h
  cases e : lqK δ r with
  | none => rw [e] at h; cases h
  | some ts =>
    rw [e] at h
    have h : seqO tInt ts = some ns := h
    obtain ⟨a, vs, h1, h2, h3⟩ := lqK_ok rr e ok (seqF_int h)
    exact ⟨a, h1, by rw [← ints_of h h3]; exact h2⟩
theorem blsK_ok {r : Arg} {ns : List Bool} {u : V} (rr : RB K M S H δ β) (h : blsK δ r = some ns) (ok : ArgOk K M S r u) : ∃ a, u = .ref a ∧ SqL K H a (ns.map V.bl) := by
  unfold blsK at h
  cases e : lqK δ r with
  | none => rw [e] at h; cases h
  | some ts =>
    rw [e] at h
    have h : seqO tBl ts = some ns := h
    obtain ⟨a, vs, h1, h2, h3⟩ := lqK_ok rr e ok (seqF_bl h)
    exact ⟨a, h1, by rw [← bls_of h h3]; exact h2⟩
def kSum : Env → List Arg → EK → Prop := fun δ rs Q => match rs with
  | [r] => opt (intsK δ r) fun ns => Q (.v (.int ns.sum)) δ
  | _ => False
theorem pb_sum : PB K (rSum K) kSum := fun δ rs Q h M S H us rr oo Qm hn => by
  unfold kSum at h
  split at h
  · obtain ⟨v, rfl, o1⟩ := args1 oo
    obtain ⟨ns, hns, q⟩ := opt_elim h
    obtain ⟨a, rfl, h2⟩ := intsK_ok rr hns o1
    exact ⟨a, ns, rfl, h2, hn.int rr q⟩
  · exact h.elim
def kAll : Env → List Arg → EK → Prop := fun δ rs Q => match rs with
  | [r] => opt (blsK δ r) fun ns => Q (.v (.bl (ns.all id))) δ
  | _ => False
theorem pb_all : PB K (rAll K) kAll := fun δ rs Q h M S H us rr oo Qm hn => by
  unfold kAll at h
  split at h
  · obtain ⟨v, rfl, o1⟩ := args1 oo
    obtain ⟨ns, hns, q⟩ := opt_elim h
    obtain ⟨a, rfl, h2⟩ := blsK_ok rr hns o1
    exact ⟨a, ns, rfl, h2, hn.bl rr q⟩
  · exact h.elim
def kAny : Env → List Arg → EK → Prop := fun δ rs Q => match rs with
  | [r] => opt (blsK δ r) fun ns => Q (.v (.bl (ns.any id))) δ
  | _ => False
theorem pb_any : PB K (rAny K) kAny := fun δ rs Q h M S H us rr oo Qm hn => by
  unfold kAny at h
  split at h
  · obtain ⟨v, rfl, o1⟩ := args1 oo
    obtain ⟨ns, hns, q⟩ := opt_elim h
    obtain ⟨a, rfl, h2⟩ := blsK_ok rr hns o1
    exact ⟨a, ns, rfl, h2, hn.bl rr q⟩
  · exact h.elim
def kMin2 : Env → List Arg → EK → Prop := fun δ rs Q => match rs with
  | [r, s] => opt (intA r) fun i => opt (intA s) fun j => Q (.v (.int (min i j))) δ
  | _ => False
theorem pb_min2 : PB K (fun xs H Q => ∃ i j, xs = [V.int i, V.int j] ∧ Q (.int (if j < i then j else i)) H) kMin2 := fun δ rs Q h M S H us rr oo Qm hn => by
  unfold kMin2 at h
  split at h
  · obtain ⟨v, w, rfl, o1, o2⟩ := args2 oo
    obtain ⟨i, hi, h⟩ := opt_elim h
    obtain ⟨j, hj, q⟩ := opt_elim h
    refine ⟨i, j, by rw [intA_ok hi o1, intA_ok hj o2], ?_⟩
    have e : (if j < i then j else i) = min i j := by split <;> omega
    rw [e]
    exact hn.int rr q
  · exact h.elim
def kMax2 : Env → List Arg → EK → Prop := fun δ rs Q => match rs with
  | [r, s] => opt (intA r) fun i => opt (intA s) fun j => Q (.v (.int (max i j))) δ
  | _ => False
theorem pb_max2 : PB K (fun xs H Q => ∃ i j, xs = [V.int i, V.int j] ∧ Q (.int (if j > i then j else i)) H) kMax2 := fun δ rs Q h M S H us rr oo Qm hn => by
  unfold kMax2 at h
  split at h
  · obtain ⟨v, w, rfl, o1, o2⟩ := args2 oo
    obtain ⟨i, hi, h⟩ := opt_elim h
    obtain ⟨j, hj, q⟩ := opt_elim h
    refine ⟨i, j, by rw [intA_ok hi o1, intA_ok hj o2], ?_⟩
    have e : (if j > i then j else i) = max i j := by split <;> omega
    rw [e]
    exact hn.int rr q
  · exact h.elim
def kAbs : Env → List Arg → EK → Prop := fun δ rs Q => match rs with
  | [r] => opt (intA r) fun i => Q (.v (.int i.natAbs)) δ
  | _ => False
theorem pb_abs : PB K (fun xs H Q => ∃ i, xs = [V.int i] ∧ Q (.int (if i < 0 then -i else i)) H) kAbs := fun δ rs Q h M S H us rr oo Qm hn => by
  unfold kAbs at h
  split at h
  · obtain ⟨v, rfl, o1⟩ := args1 oo
    obtain ⟨i, hi, q⟩ := opt_elim h
    refine ⟨i, by rw [intA_ok hi o1], ?_⟩
    have e : (if i < 0 then -i else i) = (i.natAbs : Int) := by split <;> omega
    rw [e]
    exact hn.int rr q
  · exact h.elim
def kInt : Env → List Arg → EK → Prop := fun δ rs Q => match rs with
  | [.v (.int i)] => Q (.v (.int i)) δ
  | [.v (.bl b)] => Q (.v (.int (if b then 1 else 0))) δ
  | _ => False
theorem pb_int : PB K (fun xs H Q => (∃ i, xs = [V.int i] ∧ Q (.int i) H) ∨ ∃ k, xs = [V.bl k] ∧ Q (.int (if k then 1 else 0)) H) kInt := fun δ rs Q h M S H us rr oo Qm hn => by
  unfold kInt at h
  split at h
  · rename_i i
    obtain ⟨v, rfl, o1⟩ := args1 oo
    have o1 : v = .int i := o1
    subst o1
    exact .inl ⟨i, rfl, hn.int rr h⟩
  · rename_i b
    obtain ⟨v, rfl, o1⟩ := args1 oo
    have o1 : v = .bl b := o1
    subst o1
    exact .inr ⟨b, rfl, hn.int rr h⟩
  · exact h.elim
/-- list(xs): of frozen parts -/
def kList : Env → List Arg → EK → Prop := fun δ rs Q => match rs with
  | [r] => (match argT δ r with
    | some (.nd .lst _ ts) => AllF ts ∧ ownQ δ (L ts) Q
    | some (.nd .scr _ ts) => AllF ts ∧ ownQ δ (L ts) Q
    | some (.nd .tup _ ts) => AllF ts ∧ ownQ δ (L ts) Q
    | _ => False)
  | _ => False
theorem pb_list : PB K (fun xs H Q => ∃ p ys, xs = [V.ref p] ∧ (SqL K H p ys ∨ SqT K H p ys) ∧ ∀ l, H l = none → Q (.ref l) (upd H l (.lst ys))) kList := fun δ rs Q h M S H us rr oo Qm hn => by
  unfold kList at h
  split at h
  · obtain ⟨v, rfl, o1⟩ := args1 oo
    split at h
    · rename_i o ts e
      obtain ⟨a, vs, rfl, h2, h3⟩ := R.kidsF rr e o1 h.1
      exact ⟨a, vs, rfl, .inl (.inl (.inl h2)), fun l hl => hn.list rr hl h3 h.2⟩
    · rename_i o ts e
      obtain ⟨a, vs, rfl, h2, h3⟩ := R.kidsF rr e o1 h.1
      exact ⟨a, vs, rfl, .inl h2, fun l hl => hn.list rr hl h3 h.2⟩
    · rename_i o ts e
      obtain ⟨a, vs, rfl, h2, h3⟩ := R.kidsF rr e o1 h.1
      exact ⟨a, vs, rfl, .inr h2, fun l hl => hn.list rr hl h3 h.2⟩
    · exact h.elim
  · exact h.elim
/-- sorted(xs) of whole numbers -/
def kSorted : Env → List Arg → EK → Prop := fun δ rs Q => match rs with
  | [r] => opt (intsK δ r) fun ns => ownQ δ (L ((TV.sortI ns).map T.int)) Q
  | _ => False
theorem RpL.ints : ∀ (ns : List Int), RpL K M (ns.map T.int) (ns.map V.int)
  | [] => rfl
  | n :: r => ⟨_, _, rfl, rfl, RpL.ints r⟩
theorem pb_sorted : PB K (rSortedI K) kSorted := fun δ rs Q h M S H us rr oo Qm hn => by
  unfold kSorted at h
  split at h
  · obtain ⟨v, rfl, o1⟩ := args1 oo
    obtain ⟨ns, hns, q⟩ := opt_elim h
    obtain ⟨a, rfl, h2⟩ := intsK_ok rr hns o1
    refine ⟨a, ns, rfl, h2, fun ns' p hp hs hnone => ?_⟩
    rw [TV.sorted_one (hp.trans (TV.sortI_perm ns).symm) hs (TV.sortI_sorted ns)]
    exact hn.list rr hnone (RpL.ints _) q
  · exact h.elim
/-! truth -/
def truA (δ : Env) (r : Arg) : Option Bool := match argT δ r with
  | some .non => some false
  | some (.bl b) => some b
  | some (.int i) => some (i != 0)
  | some (.nd .lst _ ts) => some (!ts.isEmpty)
  | some (.nd .scr _ ts) => some (!ts.isEmpty)
  | some (.nd .tup _ ts) => some (!ts.isEmpty)
  | some (.nd (.dK ks) _ ts) => some (!ts.isEmpty)
  | _ => none
theorem isEmpty_len {α β : Type} {xs : List α} {ys : List β} (h : xs.length = ys.length) : (!xs.isEmpty) = !ys.isEmpty := by
  cases xs <;> cases ys <;> first | rfl | cases h
theorem RB.tru (r : RB K M S H δ β) {x : Arg} {b : Bool} {v : V} (h : truA δ x = some b) (ok : ArgOk K M S x v) : TruV K v H b := by
  unfold truA at h
  split at h
  · rename_i e; cases h; cases (show v = .non from r.flat e rfl ok); rfl
  · rename_i e; cases h; cases (show v = .bl _ from r.flat e rfl ok); rfl
  · rename_i e; cases h; cases (show v = .int _ from r.flat e rfl ok); rfl
  · rename_i e
    cases h
    obtain ⟨a, vs, rfl, h2, h3, _⟩ := r.kids e ok
    exact .inl ⟨vs, .inl (.inl h2), isEmpty_len h3.symm⟩
  · rename_i e
    cases h
    obtain ⟨a, vs, rfl, h2, h3, _⟩ := r.kids e ok
    exact .inl ⟨vs, h2, isEmpty_len h3.symm⟩
  · rename_i e
    cases h
    obtain ⟨a, vs, rfl, h2, h3, _⟩ := r.kids e ok
    exact .inr (.inl ⟨vs, h2, isEmpty_len h3.symm⟩)
  · rename_i ks o ts e
    cases h
    obtain ⟨a, vs, rfl, h2, h3, _⟩ := r.kids e ok
    refine .inr (.inr ⟨_, h2.1, isEmpty_len ?_⟩)
    rw [List.length_zip, h2.2, h3]
    omega
  · cases h
def wNot (wa : WE') : WE' := fun n δ Q X => wa n δ (fun r δ1 => opt (truA δ1 r) fun b => Q (.v (.bl (!b))) δ1) X
theorem se_not {ta : TE} {wa : WE'} (ha : SE N K W ta wa) : SE N K W (tNotT K ta) (wNot wa) := fun n δ Q X h M σ S H r hN p Qm hn hx =>
  ha n δ _ X h M σ S H r hN p _ (fun M1 u H1 a δ1 S1 e1 p1 r1 o1 h1 => by
    obtain ⟨b, hb, q⟩ := opt_elim h1
    exact ⟨b, r1.tru hb o1, (hn.on e1 p1).bl r1 q⟩) hx
def wAnd (wa wb : WE') : WE' := fun n δ Q X => wa n δ (fun r δ1 => opt (truA δ1 r) fun b => if b = true then wb n δ1 Q X else Q r δ1) X
theorem se_and {ta tb : TE} {wa wb : WE'} (ha : SE N K W ta wa) (hb : SE N K W tb wb) : SE N K W (tAndT K ta tb) (wAnd wa wb) := fun n δ Q X h M σ S H r hN p Qm hn hx =>
  ha n δ _ X h M σ S H r hN p _ (fun M1 u H1 a δ1 S1 e1 p1 r1 o1 h1 => by
    obtain ⟨b, hb1, q⟩ := opt_elim h1
    refine ⟨b, r1.tru hb1 o1, ?_⟩
    split
    · rename_i hbt
      rw [if_pos hbt] at q
      exact hb n δ1 Q X q M1 σ S1 H1 r1 hN (p.trans p1) Qm (hn.on e1 p1) (hx.on e1 p1)
    · rename_i hbt
      rw [if_neg hbt] at q
      exact hn M1 u H1 a δ1 S1 e1 p1 r1 o1 q) hx
def wOr (wa wb : WE') : WE' := fun n δ Q X => wa n δ (fun r δ1 => opt (truA δ1 r) fun b => if b = true then Q r δ1 else wb n δ1 Q X) X
theorem se_or {ta tb : TE} {wa wb : WE'} (ha : SE N K W ta wa) (hb : SE N K W tb wb) : SE N K W (tOrT K ta tb) (wOr wa wb) := fun n δ Q X h M σ S H r hN p Qm hn hx =>
  ha n δ _ X h M σ S H r hN p _ (fun M1 u H1 a δ1 S1 e1 p1 r1 o1 h1 => by
    obtain ⟨b, hb1, q⟩ := opt_elim h1
    refine ⟨b, r1.tru hb1 o1, ?_⟩
    split
    · rename_i hbt
      rw [if_pos hbt] at q
      exact hn M1 u H1 a δ1 S1 e1 p1 r1 o1 q
    · rename_i hbt
      rw [if_neg hbt] at q
      exact hb n δ1 Q X q M1 σ S1 H1 r1 hN (p.trans p1) Qm (hn.on e1 p1) (hx.on e1 p1)) hx
/-! tests -/
def wtE (wa : WE') : WT' := fun n δ Q X => wa n δ (fun r δ1 => match r with
  | .v (.bl b) => Q b δ1
  | _ => False) X
theorem st_test {ta : TE} {wa : WE'} (ha : SE N K W ta wa) : ST N K W (tTest ta) (wtE wa) := fun n δ Q X h M σ S H r hN p Qm hn hx =>
  ha n δ _ X h M σ S H r hN p _ (fun M1 u H1 a δ1 S1 e1 p1 r1 o1 h1 => by
    dsimp only at h1
    split at h1
    · rename_i b
      exact ⟨b, o1, hn M1 H1 b δ1 S1 e1 p1 r1 h1⟩
    · exact h1.elim) hx
theorem st_B {ta : TE} {wa : WE'} (ha : SE N K W ta wa) : ST N K W (tB ta) (wtE wa) := st_test ha
def wtT (wa : WE') : WT' := fun n δ Q X => wa n δ (fun r δ1 => opt (truA δ1 r) fun b => Q b δ1) X
theorem st_tru {ta : TE} {wa : WE'} (ha : SE N K W ta wa) : ST N K W (TV.tTru K ta) (wtT wa) := fun n δ Q X h M σ S H r hN p Qm hn hx =>
  ha n δ _ X h M σ S H r hN p _ (fun M1 u H1 a δ1 S1 e1 p1 r1 o1 h1 => by
    obtain ⟨b, hb, q⟩ := opt_elim h1
    exact ⟨b, r1.tru hb o1, hn M1 H1 b δ1 S1 e1 p1 r1 q⟩) hx
def wtAnd (wa wb : WT') : WT' := fun n δ Q X => wa n δ (fun b δ1 => if b = true then wb n δ1 Q X else Q false δ1) X
def wtOr (wa wb : WT') : WT' := fun n δ Q X => wa n δ (fun b δ1 => if b = true then Q true δ1 else wb n δ1 Q X) X
def wtNot (wa : WT') : WT' := fun n δ Q X => wa n δ (fun b δ1 => Q (!b) δ1) X
theorem st_and {ta tb : TT} {wa wb : WT'} (ha : ST N K W ta wa) (hb : ST N K W tb wb) : ST N K W (tAnd ta tb) (wtAnd wa wb) := fun n δ Q X h M σ S H r hN p Qm hn hx =>
  ha n δ _ X h M σ S H r hN p _ (fun M1 H1 b δ1 S1 e1 p1 r1 h1 => by
    split
    · rename_i hbt
      rw [if_pos hbt] at h1
      exact hb n δ1 Q X h1 M1 σ S1 H1 r1 hN (p.trans p1) Qm (fun M2 H2 c δ2 S2 e2 p2 => hn M2 H2 c δ2 S2 (e1.trans e2) (p1.trans p2)) (hx.on e1 p1)
    · rename_i hbt
      rw [if_neg hbt] at h1
      exact hn M1 H1 false δ1 S1 e1 p1 r1 h1) hx
theorem st_or {ta tb : TT} {wa wb : WT'} (ha : ST N K W ta wa) (hb : ST N K W tb wb) : ST N K W (tOr ta tb) (wtOr wa wb) := fun n δ Q X h M σ S H r hN p Qm hn hx =>
  ha n δ _ X h M σ S H r hN p _ (fun M1 H1 b δ1 S1 e1 p1 r1 h1 => by
    split
    · rename_i hbt
      rw [if_pos hbt] at h1
      exact hn M1 H1 true δ1 S1 e1 p1 r1 h1
    · rename_i hbt
      rw [if_neg hbt] at h1
      exact hb n δ1 Q X h1 M1 σ S1 H1 r1 hN (p.trans p1) Qm (fun M2 H2 c δ2 S2 e2 p2 => hn M2 H2 c δ2 S2 (e1.trans e2) (p1.trans p2)) (hx.on e1 p1)) hx
theorem st_not {ta : TT} {wa : WT'} (ha : ST N K W ta wa) : ST N K W (tNot ta) (wtNot wa) := fun n δ Q X h M σ S H r hN p Qm hn hx =>
  ha n δ _ X h M σ S H r hN p _ (fun M1 H1 b δ1 S1 e1 p1 r1 h1 => hn M1 H1 (!b) δ1 S1 e1 p1 r1 h1) hx
def wIfE (wt : WT') (wa wb : WE') : WE' := fun n δ Q X => wt n δ (fun b δ1 => if b = true then wa n δ1 Q X else wb n δ1 Q X) X
theorem se_if {tt : TT} {ta tb : TE} {wt : WT'} {wa wb : WE'} (ht : ST N K W tt wt) (ha : SE N K W ta wa) (hb : SE N K W tb wb) : SE N K W (tIf tt ta tb) (wIfE wt wa wb) := fun n δ Q X h M σ S H r hN p Qm hn hx =>
  ht n δ _ X h M σ S H r hN p _ (fun M1 H1 b δ1 S1 e1 p1 r1 h1 => by
    split
    · rename_i hbt
      rw [if_pos hbt] at h1
      exact ha n δ1 Q X h1 M1 σ S1 H1 r1 hN (p.trans p1) Qm (hn.on e1 p1) (hx.on e1 p1)
    · rename_i hbt
      rw [if_neg hbt] at h1
      exact hb n δ1 Q X h1 M1 σ S1 H1 r1 hN (p.trans p1) Qm (hn.on e1 p1) (hx.on e1 p1)) hx
/-! is None -/
def isNon : T → Bool
  | .non => true
  | _ => false
theorem non_ok {x : Arg} {u : V} {τ : T} (r : RB K M S H δ β) (h : argT δ x = some τ) (ok : ArgOk K M S x u) : decide (u = .non) = isNon τ := by
  cases τ with
  | non => cases (show u = .non from r.flat h rfl ok); rfl
  | bl b => cases (show u = .bl b from r.flat h rfl ok); rfl
  | int b => cases (show u = .int b from r.flat h rfl ok); rfl
  | str b => cases (show u = .str b from r.flat h rfl ok); rfl
  | ty b => cases (show u = .ty b from r.flat h rfl ok); rfl
  | adr b => cases (show u = .ref b from r.flat h rfl ok); rfl
  | nd c o ts =>
    obtain ⟨a, vs, rfl, _⟩ := r.kids h ok
    rfl
def wIsN (neg : Bool) (wa : WE') : WE' := fun n δ Q X => wa n δ (fun r δ1 => opt (argT δ1 r) fun τ => Q (.v (.bl (if neg then !isNon τ else isNon τ))) δ1) X
theorem se_isN {ta : TE} {wa : WE'} (ha : SE N K W ta wa) : SE N K W (tIsN ta) (wIsN false wa) := fun n δ Q X h M σ S H r hN p Qm hn hx =>
  ha n δ _ X h M σ S H r hN p _ (fun M1 u H1 a δ1 S1 e1 p1 r1 o1 h1 => by
    obtain ⟨τ, ht, q⟩ := opt_elim h1
    rw [non_ok r1 ht o1]
    exact (hn.on e1 p1).bl r1 q) hx
theorem se_notN {ta : TE} {wa : WE'} (ha : SE N K W ta wa) : SE N K W (tNotN ta) (wIsN true wa) := fun n δ Q X h M σ S H r hN p Qm hn hx =>
  ha n δ _ X h M σ S H r hN p _ (fun M1 u H1 a δ1 S1 e1 p1 r1 o1 h1 => by
    obtain ⟨τ, ht, q⟩ := opt_elim h1
    rw [non_ok r1 ht o1]
    exact (hn.on e1 p1).bl r1 q) hx
/-! displays -/
def takeL (n : Nat) : Env → List Arg → Option (List T × Env)
  | δ, [] => some ([], δ)
  | δ, r :: rs => (take1 n δ r).bind fun q => (takeL n q.2 rs).map fun q2 => (q.1 :: q2.1, q2.2)
theorem takeL_ok {n : Nat} : ∀ {rs : List Arg} {δ δ' : Env} {ts : List T} {us : List V} {M : Hp} {β : List A}, RB K M S H δ β → takeL n δ rs = some (ts, δ') → ArgsOk K M S rs us → ∃ M' as, Same M M' ∧ RB K M' S H δ' (β ++ as) ∧ erL as = ts ∧ as.map val = us
  | [], δ, δ', ts, us, M, β, r, h, ok => by cases h; cases ok; exact ⟨M, [], Same.refl M, by simpa using r, rfl, rfl⟩
  | x :: rs, δ, δ', ts, us, M, β, r, h, ⟨v, q, h1, h2, h3⟩ => by
    subst h1
    simp only [takeL] at h
    cases e : take1 n δ x with
    | none => rw [e] at h; cases h
    | some q1 =>
      obtain ⟨τ, δ1⟩ := q1
      rw [e] at h
      simp only [Option.bind_some] at h
      cases e2 : takeL n δ1 rs with
      | none => rw [e2] at h; cases h
      | some q2 =>
        rw [e2] at h
        cases h
        obtain ⟨M1, a, s1, r1, g1, g2⟩ := take1_ok r e h2
        have h3' : ArgsOk K M1 S rs q := h3.mono s1
        obtain ⟨M2, as, s2, r2, g3, g4⟩ := takeL_ok r1 e2 h3'
        refine ⟨M2, a :: as, s1.trans s2, by simpa using r2, by simp only [erL, g1, g3], by simp [g2, g4]⟩
def wLst (wa : WA') : WE' := fun n δ Q X => wa n δ (fun rs δ1 => opt (takeL n δ1 rs) fun q => len6 q.1.length ∧ ownQ q.2 (L q.1) Q) X
theorem se_lst {ta : TA} {wa : WA'} (ha : SA N K W ta wa) : SE N K W (tLst ta) (wLst wa) := fun n δ Q X h M σ S H r hN p Qm hn hx =>
  ha n δ _ X h M σ S H r hN p _ (fun M1 us H1 rs δ1 S1 e1 p1 r1 o1 h1 => by
    obtain ⟨⟨ts, δ2⟩, ht, hl, q⟩ := opt_elim h1
    obtain ⟨M2, as, s2, r2, g1, g2⟩ := takeL_ok r1 ht o1
    have hl2 : us.length = ts.length := by rw [← g2, ← g1, List.length_map, erL_length]
    refine ⟨by rw [hl2]; exact Nat.le_of_lt (len6_ok hl), fun q' hq => ?_⟩
    have r3 := RB.make (c := .lst) (b := 0) (β := []) (γ := as) r2 hq trivial
    have r4 := RB.push r3
    rw [← g2]
    refine ((hn.on e1 p1).on s2 Pre.refl).own r2.ls (s := .t (L ts)) ?_ q
    simpa [er, val, g1, obj, L] using r4) hx
def wTup (wa : WA') : WE' := fun n δ Q X => wa n δ (fun rs δ1 => opt (takeL n δ1 rs) fun q => len6 q.1.length ∧ if q.1.all isF = true then Q (.v (.nd .tup false q.1)) q.2 else ownQ q.2 (.nd .tup true q.1) Q) X
theorem lfs_of : ∀ {as : List A}, (erL as).all isF = true → HoldL K M H as → RpL K M (erL as) (as.map val)
  | [], _, _ => rfl
  | a :: as, h, ⟨h1, h2⟩ => by
    simp only [erL, List.all_cons, Bool.and_eq_true] at h
    obtain ⟨τ, v, rfl⟩ := leaf_of h.1
    exact ⟨v, as.map val, rfl, h1, lfs_of h.2 h2⟩
theorem RB.holds (r : RB K M S H δ β) : HoldL K M H β := let ⟨_, r⟩ := r; r.hb
theorem RB.drop1 {as : List A} (r : RB K M S H δ (β ++ as)) : RB K M S H δ β := by
  obtain ⟨α, r⟩ := r
  refine ⟨α, r.ex, r.ls, r.la, fun x => ?_, fun x hx => r.nm x ?_, r.ho, ?_, r.own, r.ali⟩
  · have := r.un x; rw [ctL_append] at this; omega
  · rw [ctL_append]; omega
  · have := r.hb
    rw [HoldL_iff] at this ⊢
    exact fun t ht => this t (List.mem_append_left _ ht)
theorem se_tup {ta : TA} {wa : WA'} (ha : SA N K W ta wa) : SE N K W (tTup ta) (wTup wa) := fun n δ Q X h M σ S H r hN p Qm hn hx =>
  ha n δ _ X h M σ S H r hN p _ (fun M1 us H1 rs δ1 S1 e1 p1 r1 o1 h1 => by
    obtain ⟨⟨ts, δ2⟩, ht, hl, q⟩ := opt_elim h1
    obtain ⟨M2, as, s2, r2, g1, g2⟩ := takeL_ok r1 ht o1
    have hl2 : us.length = ts.length := by rw [← g2, ← g1, List.length_map, erL_length]
    refine ⟨by rw [hl2]; exact Nat.le_of_lt (len6_ok hl), fun q' hq => ?_⟩
    have hn2 := (hn.on e1 p1).on s2 Pre.refl
    split at q
    · rename_i hf
      have hr := lfs_of (by rw [g1]; exact hf) (RB.holds (β := as) r2)
      rw [g1, g2] at hr
      have r3 : R K M2 S1 H1 δ2 := RB.drop1 (β := []) (as := as) r2
      obtain ⟨e4, r4, rp⟩ := RB.newT r3 hq hr
      exact (hn2.on e4 Pre.refl).val r4 rp q
    · have r3 := RB.make (c := .tup) (b := 0) (β := []) (γ := as) r2 hq trivial
      have r4 := RB.push r3
      rw [← g2]
      refine hn2.own r2.ls (s := .t (.nd .tup true ts)) ?_ q
      simpa [er, val, g1, obj] using r4) hx
end
end EV

/-! EV6: equality, in; statements; loops -/
namespace EV
open PySem PySem.Spec PyProof.Rows L2
mutual
def py : T → PyData
  | .non => .none
  | .bl b => .bool b
  | .int i => .int i
  | .str x => .str x
  | .ty _ => .none
  | .adr _ => .none
  | .nd .tup _ ts => .tuple (pyL ts)
  | .nd .lst _ ts => .list (pyL ts)
  | .nd .scr _ ts => .list (pyL ts)
  | .nd (.dK _) _ _ => .none
  | .nd (.dT _) _ _ => .none
  | .nd (.err _) _ _ => .none
  | .nd (.ins _ _) _ _ => .none
def pyL : List T → List PyData
  | [] => []
  | d :: ds => py d :: pyL ds
end
theorem pyL_map : ∀ ds : List T, pyL ds = ds.map py
  | [] => rfl
  | d :: ds => by rw [pyL, pyL_map ds]; rfl
mutual
theorem py_plain : ∀ d : T, (py d).plain = true
  | .non => rfl
  | .bl _ => rfl
  | .int _ => rfl
  | .str _ => rfl
  | .ty _ => rfl
  | .adr _ => rfl
  | .nd .tup _ ts => by simp only [py, PyData.plain]; exact pyL_plain ts
  | .nd .lst _ ts => by simp only [py, PyData.plain]; exact pyL_plain ts
  | .nd .scr _ ts => by simp only [py, PyData.plain]; exact pyL_plain ts
  | .nd (.dK _) _ _ => rfl
  | .nd (.dT _) _ _ => rfl
  | .nd (.err _) _ _ => rfl
  | .nd (.ins _ _) _ _ => rfl
theorem pyL_plain : ∀ ds : List T, PyData.plainAll (pyL ds) = true
  | [] => rfl
  | d :: ds => by simp only [pyL, PyData.plainAll, py_plain d, pyL_plain ds, Bool.and_self]
end
/-- data of depth n at most -/
def OkT : Nat → T → Prop
  | _, .non => True
  | _, .bl _ => True
  | _, .int _ => True
  | _, .str _ => True
  | n + 1, .nd .tup _ ts => ∀ t ∈ ts, OkT n t
  | n + 1, .nd .lst _ ts => ∀ t ∈ ts, OkT n t
  | n + 1, .nd .scr _ ts => ∀ t ∈ ts, OkT n t
  | _, _ => False
theorem depthAll_le : ∀ {ds : List T} {n : Nat}, (∀ d, d ∈ ds → (py d).depth ≤ n) → PyData.depthAll (pyL ds) ≤ n
  | [], _, _ => Nat.zero_le _
  | d :: ds, n, h => by
    simp only [pyL, PyData.depthAll]
    exact Nat.max_le.mpr ⟨h d (by simp), depthAll_le fun e he => h e (by simp [he])⟩
theorem OkT.depth : ∀ {n : Nat} {d : T}, OkT n d → (py d).depth ≤ n
  | _, .non, _ => Nat.zero_le _
  | _, .bl _, _ => Nat.zero_le _
  | _, .int _, _ => Nat.zero_le _
  | _, .str _, _ => Nat.zero_le _
  | 0, .ty _, h => by simp [OkT] at h
  | _ + 1, .ty _, h => by simp [OkT] at h
  | 0, .adr _, h => by simp [OkT] at h
  | _ + 1, .adr _, h => by simp [OkT] at h
  | 0, .nd c _ _, h => by cases c <;> simp [OkT] at h
  | n + 1, .nd .tup _ ts, h => by
    simp only [py, PyData.depth]
    exact Nat.succ_le_succ (depthAll_le fun x hx => OkT.depth (h x hx))
  | n + 1, .nd .lst _ ts, h => by
    simp only [py, PyData.depth]
    exact Nat.succ_le_succ (depthAll_le fun x hx => OkT.depth (h x hx))
  | n + 1, .nd .scr _ ts, h => by
    simp only [py, PyData.depth]
    exact Nat.succ_le_succ (depthAll_le fun x hx => OkT.depth (h x hx))
  | _ + 1, .nd (.dK _) _ _, h => by simp [OkT] at h
  | _ + 1, .nd (.dT _) _ _, h => by simp [OkT] at h
  | _ + 1, .nd (.err _) _ _, h => by simp [OkT] at h
  | _ + 1, .nd (.ins _ _) _ _, h => by simp [OkT] at h
section
variable {N : Nat} {K : PySem.W.Frag} {W : WX} {M M' M1 H H' : Hp} {σ S S1 : L2.St} {δ δ' : Env} {α β γ : List A} {Q : EK} {X : XK'} {Qm : VK}
theorem DpAll_of : ∀ {ts : List T} {vs : List V}, vs.length = ts.length → (∀ (i : Nat) t v, ts[i]? = some t → vs[i]? = some v → Dp K H v (py t)) → DpAll K H vs (pyL ts)
  | [], [], _, _ => .nil
  | [], _ :: _, h, _ => by cases h
  | _ :: _, [], h, _ => by cases h
  | t :: ts, v :: vs, h, g => .cons (g 0 t v rfl rfl) (DpAll_of (by simpa using h) fun i t' v' a b => g (i + 1) t' v' (by simpa using a) (by simpa using b))
theorem Rp.dp (e : Same M H) : ∀ {n : Nat} {d : T} {v : V}, OkT n d → Rp K M d v → Dp K H v (py d)
  | _, .non, _, _, h => by cases h; exact .non
  | _, .bl _, _, _, h => by cases h; exact .bl _
  | _, .int _, _, _, h => by cases h; exact .int _
  | _, .str _, _, _, h => by cases h; exact .str _
  | 0, .ty _, _, h, _ => by simp [OkT] at h
  | _ + 1, .ty _, _, h, _ => by simp [OkT] at h
  | 0, .adr _, _, h, _ => by simp [OkT] at h
  | _ + 1, .adr _, _, h, _ => by simp [OkT] at h
  | 0, .nd c _ _, _, h, _ => by cases c <;> simp [OkT] at h
  | n + 1, .nd .tup _ ts, _, o, ⟨_, a, vs, h1, h2, h3⟩ => by
    subst h1
    refine .tup (TV.Same.sqT e h2) (DpAll_of h3.length fun i t v ht hv => ?_)
    obtain ⟨w, hw, rw⟩ := h3.get ht
    rw [hv] at hw; cases hw
    exact Rp.dp e (o t (List.mem_of_getElem? ht)) rw
  | n + 1, .nd .lst _ ts, _, o, ⟨_, a, vs, h1, h2, h3⟩ => by
    subst h1
    refine .lst (.inl (.inl (e _ _ h2))) (DpAll_of h3.length fun i t v ht hv => ?_)
    obtain ⟨w, hw, rw⟩ := h3.get ht
    rw [hv] at hw; cases hw
    exact Rp.dp e (o t (List.mem_of_getElem? ht)) rw
  | n + 1, .nd .scr _ ts, _, o, ⟨_, a, vs, h1, h2, h3⟩ => by
    subst h1
    refine .lst (TV.Same.sqL e h2) (DpAll_of h3.length fun i t v ht hv => ?_)
    obtain ⟨w, hw, rw⟩ := h3.get ht
    rw [hv] at hw; cases hw
    exact Rp.dp e (o t (List.mem_of_getElem? ht)) rw
  | _ + 1, .nd (.dK _) _ _, _, h, _ => by simp [OkT] at h
  | _ + 1, .nd (.dT _) _ _, _, h, _ => by simp [OkT] at h
  | _ + 1, .nd (.err _) _ _, _, h, _ => by simp [OkT] at h
  | _ + 1, .nd (.ins _ _) _ _, _, h, _ => by simp [OkT] at h
theorem Hold.dp (e : Same M H) : ∀ {n : Nat} {a : A}, OkT n (er a) → Hold K M H a → Dp K H (val a) (py (er a))
  | n, .lf τ v, o, h => Rp.dp e o h
  | 0, .nd c _ _ ts, o, h => by cases c <;> simp [er, OkT] at o
  | n + 1, .nd .tup a b ts, o, h => by
    refine .tup (.inl (.inl h.1)) (DpAll_of (by rw [List.length_map, erL_length]) fun i t v ht hv => ?_)
    rw [erL_map, List.getElem?_map] at ht
    rw [List.getElem?_map] at hv
    cases e1 : ts[i]? with
    | none => rw [e1] at ht; cases ht
    | some x =>
      rw [e1] at ht hv
      cases ht; cases hv
      exact Hold.dp e (o _ (by rw [erL_map]; exact List.mem_map_of_mem (List.mem_of_getElem? e1))) (h.get e1)
  | n + 1, .nd .lst a b ts, o, h => by
    refine .lst (.inl (.inl h.1)) (DpAll_of (by rw [List.length_map, erL_length]) fun i t v ht hv => ?_)
    rw [erL_map, List.getElem?_map] at ht
    rw [List.getElem?_map] at hv
    cases e1 : ts[i]? with
    | none => rw [e1] at ht; cases ht
    | some x =>
      rw [e1] at ht hv
      cases ht; cases hv
      exact Hold.dp e (o _ (by rw [erL_map]; exact List.mem_map_of_mem (List.mem_of_getElem? e1))) (h.get e1)
  | n + 1, .nd .scr a b ts, o, h => h.2.1.elim
  | _ + 1, .nd (.dK _) _ _ _, h, _ => by simp [er, OkT] at h
  | _ + 1, .nd (.dT _) _ _ _, h, _ => by simp [er, OkT] at h
  | _ + 1, .nd (.err _) _ _ _, h, _ => by simp [er, OkT] at h
  | _ + 1, .nd (.ins _ _) _ _ _, h, _ => by simp [er, OkT] at h
theorem RB.dp {n : Nat} (r : RB K M S H δ β) {x : Arg} {u : V} {τ : T} (h : argT δ x = some τ) (o : OkT n τ) (ok : ArgOk K M S x u) : Dp K H u (py τ) := by
  obtain ⟨α, r⟩ := r
  cases x with
  | v τ' => cases h; exact Rp.dp r.ex o ok
  | sl k =>
    simp only [argT] at h
    cases e : look δ k with
    | none => rw [e] at h; cases h
    | some q =>
      rw [e] at h
      obtain ⟨a, b, h1, h2, h3, h4, h5, h6, h7⟩ := r.look e h
      have ok : S[k]? = some (some u) := ok
      rw [h7] at ok
      cases ok
      subst h4
      exact Hold.dp r.ex o h6
def eqT (a b : T) : Bool := PyData.eqv (py a) (py b)
def isAt : T → Bool
  | .nd _ _ _ => false
  | .ty _ => false
  | .adr _ => false
  | _ => true
def kEq (neg : Bool) : Env → Arg → Arg → EK → Prop := fun δ r s Q => opt (argT δ r) fun a => opt (argT δ s) fun b => OkT 16 a ∧ OkT 16 b ∧ Q (.v (.bl (if neg then !eqT a b else eqT a b))) δ
theorem p2_eq {m : Nat} : P2 K (TV.rEqX K m) (kEq false) := fun δ r s Q h M S H u v rr o1 o2 Qm hn => by
  obtain ⟨a, ha, h⟩ := opt_elim h
  obtain ⟨b, hb, oa, ob, q⟩ := opt_elim h
  exact .inr ⟨py a, py b, rr.dp ha oa o1, rr.dp hb ob o2, py_plain a, py_plain b, oa.depth, hn.bl rr q⟩
theorem p2_ne {m : Nat} : P2 K (TV.rNeX K m) (kEq true) := fun δ r s Q h M S H u v rr o1 o2 Qm hn => by
  obtain ⟨a, ha, h⟩ := opt_elim h
  obtain ⟨b, hb, oa, ob, q⟩ := opt_elim h
  exact .inr ⟨py a, py b, rr.dp ha oa o1, rr.dp hb ob o2, py_plain a, py_plain b, oa.depth, hn.bl rr q⟩
/-- the parts of a list or a tuple -/
def seqK (δ : Env) (r : Arg) : Option (List T) := match argT δ r with
  | some (.nd .lst _ ts) => some ts
  | some (.nd .scr _ ts) => some ts
  | some (.nd .tup _ ts) => some ts
  | _ => none
def kIn (neg : Bool) : Env → Arg → Arg → EK → Prop := fun δ r s Q => opt (argT δ r) fun a => opt (seqK δ s) fun ts => OkT 16 a ∧ (∀ t ∈ ts, OkT 15 t) ∧ Q (.v (.bl (if neg then !ts.any fun t => eqT t a else ts.any fun t => eqT t a))) δ
theorem any_py (ts : List T) (a : T) : ((pyL ts).any fun y => PyData.eqv y (py a)) = ts.any fun t => eqT t a := by
  rw [pyL_map, List.any_map]
  rfl
theorem p2_in {neg : Bool} : P2 K (TV.rInP K neg) (kIn neg) := fun δ r s Q h M S H u v rr o1 o2 Qm hn => by
  obtain ⟨a, ha, h⟩ := opt_elim h
  obtain ⟨ts, hts, oa, ot, q⟩ := opt_elim h
  unfold seqK at hts
  refine ⟨py a, pyL ts, rr.dp ha oa o1, ?_, py_plain a, pyL_plain ts, oa.depth, by rw [any_py]; exact hn.bl rr q⟩
  split at hts
  · rename_i e; cases hts; exact .inl (rr.dp (n := 16) e ot o2)
  · rename_i e; cases hts; exact .inl (rr.dp (n := 16) e ot o2)
  · rename_i e; cases hts; exact .inr (rr.dp (n := 16) e ot o2)
  · cases hts
/-! ### statements -/
structure ED where
  nx : Env → Prop
  rt : T → Env → Prop
  bk : Env → Prop := fun _ => False
  ct : Env → Prop := fun _ => False
  ex : XK' := fun _ _ _ => False
abbrev WS := Env → ED → Prop
def tk (n : Nat) (δ : Env) : Env := kil (fun j _ => Nat.ble n j) (δ.take n)
structure LiftE (K : PySem.W.Frag) (W : WX) (τs σ : L2.St) (M : Hp) (D : ED) (E : Ends) : Prop where
  nx : ∀ M' σ' H δ, Same M M' → σ'.length = σ.length → R K M' (σ' ++ τs) H δ → D.nx δ → E.nx σ' H
  rt : ∀ M' σ' H δ a, Same M M' → σ'.length = σ.length → RB K M' (σ' ++ τs) H δ [a] → D.rt (er a) δ → E.rt (val a) H
  bk : ∀ M' σ' H δ, Same M M' → σ'.length = σ.length → R K M' (σ' ++ τs) H δ → D.bk δ → E.bk σ' H
  ct : ∀ M' σ' H δ, Same M M' → σ'.length = σ.length → R K M' (σ' ++ τs) H δ → D.ct δ → E.ct σ' H
  ex : ∀ M' σ' H C x u d δ, Same M M' → σ'.length = σ.length → R K M' (σ' ++ τs) H δ → Rp K M' x u → H d = none → D.ex C x δ → W (.ref C) (some d) σ' (upd H d (TV.errO u))
theorem LiftE.on {τs σ σ' : L2.St} {D : ED} {E : Ends} (l : LiftE K W τs σ M D E) (e : Same M M') (k : σ'.length = σ.length) : LiftE K W τs σ' M' D E :=
  ⟨fun M2 σ2 H δ e2 k2 => l.nx M2 σ2 H δ (e.trans e2) (k2.trans k), fun M2 σ2 H δ a e2 k2 => l.rt M2 σ2 H δ a (e.trans e2) (k2.trans k), fun M2 σ2 H δ e2 k2 => l.bk M2 σ2 H δ (e.trans e2) (k2.trans k),
   fun M2 σ2 H δ e2 k2 => l.ct M2 σ2 H δ (e.trans e2) (k2.trans k), fun M2 σ2 H C x u d δ e2 k2 => l.ex M2 σ2 H C x u d δ (e.trans e2) (k2.trans k)⟩
def SS (N : Nat) (K : PySem.W.Frag) (W : WX) (t : TS) (w : WS) : Prop := ∀ δ D, w δ D → ∀ M σ τs H, R K M (σ ++ τs) H δ → σ.length = N → ∀ E, LiftE K W τs σ M D E → t E σ H
/-- what lies above goes -/
theorem RB.cut {ρ : L2.St} (r : RB K M (S ++ ρ) H δ β) : RB K M S H (tk S.length δ) β := by
  obtain ⟨α, r⟩ := r
  have hl : S.length ≤ δ.length := by have := r.ls; simp at this; omega
  have hla := r.la
  have hc : ∀ (n : Nat) (l : List A) (x : Addr), ctL (l.take n) x ≤ ctL l x := fun n l x => by
    have := ctL_append (ts := l.take n) (us := l.drop n) (x := x)
    rw [List.take_append_drop] at this
    omega
  refine ⟨α.take S.length, r.ex, by simp [tk, kil_length]; omega, by simp [tk, kil_length]; omega, fun x => ?_, fun x hx => r.nm x ?_, ?_, r.hb, fun i τ h => ?_, fun i j p h => ?_⟩
  · have := r.un x; have := hc S.length α x; omega
  · have := hc S.length α x; omega
  · have := r.ho
    rw [HoldL_iff] at this ⊢
    exact fun t ht => this t (List.mem_of_mem_take ht)
  · have h := kil_t.mp h
    have hi : i < S.length := by
      have := (List.getElem?_eq_some_iff.mp h).1
      simp at this
      omega
    rw [List.getElem?_take_of_lt hi] at h
    obtain ⟨a, h1, h2, h3⟩ := r.own i τ h
    exact ⟨a, by rw [List.getElem?_take_of_lt hi]; exact h1, h2, by rw [List.getElem?_append_left hi] at h3; exact h3⟩
  · obtain ⟨h, hf⟩ := kil_al h
    have hi : i < S.length := by
      have := (List.getElem?_eq_some_iff.mp h).1
      simp at this
      omega
    have hj : j < S.length := by
      cases hb : Nat.ble S.length j with
      | true => rw [hb] at hf; cases hf
      | false => exact Nat.lt_of_not_le fun z => by rw [Nat.ble_eq_true_of_le z] at hb; cases hb
    rw [List.getElem?_take_of_lt hi] at h
    obtain ⟨τ, a, b, h1, h2, h3, h4⟩ := r.ali i j p h
    exact ⟨τ, a, b, kil_t.mpr (by rw [List.getElem?_take_of_lt hj]; exact h1), by rw [List.getElem?_take_of_lt hj]; exact h2, h3, by rw [List.getElem?_append_left hi] at h4; exact h4⟩
theorem XC_of {τs : L2.St} {D : ED} {E : Ends} (l : LiftE K W τs σ M D E) {n : Nat} (hn : n = (σ ++ τs).length) : XC K W σ M (σ ++ τs) (fun C x δ' => D.ex C x (tk n δ')) := fun M' H' C x u d δ' S' e p r rp hd h => by
  obtain ⟨ρ, rfl⟩ := p
  exact l.ex M' σ H' C x u d _ e rfl (by rw [hn] at *; exact r.cut) rp hd (by rw [hn] at h; exact h)
def wSeq (a b : WS) : WS := fun δ D => a δ { D with nx := fun δ' => b δ' D }
theorem ss_seq {t u : TS} {a b : WS} (ha : SS N K W t a) (hb : SS N K W u b) : SS N K W (tSeq t u) (wSeq a b) := fun δ D h M σ τs H r hN E hE =>
  ha δ _ h M σ τs H r hN { E with nx := u E } ⟨fun M' σ' H' δ' e k r' q => hb δ' D q M' σ' τs H' r' (k.trans hN) E (hE.on e k), hE.rt, hE.bk, hE.ct, hE.ex⟩
def wNext : WS := fun δ D => D.nx δ
def wBreak : WS := fun δ D => D.bk δ
def wCont : WS := fun δ D => D.ct δ
theorem ss_next : SS N K W tNext wNext := fun δ D h M σ τs H r hN E hE => hE.nx M σ H δ (Same.refl M) rfl r h
theorem ss_break : SS N K W tBreak wBreak := fun δ D h M σ τs H r hN E hE => hE.bk M σ H δ (Same.refl M) rfl r h
theorem ss_cont : SS N K W tCont wCont := fun δ D h M σ τs H r hN E hE => hE.ct M σ H δ (Same.refl M) rfl r h
def xk (D : ED) (n : Nat) : XK' := fun C x δ' => D.ex C x (tk n δ')
def wIf (c : WT') (a b : WS) : WS := fun δ D => c δ.length δ (fun z δ1 => if z = true then a (tk δ.length δ1) D else b (tk δ.length δ1) D) (xk D δ.length)
theorem ss_if {tt : TT} {t u : TS} {c : WT'} {a b : WS} (hc : ST N K W tt c) (ha : SS N K W t a) (hb : SS N K W u b) : SS N K W (tIfS tt t u) (wIf c a b) := fun δ D h M σ τs H r hN E hE =>
  hc _ δ _ _ h M σ (σ ++ τs) H r hN Pre.app _ (fun M1 H1 z δ1 S1 e1 p1 r1 h1 => by
    obtain ⟨ρ, rfl⟩ := p1
    have r2 := r1.cut
    rw [r.ls] at r2
    split
    · rename_i hz
      rw [if_pos hz] at h1
      exact ha _ D h1 M1 σ τs H1 r2 hN E (hE.on e1 rfl)
    · rename_i hz
      rw [if_neg hz] at h1
      exact hb _ D h1 M1 σ τs H1 r2 hN E (hE.on e1 rfl)) (XC_of hE r.ls.symm)
def wDrop (wa : WE') : WS := fun δ D => wa δ.length δ (fun _ δ1 => D.nx (tk δ.length δ1)) (xk D δ.length)
theorem ss_drop {te : TE} {wa : WE'} (ha : SE N K W te wa) : SS N K W (tDrop te) (wDrop wa) := fun δ D h M σ τs H r hN E hE =>
  ha _ δ _ _ h M σ (σ ++ τs) H r hN Pre.app _ (fun M1 u H1 a δ1 S1 e1 p1 r1 o1 h1 => by
    obtain ⟨ρ, rfl⟩ := p1
    have r2 := r1.cut
    rw [r.ls] at r2
    exact hE.nx M1 σ H1 _ e1 rfl r2 h1) (XC_of hE r.ls.symm)
/-- return e: what is told may be one's own -/
def wRet (wa : WE') : WS := fun δ D => wa δ.length δ (fun r δ1 => opt (take1 0 δ1 r) fun q => D.rt q.1 (tk δ.length q.2)) (xk D δ.length)
theorem ss_ret {te : TE} {wa : WE'} (ha : SE N K W te wa) : SS N K W (tRet te) (wRet wa) := fun δ D h M σ τs H r hN E hE =>
  ha _ δ _ _ h M σ (σ ++ τs) H r hN Pre.app _ (fun M1 u H1 a δ1 S1 e1 p1 r1 o1 h1 => by
    obtain ⟨⟨τ, δ2⟩, ht, q⟩ := opt_elim h1
    obtain ⟨M2, x, s2, r2, g1, g2⟩ := take1_ok (β := []) r1 ht o1
    obtain ⟨ρ, rfl⟩ := p1
    have r3 := r2.cut
    rw [r.ls] at r3
    subst g1
    rw [← g2]
    exact hE.rt M2 σ H1 _ x (e1.trans s2) rfl r3 q) (XC_of hE r.ls.symm)
def wRetN : WS := fun δ D => D.rt .non δ
theorem ss_retN : SS N K W tRetN wRetN := fun δ D h M σ τs H r hN E hE => hE.rt M σ H δ (.lf .non .non) (Same.refl M) rfl (RB.float (β := []) r rfl) h
end
end EV

/-! EV7: slots set, lists changed -/
namespace EV
open PySem PySem.Spec PyProof.Rows L2
section
variable {N : Nat} {K : PySem.W.Frag} {W : WX} {M M' M1 H H' : Hp} {σ S S1 : L2.St} {δ δ' : Env} {α β γ : List A} {Q : EK} {X : XK'} {Qm : VK}
def kilr (i : Nat) (δ : Env) : Env := kil (fun j _ => j == i) δ
/-- what is in hand goes into slot i -/
theorem RB.setT {a : A} {i : Nat} (r : RB K M S H δ [a]) (hi : i < S.length) : R K M (S.set i (some (val a))) H ((kilr i δ).set i (some (.t (er a)))) := by
  obtain ⟨α, r⟩ := r
  have hd : i < δ.length := by have := r.ls; omega
  have ha : i < α.length := by have := r.la; omega
  have hai : α[i]? = some α[i] := List.getElem?_eq_getElem ha
  refine ⟨α.set i a, r.ex, by simp [r.ls, kilr, kil_length], by simp [r.la, kilr, kil_length], fun x => ?_, fun x hx => r.nm x ?_, HoldL_set r.ho r.hb.1, trivial, fun k τ h => ?_, fun k j p h => ?_⟩
  · have := ctL_set (t' := a) (x := x) hai
    have := r.un x
    simp only [ctL] at this ⊢
    omega
  · have := ctL_set (t' := a) (x := x) hai
    simp only [ctL] at hx ⊢
    omega
  · by_cases hk : k = i
    · subst hk
      rw [List.getElem?_set_self (by simp [kilr, kil_length]; exact hd)] at h
      cases h
      exact ⟨a, List.getElem?_set_self ha, rfl, List.getElem?_set_self hi⟩
    · rw [List.getElem?_set_ne (Ne.symm hk)] at h
      obtain ⟨b, h1, h2, h3⟩ := r.own k τ (kil_t.mp h)
      exact ⟨b, by rw [List.getElem?_set_ne (Ne.symm hk)]; exact h1, h2, by rw [List.getElem?_set_ne (Ne.symm hk)]; exact h3⟩
  · by_cases hk : k = i
    · subst hk
      rw [List.getElem?_set_self (by simp [kilr, kil_length]; exact hd)] at h
      cases h
    · rw [List.getElem?_set_ne (Ne.symm hk)] at h
      obtain ⟨h0, hf⟩ := kil_al h
      have hji : j ≠ i := by simpa using hf
      obtain ⟨τ, b, c, h1, h2, h3, h4⟩ := r.ali k j p h0
      exact ⟨τ, b, c, by rw [List.getElem?_set_ne (Ne.symm hji)]; exact kil_t.mpr h1, by rw [List.getElem?_set_ne (Ne.symm hji)]; exact h2, h3, by rw [List.getElem?_set_ne (Ne.symm hk)]; exact h4⟩
/-- slot i names a part of slot j -/
theorem RA.setAl {i j : Nat} {p : List Nat} {a b : A} (r : RA K M S H δ α []) (hi : i < S.length) (hij : j ≠ i) (hd : δ[j]? = some (some (.t (er a)))) (h1 : α[j]? = some a) (hb : at' p a = some b) : R K M (S.set i (some (val b))) H ((kilr i δ).set i (some (.al j p))) := by
  have hdl : i < δ.length := by have := r.ls; omega
  have ha : i < α.length := by have := r.la; omega
  have hai : α[i]? = some α[i] := List.getElem?_eq_getElem ha
  refine ⟨α.set i (.lf .non .non), r.ex, by simp [r.ls, kilr, kil_length], by simp [r.la, kilr, kil_length], fun x => ?_, fun x hx => r.nm x ?_, HoldL_set r.ho rfl, trivial, fun k τ h => ?_, fun k j' p' h => ?_⟩
  · have := ctL_set (t' := .lf .non .non) (x := x) hai
    have := r.un x
    have : ct (A.lf .non .non) x = 0 := rfl
    simp only [ctL] at *
    omega
  · have := ctL_set (t' := .lf .non .non) (x := x) hai
    have : ct (A.lf .non .non) x = 0 := rfl
    simp only [ctL] at *
    omega
  · by_cases hk : k = i
    · subst hk
      rw [List.getElem?_set_self (by simp [kilr, kil_length]; exact hdl)] at h
      cases h
    · rw [List.getElem?_set_ne (Ne.symm hk)] at h
      obtain ⟨b, h1, h2, h3⟩ := r.own k τ (kil_t.mp h)
      exact ⟨b, by rw [List.getElem?_set_ne (Ne.symm hk)]; exact h1, h2, by rw [List.getElem?_set_ne (Ne.symm hk)]; exact h3⟩
  · by_cases hk : k = i
    · subst hk
      rw [List.getElem?_set_self (by simp [kilr, kil_length]; exact hdl)] at h
      cases h
      exact ⟨_, a, b, by rw [List.getElem?_set_ne (Ne.symm hij)]; exact kil_t.mpr hd, by rw [List.getElem?_set_ne (Ne.symm hij)]; exact h1, hb, List.getElem?_set_self hi⟩
    · rw [List.getElem?_set_ne (Ne.symm hk)] at h
      obtain ⟨h0, hf⟩ := kil_al h
      have hji : j' ≠ i := by simpa using hf
      obtain ⟨τ, b', c, h1, h2, h3, h4⟩ := r.ali k j' p' h0
      exact ⟨τ, b', c, by rw [List.getElem?_set_ne (Ne.symm hji)]; exact kil_t.mpr h1, by rw [List.getElem?_set_ne (Ne.symm hji)]; exact h2, h3, by rw [List.getElem?_set_ne (Ne.symm hk)]; exact h4⟩
/-- x = e -/
def bind1 (n i : Nat) (δ : Env) (r : Arg) : Option Env := match r with
  | .v τ => some ((kilr i δ).set i (some (.t τ)))
  | .sl k => (look δ k).bind fun q => (sub δ q.1 q.2).bind fun s =>
    if isF s = true ∨ n ≤ q.1 then (take1 n δ (.sl k)).map fun w => (kilr i w.2).set i (some (.t w.1))
    else if q.1 = i then (if q.2 = [] then some δ else none) else some ((kilr i δ).set i (some (.al q.1 q.2)))
theorem bind1_ok {n i : Nat} {x : Arg} {u : V} (r : R K M S H δ) (h : bind1 n i δ x = some δ') (ok : ArgOk K M S x u) (hi : i < S.length) : ∃ M', Same M M' ∧ R K M' (S.set i (some u)) H δ' := by
  unfold bind1 at h
  cases x with
  | v τ =>
    cases h
    exact ⟨M, Same.refl M, RB.setT (a := .lf τ u) (RB.float (β := []) r ok) hi⟩
  | sl k =>
    dsimp only at h
    cases e : look δ k with
    | none => rw [e] at h; cases h
    | some q =>
      obtain ⟨j, p⟩ := q
      rw [e] at h
      simp only [Option.bind_some] at h
      cases es : sub δ j p with
      | none => rw [es] at h; cases h
      | some s =>
        rw [es] at h
        simp only [Option.bind_some] at h
        split at h
        · cases et : take1 n δ (.sl k) with
          | none => rw [et] at h; cases h
          | some w =>
            rw [et] at h
            cases h
            obtain ⟨M', a, s1, r1, g1, g2⟩ := take1_ok (β := []) r et ok
            have r2 := RB.setT r1 hi
            rw [g1, g2] at r2
            exact ⟨M', s1, r2⟩
        · have r0 := r
          obtain ⟨α, ra⟩ := r
          obtain ⟨a, b, h1, h2, h3, h4, h5, h6, h7⟩ := ra.look e es
          have ok : S[k]? = some (some u) := ok
          rw [h7] at ok
          cases ok
          split at h
          · rename_i hji
            split at h
            · rename_i hp
              cases h
              subst hp hji
              simp only [at'] at h3
              cases h3
              obtain ⟨a', g1, g2, g3⟩ := ra.own _ _ h1
              rw [h2] at g1
              cases g1
              refine ⟨M, Same.refl M, ?_⟩
              rw [set_self g3]
              exact r0
            · cases h
          · rename_i hji
            cases h
            exact ⟨M, Same.refl M, ra.setAl hi hji h1 h2 h3⟩
/-! targets -/
/-- a value that a slot above holds stands there after slots are set -/
def hiA (N : Nat) : List Arg → Prop
  | [] => True
  | .v _ :: r => hiA N r
  | .sl k :: r => N ≤ k ∧ hiA N r
abbrev WG := Nat → Env → Arg → Option Env
def SG (N : Nat) (K : PySem.W.Frag) (vs : List Nat) (g : TG) (w : WG) : Prop := ∀ n δ x δ', w n δ x = some δ' → ∀ M σ τs H v, R K M (σ ++ τs) H δ → σ.length = N → ArgOk K M (σ ++ τs) x v → ∀ Q : L2.St → Hp → Prop, (∀ M' σ' ρ, Same M M' → σ'.length = σ.length → (∀ k : Nat, k ∉ vs → σ'[k]? = σ[k]?) → R K M' (σ' ++ τs ++ ρ) H δ' → Q σ' H) → g v σ H Q
def SGs (N : Nat) (K : PySem.W.Frag) (vs : List Nat) (g : TGs) (w : Nat → Env → List Arg → Option Env) : Prop := ∀ n δ xs δ', w n δ xs = some δ' → ∀ M σ τs H us, R K M (σ ++ τs) H δ → σ.length = N → hiA N xs → ArgsOk K M (σ ++ τs) xs us → ∀ Q : L2.St → Hp → Prop, (∀ M' σ' ρ, Same M M' → σ'.length = σ.length → (∀ k : Nat, k ∉ vs → σ'[k]? = σ[k]?) → R K M' (σ' ++ τs ++ ρ) H δ' → Q σ' H) → g us σ H Q
def wgName (i : Nat) : WG := fun n δ x => bind1 n i δ x
theorem sg_name {i : Nat} (hi : i < N) : SG N K [i] (gName i) (wgName i) := fun n δ x δ' h M σ τs H v r hN ok Q q => by
  obtain ⟨M', s1, r1⟩ := bind1_ok r h ok (by simp; omega)
  rw [List.set_append_left _ _ (by omega)] at r1
  exact q M' _ [] s1 (by simp) (fun k hk => List.getElem?_set_ne (by simpa using Ne.symm (by simpa using hk))) (by simpa using r1)
def wgNil : Nat → Env → List Arg → Option Env := fun n δ xs => match xs with
  | [] => some δ
  | _ => none
theorem sgs_nil : SGs N K [] gNil wgNil := fun n δ xs δ' h M σ τs H vs r hN hi ok Q q => by
  cases xs with
  | nil => cases h; cases ok; exact ⟨rfl, q M σ [] (Same.refl M) rfl (fun _ _ => rfl) (by simpa using r)⟩
  | cons _ _ => cases h
def wgCons (w : WG) (ws : Nat → Env → List Arg → Option Env) : Nat → Env → List Arg → Option Env := fun n δ xs => match xs with
  | [] => none
  | x :: r => (w n δ x).bind fun δ1 => ws n δ1 r
theorem hi_keep {τs ρ : L2.St} {σ' : L2.St} (hl : σ'.length = σ.length) (e : Same M M') : ∀ {xs : List Arg} {vs : List V}, hiA σ.length xs → ArgsOk K M (σ ++ τs) xs vs → ArgsOk K M' (σ' ++ τs ++ ρ) xs vs
  | [], _, _, h => h
  | .v _ :: r, _, hi, ⟨v, q, h1, h2, h3⟩ => ⟨v, q, h1, Rp.mono e h2, hi_keep hl e hi h3⟩
  | .sl k :: r, _, hi, ⟨v, q, h1, h2, h3⟩ => ⟨v, q, h1, by
      have h2 : (σ ++ τs)[k]? = some (some v) := h2
      show (σ' ++ τs ++ ρ)[k]? = some (some v)
      rw [List.getElem?_append_right hi.1] at h2
      refine get_left ?_
      rw [List.getElem?_append_right (by rw [hl]; exact hi.1), hl]
      exact h2, hi_keep hl e hi.2 h3⟩
theorem hiA_tail {N : Nat} {x : Arg} {r : List Arg} (h : hiA N (x :: r)) : hiA N r := by
  cases x with
  | v _ => exact h
  | sl k => exact h.2
theorem sgs_cons {vs1 vs2 : List Nat} {g : TG} {gs : TGs} {w : WG} {ws : Nat → Env → List Arg → Option Env} (hg : SG N K vs1 g w) (hs : SGs N K vs2 gs ws) : SGs N K (vs1 ++ vs2) (gCons g gs) (wgCons w ws) := fun n δ xs δ' h M σ τs H vs r hN hi ok Q q => by
  cases xs with
  | nil => cases h
  | cons x xs =>
    obtain ⟨v, vs', rfl, o1, o2⟩ := ok
    simp only [wgCons] at h
    cases e : w n δ x with
    | none => rw [e] at h; cases h
    | some δ1 =>
      rw [e] at h
      refine ⟨v, vs', rfl, hg n δ x δ1 e M σ τs H v r hN o1 _ fun M1 σ1 ρ1 s1 l1 k1 r1 => ?_⟩
      have o3 := hi_keep (ρ := ρ1) l1 s1 (by rw [hN]; exact hiA_tail hi) o2
      rw [List.append_assoc] at r1 o3
      refine hs n δ1 xs δ' h M1 σ1 (τs ++ ρ1) H vs' r1 (l1.trans hN) (hiA_tail hi) o3 Q fun M2 σ2 ρ2 s2 l2 k2 r2 => ?_
      exact q M2 σ2 (ρ1 ++ ρ2) (s1.trans s2) (l2.trans l1) (fun k hk => (k2 k fun z => hk (List.mem_append_right _ z)).trans (k1 k fun z => hk (List.mem_append_left _ z))) (by simpa [List.append_assoc] using r2)
/-- the parts of a tuple -/
def partA : Nat → List T → List Arg
  | _, [] => []
  | k, t :: r => (if isF t = true then .v t else .sl k) :: partA (k + 1) r
def explode (n : Nat) (δ : Env) (x : Arg) : Option (List Arg × Env) := match argT δ x with
  | some (.nd .tup _ ts) => if ts.all isF = true then some (ts.map Arg.v, δ) else (plA δ x).bind fun q => if q.2 = [] ∧ n ≤ q.1 then some (partA δ.length ts, (kilr q.1 δ).set q.1 none ++ ts.map fun t => some (.t t)) else none
  | _ => none
theorem RB.pushes : ∀ {as : List A} {S : L2.St} {δ : Env} {β : List A}, RB K M S H δ (β ++ as) → RB K M (S ++ as.map fun a => some (val a)) H (δ ++ (erL as).map fun t => some (.t t)) β
  | [], S, δ, β, r => by simpa [erL] using r
  | a :: as, S, δ, β, r => by
    have r1 : RB K M S H δ ((β ++ as) ++ [a]) := by
      obtain ⟨α, r⟩ := r
      refine ⟨α, r.ex, r.ls, r.la, fun x => ?_, fun x hx => r.nm x ?_, r.ho, ?_, r.own, r.ali⟩
      · have := r.un x; simp only [ctL_append, ctL] at this ⊢; omega
      · simp only [ctL_append, ctL] at hx ⊢; omega
      · have := r.hb
        rw [HoldL_iff] at this ⊢
        intro t ht
        exact this t (by simp at ht ⊢; rcases ht with h | h | h <;> simp [h])
    have r2 := RB.pushes (RB.push r1)
    simpa [erL, List.append_assoc] using r2
theorem hiA_vs {N : Nat} : ∀ ts : List T, hiA N (ts.map Arg.v)
  | [] => trivial
  | _ :: r => hiA_vs r
theorem hiA_part {N : Nat} : ∀ {k : Nat} {ts : List T}, N ≤ k → hiA N (partA k ts)
  | _, [], _ => trivial
  | k, t :: r, h => by
    simp only [partA]
    split
    · exact hiA_part (ts := r) (Nat.le_succ_of_le h)
    · exact ⟨h, hiA_part (ts := r) (Nat.le_succ_of_le h)⟩
theorem vs_ok : ∀ {ts : List T} {vs : List V}, RpL K M ts vs → ArgsOk K M S (ts.map Arg.v) vs
  | [], _, h => h
  | _ :: _, _, ⟨v, q, h1, h2, h3⟩ => ⟨v, q, h1, h2, vs_ok h3⟩
theorem part_ok : ∀ {as : List A} {S : L2.St}, HoldL K M H as → ArgsOk K M (S ++ as.map fun a => some (val a)) (partA S.length (erL as)) (as.map val)
  | [], _, _ => rfl
  | a :: as, S, ⟨h1, h2⟩ => by
    have ih := part_ok (as := as) (S := S ++ [some (val a)]) h2
    simp only [List.length_append, List.length_singleton, List.append_assoc, List.singleton_append] at ih
    refine ⟨val a, as.map val, rfl, ?_, ih⟩
    split
    · rename_i hf
      obtain ⟨τ, v, rfl⟩ := leaf_of hf
      exact h1
    · show (S ++ (some (val a) :: _))[S.length]? = _
      simp
/-- what is in hand is taken apart -/
theorem RB.unmake {c : Con} {x y : Addr} {us : List A} (r : RB K M S H δ [.nd c x y us]) : RB K M S H δ us := by
  obtain ⟨α, r⟩ := r
  refine ⟨α, r.ex, r.ls, r.la, fun z => ?_, fun z hz => r.nm z ?_, r.ho, r.hb.1.2.2, r.own, r.ali⟩
  · have := r.un z; simp only [ctL, ct] at this; omega
  · simp only [ctL, ct]; omega
theorem explode_ok {n : Nat} {x : Arg} {u : V} {rs : List Arg} (r : R K M S H δ) (h : explode n δ x = some (rs, δ')) (ok : ArgOk K M S x u) (hN : N ≤ S.length) : ∃ M' a vs ρ, Same M M' ∧ u = .ref a ∧ SqT K H a vs ∧ vs.length = rs.length ∧ R K M' (S ++ ρ) H δ' ∧ ArgsOk K M' (S ++ ρ) rs vs ∧ hiA N rs := by
  unfold explode at h
  split at h
  · rename_i o ts e
    split at h
    · rename_i hf
      cases h
      obtain ⟨a, vs, h1, h2, h3⟩ := R.kidsF r e ok (fun t ht => List.all_eq_true.mp hf t ht)
      exact ⟨M, a, vs, [], Same.refl M, h1, h2, by rw [List.length_map, h3.length], by simpa using r, by simpa using vs_ok h3, hiA_vs ts⟩
    · rename_i hna
      cases x with
      | v τ => cases h
      | sl k =>
        simp only [plA] at h
        cases el : look δ k with
        | none => rw [el] at h; cases h
        | some q =>
          obtain ⟨j, p⟩ := q
          rw [el] at h
          simp only [Option.bind_some] at h
          split at h
          · rename_i hc
            obtain ⟨rfl, hnj⟩ := hc
            cases h
            have es : sub δ j [] = some (.nd .tup o ts) := by simpa [argT, el] using e
            by_cases hfo : isF (.nd .tup o ts) = true
            · exfalso
              obtain ⟨_, a, vs, _, _, h3⟩ := r.flat e hfo ok
              refine hna ?_
              rw [List.all_eq_true]
              intro t ht
              obtain ⟨i, hi⟩ := List.mem_iff_getElem?.mp ht
              obtain ⟨w, _, rw⟩ := h3.get hi
              exact lf_froz rw
            · have et : take1 n δ (.sl k) = some (.nd .tup o ts, (kilr j δ).set j none) := by
                simp only [take1, el, es, Option.bind_some, if_neg hfo, if_pos hnj]
                rfl
              obtain ⟨M', a, s1, r1, g1, g2⟩ := take1_ok (β := []) r et ok
              have hh := (RB.holds r1 : HoldL K M' H ([] ++ [a])).1
              cases a with
              | lf τ v =>
                exfalso
                have g1 : τ = .nd .tup o ts := g1
                subst g1
                exact hfo (lf_froz (hh : Rp K M' _ v))
              | nd c a y us =>
                have g1 : T.nd c true (erL us) = .nd .tup o ts := g1
                cases g1
                have r2 := RB.unmake r1
                have r3 := RB.pushes (β := []) (as := us) r2
                have hl : S.length = δ.length := r.ls
                refine ⟨M', a, us.map val, us.map fun a => some (val a), s1, g2.symm, .inl (.inl hh.1), ?_, r3, ?_, hiA_part (by omega)⟩
                · have : ∀ (k : Nat) (ts : List T), (partA k ts).length = ts.length := fun k ts => by
                    induction ts generalizing k with
                    | nil => rfl
                    | cons t r ih => simp only [partA, List.length_cons, ih]
                  rw [this, erL_length, List.length_map]
                · rw [← hl]
                  exact part_ok hh.2.2
          · cases h
  · cases h
def wgTup (k : Nat) (ws : Nat → Env → List Arg → Option Env) : WG := fun n δ x => (explode n δ x).bind fun q => if q.1.length = k then ws n q.2 q.1 else none
theorem sg_tup {k : Nat} {vs1 : List Nat} {gs : TGs} {ws : Nat → Env → List Arg → Option Env} (hs : SGs N K vs1 gs ws) : SG N K vs1 (gTup K k gs) (wgTup k ws) := fun n δ x δ' h M σ τs H v r hN ok Q q => by
  simp only [wgTup] at h
  cases e : explode n δ x with
  | none => rw [e] at h; cases h
  | some w =>
    rw [e] at h
    simp only [Option.bind_some] at h
    split at h
    · rename_i hk
      obtain ⟨M', a, vs, ρ, s1, rfl, h1, h2, h3, h4, h5⟩ := explode_ok (N := N) r e ok (by simp; omega)
      refine ⟨a, vs, rfl, h1, by omega, ?_⟩
      rw [List.append_assoc] at h3 h4
      refine hs n _ _ δ' h M' σ (τs ++ ρ) H vs h3 hN h5 h4 Q fun M2 σ2 ρ2 s2 l2 k2 r2 => ?_
      exact q M2 σ2 (ρ ++ ρ2) (s1.trans s2) l2 k2 (by simpa [List.append_assoc] using r2)
    · cases h
/-- targets = e -/
def wAsg (wa : WE') (g : WG) : WS := fun δ D => wa δ.length δ (fun r δ1 => opt (g δ.length δ1 r) fun δ2 => D.nx (tk δ.length δ2)) (xk D δ.length)
theorem ss_asg {vs1 : List Nat} {te : TE} {g : TG} {wa : WE'} {w : WG} (ha : SE N K W te wa) (hg : SG N K vs1 g w) : SS N K W (tAsg te g) (wAsg wa w) := fun δ D h M σ τs H r hN E hE =>
  ha _ δ _ _ h M σ (σ ++ τs) H r hN Pre.app _ (fun M1 u H1 a δ1 S1 e1 p1 r1 o1 h1 => by
    obtain ⟨δ2, hd, q⟩ := opt_elim h1
    obtain ⟨ρ, rfl⟩ := p1
    rw [List.append_assoc] at r1 o1
    refine hg _ δ1 a δ2 hd M1 σ (τs ++ ρ) H1 u r1 hN o1 _ fun M2 σ2 ρ2 s2 l2 _ r2 => ?_
    have r3 : R K M2 ((σ2 ++ τs) ++ (ρ ++ ρ2)) H1 δ2 := by simpa [List.append_assoc] using r2
    have r4 := r3.cut
    have hl : (σ2 ++ τs).length = δ.length := by rw [← r.ls]; simp [l2]
    rw [hl] at r4
    exact hE.nx M2 σ2 H1 _ (e1.trans s2) l2 r4 q) (XC_of hE r.ls.symm)
/-- x op= e of whole numbers -/
def wAug (i : Nat) (f : Int → Int → Int) (wa : WE') : WS := fun δ D => opt (varA δ i) fun r => opt (intA r) fun a => wa δ.length δ (fun s δ1 => opt (intA s) fun b => D.nx (tk δ.length ((kilr i δ1).set i (some (.t (.int (f a b))))))) (xk D δ.length)
theorem ss_aug {i : Nat} {f : Int → Int → Int} {te : TE} {wa : WE'} (hi : i < N) (ha : SE N K W te wa) : SS N K W (tAug i te (ipI f)) (wAug i f wa) := fun δ D h M σ τs H r hN E hE => by
  obtain ⟨x, hx, h⟩ := opt_elim h
  obtain ⟨a, ha', h⟩ := opt_elim h
  obtain ⟨v, hv, ok⟩ := var_ok r hx
  have := intA_ok ha' ok
  subst this
  refine ⟨.int a, pre_get Pre.app (by omega) hv, ha _ δ _ _ h M σ (σ ++ τs) H r hN Pre.app _ (fun M1 u H1 s δ1 S1 e1 p1 r1 o1 h1 => ?_) (XC_of hE r.ls.symm)⟩
  obtain ⟨b, hb, q⟩ := opt_elim h1
  refine ⟨a, b, rfl, intA_ok hb o1, ?_⟩
  obtain ⟨ρ, rfl⟩ := p1
  have r2 := RB.setT (a := .lf (.int (f a b)) (.int (f a b))) (i := i) (RB.float (β := []) r1 rfl) (by simp; omega)
  rw [List.append_assoc, List.set_append_left _ _ (by omega), ← List.append_assoc] at r2
  have r3 := r2.cut
  have hl : (σ.set i (some (V.int (f a b))) ++ τs).length = δ.length := by rw [← r.ls]; simp
  simp only [val, er] at r3
  rw [hl] at r3
  exact hE.nx M1 _ H1 _ e1 (by simp) r3 q
end
end EV

/-! EV8: lists changed -/
namespace EV
open PySem PySem.Spec PyProof.Rows L2
section
variable {N : Nat} {K : PySem.W.Frag} {W : WX} {M M' M1 H H' : Hp} {σ S S1 : L2.St} {δ δ' : Env} {α β γ : List A} {Q : EK} {X : XK'} {Qm : VK}
theorem RB.write {x : Arg} {u : V} {j : Nat} {p : List Nat} {c : Con} {ts : List T} (r : RB K M S H δ β) (hl : plA δ x = some (j, p)) (hs : sub δ j p = some (.nd c true ts)) (hcn : isTup c = false) (ok : ArgOk K M S x u) :
    ∃ a y us, u = .ref a ∧ H a = some (obj c y (us.map val)) ∧ okc c us.length ∧ erL us = ts ∧ HoldL K M H us ∧ ∀ c' us' β', isTup c' = false → okc c' us'.length → (∀ z, ctL us' z + ctL β' z ≤ ctL us z + ctL β z) → HoldL K M H us' → HoldL K M H β' →
      RB K M S (upd H a (obj c' y (us'.map val))) (putE δ j p (.nd c' true (erL us'))) β' ∧ ((∀ (k : Nat) t, us[k]? = some t → us'[k]? = some t) → RB K M S (upd H a (obj c' y (us'.map val))) (putK δ j p (.nd c' true (erL us'))) β') := by
  obtain ⟨α, r⟩ := r
  cases x with
  | v τ => cases hl
  | sl k =>
    have hl : look δ k = some (j, p) := hl
    obtain ⟨a, b, h1, h2, h3, h4, h5, h6, h7⟩ := r.look hl hs
    have ok : S[k]? = some (some u) := ok
    rw [h7] at ok
    cases ok
    cases b with
    | lf τ v =>
      exfalso
      have h4 : τ = .nd c true ts := h4
      subst h4
      have := lf_froz (h6 : Rp K M _ v)
      simp [isF] at this
    | nd d x y us =>
      have h4 : T.nd d true (erL us) = .nd c true ts := h4
      cases h4
      refine ⟨x, y, us, rfl, h6.1, h6.2.1, rfl, h6.2.2, fun c' us' β' hct hc hcnt hu hb => ?_⟩
      have hca : ∀ z, ct (.nd c x y us) z ≤ ctL α z := fun z => by
        have := ct_at (x := z) h3
        have := ctL_pos (x := z) (List.mem_of_getElem? h2)
        omega
      have hx0 : ctL us x = 0 ∧ ctL β x = 0 := by
        have := r.un x
        have := hca x
        rw [ct, if_pos ⟨rfl, hcn⟩] at this
        omega
      have hmx : M x = none := r.nm x (by have := hca x; rw [ct, if_pos ⟨rfl, hcn⟩] at this; omega)
      have nx : ∀ z, 0 < ctL us' z ∨ 0 < ctL β' z → z ≠ x := fun z hz => by
        rintro rfl
        have := hcnt z
        omega
      have ht : tree δ j = some (er a) := by unfold tree; rw [h1]
      have sm : Same M (upd H x (obj c' y (us'.map val))) := fun z o hz => by
        rw [upd_ne]
        · exact r.ex z o hz
        · rintro rfl
          rw [hmx] at hz
          cases hz
      have tkp : TupK H (upd H x (obj c' y (us'.map val))) := fun z ws hz => by
        rw [upd_ne]
        · exact hz
        · rintro rfl
          rw [h6.1] at hz
          exact obj_ntup hcn (Option.some.inj hz)
      have hB : Hold K M (upd H x (obj c' y (us'.map val))) (.nd c' x y us') := ⟨upd_same, hc, hu.mono (Same.refl M) tkp fun z hz => upd_ne (nx z (.inl hz))⟩
      have hBb : HoldL K M (upd H x (obj c' y (us'.map val))) β' := hb.mono (Same.refl M) tkp fun z hz => upd_ne (nx z (.inr hz))
      have kx : ∀ z, ct (.nd c x y us) z = 0 → upd H x (obj c' y (us'.map val)) z = H z := fun z hz => upd_ne (by
        rintro rfl
        rw [ct, if_pos ⟨rfl, hcn⟩] at hz
        omega)
      have cc : ∀ z, ct (.nd c' x y us') z + ctL β' z ≤ ct (.nd c x y us) z + ctL β z := fun z => by
        have := hcnt z
        simp only [ct, hct, hcn]
        omega
      constructor
      · unfold putE
        rw [ht]
        refine ⟨_, (kil_less (f := fun i q => i == j && below p q) r).wr (b' := .nd c' x y us') (kil_t.mpr h1) h2 h3 rfl (Same.refl M) sm tkp kx cc (fun z _ hz => absurd rfl hz) hB hBb (fun i q hi s hs' hne c hc => ?_)⟩
        obtain ⟨h0, hf⟩ := kil_al hi
        rw [below_pre hs' hne] at hf
        simp at hf
      · intro keep
        unfold putK
        rw [ht]
        refine ⟨_, r.wr (b' := .nd c' x y us') h1 h2 h3 rfl (Same.refl M) sm tkp kx cc (fun z _ hz => absurd rfl hz) hB hBb (fun i q hi s hs' hne c hc => ?_)⟩
        cases s with
        | nil => exact absurd rfl hne
        | cons m s =>
          simp only [at'] at hc ⊢
          cases e : us[m]? with
          | none => rw [e] at hc; cases hc
          | some t =>
            rw [e] at hc
            rw [keep m t e]
            exact ⟨c, hc, rfl⟩
/-- what is in hand is told -/
def retQ (δ : Env) (τ : T) (Q : EK) : Prop := if isF τ = true then Q (.v τ) δ else Q (.sl δ.length) (δ ++ [some (.t τ)])
theorem NC.ret (h : NC K M S Q Qm) {a : A} (r : RB K M S H δ [a]) (q : retQ δ (er a) Q) : Qm (EV.val a) H := by
  unfold retQ at q
  split at q
  · rename_i hf
    obtain ⟨τ, v, rfl⟩ := leaf_of hf
    exact h.val (RB.drop1 (β := []) r) (RB.holds r).1 q
  · exact h.own r.ls (RB.push (β := []) r) q
/-! methods -/
def PM (K : PySem.W.Frag) (rr : V → List V → Hp → VK → Prop) (k : Nat → Env → Arg → List Arg → EK → Prop) : Prop := ∀ n δ r rs Q, k n δ r rs Q → ∀ M S H u us, R K M S H δ → ArgOk K M S r u → ArgsOk K M S rs us → ∀ Qm, NC K M S Q Qm → rr u us H Qm
def isLst (δ : Env) (r : Arg) : Prop := ∃ ts, lqK δ r = some ts
theorem isLst_ok {r : Arg} {u : V} (rr : RB K M S H δ β) (h : isLst δ r) (ok : ArgOk K M S r u) : tyV K "list" u H := by
  obtain ⟨ts, h⟩ := h
  unfold lqK at h
  split at h
  · rename_i e
    obtain ⟨a, vs, rfl, h2, _⟩ := rr.kids e ok
    exact .inl ⟨rfl, vs, .inl (.inl h2)⟩
  · rename_i e
    obtain ⟨a, vs, rfl, h2, _⟩ := rr.kids e ok
    exact .inl ⟨rfl, vs, h2⟩
  · cases h
def isL (δ : Env) (r : Arg) : Bool := match argT δ r with
  | some (.nd .lst _ _) => true
  | some (.nd .scr _ _) => true
  | _ => false
theorem isL_ok {r : Arg} {u : V} (rr : RB K M S H δ β) (h : isL δ r = true) (ok : ArgOk K M S r u) : tyV K "list" u H := by
  unfold isL at h
  split at h
  · rename_i e
    obtain ⟨a, vs, rfl, h2, _⟩ := rr.kids e ok
    exact .inl ⟨rfl, vs, .inl (.inl h2)⟩
  · rename_i e
    obtain ⟨a, vs, rfl, h2, _⟩ := rr.kids e ok
    exact .inl ⟨rfl, vs, h2⟩
  · cases h
def wM (k : Nat → Env → Arg → List Arg → EK → Prop) (wo : WE') (wa : WA') : WE' := fun n δ Q X => wo n δ (fun r δ1 => isL δ1 r = true ∧ wa n δ1 (fun rs δ2 => k n δ2 r rs Q) X) X
theorem se_m {rr : V → List V → Hp → VK → Prop} {k : Nat → Env → Arg → List Arg → EK → Prop} {to : TE} {ta : TA} {wo : WE'} {wa : WA'} (hk : PM K rr k) (ho : SE N K W to wo) (ha : SA N K W ta wa) : SE N K W (tBM K "list" rr to ta) (wM k wo wa) := fun n δ Q X h M σ S H r hN p Qm hn hx =>
  ho n δ _ X h M σ S H r hN p _ (fun M1 u H1 a δ1 S1 e1 p1 r1 o1 h1 => ⟨isL_ok r1 h1.1 o1, ha n δ1 _ X h1.2 M1 σ S1 H1 r1 hN (p.trans p1) _ (fun M2 us H2 rs δ2 S2 e2 p2 r2 o2 h2 =>
    hk n δ2 a rs Q h2 M2 S2 H2 u us r2 ((o1.mono e2).pre p2) o2 Qm (hn.on (e1.trans e2) (p1.trans p2))) (hx.on e1 p1)⟩) hx
def wM0 (k : Nat → Env → Arg → List Arg → EK → Prop) (wo : WE') : WE' := fun n δ Q X => wo n δ (fun r δ1 => isL δ1 r = true ∧ k n δ1 r [] Q) X
theorem se_m0 {rr : V → List V → Hp → VK → Prop} {k : Nat → Env → Arg → List Arg → EK → Prop} {to : TE} {wo : WE'} (hk : PM K rr k) (ho : SE N K W to wo) : SE N K W (tBM0 K "list" rr to) (wM0 k wo) := fun n δ Q X h M σ S H r hN p Qm hn hx =>
  ho n δ _ X h M σ S H r hN p _ (fun M1 u H1 a δ1 S1 e1 p1 r1 o1 h1 => ⟨isL_ok r1 h1.1 o1, hk n δ1 a [] Q h1.2 M1 S1 H1 u [] r1 o1 rfl Qm (hn.on e1 p1)⟩) hx
/-- the list at a place of one's own -/
def ownL (δ : Env) (r : Arg) (k : Nat → List Nat → List T → Prop) : Prop := opt (plA δ r) fun q => match sub δ q.1 q.2 with
  | some (.nd .lst true ts) => k q.1 q.2 ts
  | _ => False
theorem ownL_elim {r : Arg} {k : Nat → List Nat → List T → Prop} (h : ownL δ r k) : ∃ j p ts, plA δ r = some (j, p) ∧ sub δ j p = some (.nd .lst true ts) ∧ k j p ts := by
  obtain ⟨⟨j, p⟩, hl, h⟩ := opt_elim h
  dsimp only at h
  split at h
  · rename_i ts e
    exact ⟨j, p, ts, hl, e, h⟩
  · exact h.elim
def kAppend : Nat → Env → Arg → List Arg → EK → Prop := fun n δ r rs Q => match rs with
  | [x] => opt (take1 n δ x) fun w => ownL w.2 r fun j p ts => len6 ts.length ∧ Q (.v .non) (putK w.2 j p (L (ts ++ [w.1])))
  | _ => False
theorem erL_app {ts us : List A} : erL (ts ++ us) = erL ts ++ erL us := by simp [erL_map]
theorem pm_append : PM K rAppend kAppend := fun n δ r rs Q h M S H u us rr o1 o2 Qm hn => by
  unfold kAppend at h
  split at h
  · rename_i x
    obtain ⟨v, rfl, o3⟩ := args1 o2
    obtain ⟨⟨τ, δ1⟩, ht, h⟩ := opt_elim h
    obtain ⟨j, p, ts, hl, hs, h6, q⟩ := ownL_elim h
    obtain ⟨M1, a1, s1, r1, g1, g2⟩ := take1_ok (β := []) rr ht o3
    obtain ⟨a, y, as, rfl, h1, h2, h3, h4, w⟩ := RB.write r1 hl hs rfl (o1.mono s1)
    have hh := RB.holds r1
    have := (w .lst (as ++ [a1]) [] rfl trivial (fun z => by simp only [ctL_append, ctL, List.nil_append]; omega) (h4.and hh) trivial).2 (fun k t hk => get_left hk)
    subst g2
    refine ⟨a, as.map val, val a1, rfl, rfl, h1, by rw [List.length_map, ← erL_length, h3]; exact len6_ok h6, ?_⟩
    have e : obj .lst y ((as ++ [a1]).map val) = .lst (as.map val ++ [val a1]) := by simp [obj]
    rw [e, erL_app, h3] at this
    simp only [erL, g1] at this
    exact (hn.on s1 Pre.refl).non this q
  · exact h.elim
theorem tInt_inv : ∀ {ts : List T} {ns : List Int}, seqO tInt ts = some ns → ts = ns.map T.int
  | [], _, h => by cases h; rfl
  | t :: r, ns, h => by
    simp only [seqO] at h
    cases e : tInt t with
    | none => rw [e] at h; cases h
    | some i =>
      rw [e] at h
      cases e2 : seqO tInt r with
      | none => rw [e2] at h; cases h
      | some is =>
        rw [e2] at h
        cases h
        cases t <;> cases e
        rw [tInt_inv e2]
        rfl
theorem ctL_erase {ts : List A} {i : Nat} {x : Addr} : ctL (ts.eraseIdx i) x ≤ ctL ts x := by
  induction ts generalizing i with
  | nil => simp [ctL]
  | cons t r ih =>
    cases i with
    | zero => simp only [List.eraseIdx_cons_zero, ctL]; omega
    | succ i => simp only [List.eraseIdx_cons_succ, ctL]; have := ih (i := i); omega
theorem erase_map {α β : Type} (f : α → β) : ∀ (l : List α) (i : Nat), (l.map f).eraseIdx i = (l.eraseIdx i).map f
  | [], _ => by simp
  | _ :: _, 0 => by simp
  | x :: r, i + 1 => by simp [erase_map f r i]
theorem HoldL.sub {ts us : List A} (h : HoldL K M H ts) (g : ∀ t ∈ us, t ∈ ts) : HoldL K M H us := by
  rw [HoldL_iff] at h ⊢
  exact fun t ht => h t (g t ht)
theorem ints_vals {as : List A} {ns : List Int} (h : erL as = ns.map T.int) (g : HoldL K M H as) : as.map val = ns.map V.int := by
  have : RpL K M (erL as) (as.map val) := lfs_of (by rw [h, List.all_map]; simp [isF]) g
  rw [h] at this
  have e := ints_of (seqO_map (f := tInt) (g := T.int) (k := id) (fun _ => rfl) ns) this
  rwa [List.map_id] at e
theorem idx_first : ∀ {ns : List Int} {k : Int}, k ∈ ns → ns[ns.idxOf k]? = some k ∧ (∀ m : Nat, m < ns.idxOf k → ns[m]? ≠ some k) ∧ ns.eraseIdx (ns.idxOf k) = ns.erase k
  | [], k, h => by simp at h
  | n :: r, k, h => by
    by_cases e : n = k
    · subst e
      simp
    · have hr : k ∈ r := by simpa [Ne.symm e] using h
      obtain ⟨h1, h2, h3⟩ := idx_first hr
      have hb : (n == k) = false := by simpa using e
      rw [List.idxOf_cons, hb]
      refine ⟨by simpa using h1, fun m hm => ?_, ?_⟩
      · cases m with
        | zero => simpa using e
        | succ m =>
          simp only [cond_false] at hm
          simpa using h2 m (by omega)
      · simp only [cond_false, List.eraseIdx_cons_succ]
        rw [List.erase_cons, if_neg (by simpa using e)]
        have : r.idxOf k + 1 = Nat.succ (r.idxOf k) := rfl
        rw [h3]
def kRemove : Nat → Env → Arg → List Arg → EK → Prop := fun n δ r rs Q => match rs with
  | [.v (.int k)] => ownL δ r fun j p ts => opt (seqO tInt ts) fun ns => k ∈ ns ∧ Q (.v .non) (putE δ j p (L ((ns.erase k).map T.int)))
  | _ => False
theorem pm_remove : PM K rRemI kRemove := fun n δ r rs Q h M S H u us rr o1 o2 Qm hn => by
  unfold kRemove at h
  split at h
  · rename_i k
    obtain ⟨v, rfl, o3⟩ := args1 o2
    have o3 : v = .int k := o3
    subst o3
    obtain ⟨j, p, ts, hl, hs, h⟩ := ownL_elim h
    obtain ⟨ns, hns, hk, q⟩ := opt_elim h
    obtain ⟨a, y, as, rfl, h1, h2, h3, h4, w⟩ := RB.write rr hl hs rfl o1
    have hts := tInt_inv hns
    rw [hts] at h3
    have hv := ints_vals h3 h4
    obtain ⟨i1, i2, i3⟩ := idx_first hk
    have := (w .lst (as.eraseIdx (ns.idxOf k)) [] rfl trivial (fun z => by have := ctL_erase (ts := as) (i := ns.idxOf k) (x := z); simp only [ctL]; omega) (h4.sub fun t ht => List.mem_of_mem_eraseIdx ht) trivial).1
    have e1 : erL (as.eraseIdx (ns.idxOf k)) = (ns.erase k).map T.int := by
      rw [← i3, erL_map, ← erase_map, ← erL_map, h3, erase_map]
    have e2 : (as.eraseIdx (ns.idxOf k)).map val = (ns.eraseIdx (ns.idxOf k)).map V.int := by
      rw [← erase_map, hv, erase_map]
    rw [e1, e2] at this
    rw [hv] at h1
    exact ⟨a, ns, k, ns.idxOf k, rfl, rfl, h1, i1, i2, hn.non this q⟩
  · exact h.elim
/-- xs.extend(ys): ys of frozen parts, or one's own that is handed on -/
def kExtend : Nat → Env → Arg → List Arg → EK → Prop := fun n δ r rs Q => match rs with
  | [x] => opt (lsK δ x) fun us => AllF us ∧ ownL δ r fun j p ts => len6 (ts.length + us.length) ∧ Q (.v .non) (putK δ j p (L (ts ++ us)))
  | _ => False
theorem pm_extend : PM K rExtend kExtend := fun n δ r rs Q h M S H u us rr o1 o2 Qm hn => by
  unfold kExtend at h
  split at h
  · rename_i x
    obtain ⟨v, rfl, o3⟩ := args1 o2
    obtain ⟨es, he, hf, h⟩ := opt_elim h
    obtain ⟨j, p, ts, hl, hs, h6, q⟩ := ownL_elim h
    obtain ⟨b, vs, rfl, g1, g2⟩ := lsK_ok rr he o3 hf
    have r1 : RB K M S H δ ([] ++ lfs es vs) := RB.floats rr g2
    obtain ⟨a, y, as, rfl, h1, h2, h3, h4, w⟩ := RB.write r1 hl hs rfl o1
    have := (w .lst (as ++ lfs es vs) [] rfl trivial (fun z => by simp only [ctL_append, ctL, List.nil_append]; omega) (h4.and (RB.holds r1)) trivial).2 (fun k t hk => get_left hk)
    have e : obj .lst y ((as ++ lfs es vs).map val) = .lst (as.map val ++ vs) := by simp [obj, lfs_val g2]
    rw [e, erL_app, h3, lfs_er g2] at this
    exact ⟨a, b, as.map val, vs, rfl, rfl, h1, g1, by rw [List.length_map, ← erL_length, h3, g2.length]; exact Nat.le_of_lt (len6_ok h6), hn.non this q⟩
  · exact h.elim
theorem get_drop_of {α : Type} {l : List α} (h : l ≠ []) : l[l.length - 1]? = l.getLast? := by rw [List.getLast?_eq_getElem?]
def kPop : Nat → Env → Arg → List Arg → EK → Prop := fun n δ r rs Q => match rs with
  | [] => ownL δ r fun j p ts => opt ts.getLast? fun t => retQ (putE δ j p (L ts.dropLast)) t Q
  | _ => False
theorem ctL_split {ts : List A} {i : Nat} {t : A} {x : Addr} (h : ts[i]? = some t) : ctL (ts.eraseIdx i) x + ct t x = ctL ts x := by
  induction ts generalizing i with
  | nil => simp at h
  | cons s r ih =>
    cases i with
    | zero => simp at h; subst h; simp only [List.eraseIdx_cons_zero, ctL]; omega
    | succ i => simp only [List.eraseIdx_cons_succ, ctL]; have := ih (i := i) (by simpa using h); omega
theorem pm_pop : PM K rPop kPop := fun n δ r rs Q h M S H u us rr o1 o2 Qm hn => by
  unfold kPop at h
  split at h
  · cases o2
    obtain ⟨j, p, ts, hl, hs, h⟩ := ownL_elim h
    obtain ⟨t, ht, q⟩ := opt_elim h
    obtain ⟨a, y, as, rfl, h1, h2, h3, h4, w⟩ := RB.write rr hl hs rfl o1
    subst h3
    rw [List.getLast?_eq_getElem?, erL_length, erL_map, List.getElem?_map] at ht
    cases e : as[as.length - 1]? with
    | none => rw [e] at ht; cases ht
    | some b =>
      rw [e] at ht
      cases ht
      have hd : as.dropLast = as.eraseIdx (as.length - 1) := by
        rw [List.eraseIdx_eq_take_drop_succ, List.dropLast_eq_take]
        have : as.drop (as.length - 1 + 1) = [] := List.drop_eq_nil_of_le (by omega)
        rw [this, List.append_nil]
      have := (w .lst as.dropLast [b] rfl trivial (fun z => by rw [hd]; have := ctL_split (x := z) e; simp only [ctL]; omega) (h4.sub fun t ht => List.dropLast_subset _ ht) ⟨(HoldL_iff.mp h4) b (List.mem_of_getElem? e), trivial⟩).1
      rw [erL_map, List.map_dropLast, List.map_dropLast, ← erL_map] at this
      refine ⟨a, as.map val, val b, rfl, rfl, h1, by rw [List.length_map, List.getElem?_map, e]; rfl, ?_⟩
      exact hn.ret this q
  · exact h.elim
def kPopAt : Nat → Env → Arg → List Arg → EK → Prop := fun n δ r rs Q => match rs with
  | [.v (.int i)] => ownL δ r fun j p ts => (-(2 ^ 63) ≤ i ∧ i < 2 ^ 63) ∧ opt (ixN ts.length i) fun k => opt ts[k]? fun t => retQ (putE δ j p (L (ts.eraseIdx k))) t Q
  | _ => False
theorem pm_popAt : PM K rPopAt kPopAt := fun n δ r rs Q h M S H u us rr o1 o2 Qm hn => by
  unfold kPopAt at h
  split at h
  · rename_i i
    obtain ⟨v, rfl, o3⟩ := args1 o2
    have o3 : v = .int i := o3
    subst o3
    obtain ⟨j, p, ts, hl, hs, hi, h⟩ := ownL_elim h
    obtain ⟨k, hk, h⟩ := opt_elim h
    obtain ⟨t, ht, q⟩ := opt_elim h
    obtain ⟨a, y, as, rfl, h1, h2, h3, h4, w⟩ := RB.write rr hl hs rfl o1
    subst h3
    rw [erL_length] at hk
    rw [erL_map, List.getElem?_map] at ht
    cases e : as[k]? with
    | none => rw [e] at ht; cases ht
    | some b =>
      rw [e] at ht
      cases ht
      have := (w .lst (as.eraseIdx k) [b] rfl trivial (fun z => by have := ctL_split (x := z) e; simp only [ctL]; omega) (h4.sub fun t ht => List.mem_of_mem_eraseIdx ht) ⟨(HoldL_iff.mp h4) b (List.mem_of_getElem? e), trivial⟩).1
      rw [erL_map, ← erase_map, ← erase_map, ← erL_map] at this
      refine ⟨a, as.map val, i, k, val b, rfl, rfl, h1, hi.1, hi.2, by rw [List.length_map]; exact (ixN_seq hk).1, by rw [List.getElem?_map, e]; rfl, ?_⟩
      exact hn.ret this q
  · exact h.elim
def kReverse : Nat → Env → Arg → List Arg → EK → Prop := fun n δ r rs Q => match rs with
  | [] => ownL δ r fun j p ts => Q (.v .non) (putE δ j p (L ts.reverse))
  | _ => False
theorem ctL_rev {ts : List A} {x : Addr} : ctL ts.reverse x = ctL ts x := by
  induction ts with
  | nil => rfl
  | cons t r ih => rw [List.reverse_cons, ctL_append, ih]; simp only [ctL]; omega
theorem pm_reverse : PM K rReverse kReverse := fun n δ r rs Q h M S H u us rr o1 o2 Qm hn => by
  unfold kReverse at h
  split at h
  · cases o2
    obtain ⟨j, p, ts, hl, hs, q⟩ := ownL_elim h
    obtain ⟨a, y, as, rfl, h1, h2, h3, h4, w⟩ := RB.write rr hl hs rfl o1
    subst h3
    have := (w .lst as.reverse [] rfl trivial (fun z => by rw [ctL_rev]; simp only [ctL]; omega) (h4.sub fun t ht => List.mem_reverse.mp ht) trivial).1
    rw [erL_map, List.map_reverse, List.map_reverse, ← erL_map] at this
    exact ⟨a, as.map val, rfl, rfl, h1, hn.non this q⟩
  · exact h.elim
def kInsert : Nat → Env → Arg → List Arg → EK → Prop := fun n δ r rs Q => match rs with
  | [.v (.int i), x] => opt (take1 n δ x) fun w => ownL w.2 r fun j p ts => (0 ≤ i ∧ i < 2 ^ 63) ∧ len6 ts.length ∧ Q (.v .non) (putE w.2 j p (L (ts.take i.toNat ++ [w.1] ++ ts.drop i.toNat)))
  | _ => False
theorem pm_insert : PM K (fun x vs H Q => ∃ (l : Addr) (xs : List V) (i : Int) (y : V), x = .ref l ∧ vs = [.int i, y] ∧ H l = some (.lst xs) ∧ xs.length < sizeLine ∧ 0 ≤ i ∧ i < 2 ^ 63 ∧ Q .non (upd H l (.lst (xs.take i.toNat ++ [y] ++ xs.drop i.toNat)))) kInsert := fun n δ r rs Q h M S H u us rr o1 o2 Qm hn => by
  unfold kInsert at h
  split at h
  · rename_i i x
    obtain ⟨v0, v, rfl, o0, o3⟩ := args2 o2
    have o0 : v0 = .int i := o0
    subst o0
    obtain ⟨⟨τ, δ1⟩, ht, h⟩ := opt_elim h
    obtain ⟨j, p, ts, hl, hs, hi, h6, q⟩ := ownL_elim h
    obtain ⟨M1, a1, s1, r1, g1, g2⟩ := take1_ok (β := []) rr ht o3
    obtain ⟨a, y, as, rfl, h1, h2, h3, h4, w⟩ := RB.write r1 hl hs rfl (o1.mono s1)
    subst h3
    have hh := RB.holds r1
    have := (w .lst (as.take i.toNat ++ [a1] ++ as.drop i.toNat) [] rfl trivial (fun z => by
      have := ctL_append (ts := as.take i.toNat) (us := as.drop i.toNat) (x := z)
      rw [List.take_append_drop] at this
      simp only [ctL_append, ctL, List.nil_append]; omega) (((h4.sub fun t ht => List.mem_of_mem_take ht).and hh).and (h4.sub fun t ht => List.mem_of_mem_drop ht)) trivial).1
    subst g2 g1
    have e1 : erL (as.take i.toNat ++ [a1] ++ as.drop i.toNat) = (erL as).take i.toNat ++ [er a1] ++ (erL as).drop i.toNat := by simp [erL_map, List.map_take, List.map_drop]
    have e2 : (as.take i.toNat ++ [a1] ++ as.drop i.toNat).map val = (as.map val).take i.toNat ++ [val a1] ++ (as.map val).drop i.toNat := by simp [List.map_take, List.map_drop]
    rw [e1, e2] at this
    exact ⟨a, as.map val, i, val a1, rfl, rfl, h1, by rw [List.length_map, ← erL_length]; exact len6_ok h6, hi.1, hi.2, (hn.on s1 Pre.refl).non this q⟩
  · exact h.elim
/-! x[k] = e -/
def kSetI (n : Nat) (δ : Env) (x r s : Arg) (Q : Env → Prop) : Prop := opt (take1 n δ x) fun w => opt (intA s) fun i => ownL w.2 r fun j p ts => opt (ixN ts.length i) fun k => Q (putE w.2 j p (L (ts.set k w.1)))
def wSetI (we wo wi : WE') : WS := fun δ D => we δ.length δ (fun x δ1 => wo δ.length δ1 (fun r δ2 => wi δ.length δ2 (fun s δ3 => kSetI δ.length δ3 x r s fun δ4 => D.nx (tk δ.length δ4)) (xk D δ.length)) (xk D δ.length)) (xk D δ.length)
theorem erL_set {ts : List A} {k : Nat} {a : A} : erL (ts.set k a) = (erL ts).set k (er a) := by simp [erL_map, List.map_set]
theorem ss_setI {te to ti : TE} {we wo wi : WE'} (he : SE N K W te we) (ho : SE N K W to wo) (hi : SE N K W ti wi) : SS N K W (tAsg te (gSub to ti rSetL)) (wSetI we wo wi) := fun δ D h M σ τs H r hN E hE =>
  he _ δ _ _ h M σ (σ ++ τs) H r hN Pre.app _ (fun M1 u H1 x δ1 S1 e1 p1 r1 o1 h1 =>
    ho _ δ1 _ _ h1 M1 σ S1 H1 r1 hN (Pre.app.trans p1) _ (fun M2 v H2 y δ2 S2 e2 p2 r2 o2 h2 =>
      hi _ δ2 _ _ h2 M2 σ S2 H2 r2 hN ((Pre.app.trans p1).trans p2) _ (fun M3 w H3 z δ3 S3 e3 p3 r3 o3 h3 => by
        obtain ⟨⟨τ, δ4⟩, ht, h3⟩ := opt_elim h3
        obtain ⟨i, hi, h3⟩ := opt_elim h3
        obtain ⟨j, p, ts, hl, hs, h3⟩ := ownL_elim h3
        obtain ⟨k, hk, q⟩ := opt_elim h3
        obtain ⟨M4, a1, s1, r4, g1, g2⟩ := take1_ok (β := []) r3 ht ((o1.mono (e2.trans e3)).pre (p2.trans p3))
        obtain ⟨a, y', as, rfl, h1, h2, hts, h4, wr⟩ := RB.write r4 hl hs rfl (((o2.mono e3).pre p3).mono s1)
        have hkl : k < as.length := by
          have := (ixN_seq hk).2.1
          rw [← hts, erL_length] at this
          exact this
        have := (wr .lst (as.set k a1) [] rfl trivial (fun z => by
          have := ctL_set (t' := a1) (x := z) (List.getElem?_eq_getElem hkl)
          simp only [ctL, List.nil_append]; omega) (HoldL_set h4 (RB.holds r4).1) trivial).1
        rw [erL_set, hts, List.map_set] at this
        subst g2 g1
        refine ⟨a, as.map val, i, k, rfl, intA_ok hi o3, h1, by rw [List.length_map, ← erL_length, hts]; exact hk, ?_⟩
        obtain ⟨ρ, rfl⟩ := (p1.trans p2).trans p3
        have r5 := this.cut
        rw [r.ls] at r5
        exact hE.nx M4 σ _ _ (((e1.trans e2).trans e3).trans s1) rfl r5 q) ((XC_of hE r.ls.symm).on (e1.trans e2) (p1.trans p2))) ((XC_of hE r.ls.symm).on e1 p1)) (XC_of hE r.ls.symm)
end
end EV

/-! EV9: loops -/
namespace EV
open PySem PySem.Spec PyProof.Rows L2
/-- what is walked: parts that stand (with lists that must not change meanwhile), or a list as it stands -/
inductive ItS where
  | st (items : List T) (srcs : List (Nat × T)) | lv (k m : Nat)
def itLen : ItS → Nat
  | .st items _ => items.length
  | .lv _ m => m
def okI (δ : Env) : ItS → Prop
  | .st _ srcs => ∀ q ∈ srcs, argT δ (.sl q.1) = some q.2
  | .lv k m => (lqK δ (.sl k)).map List.length = some m
def itemA (δ : Env) (i : Nat) : ItS → Option (Arg × Env)
  | .st items _ => items[i]?.map fun t => (.v t, δ)
  | .lv k _ => (lqK δ (.sl k)).bind fun ts => ts[i]?.bind fun t => if isF t = true then some (.v t, δ) else (look δ k).map fun q => (.sl δ.length, δ ++ [some (.al q.1 (q.2 ++ [i]))])
abbrev WI := Nat → Env → (ItS → Env → Prop) → XK' → Prop
def ItOk (K : PySem.W.Frag) (N : Nat) (M : Hp) (τs : L2.St) (J : It) (its : ItS) : Prop :=
  ∀ (i : Nat) M2 σ2 ζ H δ, Same M M2 → σ2.length = N → R K M2 (σ2 ++ τs ++ ζ) H δ → okI δ its →
    (i < itLen its → J.go i H ∧ ∀ x H', J.yld i H x H' → ∃ M3 ρ r δ3, Same M2 M3 ∧ R K M3 (σ2 ++ τs ++ ζ ++ ρ) H' δ3 ∧ itemA δ i its = some (r, δ3) ∧ ArgOk K M3 (σ2 ++ τs ++ ζ ++ ρ) r x) ∧ (itLen its ≤ i → J.stop i H)
def SI (N : Nat) (K : PySem.W.Frag) (W : WX) (wi : TI) (w : WI) : Prop := ∀ n δ Q X, w n δ Q X → ∀ M σ τs H, R K M (σ ++ τs) H δ → σ.length = N → ∀ Rk : It → Hp → Prop,
  (∀ M' J H' its δ' ρ, Same M M' → R K M' (σ ++ τs ++ ρ) H' δ' → ItOk K N M' (τs ++ ρ) J its → Q its δ' → Rk J H') → XC K W σ M (σ ++ τs) X → wi σ H Rk
section
variable {N : Nat} {K : PySem.W.Frag} {W : WX} {M M' M1 H H' : Hp} {σ S S1 : L2.St} {δ δ' : Env} {α β γ : List A} {Q : EK} {X : XK'} {Qm : VK}
def pin (N : Nat) (δ : Env) (k : Nat) : Option (Nat × Env) := if N ≤ k then some (k, δ) else (look δ k).map fun q => (δ.length, δ ++ [some (.al q.1 q.2)])
theorem tree_app {j : Nat} {x : Option Sl} (h : j < δ.length) : tree (δ ++ [x]) j = tree δ j := by
  unfold tree
  rw [List.getElem?_append_left h]
theorem pin_ok {k k' : Nat} {τ : T} {u : V} (r : R K M S H δ) (h : pin N δ k = some (k', δ')) (ht : argT δ (.sl k) = some τ) (ok : S[k]? = some (some u)) (hN : N ≤ δ.length) : ∃ ρ, R K M (S ++ ρ) H δ' ∧ (S ++ ρ)[k']? = some (some u) ∧ argT δ' (.sl k') = some τ ∧ N ≤ k' := by
  unfold pin at h
  split at h
  · rename_i hk
    cases h
    exact ⟨[], by simpa using r, by simpa using ok, ht, hk⟩
  · cases e : look δ k with
    | none => rw [e] at h; cases h
    | some q =>
      obtain ⟨j, p⟩ := q
      rw [e] at h
      cases h
      have r0 := r
      obtain ⟨α, ra⟩ := r
      have hs : sub δ j p = some τ := by simpa [argT, e] using ht
      obtain ⟨a, b, h1, h2, h3, h4, h5, h6, h7⟩ := ra.look e hs
      rw [h7] at ok
      cases ok
      have hjl := (List.getElem?_eq_some_iff.mp h1).1
      refine ⟨[some (val b)], ra.pushAl h1 h2 h3, by rw [← r0.ls]; exact get_top, ?_, hN⟩
      have e2 : look (δ ++ [some (.al j p)]) δ.length = some (j, p) := by
        unfold look
        rw [get_top]
      simp only [argT, e2, Option.bind_some]
      unfold sub
      rw [tree_app hjl]
      exact hs
/-- pins for sources among the arguments -/
def wiList (N : Nat) (we : WE') : WI := fun n δ Q X => we n δ (fun r δ1 => match r with
  | .v (.nd .lst _ ts) => Q (.st ts []) δ1
  | .v (.nd .scr _ ts) => Q (.st ts []) δ1
  | .v _ => False
  | .sl k => opt (lqK δ1 (.sl k)) fun ts => opt (pin N δ1 k) fun q => Q (.lv q.1 ts.length) q.2) X
theorem hiGet {τs : L2.St} {σ2 : L2.St} {k : Nat} {u : V} (h : (σ ++ τs)[k]? = some (some u)) (hk : σ.length ≤ k) (hl : σ2.length = σ.length) : (σ2 ++ τs)[k]? = some (some u) := by
  rw [List.getElem?_append_right hk] at h
  rw [List.getElem?_append_right (by omega), hl]
  exact h
theorem lqK_tree {x : Arg} {ts : List T} (h : lqK δ x = some ts) : ∃ c o, argT δ x = some (.nd c o ts) ∧ (c = .lst ∨ c = .scr) := by
  unfold lqK at h
  split at h
  · rename_i o ts' e; cases h; exact ⟨.lst, o, e, .inl rfl⟩
  · rename_i o ts' e; cases h; exact ⟨.scr, o, e, .inr rfl⟩
  · cases h
theorem sqOf {c : Con} {a : Addr} {vs : List V} (hc : c = .lst ∨ c = .scr) (h : frObj K H c a vs) : SqL K H a vs := by
  rcases hc with rfl | rfl
  · exact .inl (.inl h)
  · exact h
theorem lv_ok {k m : Nat} {a : Addr} {τs : L2.St} (hk : N ≤ k) (hl : σ.length = N) (h : (σ ++ τs)[k]? = some (some (.ref a))) : ItOk K N M τs (Itl K a) (.lv k m) := fun i M2 σ2 ζ H2 δ2 e2 l2 r2 ok => by
  have hu : (σ2 ++ τs ++ ζ)[k]? = some (some (.ref a)) := get_left (hiGet (σ2 := σ2) h (by omega) (by omega))
  have ok : (lqK δ2 (.sl k)).map List.length = some m := ok
  cases e : lqK δ2 (.sl k) with
  | none => rw [e] at ok; cases ok
  | some ts =>
    rw [e] at ok
    have hm : ts.length = m := by simpa using ok
    obtain ⟨c, o, ht, hc⟩ := lqK_tree e
    have okA : ArgOk K M2 (σ2 ++ τs ++ ζ) (.sl k) (.ref a) := hu
    obtain ⟨a', vs, ea, g1, g2, g3⟩ := r2.kids ht okA
    cases ea
    have sq := sqOf hc g1
    refine ⟨fun hi => ⟨⟨vs, vs[i]'(by simp only [itLen] at hi; omega), sq, List.getElem?_eq_getElem _⟩, fun x H' y => ?_⟩, fun hi => ⟨vs, sq, by simp only [itLen] at hi; omega⟩⟩
    obtain ⟨rfl, y⟩ := y
    have hx := y vs sq
    have hil : i < ts.length := by have := (List.getElem?_eq_some_iff.mp hx).1; omega
    simp only [itemA, e, Option.bind_some, List.getElem?_eq_getElem hil]
    by_cases hf : isF ts[i] = true
    · obtain ⟨w, hw, rw⟩ := g3 i _ (List.getElem?_eq_getElem hil) hf
      rw [hx] at hw
      cases hw
      rw [if_pos hf]
      exact ⟨M2, [], .v ts[i], δ2, Same.refl M2, by simpa using r2, rfl, rw⟩
    · rw [if_neg hf]
      cases el : look δ2 k with
      | none => simp [argT, el] at ht
      | some q =>
        obtain ⟨j, p⟩ := q
        have r0 := r2
        obtain ⟨α, ra⟩ := r2
        have hs : sub δ2 j p = some (.nd c o ts) := by simpa [argT, el] using ht
        obtain ⟨a1, b, h1, h2, h3, h4, h5, h6, h7⟩ := ra.look el hs
        rw [hu] at h7
        cases b with
        | lf τ v =>
          exfalso
          have h4 : τ = .nd c o ts := h4
          subst h4
          obtain ⟨_, a2, vs2, _, _, g8⟩ := (h6 : Rp K M2 (.nd c o ts) v)
          obtain ⟨w, _, rw⟩ := g8.get (List.getElem?_eq_getElem hil)
          exact hf (lf_froz rw)
        | nd d y' z us =>
          have h4 : T.nd d true (erL us) = .nd c o ts := h4
          cases h4
          cases h7
          have hul : i < us.length := by rw [erL_length] at hil; exact hil
          have hb : at' (p ++ [i]) a1 = some us[i] := by rw [app_at h3]; simp [at', List.getElem?_eq_getElem hul]
          have e3 : vs = us.map val := by
            have q1 := frOf (K := K) h6.1 (by rw [List.length_map]; exact h6.2.1)
            rcases hc with rfl | rfl
            · have : H' a = some (.lst vs) := g1
              have q1 : H' a = some (.lst (us.map val)) := q1
              rw [this] at q1
              cases q1
              rfl
            · exact h6.2.1.elim
          have hv : val us[i] = x := by
            rw [e3, List.getElem?_map, List.getElem?_eq_getElem hul] at hx
            exact Option.some.inj hx
          refine ⟨M2, [some (val us[i])], .sl δ2.length, _, Same.refl M2, ra.pushAl h1 h2 hb, rfl, ?_⟩
          show ((σ2 ++ τs ++ ζ) ++ [some (val us[i])])[δ2.length]? = _
          rw [← r0.ls, get_top, hv]
theorem st_ok {items : List T} {a : Addr} {vs : List V} {τs : L2.St} (h1 : SqL K M a vs ∨ (∃ M0, Same M0 M ∧ SqL K M0 a vs)) (h2 : RpL K M items vs) : ItOk K N M τs (Itl K a) (.st items []) := fun i M2 σ2 ζ H2 δ2 e2 l2 r2 ok => by
  have sm : SqL K M a vs := by
    rcases h1 with h | ⟨M0, e, h⟩
    · exact h
    · exact TV.Same.sqL e h
  have sq : SqL K H2 a vs := TV.Same.sqL (e2.trans r2.ex) sm
  have hl := h2.length
  refine ⟨fun hi => ⟨⟨vs, vs[i]'(by simp only [itLen] at hi; omega), sq, List.getElem?_eq_getElem _⟩, fun x H' y => ?_⟩, fun hi => ⟨vs, sq, by simp only [itLen] at hi; omega⟩⟩
  obtain ⟨rfl, y⟩ := y
  have hx := y vs sq
  have hil : i < items.length := hi
  obtain ⟨w, hw, rw⟩ := h2.get (List.getElem?_eq_getElem hil)
  rw [hx] at hw
  cases hw
  exact ⟨M2, [], .v items[i], δ2, Same.refl M2, by simpa using r2, by simp [itemA, List.getElem?_eq_getElem hil], rw.mono e2⟩
theorem si_list {tl : TE} {we : WE'} (he : SE N K W tl we) : SI N K W (iList K tl) (wiList N we) := fun n δ Q X h M σ τs H r hN Rk hn hx =>
  he n δ _ X h M σ (σ ++ τs) H r hN Pre.app _ (fun M1 u H1 x δ1 S1 e1 p1 r1 o1 h1 => by
    obtain ⟨ρ, rfl⟩ := p1
    try dsimp only at h1
    split at h1
    · rename_i o ts
      obtain ⟨_, a, vs, rfl, g1, g2⟩ := o1
      have sq : SqL K M1 a vs := .inl (.inl g1)
      exact ⟨a, rfl, ⟨vs, TV.Same.sqL r1.ex sq⟩, hn M1 _ H1 _ δ1 ρ e1 r1 (st_ok (.inl sq) g2) h1⟩
    · rename_i o ts
      obtain ⟨_, a, vs, rfl, g1, g2⟩ := o1
      have sq : SqL K M1 a vs := g1
      exact ⟨a, rfl, ⟨vs, TV.Same.sqL r1.ex sq⟩, hn M1 _ H1 _ δ1 ρ e1 r1 (st_ok (.inl sq) g2) h1⟩
    · exact h1.elim
    · rename_i k
      obtain ⟨ts, hts, h1⟩ := opt_elim h1
      obtain ⟨⟨k', δ2⟩, hp, q⟩ := opt_elim h1
      obtain ⟨c, o, ht, hc⟩ := lqK_tree hts
      obtain ⟨a, vs, rfl, g1, g2, g3⟩ := r1.kids ht o1
      obtain ⟨ρ2, r2, o2, ht2, hk2⟩ := pin_ok (N := N) r1 hp ht o1 (by rw [← r1.ls]; simp; omega)
      rw [List.append_assoc] at r2 o2
      refine ⟨a, rfl, ⟨vs, sqOf hc g1⟩, hn M1 _ H1 _ δ2 (ρ ++ ρ2) e1 (by simpa [List.append_assoc] using r2) (lv_ok hk2 hN ?_) q⟩
      simpa [List.append_assoc] using o2) hx
/-! ranges -/
def rngT (lo : Int) (n : Nat) : List T := (List.range n).map fun (i : Nat) => T.int (lo + i)
theorem rngT_length (lo : Int) (n : Nat) : (rngT lo n).length = n := by simp [rngT]
theorem itr_ok {τs : L2.St} {lo : Int} {m : Nat} : ItOk K N M τs (Itr lo m) (.st (rngT lo m) []) := fun i M2 σ2 ζ H2 δ2 e2 l2 r2 ok => by
  simp only [itLen, rngT_length]
  refine ⟨fun hi => ⟨hi, fun x H' y => ?_⟩, fun hi => hi⟩
  obtain ⟨rfl, rfl⟩ := y
  exact ⟨M2, [], .v (.int (lo + i)), δ2, Same.refl M2, by simpa using r2, by simp [itemA, rngT, hi], rfl⟩
def big62 (n : Int) : Prop := -(2 ^ 62) ≤ n ∧ n < 2 ^ 62
def wiRng1 (wa : WA') : WI := fun n δ Q X => wa n δ (fun rs δ1 => match rs with
  | [.v (.int m)] => big62 m ∧ Q (.st (rngT 0 m.toNat) []) δ1
  | _ => False) X
theorem si_rng1 {ta : TA} {wa : WA'} (ha : SA N K W ta wa) : SI N K W (iRng1 ta) (wiRng1 wa) := fun n δ Q X h M σ τs H r hN Rk hn hx =>
  ha n δ _ X h M σ (σ ++ τs) H r hN Pre.app _ (fun M1 us H1 rs δ1 S1 e1 p1 r1 o1 h1 => by
    obtain ⟨ρ, rfl⟩ := p1
    try dsimp only at h1
    split at h1
    · rename_i m
      obtain ⟨v, rfl, o⟩ := args1 o1
      have o : v = .int m := o
      subst o
      exact ⟨m, rfl, h1.1.1, h1.1.2, hn M1 _ H1 _ δ1 ρ e1 r1 itr_ok h1.2⟩
    · exact h1.elim) hx
def wiRng2 (wa : WA') : WI := fun n δ Q X => wa n δ (fun rs δ1 => match rs with
  | [.v (.int a), .v (.int b)] => (big62 a ∧ big62 b) ∧ Q (.st (rngT a (b - a).toNat) []) δ1
  | _ => False) X
theorem si_rng2 {ta : TA} {wa : WA'} (ha : SA N K W ta wa) : SI N K W (iRng2 ta) (wiRng2 wa) := fun n δ Q X h M σ τs H r hN Rk hn hx =>
  ha n δ _ X h M σ (σ ++ τs) H r hN Pre.app _ (fun M1 us H1 rs δ1 S1 e1 p1 r1 o1 h1 => by
    obtain ⟨ρ, rfl⟩ := p1
    try dsimp only at h1
    split at h1
    · rename_i a b
      obtain ⟨v, w, rfl, o, o'⟩ := args2 o1
      have o : v = .int a := o
      have o' : w = .int b := o'
      subst o o'
      exact ⟨a, b, rfl, ⟨h1.1.1.1, h1.1.1.2, h1.1.2.1, h1.1.2.2⟩, hn M1 _ H1 _ δ1 ρ e1 r1 itr_ok h1.2⟩
    · exact h1.elim) hx
/-- range(a, b, -1) -/
def rngDn (a : Int) (n : Nat) : List T := (List.range n).map fun (i : Nat) => T.int (a - i)
def wiRng3 (wa : WA') : WI := fun n δ Q X => wa n δ (fun rs δ1 => match rs with
  | [.v (.int a), .v (.int b), .v (.int (-1))] => (big62 a ∧ big62 b) ∧ Q (.st (rngDn a (a - b).toNat) []) δ1
  | _ => False) X
theorem itc_ok {τs : L2.St} {a : Int} {m : Nat} : ItOk K N M τs (Itc a (-1) m) (.st (rngDn a m) []) := fun i M2 σ2 ζ H2 δ2 e2 l2 r2 ok => by
  have hl : (rngDn a m).length = m := by simp [rngDn]
  simp only [itLen, hl]
  refine ⟨fun hi => ⟨hi, fun x H' y => ?_⟩, fun hi => hi⟩
  obtain ⟨rfl, rfl⟩ := y
  refine ⟨M2, [], .v (.int (a - i)), δ2, Same.refl M2, by simpa using r2, by simp [itemA, rngDn, hi], ?_⟩
  show V.int _ = .int (a - i)
  congr 1
  omega
theorem si_rng3 {ta : TA} {wa : WA'} (ha : SA N K W ta wa) : SI N K W (iRng3 ta) (wiRng3 wa) := fun n δ Q X h M σ τs H r hN Rk hn hx =>
  ha n δ _ X h M σ (σ ++ τs) H r hN Pre.app _ (fun M1 us H1 rs δ1 S1 e1 p1 r1 o1 h1 => by
    obtain ⟨ρ, rfl⟩ := p1
    try dsimp only at h1
    split at h1
    · rename_i a b
      obtain ⟨v, q, rfl, o, o'⟩ := o1
      obtain ⟨w, z, rfl, o', o''⟩ := args2 o'
      have o : v = .int a := o
      have o' : w = .int b := o'
      have o'' : z = .int (-1) := o''
      subst o o' o''
      exact ⟨a, b, -1, _, rfl, RgC.neg h1.1.1.1 h1.1.1.2 h1.1.2.1 h1.1.2.2, hn M1 _ H1 _ δ1 ρ e1 r1 itc_ok h1.2⟩
    · exact h1.elim) hx
/-! enumerate, zip -/
def enumT (ts : List T) : List T := ts.zipIdx.map fun p => .nd .tup false [.int (p.2 : Nat), p.1]
/-- a source of frozen parts, pinned if it is one's own -/
def srcA (N : Nat) (δ : Env) (r : Arg) : Option (List T × List (Nat × T) × Env) := (lqK δ r).bind fun ts => if ts.all isF = true then match r with
  | .v _ => some (ts, [], δ)
  | .sl k => (pin N δ k).bind fun q => (argT δ (.sl k)).map fun τ => (ts, [(q.1, τ)], q.2) else none
theorem srcA_ok {x : Arg} {ts : List T} {srcs : List (Nat × T)} {u : V} {τs : L2.St} (r : R K M (σ ++ τs) H δ) (h : srcA N δ x = some (ts, srcs, δ')) (ok : ArgOk K M (σ ++ τs) x u) (hN : σ.length = N) :
    ∃ a vs ρ, u = .ref a ∧ SqL K H a vs ∧ R K M (σ ++ τs ++ ρ) H δ' ∧ (∀ M2 σ2 ρ2 H2 δ2, Same M M2 → σ2.length = N → R K M2 (σ2 ++ (τs ++ ρ ++ ρ2)) H2 δ2 → (∀ q ∈ srcs, argT δ2 (.sl q.1) = some q.2) → ∃ vs2, SqL K H2 a vs2 ∧ RpL K M2 ts vs2) := by
  unfold srcA at h
  cases e : lqK δ x with
  | none => rw [e] at h; cases h
  | some ts' =>
    rw [e] at h
    simp only [Option.bind_some] at h
    split at h
    · rename_i hf
      have hf' : AllF ts' := fun t ht => List.all_eq_true.mp hf t ht
      obtain ⟨c, o, ht, hc⟩ := lqK_tree e
      cases x with
      | v τ =>
        cases h
        have ht : τ = .nd c o ts := by simpa [argT] using ht
        subst ht
        obtain ⟨_, a, vs, rfl, g1, g2⟩ := ok
        have sq : SqL K M a vs := sqOf hc g1
        exact ⟨a, vs, [], rfl, TV.Same.sqL r.ex sq, by simpa using r, fun M2 σ2 ρ2 H2 δ2 e2 l2 r2 _ => ⟨vs, TV.Same.sqL (e2.trans r2.ex) sq, g2.mono e2⟩⟩
      | sl k =>
        dsimp only at h
        cases ep : pin N δ k with
        | none => rw [ep] at h; cases h
        | some q =>
          obtain ⟨k', δ2⟩ := q
          rw [ep, ht] at h
          cases h
          obtain ⟨a, vs, rfl, g1, g2, g3⟩ := r.kids ht ok
          obtain ⟨ρ, r2, o2, ht2, hk2⟩ := pin_ok (N := N) r ep ht ok (by rw [← r.ls]; simp; omega)
          refine ⟨a, vs, ρ, rfl, sqOf hc g1, r2, fun M2 σ2 ρ2 H2 δ3 e2 l2 r3 hs => ?_⟩
          have ht3 := hs (k', .nd c o ts) (by simp)
          rw [List.append_assoc] at o2
          have hu := hiGet (σ2 := σ2) o2 (by omega) (by omega)
          have hu2 : (σ2 ++ (τs ++ ρ ++ ρ2))[k']? = some (some (.ref a)) := by
            rw [← List.append_assoc]
            exact get_left hu
          obtain ⟨a2, vs2, ea, g4, g5⟩ := R.kidsF r3 ht3 (show ArgOk K M2 _ (.sl k') (.ref a) from hu2) hf'
          cases ea
          exact ⟨vs2, sqOf hc g4, g5⟩
    · cases h
def wiEnum (N : Nat) (wa : WA') : WI := fun n δ Q X => wa n δ (fun rs δ1 => match rs with
  | [r] => opt (srcA N δ1 r) fun q => Q (.st (enumT q.1) q.2.1) q.2.2
  | _ => False) X
theorem si_enum {ta : TA} {wa : WA'} (ha : SA N K W ta wa) : SI N K W (iEnum K ta) (wiEnum N wa) := fun n δ Q X h M σ τs H r hN Rk hn hx =>
  ha n δ _ X h M σ (σ ++ τs) H r hN Pre.app _ (fun M1 us H1 rs δ1 S1 e1 p1 r1 o1 h1 => by
    obtain ⟨ρ, rfl⟩ := p1
    try dsimp only at h1
    split at h1
    · rename_i x
      obtain ⟨v, rfl, o⟩ := args1 o1
      obtain ⟨⟨ts, srcs, δ2⟩, hs, q⟩ := opt_elim h1
      rw [List.append_assoc] at r1 o
      obtain ⟨a, vs, ρ2, rfl, g1, r2, g2⟩ := srcA_ok r1 hs o hN
      refine ⟨a, vs, rfl, g1, hn M1 _ H1 _ δ2 (ρ ++ ρ2) e1 (by simpa [List.append_assoc] using r2) (fun i M2 σ2 ζ H2 δ3 e2 l2 r3 ok => ?_) q⟩
      have hl : (enumT ts).length = ts.length := by simp [enumT]
      obtain ⟨vs2, g3, g4⟩ := g2 M2 σ2 ζ H2 δ3 e2 l2 (by simpa [List.append_assoc] using r3) ok
      have hlv := g4.length
      simp only [itLen, hl]
      refine ⟨fun hi => ⟨⟨vs2, vs2[i]'(by omega), g3, List.getElem?_eq_getElem _⟩, fun y H' hy => ?_⟩, fun hi => ⟨vs2, g3, by omega⟩⟩
      obtain ⟨Tp, z, rfl, nT, rfl, f⟩ := hy
      obtain ⟨w, hw, rw⟩ := g4.get (List.getElem?_eq_getElem hi)
      rw [f vs2 g3] at hw
      cases hw
      obtain ⟨e3, r4, rp⟩ := RB.newT (ts := [.int (i : Nat), ts[i]]) (vs := [.int (i : Nat), z]) r3 nT ⟨_, _, rfl, rfl, _, _, rfl, rw, rfl⟩
      exact ⟨_, [], .v (.nd .tup false [.int (i : Nat), ts[i]]), δ3, e3, by simpa using r4, by simp [itemA, enumT, List.getElem?_zipIdx, List.getElem?_eq_getElem hi], rp⟩
    · exact h1.elim) hx
def wiZip (N : Nat) (wa : WA') : WI := fun n δ Q X => wa n δ (fun rs δ1 => match rs with
  | [r, s] => opt (srcA N δ1 r) fun q => opt (srcA N q.2.2 s) fun q2 => Q (.st ((q.1.zip q2.1).map fun p => .nd .tup false [p.1, p.2]) (q.2.1 ++ q2.2.1)) q2.2.2
  | _ => False) X
theorem si_zip {ta : TA} {wa : WA'} (ha : SA N K W ta wa) : SI N K W (RZ.iZipA K ta) (wiZip N wa) := fun n δ Q X h M σ τs H r hN Rk hn hx =>
  ha n δ _ X h M σ (σ ++ τs) H r hN Pre.app _ (fun M1 us H1 rs δ1 S1 e1 p1 r1 o1 h1 => by
    obtain ⟨ρ, rfl⟩ := p1
    try dsimp only at h1
    split at h1
    · rename_i x x'
      obtain ⟨v, v', rfl, o, o'⟩ := args2 o1
      obtain ⟨⟨ts, srcs, δ2⟩, hs, h1⟩ := opt_elim h1
      obtain ⟨⟨ts', srcs', δ3⟩, hs', q⟩ := opt_elim h1
      rw [List.append_assoc] at r1 o o'
      obtain ⟨a, vs, ρ2, rfl, g1, r2, g2⟩ := srcA_ok r1 hs o hN
      have o'2 : ArgOk K M1 (σ ++ (τs ++ ρ ++ ρ2)) x' v' := by
        have := o'.pre (Pre.app (ρ := ρ2))
        simpa [List.append_assoc] using this
      rw [show σ ++ (τs ++ ρ) ++ ρ2 = σ ++ (τs ++ ρ ++ ρ2) by simp [List.append_assoc]] at r2
      obtain ⟨b, ws, ρ3, rfl, g1', r3, g2'⟩ := srcA_ok r2 hs' o'2 hN
      refine ⟨a, b, vs, ws, rfl, .inl ⟨g1, g1', hn M1 _ H1 _ δ3 (ρ ++ ρ2 ++ ρ3) e1 (by simpa [List.append_assoc] using r3) (fun i M2 σ2 ζ H2 δ4 e2 l2 r4 ok => ?_) q⟩⟩
      obtain ⟨vs2, g3, g4⟩ := g2 M2 σ2 (ρ3 ++ ζ) H2 δ4 e2 l2 (by simpa [List.append_assoc] using r4) (fun q hq => ok q (List.mem_append_left _ hq))
      obtain ⟨ws2, g3', g4'⟩ := g2' M2 σ2 ζ H2 δ4 e2 l2 (by simpa [List.append_assoc] using r4) (fun q hq => ok q (List.mem_append_right _ hq))
      have hlv := g4.length
      have hlw := g4'.length
      simp only [itLen, List.length_map, List.length_zip]
      refine ⟨fun hi => ⟨⟨vs2, ws2, vs2[i]'(by omega), ws2[i]'(by omega), g3, g3', List.getElem?_eq_getElem _, List.getElem?_eq_getElem _⟩, fun y H' hy => ?_⟩, fun hi => ⟨vs2, ws2, g3, g3', by omega⟩⟩
      obtain ⟨Tp, z, z', rfl, nT, rfl, f, f'⟩ := hy
      obtain ⟨w, hw, rw⟩ := g4.get (List.getElem?_eq_getElem (show i < ts.length by omega))
      obtain ⟨w', hw', rw'⟩ := g4'.get (List.getElem?_eq_getElem (show i < ts'.length by omega))
      rw [f vs2 g3] at hw
      rw [f' ws2 g3'] at hw'
      cases hw
      cases hw'
      obtain ⟨e3, r5, rp⟩ := RB.newT (ts := [ts[i]'(by omega), ts'[i]'(by omega)]) (vs := [z, z']) r4 nT ⟨_, _, rfl, rw, _, _, rfl, rw', rfl⟩
      refine ⟨_, [], .v (.nd .tup false [ts[i]'(by omega), ts'[i]'(by omega)]), δ4, e3, by simpa using r5, ?_, rp⟩
      simp only [itemA, List.getElem?_map]
      rw [(List.getElem?_zip_eq_some (z := (ts[i]'(by omega), ts'[i]'(by omega)))).mpr ⟨List.getElem?_eq_getElem _, List.getElem?_eq_getElem _⟩]
      rfl
    · exact h1.elim) hx
/-! for, while -/
def loopW (its : ItS) (g : WG) (b : WS) (D : ED) (n n1 : Nat) : Nat → Nat → Env → Prop
  | 0, _, δ => okI δ its ∧ D.nx (tk n δ)
  | m + 1, i, δ => okI δ its ∧ opt (itemA δ i its) fun q => opt (g n1 q.2 q.1) fun δ2 => b (tk n1 δ2) { nx := loopW its g b D n n1 m (i + 1), ct := loopW its g b D n n1 m (i + 1), bk := fun δ' => D.nx (tk n δ'), rt := fun τ δ' => D.rt τ (tk n δ'), ex := fun C x δ' => D.ex C x (tk n δ') }
def wFor (wi : WI) (g : WG) (b : WS) : WS := fun δ D => wi δ.length δ (fun its δ1 => loopW its g b D δ.length δ1.length (itLen its) 0 δ1) (xk D δ.length)
theorem loopW_ok {its : ItS} {g : WG} {b : WS} {D : ED} {n n1 m i : Nat} (h : loopW its g b D n n1 m i δ) : okI δ its := by
  cases m with
  | zero => exact h.1
  | succ m => exact h.1
theorem ss_for {vs : List Nat} {wi : TI} {g : TG} {tb : TS} {w : WI} {wg : WG} {b : WS} (hi : SI N K W wi w) (hg : SG N K vs g wg) (hb : SS N K W tb b) : SS N K W (tFor wi g tb) (wFor w wg b) := fun δ D h M σ τs H r hN E hE =>
  hi _ δ _ _ h M σ τs H r hN _ (fun M1 J H1 its δ1 ρ e1 r1 it h1 => by
    have cutT : ∀ {σ2 : L2.St} {M2 H2 δ2} {β : List A}, σ2.length = σ.length → RB K M2 (σ2 ++ (τs ++ ρ)) H2 δ2 β → RB K M2 (σ2 ++ τs) H2 (tk δ.length δ2) β := fun {σ2 M2 H2 δ2 β} l2 r2 => by
      rw [← List.append_assoc] at r2
      have := r2.cut
      rw [show (σ2 ++ τs).length = δ.length by rw [← r.ls]; simp [l2]] at this
      exact this
    have hn1 : ∀ {σ2 : L2.St}, σ2.length = σ.length → (σ2 ++ (τs ++ ρ)).length = δ1.length := fun {σ2} l2 => by rw [← r1.ls]; simp [l2]
    refine ⟨fun i m σ2 H2 => i + m = itLen its ∧ ∃ M2 δ2, Same M1 M2 ∧ σ2.length = σ.length ∧ R K M2 (σ2 ++ (τs ++ ρ)) H2 δ2 ∧ loopW its wg b D δ.length δ1.length m i δ2, ⟨itLen its, by omega, M1, δ1, Same.refl M1, rfl, by rw [← List.append_assoc]; exact r1, h1⟩, ?_⟩
    rintro i m σ2 H2 ⟨hm, M2, δ2, e2, l2, r2, w2⟩
    have okd := loopW_ok w2
    obtain ⟨go, stop⟩ := it i M2 σ2 [] H2 δ2 e2 (l2.trans hN) (by simpa using r2) okd
    cases m with
    | zero => exact .inl ⟨stop (by omega), hE.nx M2 σ2 H2 _ (e1.trans e2) l2 (cutT l2 r2) w2.2⟩
    | succ m =>
      obtain ⟨g1, g2⟩ := go (by omega)
      refine .inr ⟨g1, fun σ3 H3 => ∃ M3 δ3, Same M1 M3 ∧ σ3.length = σ.length ∧ R K M3 (σ3 ++ (τs ++ ρ)) H3 δ3 ∧ loopW its wg b D δ.length δ1.length m (i + 1) δ3, fun σ3 H3 h3 => ⟨m, by omega, by omega, h3⟩, fun x H' y => ?_⟩
      obtain ⟨M3, ρ3, a, δ3, e3, r3, hit, oa⟩ := g2 x H' y
      rw [List.append_nil] at r3 oa
      obtain ⟨q, hq, w3⟩ := opt_elim w2.2
      rw [hit] at hq
      cases hq
      obtain ⟨δ4, hg4, w4⟩ := opt_elim w3
      rw [List.append_assoc] at r3 oa
      refine hg _ δ3 a δ4 hg4 M3 σ2 (τs ++ ρ ++ ρ3) H' x r3 (l2.trans hN) oa _ fun M5 σ5 ρ5 e5 l5 _ r5 => ?_
      have l5' := l5.trans l2
      have r6 : R K M5 (σ5 ++ (τs ++ ρ)) H' (tk δ1.length δ4) := by
        have : R K M5 ((σ5 ++ (τs ++ ρ)) ++ (ρ3 ++ ρ5)) H' δ4 := by simpa [List.append_assoc] using r5
        have := this.cut
        rw [hn1 l5'] at this
        exact this
      have ee : Same M1 M5 := e2.trans (e3.trans e5)
      refine hb _ _ w4 M5 σ5 (τs ++ ρ) H' r6 (l5'.trans hN) _ ⟨fun M7 σ7 H7 δ7 e7 l7 r7 q7 => ?_, fun M7 σ7 H7 δ7 x7 e7 l7 r7 q7 => ?_, fun M7 σ7 H7 δ7 e7 l7 r7 q7 => ?_, fun M7 σ7 H7 δ7 e7 l7 r7 q7 => ?_, fun M7 σ7 H7 C x7 u7 d7 δ7 e7 l7 r7 p7 n7 q7 => ?_⟩
      · exact ⟨M7, δ7, ee.trans e7, l7.trans l5', r7, q7⟩
      · exact hE.rt M7 σ7 H7 _ x7 (e1.trans (ee.trans e7)) (l7.trans l5') (cutT (l7.trans l5') r7) q7
      · exact hE.nx M7 σ7 H7 _ (e1.trans (ee.trans e7)) (l7.trans l5') (cutT (l7.trans l5') r7) q7
      · exact ⟨M7, δ7, ee.trans e7, l7.trans l5', r7, q7⟩
      · exact hE.ex M7 σ7 H7 C x7 u7 d7 _ (e1.trans (ee.trans e7)) (l7.trans l5') (cutT (l7.trans l5') r7) p7 n7 q7) (XC_of hE r.ls.symm)
def whileW (c : WT') (b : WS) (D : ED) (n : Nat) : Nat → Env → Prop
  | 0, _ => False
  | m + 1, δ => c n δ (fun z δ1 => if z = true then b (tk n δ1) { D with nx := whileW c b D n m, ct := whileW c b D n m, bk := D.nx } else D.nx (tk n δ1)) (xk D n)
def wWhile (c : WT') (b : WS) : WS := fun δ D => ∃ m, whileW c b D δ.length m δ
theorem ss_while {tc : TT} {tb : TS} {c : WT'} {b : WS} (hc : ST N K W tc c) (hb : SS N K W tb b) : SS N K W (tWhile tc tb) (wWhile c b) := fun δ D h M σ τs H r hN E hE => by
  obtain ⟨m0, h⟩ := h
  refine ⟨fun m σ2 H2 => ∃ M2 δ2, Same M M2 ∧ σ2.length = σ.length ∧ R K M2 (σ2 ++ τs) H2 δ2 ∧ whileW c b D δ.length m δ2, ⟨m0, M, δ, Same.refl M, rfl, r, h⟩, ?_⟩
  rintro m σ2 H2 ⟨M2, δ2, e2, l2, r2, w2⟩
  cases m with
  | zero => exact w2.elim
  | succ m =>
    have hl : ∀ {σ3 : L2.St}, σ3.length = σ.length → (σ3 ++ τs).length = δ.length := fun {σ3} l => by rw [← r.ls]; simp [l]
    refine hc _ δ2 _ _ w2 M2 σ2 (σ2 ++ τs) H2 r2 (l2.trans hN) Pre.app _ (fun M3 H3 z δ3 S3 e3 p3 r3 h3 => ?_) ?_
    · obtain ⟨ρ, rfl⟩ := p3
      have r4 := r3.cut
      rw [hl l2] at r4
      split
      · rename_i hz
        rw [if_pos hz] at h3
        refine ⟨fun σ5 H5 => ∃ M5 δ5, Same M M5 ∧ σ5.length = σ.length ∧ R K M5 (σ5 ++ τs) H5 δ5 ∧ whileW c b D δ.length m δ5, fun σ5 H5 h5 => ⟨m, by omega, h5⟩, ?_⟩
        have ee := e2.trans e3
        exact hb _ _ h3 M3 σ2 τs H3 r4 (l2.trans hN) _ ⟨fun M7 σ7 H7 δ7 e7 l7 r7 q7 => ⟨M7, δ7, ee.trans e7, l7.trans l2, r7, q7⟩, fun M7 σ7 H7 δ7 x7 e7 l7 r7 q7 => hE.rt M7 σ7 H7 _ x7 (ee.trans e7) (l7.trans l2) r7 q7,
          fun M7 σ7 H7 δ7 e7 l7 r7 q7 => hE.nx M7 σ7 H7 _ (ee.trans e7) (l7.trans l2) r7 q7, fun M7 σ7 H7 δ7 e7 l7 r7 q7 => ⟨M7, δ7, ee.trans e7, l7.trans l2, r7, q7⟩,
          fun M7 σ7 H7 C x7 u7 d7 δ7 e7 l7 r7 p7 n7 q7 => hE.ex M7 σ7 H7 C x7 u7 d7 _ (ee.trans e7) (l7.trans l2) r7 p7 n7 q7⟩
      · rename_i hz
        rw [if_neg hz] at h3
        exact hE.nx M3 σ2 H3 _ (e2.trans e3) l2 r4 h3
    · have hE2 := hE.on e2 l2
      exact XC_of hE2 (hl l2).symm
end
end EV

/-! EV10: comprehensions; calls -/
namespace EV
open PySem PySem.Spec PyProof.Rows L2
section
variable {N : Nat} {K : PySem.W.Frag} {W : WX} {M M' M1 H H' : Hp} {σ S S1 : L2.St} {δ δ' : Env} {α β γ : List A} {Q : EK} {X : XK'} {Qm : VK}
def wpe : List Nat → Env → Env
  | [], δ => δ
  | v :: vs, δ => (kilr v (wpe vs δ)).set v none
theorem wpe_length : ∀ {vs : List Nat} {δ : Env}, (wpe vs δ).length = δ.length
  | [], _ => rfl
  | v :: vs, δ => by simp only [wpe, List.length_set, kilr, kil_length, wpe_length]
def cleanE (vs : List Nat) (δ : Env) : Prop := ∀ (k : Nat) t, δ[k]? = some (some t) → k ∉ vs
theorem wpe_get : ∀ {vs : List Nat} {δ : Env} {k : Nat} {t : Sl}, (wpe vs δ)[k]? = some (some t) → k ∉ vs ∧ δ[k]? = some (some t) ∧ ∀ j p, t = .al j p → j ∉ vs
  | [], _, _, _, h => ⟨by simp, h, fun _ _ _ => by simp⟩
  | v :: vs, δ, k, t, h => by
    simp only [wpe] at h
    by_cases hk : k = v
    · subst hk
      by_cases hl : k < (kilr k (wpe vs δ)).length
      · rw [List.getElem?_set_self hl] at h; cases h
      · rw [List.getElem?_eq_none (by simp; omega)] at h; cases h
    · rw [List.getElem?_set_ne (Ne.symm hk)] at h
      cases t with
      | t τ =>
        obtain ⟨h1, h2, _⟩ := wpe_get (kil_t.mp h)
        exact ⟨by simp [hk, h1], h2, fun j p z => by cases z⟩
      | al j p =>
        obtain ⟨h0, hf⟩ := kil_al h
        obtain ⟨h1, h2, h3⟩ := wpe_get h0
        refine ⟨by simp [hk, h1], h2, fun j' p' z => ?_⟩
        cases z
        have : j ≠ v := by simpa using hf
        simp [this, h3 j p rfl]
theorem wpe_t : ∀ {vs : List Nat} {δ : Env} {k : Nat} {τ : T}, k ∉ vs → δ[k]? = some (some (.t τ)) → (wpe vs δ)[k]? = some (some (.t τ))
  | [], _, _, _, _, h => h
  | v :: vs, δ, k, τ, hk, h => by
    simp only [wpe]
    rw [List.getElem?_set_ne (fun z => hk (by simp [z]))]
    exact kil_t.mpr (wpe_t (fun z => hk (by simp [z])) h)
theorem wpe_clean {vs : List Nat} {δ : Env} : cleanE vs (wpe vs δ) := fun k t h => (wpe_get h).1
theorem RB.wpe {vs : List Nat} (r : RB K M S H δ β) : RB K M S H (wpe vs δ) β := by
  obtain ⟨α, r⟩ := r
  refine ⟨α, r.ex, r.ls.trans wpe_length.symm, r.la.trans wpe_length.symm, r.un, r.nm, r.ho, r.hb, fun i τ h => r.own i τ (wpe_get h).2.1, fun i j p h => ?_⟩
  obtain ⟨h1, h2, h3⟩ := wpe_get h
  obtain ⟨τ, a, b, g1, g2⟩ := r.ali i j p h2
  exact ⟨τ, a, b, wpe_t (h3 j p rfl) g1, g2⟩
/-- slots of which nothing is told may hold anything -/
theorem RB.other {vs : List Nat} (r : RB K M S H δ β) (hc : cleanE vs δ) (hl : S1.length = S.length) (h : ∀ k : Nat, k ∉ vs → S1[k]? = S[k]?) : RB K M S1 H δ β := by
  obtain ⟨α, r⟩ := r
  refine ⟨α, r.ex, hl.trans r.ls, r.la, r.un, r.nm, r.ho, r.hb, fun i τ hi => ?_, fun i j p hi => ?_⟩
  · obtain ⟨a, h1, h2, h3⟩ := r.own i τ hi
    exact ⟨a, h1, h2, by rw [h i (hc i _ hi)]; exact h3⟩
  · obtain ⟨τ, a, b, h1, h2, h3, h4⟩ := r.ali i j p hi
    exact ⟨τ, a, b, h1, h2, h3, by rw [h i (hc i _ hi)]; exact h4⟩
theorem wipe_get {σ : L2.St} {i : Nat} : ∀ {vs : List Nat}, (wipe σ vs)[i]? = if i ∈ vs then (if i < σ.length then some none else none) else σ[i]?
  | [] => by simp [wipe]
  | v :: vs => by
    unfold wipe
    by_cases hi : i = v
    · subst hi
      by_cases hl : i < σ.length
      · rw [List.getElem?_set_self (by rw [wipe_length]; exact hl)]; simp [hl]
      · rw [List.getElem?_eq_none (by rw [List.length_set, wipe_length]; omega)]; simp [hl]
    · rw [List.getElem?_set_ne (Ne.symm hi), wipe_get]
      simp [hi]
theorem wipe_eq {vs : List Nat} {σ' : L2.St} (hl : σ'.length = σ.length) (h : ∀ k : Nat, k ∉ vs → σ'[k]? = σ[k]?) : wipe σ' vs = wipe σ vs := by
  apply List.ext_getElem?
  intro i
  rw [wipe_get, wipe_get, hl]
  split
  · rfl
  · rename_i hi
    exact h i hi
theorem app_agree {σ σ' τ : L2.St} {k : Nat} (hl : σ'.length = σ.length) (h : k < σ.length → σ'[k]? = σ[k]?) : (σ' ++ τ)[k]? = (σ ++ τ)[k]? := by
  by_cases hk : k < σ.length
  · rw [List.getElem?_append_left (by omega), List.getElem?_append_left hk, h hk]
  · rw [List.getElem?_append_right (by omega), List.getElem?_append_right (by omega), hl]
def noX : XK' := fun _ _ _ => False
def W0 : WX := fun _ _ _ _ => False
theorem xc0 : XC K W0 σ M S noX := fun _ _ _ _ _ _ _ _ _ _ _ _ _ h => h.elim
def lcPut (d : Nat) (w : T × Env) (k : Env → Prop) : Prop := match sub w.2 d [] with
  | some (.nd .lst true acc) => len6 acc.length ∧ k (putK w.2 d [] (L (acc ++ [w.1])))
  | _ => False
def lcW (its : ItS) (g : WG) (tt : WT') (we : WE') (vs : List Nat) (Q : EK) (d : Nat) : Nat → Nat → Env → Prop
  | 0, _, δ => okI δ its ∧ Q (.sl d) δ
  | m + 1, i, δ => okI δ its ∧ opt (itemA δ i its) fun q => opt (g (d + 1) q.2 q.1) fun δa => tt (d + 1) δa (fun b δb => if b = true then we (d + 1) δb (fun r δc => opt (take1 (d + 1) δc r) fun w => lcPut d w fun δd => lcW its g tt we vs Q d m (i + 1) (wpe vs (tk (d + 1) δd))) noX
      else lcW its g tt we vs Q d m (i + 1) (wpe vs (tk (d + 1) δb))) noX
def wLc (wi : WI) (g : WG) (tt : WT') (we : WE') (vs : List Nat) : WE' := fun n δ Q X => wi n δ (fun its δ1 => lcW its g tt we vs Q δ1.length (itLen its) 0 (wpe vs δ1 ++ [some (.t (L []))])) X
theorem lcW_ok {its : ItS} {g : WG} {tt : WT'} {we : WE'} {vs : List Nat} {d m i : Nat} (h : lcW its g tt we vs Q d m i δ) : okI δ its := by
  cases m with
  | zero => exact h.1
  | succ m => exact h.1
theorem pre_split {σ S : L2.St} (p : Pre σ S) : ∃ τs, S = σ ++ τs := p
theorem cleanE_push {vs : List Nat} {τ : T} (h : cleanE vs δ) (hv : ∀ v ∈ vs, v < δ.length) : cleanE vs (δ ++ [some (.t τ)]) := fun k t hk => by
  rcases get_push hk with q | ⟨q1, q2⟩
  · exact h k t q
  · intro z
    have := hv k z
    omega
theorem se_lc {vs : List Nat} {wi : TI} {g : TG} {tt : TT} {te : TE} {w : WI} {wg : WG} {wt : WT'} {we : WE'} (hv : vs.all (fun v => Nat.blt v N) = true) (hi : SI N K W wi w) (hg : SG N K vs g wg) (ht : ST N K W0 tt wt) (he : SE N K W0 te we) : SE N K W (tLc wi g tt te vs) (wLc w wg wt we vs) := fun n δ Q X h M σ S H r hN p Qm hn hx => by
  obtain ⟨τs, rfl⟩ := p
  have hvN : ∀ v ∈ vs, v < N := fun v hv' => by
    have := List.all_eq_true.mp hv v hv'
    exact Nat.lt_of_lt_of_le (Nat.lt_succ_self v) (by simpa [Nat.blt] using this)
  refine hi n δ _ X h M σ τs H r hN _ (fun M1 J H1 its δ1 ρ e1 r1 it h1 Da hD => ?_) hx
  rw [List.append_assoc] at r1
  have hd : (σ ++ (τs ++ ρ)).length = δ1.length := r1.ls
  have hd2 : ∀ {σ2 : L2.St}, σ2.length = σ.length → (σ2 ++ (τs ++ ρ ++ [some (V.ref Da)])).length = δ1.length + 1 := fun {σ2} l2 => by
    simp at hd ⊢; omega
  have r2 : R K M1 ((σ ++ (τs ++ ρ)) ++ [some (.ref Da)]) (upd H1 Da (.lst [])) (wpe vs δ1 ++ [some (.t (L []))]) := R.newL (r1.wpe (vs := vs)) (c := .lst) (ts := []) (vs := []) hD rfl trivial
  rw [List.append_assoc] at r2
  refine ⟨fun i m H2 => i + m = itLen its ∧ ∃ M2 δ2, Same M1 M2 ∧ R K M2 (σ ++ (τs ++ ρ ++ [some (V.ref Da)])) H2 δ2 ∧ cleanE vs δ2 ∧ δ2.length = δ1.length + 1 ∧ lcW its wg wt we vs Q δ1.length m i δ2,
    ⟨itLen its, by omega, M1, _, Same.refl M1, r2, cleanE_push wpe_clean (fun v hv' => by rw [wpe_length, ← hd]; have := hvN v hv'; simp; omega), by simp [wpe_length], h1⟩, ?_⟩
  rintro i m H2 ⟨hm, M2, δ2, e2, r3, cl, ln2, w2⟩
  have okd := lcW_ok w2
  have ec : ∀ {σ2 : L2.St}, σ2 ++ (τs ++ ρ ++ [some (V.ref Da)]) = σ2 ++ (τs ++ ρ) ++ [some (V.ref Da)] := fun {σ2} => by simp
  obtain ⟨go, stop⟩ := it i M2 σ [some (V.ref Da)] H2 δ2 e2 hN (by rw [← ec]; exact r3) okd
  cases m with
  | zero =>
    refine .inl ⟨stop (by omega), hn M2 (.ref Da) H2 (.sl δ1.length) δ2 _ (e1.trans e2) ?_ (by rw [ec] at r3; exact r3) ?_ w2.2⟩
    · exact ⟨ρ ++ [some (V.ref Da)], by simp⟩
    · show (σ ++ (τs ++ ρ) ++ [some (V.ref Da)])[δ1.length]? = _
      rw [← hd]; exact get_top
  | succ m =>
    obtain ⟨g1, g2⟩ := go (by omega)
    refine .inr ⟨g1, fun H3 => ∃ M3 δ3, Same M1 M3 ∧ R K M3 (σ ++ (τs ++ ρ ++ [some (V.ref Da)])) H3 δ3 ∧ cleanE vs δ3 ∧ δ3.length = δ1.length + 1 ∧ lcW its wg wt we vs Q δ1.length m (i + 1) δ3, fun H3 h3 => ⟨m, by omega, by omega, h3⟩, fun x H' y => ?_⟩
    have r3w : R K M2 (wipe σ vs ++ (τs ++ ρ) ++ [some (V.ref Da)]) H2 δ2 := by
      refine r3.other cl ?_ fun k hk => ?_
      · simp [wipe_length]
      · rw [← ec (σ2 := wipe σ vs)]
        exact app_agree (wipe_length σ vs) fun hks => by rw [wipe_get, if_neg hk]
    obtain ⟨goW, _⟩ := it i M2 (wipe σ vs) [some (V.ref Da)] H2 δ2 e2 (by rw [wipe_length]; exact hN) r3w okd
    obtain ⟨M3, ρ3, a, δ3, e3, r4, hit, oa⟩ := (goW (by omega)).2 x H' y
    obtain ⟨q, hq, w3⟩ := opt_elim w2.2
    rw [hit] at hq
    cases hq
    obtain ⟨δa, hga, w4⟩ := opt_elim w3
    have ew : wipe σ vs ++ (τs ++ ρ) ++ [some (V.ref Da)] ++ ρ3 = wipe σ vs ++ (τs ++ ρ ++ [some (V.ref Da)] ++ ρ3) := by simp
    rw [ew] at r4 oa
    refine hg _ δ3 a δa hga M3 (wipe σ vs) _ H' x r4 (by rw [wipe_length]; exact hN) oa _ fun M5 σ5 ρ5 e5 l5 k5 r5 => ⟨?_, ?_⟩
    · rw [wipe_length] at l5
      refine wipe_eq l5 fun k hk => ?_
      rw [k5 k hk, wipe_get, if_neg hk]
    · rw [wipe_length] at l5
      have r5' : R K M5 ((σ5 ++ (τs ++ ρ ++ [some (V.ref Da)])) ++ (ρ3 ++ ρ5)) H' δa := by simpa [List.append_assoc] using r5
      have back : ∀ {M7 H7 δ7} {β : List A} {ζ : L2.St}, RB K M7 ((σ5 ++ (τs ++ ρ ++ [some (V.ref Da)])) ++ ζ) H7 δ7 β → RB K M7 (σ ++ (τs ++ ρ ++ [some (V.ref Da)])) H7 (wpe vs (tk (δ1.length + 1) δ7)) β ∧ cleanE vs (wpe vs (tk (δ1.length + 1) δ7)) ∧ (wpe vs (tk (δ1.length + 1) δ7)).length = δ1.length + 1 := fun {M7 H7 δ7 β ζ} r7 => by
        have r8 := r7.cut
        rw [hd2 l5] at r8
        refine ⟨(r8.wpe (vs := vs)).other wpe_clean (by simp [l5]) fun k hk => ?_, wpe_clean, by rw [wpe_length]; have := r8.ls; rw [hd2 l5] at this; exact this.symm⟩
        exact app_agree l5.symm fun hks => by rw [k5 k hk, wipe_get, if_neg hk]
      refine ht _ δa _ _ w4 M5 σ5 _ H' r5' (l5.trans hN) ⟨_, List.append_assoc _ _ _⟩ _ (fun M6 H6 b δb S6 e6 p6 r6 w5 => ?_) xc0
      obtain ⟨ζ, rfl⟩ := p6
      have eeb := e2.trans (e3.trans (e5.trans e6))
      split
      · rename_i hb
        rw [if_pos hb] at w5
        refine he _ δb _ _ w5 M6 σ5 _ H6 r6 (l5.trans hN) ⟨_, by rw [List.append_assoc, List.append_assoc]⟩ _ (fun M7 v H7 r δc S7 e7 p7 r7 o7 w6 => ?_) xc0
        obtain ⟨⟨τ, δd⟩, htk, w7⟩ := opt_elim w6
        obtain ⟨M8, a1, e8, r8, ga, gv⟩ := take1_ok (β := []) r7 htk o7
        unfold lcPut at w7
        dsimp only at w7
        split at w7
        · rename_i acc hs
          obtain ⟨h6, w7⟩ := w7
          obtain ⟨ζ7, rfl⟩ := p7
          have hlk : plA δd (.sl δ1.length) = some (δ1.length, []) := by
            show look δd δ1.length = _
            obtain ⟨τ', hτ, _⟩ := sub_eq hs
            unfold look
            rw [hτ]
          have hDa : (σ5 ++ (τs ++ ρ ++ [some (V.ref Da)]) ++ (ρ3 ++ ρ5) ++ ζ ++ ζ7)[δ1.length]? = some (some (V.ref Da)) := by
            refine get_left (get_left (get_left ?_))
            rw [ec]
            have : (σ5 ++ (τs ++ ρ)).length = δ1.length := by rw [← hd]; simp [l5]
            rw [← this]
            exact get_top
          obtain ⟨aa, y', as, ea, h1', h2', h3', h4', wr⟩ := RB.write r8 hlk hs rfl (show ArgOk K M8 _ (.sl δ1.length) (.ref Da) from hDa)
          cases ea
          have hw := (wr .lst (as ++ [a1]) [] rfl trivial (fun z => by simp only [ctL_append, ctL, List.nil_append]; omega) (h4'.and (RB.holds r8)) trivial).2 (fun k t hk => get_left hk)
          have e : obj .lst y' ((as ++ [a1]).map val) = .lst (as.map val ++ [val a1]) := by simp [obj]
          rw [e, erL_app, h3'] at hw
          simp only [erL, ga, gv] at hw
          have hb7 := back (ζ := ρ3 ++ ρ5 ++ ζ ++ ζ7) (by simpa [List.append_assoc] using hw)
          exact ⟨as.map val, h1', by rw [List.length_map, ← erL_length, h3']; exact len6_ok h6, M8, _, eeb.trans (e7.trans e8), hb7.1, hb7.2.1, hb7.2.2, w7⟩
        · exact w7.elim
      · rename_i hb
        rw [if_neg hb] at w5
        have hb6 := back (ζ := ρ3 ++ ρ5 ++ ζ) (by simpa [List.append_assoc] using r6)
        exact ⟨M6, _, eeb, hb6.1, hb6.2.1, hb6.2.2, w5⟩
def wtYes : WT' := fun n δ Q X => Q true δ
theorem st_yes : ST N K W tYes wtYes := fun n δ Q X h M σ S H r hN p Qm hn hx => hn M H true δ S (Same.refl M) Pre.refl r h
end
end EV

/-! EV11: calls of one's own defs -/
namespace EV
open PySem PySem.Spec PyProof.Rows L2
abbrev Con' := List T → (T → List T → Prop) → (Addr → T → List T → Prop) → Prop
def ownE (ts : List T) : Env := ts.map fun t => some (.t t)
def spX (K : PySem.W.Frag) (c : Con') : Sp := fun vs H Q E => ∃ M ts, R K M (vs.map some) H (ownE ts) ∧ c ts
  (fun r outs => outs.length = ts.length ∧ ∀ M' H' a, Same M M' → RB K M' (vs.map some) H' (ownE outs) [a] → er a = r → Q (val a) H')
  (fun C x outs => outs.length = ts.length ∧ ∀ M' H' u d, Same M M' → R K M' (vs.map some) H' (ownE outs) → Rp K M' x u → H' d = none → E (.ref C) (some d) (upd H' d (TV.errO u)))
mutual
/-- nothing that stands still in it is a list, a dict, an object -/
def flat : T → Bool
  | .nd .tup false ts => flatL ts
  | .nd _ false _ => false
  | .nd _ true ts => flatL ts
  | _ => true
def flatL : List T → Bool
  | [] => true
  | t :: r => flat t && flatL r
end
theorem flatL_iff : ∀ {ts : List T}, flatL ts = true ↔ ∀ t ∈ ts, flat t = true
  | [] => by simp [flatL]
  | t :: r => by rw [flatL, Bool.and_eq_true, flatL_iff]; simp
section
variable {N : Nat} {K : PySem.W.Frag} {W : WX} {M M' M1 H H' : Hp} {σ S S1 : L2.St} {δ δ' : Env} {α β γ : List A} {Q : EK} {X : XK'} {Qm : VK}
mutual
theorem Rp_tx (e : Same M' H) : ∀ {d : T} {v : V}, flat d = true → Rp K M' d v → Rp K (TV.tx M H) d v
  | .non, _, _, r => r
  | .bl _, _, _, r => r
  | .int _, _, _, r => r
  | .str _, _, _, r => r
  | .ty _, _, _, r => r
  | .adr _, _, _, r => r
  | .nd c o ts, _, f, ⟨h0, a, vs, h1, h2, h3⟩ => by
    subst h0
    cases c <;> first
      | (simp [flat] at f; done)
      | exact ⟨rfl, a, vs, h1, TV.sqT_tx e h2, RpL_tx e (by simpa [flat] using f) h3⟩
theorem RpL_tx (e : Same M' H) : ∀ {ds : List T} {vs : List V}, flatL ds = true → RpL K M' ds vs → RpL K (TV.tx M H) ds vs
  | [], _, _, r => r
  | _ :: _, _, f, ⟨v, q, h1, h2, h3⟩ => by
    rw [flatL, Bool.and_eq_true] at f
    exact ⟨v, q, h1, Rp_tx e f.1 h2, RpL_tx e f.2 h3⟩
end
mutual
theorem Hold_tx (e : Same M' H) : ∀ {a : A}, flat (er a) = true → Hold K M' H a → Hold K (TV.tx M H) H a
  | .lf τ v, f, h => Rp_tx e f h
  | .nd c a b ts, f, ⟨h1, h2, h3⟩ => ⟨h1, h2, HoldL_tx e (by cases c <;> simpa [er, flat] using f) h3⟩
theorem HoldL_tx (e : Same M' H) : ∀ {ts : List A}, flatL (erL ts) = true → HoldL K M' H ts → HoldL K (TV.tx M H) H ts
  | [], _, _ => trivial
  | t :: r, f, ⟨h1, h2⟩ => by
    rw [erL, flatL, Bool.and_eq_true] at f
    exact ⟨Hold_tx e f.1 h1, HoldL_tx e f.2 h2⟩
end
theorem isTp_obj {c : Con} {b : Addr} {vs : List V} (h : isTup c = false) : TV.isTp (some (obj c b vs)) = false := by
  cases c <;> first | rfl | (simp [isTup] at h)
mutual
theorem Hold.isTp : ∀ {t : A} {x : Addr}, Hold K M H t → 0 < ct t x → TV.isTp (H x) = false
  | .lf _ _, _, _, h => by rw [ct] at h; omega
  | .nd c a b ts, x, ⟨h1, h2, h3⟩, h => by
    rw [ct] at h
    by_cases e : x = a ∧ isTup c = false
    · rw [e.1, h1]
      exact isTp_obj e.2
    · rw [if_neg e] at h
      exact HoldL.isTp h3 (by omega)
theorem HoldL.isTp : ∀ {ts : List A} {x : Addr}, HoldL K M H ts → 0 < ctL ts x → TV.isTp (H x) = false
  | [], _, _, h => by rw [ctL] at h; omega
  | t :: r, x, ⟨h1, h2⟩, h => by
    rw [ctL] at h
    by_cases e : 0 < ct t x
    · exact Hold.isTp h1 e
    · exact HoldL.isTp h2 (by omega)
end
theorem tx_at {x : Addr} (h : TV.isTp (H x) = false) : TV.tx M H x = M x := by
  show (if TV.isTp (H x) = true then H x else M x) = _
  rw [h]; rfl
/-! ### what goes in -/
/-- first what may be changed is taken out -/
def takeM (δ : Env) : List Bool → List Arg → Option (List (Option (Nat × T)) × Env)
  | [], [] => some ([], δ)
  | false :: ms, _ :: rs => (takeM δ ms rs).map fun q => (none :: q.1, q.2)
  | true :: ms, x :: rs => (takeM δ ms rs).bind fun q => (plA q.2 x).bind fun w => if w.2 = [] then (tree q.2 w.1).bind fun τ => if isF τ = true then none else some (some (w.1, τ) :: q.1, (kilr w.1 q.2).set w.1 none) else none
  | _, _ => none
/-- then the others are read -/
def readR (δ : Env) : List (Option (Nat × T)) → List Arg → Option (List T)
  | [], [] => some []
  | some q :: os, _ :: rs => (readR δ os rs).map fun l => q.2 :: l
  | none :: os, x :: rs => (argT δ x).bind fun τ => (readR δ os rs).map fun l => fz τ :: l
  | _, _ => none
inductive AM (S : L2.St) : List (Option (Nat × T)) → List V → List A → Prop where
  | nil : AM S [] [] []
  | skip {os : List (Option (Nat × T))} {u : V} {us : List V} {β : List A} : AM S os us β → AM S (none :: os) (u :: us) β
  | take {os : List (Option (Nat × T))} {j : Nat} {a : A} {us : List V} {β : List A} : S[j]? = some (some (val a)) → AM S os us β → AM S (some (j, er a) :: os) (val a :: us) (a :: β)
theorem RB.rot {a : A} (r : RB K M S H δ (β ++ [a])) : RB K M S H δ (a :: β) := by
  obtain ⟨α, r⟩ := r
  refine ⟨α, r.ex, r.ls, r.la, fun x => ?_, fun x hx => r.nm x ?_, r.ho, ?_, r.own, r.ali⟩
  · have := r.un x; simp only [ctL_append, ctL] at this ⊢; omega
  · simp only [ctL_append, ctL] at hx ⊢; omega
  · have := r.hb
    rw [HoldL_iff] at this ⊢
    intro t ht
    exact this t (by simp at ht ⊢; rcases ht with h | h <;> simp [h])
theorem RB.takeRoot {j : Nat} {τ : T} (r : RB K M S H δ β) (hj : δ[j]? = some (some (.t τ))) (hf : isF τ = false) : ∃ a, er a = τ ∧ S[j]? = some (some (val a)) ∧ RB K M S H ((kilr j δ).set j none) (a :: β) := by
  obtain ⟨α, ra⟩ := r
  obtain ⟨a, h2, h4, h7⟩ := ra.own j τ hj
  have hdl := (List.getElem?_eq_some_iff.mp hj).1
  have h6 : Hold K M H a := (HoldL_iff.mp ra.ho) a (List.mem_of_getElem? h2)
  refine ⟨a, h4, h7, α.set j (.lf .non .non), ra.ex, by simp [ra.ls, kilr, kil_length], by simp [ra.la, kilr, kil_length], fun x => ?_, fun x hx => ra.nm x ?_, HoldL_set ra.ho rfl, ⟨h6, ra.hb⟩, fun i τ' hi => ?_, fun i j' p' hi => ?_⟩
  · have := ctL_set (t' := .lf .non .non) (x := x) h2
    have := ra.un x
    have : ct (A.lf .non .non) x = 0 := rfl
    simp only [ctL] at *
    omega
  · have h8 := ctL_set (t' := .lf .non .non) (x := x) h2
    have : ct (A.lf .non .non) x = 0 := rfl
    simp only [ctL] at *
    omega
  · by_cases hij : i = j
    · subst hij
      rw [List.getElem?_set_self (by rw [kilr, kil_length]; exact hdl)] at hi
      cases hi
    · rw [List.getElem?_set_ne (Ne.symm hij)] at hi
      obtain ⟨a', g1, g2⟩ := ra.own i τ' (kil_t.mp hi)
      exact ⟨a', by rw [List.getElem?_set_ne (Ne.symm hij)]; exact g1, g2⟩
  · by_cases hij : i = j
    · subst hij
      rw [List.getElem?_set_self (by rw [kilr, kil_length]; exact hdl)] at hi
      cases hi
    · rw [List.getElem?_set_ne (Ne.symm hij)] at hi
      obtain ⟨g0, gf⟩ := kil_al hi
      obtain ⟨τ', a', b', g1, g2, g3⟩ := ra.ali i j' p' g0
      have hjj : j' ≠ j := by simpa using gf
      exact ⟨τ', a', b', by rw [List.getElem?_set_ne (Ne.symm hjj)]; exact kil_t.mpr g1, by rw [List.getElem?_set_ne (Ne.symm hjj)]; exact g2, g3⟩
theorem takeM_ok (r : R K M S H δ) : ∀ {bs : List Bool} {rs : List Arg} {us : List V} {os : List (Option (Nat × T))} {δ' : Env}, takeM δ bs rs = some (os, δ') → ArgsOk K M S rs us → ∃ β, RB K M S H δ' β ∧ AM S os us β
  | [], [], us, os, δ', h, ok => by cases h; cases ok; exact ⟨[], r, .nil⟩
  | false :: bs, x :: rs, us, os, δ', h, ⟨v, q, h1, h2, h3⟩ => by
    subst h1
    simp only [takeM] at h
    cases e : takeM δ bs rs with
    | none => rw [e] at h; cases h
    | some w =>
      rw [e] at h
      cases h
      obtain ⟨β, r1, am⟩ := takeM_ok r e h3
      exact ⟨β, r1, .skip am⟩
  | true :: bs, x :: rs, us, os, δ', h, ⟨v, q, h1, h2, h3⟩ => by
    subst h1
    simp only [takeM] at h
    cases e : takeM δ bs rs with
    | none => rw [e] at h; cases h
    | some w =>
      rw [e] at h
      simp only [Option.bind_some] at h
      obtain ⟨β, r1, am⟩ := takeM_ok r e h3
      cases ep : plA w.2 x with
      | none => rw [ep] at h; cases h
      | some jp =>
        obtain ⟨j, p⟩ := jp
        rw [ep] at h
        simp only [Option.bind_some] at h
        split at h
        · rename_i hp
          have hp : p = [] := hp
          subst hp
          cases et : tree w.2 j with
          | none => rw [et] at h; cases h
          | some τ =>
            rw [et] at h
            simp only [Option.bind_some] at h
            split at h
            · cases h
            · rename_i hf
              cases h
              obtain ⟨a, g1, g2, g3⟩ := r1.takeRoot (tree_eq et) (by simpa using hf)
              cases x with
              | v τ' => cases ep
              | sl k =>
                have ep : look w.2 k = some (j, []) := ep
                have hv : S[k]? = some (some (val a)) := by
                  obtain ⟨α, ra⟩ := r1
                  have hs : sub w.2 j [] = some τ := by simp [sub, et, T.at]
                  obtain ⟨a2, b2, k1, k2, k3, k4, k5, k6, k7⟩ := ra.look ep hs
                  simp only [at'] at k3
                  cases k3
                  obtain ⟨a3, m1, m2, m3⟩ := ra.own j _ k1
                  rw [k2] at m1
                  cases m1
                  rw [g2] at m3
                  rw [k7, m3]
                have h2 : S[k]? = some (some v) := h2
                rw [hv] at h2
                cases h2
                subst g1
                exact ⟨a :: β, g3, .take g2 am⟩
        · cases h
  | [], _ :: _, _, _, _, h, _ => by cases h
  | false :: _, [], _, _, _, h, _ => by cases h
  | true :: _, [], _, _, _, h, _ => by cases h
/-- the callee's own -/
theorem readR_ok {α : List A} (r : RA K M S H δ α β) : ∀ {os : List (Option (Nat × T))} {rs : List Arg} {us : List V} {ts : List T} {γ : List A}, AM S os us γ → HoldL K M H γ → readR δ os rs = some ts → ArgsOk K M S rs us →
    ∃ ζ, erL ζ = ts ∧ ζ.map val = us ∧ (∀ x, ctL ζ x = ctL γ x) ∧ ∀ Mc, Same M Mc → TupK H Mc → (∀ x, 0 < ctL α x → Mc x = H x) → HoldL K Mc H ζ
  | [], [], us, ts, γ, am, hg, h, ok => by
    cases am
    cases h
    exact ⟨[], rfl, rfl, fun _ => rfl, fun _ _ _ _ => trivial⟩
  | some q :: os, x :: rs, us, ts, γ, am, hg, h, ⟨v, w, h1, h2, h3⟩ => by
    cases am with
    | take hs am =>
    rename_i a us γ
    cases h1
    simp only [readR] at h
    cases e : readR δ os rs with
    | none => rw [e] at h; cases h
    | some l =>
      rw [e] at h
      cases h
      obtain ⟨ζ, g1, g2, g3, g4⟩ := readR_ok r am hg.2 e h3
      refine ⟨a :: ζ, by simp only [erL, g1], by simp [g2], fun x => by simp only [ctL, g3], fun Mc c1 c2 c3 => ⟨hg.1.mono c1 TupK.refl fun _ _ => rfl, g4 Mc c1 c2 c3⟩⟩
  | none :: os, x :: rs, us, ts, γ, am, hg, h, ⟨v, w, h1, h2, h3⟩ => by
    cases am with
    | skip am =>
    rename_i u us
    cases h1
    simp only [readR] at h
    cases et : argT δ x with
    | none => rw [et] at h; cases h
    | some τ =>
      rw [et] at h
      simp only [Option.bind_some] at h
      cases e : readR δ os rs with
      | none => rw [e] at h; cases h
      | some l =>
        rw [e] at h
        cases h
        obtain ⟨ζ, g1, g2, g3, g4⟩ := readR_ok r am hg e h3
        refine ⟨.lf (EV.fz τ) v :: ζ, by simp only [erL, er, g1], by simp [val, g2], fun x => by simp only [ctL, ct, g3]; omega, fun Mc c1 c2 c3 => ⟨?_, g4 Mc c1 c2 c3⟩⟩
        show Rp K Mc (EV.fz τ) v
        cases x with
        | v τ' =>
          cases et
          rw [Rp.fz h2]
          exact Rp.mono c1 h2
        | sl k =>
          simp only [argT] at et
          cases el : look δ k with
          | none => rw [el] at et; cases et
          | some jp =>
            obtain ⟨j, p⟩ := jp
            rw [el] at et
            obtain ⟨a2, b2, k1, k2, k3, k4, k5, k6, k7⟩ := r.look el et
            have h2 : S[k]? = some (some v) := h2
            rw [k7] at h2
            cases h2
            subst k4
            refine Hold.fz c1 c2 (fun x hx => c3 x ?_) k6
            have := ct_at (x := x) k3
            have := ctL_pos (x := x) (List.mem_of_getElem? k2)
            omega
  | [], _ :: _, _, _, _, _, _, h, _ => by cases h
  | some _ :: _, [], _, _, _, _, _, h, _ => by cases h
  | none :: _, [], _, _, _, _, _, h, _ => by cases h
/-! ### what comes back -/
/-- behind the call: what a slot holds that was taken out -/
def noAl (j : Nat) (δ : Env) : Bool := δ.all fun o => match o with
  | some (.al i _) => !(i == j)
  | _ => true
def reAl (δ0 : Env) (j : Nat) : Env → Env := List.zipWith (fun o x => match o, x with
  | some (.al i []), none => if i = j then some (.al j []) else none
  | _, x => x) δ0
def isNo (δ : Env) (j : Nat) : Bool := match δ[j]? with
  | some none => true
  | _ => false
def putBack (δ0 : Env) : List (Option (Nat × T)) → List T → Env → Option Env
  | [], [], δ => some δ
  | none :: os, _ :: ts, δ => putBack δ0 os ts δ
  | some q :: os, t :: ts, δ => if isNo δ q.1 = true ∧ noAl q.1 δ = true then putBack δ0 os ts (reAl δ0 q.1 (δ.set q.1 (some (.t t)))) else none
  | _, _, _ => none
theorem noAl_ok {i j : Nat} {p : List Nat} (h : noAl j δ = true) (hi : δ[i]? = some (some (.al j p))) : False := by
  have := List.all_eq_true.mp h _ (List.mem_of_getElem? hi)
  simp at this
theorem RB.restore {j : Nat} {a : A} (r : RB K M S H δ (a :: β)) (hj : δ[j]? = some none) (hn : noAl j δ = true) (hs : S[j]? = some (some (val a))) : RB K M S H (δ.set j (some (.t (er a)))) β := by
  obtain ⟨α, r⟩ := r
  have hdl := (List.getElem?_eq_some_iff.mp hj).1
  have hal : j < α.length := by have := r.la; omega
  have hai : α[j]? = some α[j] := List.getElem?_eq_getElem hal
  refine ⟨α.set j a, r.ex, by simp [r.ls], by simp [r.la], fun x => ?_, fun x hx => r.nm x ?_, HoldL_set r.ho r.hb.1, r.hb.2, fun k τ h => ?_, fun k j' p h => ?_⟩
  · have := ctL_set (t' := a) (x := x) hai
    have := r.un x
    simp only [ctL] at this
    omega
  · have := ctL_set (t' := a) (x := x) hai
    simp only [ctL]
    omega
  · by_cases hk : k = j
    · subst hk
      rw [List.getElem?_set_self hdl] at h
      cases h
      exact ⟨a, List.getElem?_set_self hal, rfl, hs⟩
    · rw [List.getElem?_set_ne (Ne.symm hk)] at h
      obtain ⟨b, h1, h2⟩ := r.own k τ h
      exact ⟨b, by rw [List.getElem?_set_ne (Ne.symm hk)]; exact h1, h2⟩
  · by_cases hk : k = j
    · subst hk
      rw [List.getElem?_set_self hdl] at h
      cases h
    · rw [List.getElem?_set_ne (Ne.symm hk)] at h
      by_cases hj' : j' = j
      · subst hj'
        exact (noAl_ok hn h).elim
      · obtain ⟨τ, b, c, h1, h2, h3⟩ := r.ali k j' p h
        exact ⟨τ, b, c, by rw [List.getElem?_set_ne (Ne.symm hj')]; exact h1, by rw [List.getElem?_set_ne (Ne.symm hj')]; exact h2, h3⟩
theorem reAl_get {δ0 : Env} {j i : Nat} {o : Option Sl} (h : (reAl δ0 j δ)[i]? = some o) : δ[i]? = some o ∨ (δ0[i]? = some (some (.al j [])) ∧ o = some (.al j []) ∧ δ[i]? = some none) := by
  unfold reAl at h
  rw [List.getElem?_zipWith] at h
  cases e0 : δ0[i]? with
  | none => rw [e0] at h; simp at h
  | some x =>
    cases e1 : δ[i]? with
    | none => rw [e0, e1] at h; simp at h
    | some y =>
      rw [e0, e1] at h
      simp only [Option.some.injEq] at h
      split at h
      · split at h
        · rename_i hi
          subst hi
          exact .inr ⟨rfl, h.symm, rfl⟩
        · exact .inl (by rw [h])
      · exact .inl (by rw [h])
theorem reAl_t {δ0 : Env} {j i : Nat} {τ : T} (hl : δ.length = δ0.length) (h : δ[i]? = some (some (.t τ))) : (reAl δ0 j δ)[i]? = some (some (.t τ)) := by
  have hi := (List.getElem?_eq_some_iff.mp h).1
  unfold reAl
  rw [List.getElem?_zipWith, h, List.getElem?_eq_getElem (by omega : i < δ0.length)]
  simp
theorem reAl_length {δ0 : Env} {j : Nat} (hl : δ.length = δ0.length) : (reAl δ0 j δ).length = δ.length := by simp [reAl, hl]
theorem RB.reAl {δ0 : Env} {j : Nat} {τ : T} (r : RB K M S H δ β) (hl : δ.length = δ0.length) (hj : δ[j]? = some (some (.t τ))) (h0 : ∀ i : Nat, δ0[i]? = some (some (.al j [])) → S[i]? = S[j]?) : RB K M S H (EV.reAl δ0 j δ) β := by
  obtain ⟨α, r⟩ := r
  refine ⟨α, r.ex, r.ls.trans (reAl_length hl).symm, r.la.trans (reAl_length hl).symm, r.un, r.nm, r.ho, r.hb, fun i τ' h => ?_, fun i j' p h => ?_⟩
  · rcases reAl_get h with q | ⟨_, q, _⟩
    · exact r.own i τ' q
    · cases q
  · rcases reAl_get h with q | ⟨q1, q2, _⟩
    · obtain ⟨τ', a, b, h1, h2⟩ := r.ali i j' p q
      exact ⟨τ', a, b, reAl_t hl h1, h2⟩
    · cases q2
      obtain ⟨a, g1, g2, g3⟩ := r.own j τ hj
      exact ⟨τ, a, a, reAl_t hl hj, g1, rfl, by rw [h0 i q1]; exact g3⟩
theorem isNo_eq {j : Nat} (h : isNo δ j = true) : δ[j]? = some none := by
  unfold isNo at h
  split at h
  · assumption
  · cases h
inductive AB (S : L2.St) : List (Option (Nat × T)) → List T → List V → List A → Prop where
  | nil : AB S [] [] [] []
  | skip {os : List (Option (Nat × T))} {t : T} {u : V} {ts : List T} {us : List V} {β : List A} : AB S os ts us β → AB S (none :: os) (t :: ts) (u :: us) β
  | take {os : List (Option (Nat × T))} {j : Nat} {τ : T} {a : A} {ts : List T} {us : List V} {β : List A} : S[j]? = some (some (val a)) → AB S os ts us β → AB S (some (j, τ) :: os) (er a :: ts) (val a :: us) (a :: β)
theorem alSame {δ0 : Env} {S : L2.St} (r0 : R K M1 S H' δ0) {i j : Nat} (h : δ0[i]? = some (some (.al j []))) : S[i]? = S[j]? := by
  obtain ⟨α, r⟩ := r0
  obtain ⟨τ, a, b, h1, h2, h3, h4⟩ := r.ali i j [] h
  obtain ⟨a', g1, g2, g3⟩ := r.own j τ h1
  rw [h2] at g1
  cases g1
  simp only [at'] at h3
  cases h3
  rw [h4, g3]
theorem putBack_ok {δ0 : Env} (r0 : R K M1 S H' δ0) {os : List (Option (Nat × T))} {us : List V} {outs : List T} {ζ : List A} (ab : AB S os outs us ζ) : ∀ {δ δ' : Env}, RB K M S H δ (ζ ++ β) → δ.length = δ0.length → putBack δ0 os outs δ = some δ' → RB K M S H δ' β := by
  induction ab with
  | nil => intro δ δ' r hl h; cases h; exact r
  | skip ab ih => intro δ δ' r hl h; exact ih r hl h
  | take hs ab ih =>
    rename_i j τ a ts us β'
    intro δ δ' r hl h
    simp only [putBack] at h
    split at h
    · rename_i hc
      have hj := isNo_eq hc.1
      have r1 : RB K M S H δ (a :: (β' ++ β)) := r
      have r2 := r1.restore hj hc.2 hs
      have hjl := (List.getElem?_eq_some_iff.mp hj).1
      have r3 := r2.reAl (δ0 := δ0) (j := j) (τ := er a) (by simpa using hl) (List.getElem?_set_self hjl) (fun i hi => alSame r0 hi)
      exact ih r3 (by rw [reAl_length (by simpa using hl)]; simpa using hl) h
    · cases h
/-- behind a call, what could be changed -/
theorem outs_of {M2 : Hp} : ∀ {os : List (Option (Nat × T))} {us : List V} {γ : List A}, AM S os us γ → ∀ {outs : List T} {αc : List A}, outs.length = us.length → αc.length = us.length → (∀ (k : Nat) t u, outs[k]? = some t → us[k]? = some u → ∃ a, αc[k]? = some a ∧ er a = t ∧ val a = u) → HoldL K M2 H αc →
    ∃ ζ, AB S os outs us ζ ∧ (∀ x, ctL ζ x ≤ ctL αc x) ∧ HoldL K M2 H ζ
  | _, _, _, .nil, outs, αc, h1, h2, _, _ => by
    cases outs with
    | nil => exact ⟨[], .nil, fun _ => by simp [ctL], trivial⟩
    | cons _ _ => cases h1
  | _, _, _, .skip am, outs, αc, h1, h2, h3, h4 => by
    cases outs with
    | nil => cases h1
    | cons t outs =>
      cases αc with
      | nil => cases h2
      | cons c αc =>
        obtain ⟨ζ, g1, g2, g3⟩ := outs_of am (outs := outs) (αc := αc) (by simpa using h1) (by simpa using h2) (fun k t u a b => by simpa using h3 (k + 1) t u (by simpa using a) (by simpa using b)) h4.2
        exact ⟨ζ, .skip g1, fun x => by have := g2 x; simp only [ctL]; omega, g3⟩
  | _, _, _, .take hs am, outs, αc, h1, h2, h3, h4 => by
    cases outs with
    | nil => cases h1
    | cons t outs =>
      cases αc with
      | nil => cases h2
      | cons c αc =>
        obtain ⟨ζ, g1, g2, g3⟩ := outs_of am (outs := outs) (αc := αc) (by simpa using h1) (by simpa using h2) (fun k t u a b => by simpa using h3 (k + 1) t u (by simpa using a) (by simpa using b)) h4.2
        obtain ⟨c', e1, e2, e3⟩ := h3 0 t _ rfl rfl
        simp only [List.getElem?_cons_zero, Option.some.injEq] at e1
        subst e1
        subst e2
        rw [← e3] at hs ⊢
        exact ⟨c :: ζ, .take hs g1, fun x => by have := g2 x; simp only [ctL]; omega, h4.1, g3⟩
def flatO : List (Option (Nat × T)) → List T → Prop
  | some _ :: os, t :: ts => flat t = true ∧ flatO os ts
  | none :: os, _ :: ts => flatO os ts
  | _, _ => True
theorem flatO_ok {os : List (Option (Nat × T))} {outs : List T} {us : List V} {ζ : List A} (ab : AB S os outs us ζ) (h : flatO os outs) : flatL (erL ζ) = true := by
  induction ab with
  | nil => rfl
  | skip ab ih => exact ih h
  | take hs ab ih =>
    rw [erL, flatL, Bool.and_eq_true]
    exact ⟨h.1, ih h.2⟩
theorem AM.length {os : List (Option (Nat × T))} {us : List V} {γ : List A} (am : AM S os us γ) : os.length = us.length := by
  induction am with
  | nil => rfl
  | skip _ ih => simp [ih]
  | take _ _ ih => simp [ih]
/-- a call, and the way back -/
theorem R.call {bs : List Bool} {rs : List Arg} {us : List V} {os : List (Option (Nat × T))} {δ1 : Env} {ts : List T} (r : R K M S H δ) (ok : ArgsOk K M S rs us) (ht : takeM δ bs rs = some (os, δ1)) (hr : readR δ1 os rs = some ts) :
    ∃ Mc, R K Mc (us.map some) H (ownE ts) ∧ ∀ M' H' outs (β : List A), Same Mc M' → outs.length = ts.length → RB K M' (us.map some) H' (ownE outs) β → flatL (erL β) = true → flatO os outs → ∀ δ2, putBack δ os outs δ1 = some δ2 →
      Same M (TV.tx M H') ∧ RB K (TV.tx M H') S H' δ2 β := by
  obtain ⟨γ, r1, am⟩ := takeM_ok r ht ok
  obtain ⟨α, ra⟩ := r1
  obtain ⟨ζ, z1, z2, z3, z4⟩ := readR_ok ra am ra.hb hr ok
  let Mc : Hp := fun x => if 0 < ctL γ x then none else H x
  have mc0 : ∀ x, 0 < ctL γ x → Mc x = none := fun x hx => if_pos hx
  have mc1 : ∀ x, ctL γ x = 0 → Mc x = H x := fun x hx => if_neg (by omega)
  have s0 : Same Mc H := fun x o h => by
    by_cases hx : 0 < ctL γ x
    · rw [mc0 x hx] at h; cases h
    · rw [mc1 x (by omega)] at h; exact h
  have s1 : Same M Mc := fun x o h => by
    by_cases hx : 0 < ctL γ x
    · have := ra.nm x (by omega)
      rw [h] at this; cases this
    · rw [mc1 x (by omega)]; exact ra.ex x o h
  have tk : TupK H Mc := fun x vs h => by
    rw [mc1 x]
    · exact h
    · refine Nat.eq_zero_of_not_pos fun hx => ?_
      exact HoldL.ntup ra.hb hx h
  have kα : ∀ x, 0 < ctL α x → Mc x = H x := fun x hx => mc1 x (by have := ra.un x; omega)
  have hζ := z4 Mc s1 tk kα
  have hl1 : ζ.length = us.length := by rw [← z2, List.length_map]
  have hl2 : ts.length = us.length := by rw [← z1, erL_length, hl1]
  refine ⟨Mc, ⟨ζ, s0, by simp [ownE, hl2], by simp [ownE, hl1, hl2], fun x => ?_, fun x hx => mc0 x ?_, hζ, trivial, fun i τ h => ?_, fun i j p h => ?_⟩, fun M' H' outs β e hlo r' hf hfo δ2 hb => ?_⟩
  · have := ra.un x; have := z3 x; simp only [ctL]; omega
  · have := z3 x; simp only [ctL] at hx; omega
  · have h1 : ts[i]? = some τ := by
      unfold ownE at h
      rw [List.getElem?_map] at h
      cases e : ts[i]? with
      | none => rw [e] at h; cases h
      | some t => rw [e] at h; cases h; rfl
    rw [← z1, erL_map, List.getElem?_map] at h1
    cases e : ζ[i]? with
    | none => rw [e] at h1; cases h1
    | some a =>
      rw [e] at h1
      refine ⟨a, rfl, Option.some.inj h1, ?_⟩
      rw [List.getElem?_map, ← z2, List.getElem?_map, e]
      rfl
  · unfold ownE at h
    rw [List.getElem?_map] at h
    cases e : ts[i]? with
    | none => rw [e] at h; cases h
    | some t => rw [e] at h; cases h
  · obtain ⟨αc, rc⟩ := r'
    have lo : outs.length = us.length := by omega
    have lc : αc.length = us.length := by have := rc.la; simp [ownE] at this; omega
    obtain ⟨ξ, ab, x1, x2⟩ := outs_of am lo lc (fun k t u ht hu => by
      obtain ⟨a, g1, g2, g3⟩ := rc.own k t (by simp [ownE, ht])
      refine ⟨a, g1, g2, ?_⟩
      rw [List.getElem?_map, hu] at g3
      exact (Option.some.inj (Option.some.inj g3)).symm) rc.ho
    have sMH : Same M H' := s1.trans (e.trans rc.ex)
    have txs := TV.tx_same sMH
    have hM' : ∀ x, 0 < ctL α x → ∃ o, M' x = some o ∧ H' x = H x := fun x hx => by
      obtain ⟨o, ho⟩ := ra.ho.dom hx
      have := kα x hx
      rw [ho] at this
      exact ⟨o, e x o this, by rw [rc.ex x o (e x o this), ho]⟩
    have c0 : ∀ x, 0 < ctL α x → ctL αc x + ctL β x = 0 := fun x hx => by
      obtain ⟨o, ho, _⟩ := hM' x hx
      refine Nat.eq_zero_of_not_pos fun z => ?_
      rw [rc.nm x z] at ho
      cases ho
    have tkH : TupK H H' := fun x vs h => rc.ex x _ (e x _ (tk x vs h))
    refine ⟨txs, putBack_ok r ab (δ := δ1) (β := β) ⟨α, TV.tx_sub sMH, ra.ls, ra.la, fun x => ?_, fun x hx => ?_, ra.ho.mono txs tkH fun x hx => (hM' x hx).choose_spec.2, (HoldL_tx rc.ex (flatO_ok ab hfo) x2).and (HoldL_tx rc.ex hf rc.hb), ra.own, ra.ali⟩ (by rw [← ra.ls, r.ls]) hb⟩
    · rw [ctL_append]
      have := x1 x
      have := rc.un x
      have := ra.un x
      by_cases hx : 0 < ctL α x
      · have := c0 x hx; omega
      · omega
    · rw [ctL_append] at hx
      by_cases hα : 0 < ctL α x
      · obtain ⟨o, ho, hh⟩ := hM' x hα
        rw [tx_at (by rw [hh]; exact ra.ho.isTp hα)]
        exact ra.nm x (by omega)
      · have hx2 : 0 < ctL αc x + ctL β x := by have := x1 x; omega
        have hn := rc.nm x hx2
        have : TV.isTp (H' x) = false := by
          by_cases h3 : 0 < ctL αc x
          · exact rc.ho.isTp h3
          · exact rc.hb.isTp (by omega)
        rw [tx_at this]
        cases em : M x with
        | none => rfl
        | some o => rw [e x o (s1 x o em)] at hn; cases hn
end
end EV

/-! EV12: calls; a def by its body -/
namespace EV
open PySem PySem.Spec PyProof.Rows L2
def MonoC (c : Con') : Prop := ∀ ts (Q Q' : T → List T → Prop) (X X' : Addr → T → List T → Prop), (∀ r o, Q r o → Q' r o) → (∀ C x o, X C x o → X' C x o) → c ts Q X → c ts Q' X'
/-- a contract by a family: what goes in, what it needs, what may come back, what may be raised -/
def specC {ι : Type} (args : ι → List T) (pre : ι → Prop) (post : ι → T → List T → Prop) (px : ι → Addr → T → List T → Prop) : Con' := fun ts Q X => ∃ i, ts = args i ∧ pre i ∧ (∀ r o, post i r o → Q r o) ∧ ∀ C x o, px i C x o → X C x o
theorem specC_mono {ι : Type} {args : ι → List T} {pre : ι → Prop} {post : ι → T → List T → Prop} {px : ι → Addr → T → List T → Prop} : MonoC (specC args pre post px) := fun ts Q Q' X X' hq hx ⟨i, h1, h2, h3, h4⟩ => ⟨i, h1, h2, fun r o h => hq r o (h3 r o h), fun C x o h => hx C x o (h4 C x o h)⟩
structure CalE (P : Program) (w : World) (K : PySem.W.Frag) (mg : Str → Option Value) (base : Heap) (k : Nat) (x : Str) (ps : List Str) (c : Con') : Prop where
  ex : ∃ f fd, FnOk P w K mg base (L2.CX P w) k f fd ps (spX K c) ∧ mg x = some (.ref f) ∧ PySem.W.keepIn K (.ref f) = true ∧ Binds K fd ps []
  mono : MonoC c
structure CalEK (P : Program) (w : World) (K : PySem.W.Frag) (mg : Str → Option Value) (base : Heap) (k : Nat) (x : Str) (ps ks : List Str) (gV : List V → List V → List V) (c : Con') : Prop where
  ex : ∃ f fd g, FnOk P w K mg base (L2.CX P w) k f fd ps (spX K c) ∧ mg x = some (.ref f) ∧ PySem.W.keepIn K (.ref f) = true ∧ KBinds K fd ps ks g gV
  mono : MonoC c
section
variable {X : Cx} {P : Program} {w : World} {K : PySem.W.Frag} {mg : Str → Option Value} {base : Heap} {e : Expr} {es : List Expr} {pos : Pos} {W : WX}
theorem ecl {k m : Nat} {x : Str} {ps : List Str} {c : Con'} {p : Pos} {tx : TA} (C : CalE P w K mg base k x ps c) (tk : Takes X W) (hr : Room m X.A) (hk : k ≤ m) (hg : Gl X x) (ha : PA X (e :: es) tx)
    (hP : X.prog = P := by rfl) (hw : X.w = w := by rfl) (hK : X.K = K := by rfl) (hm : X.mg = mg := by rfl) (hb : X.base = base := by rfl)
    (hdb : (x == ("__debug__" : Str)) = false := by decide) (he : starEach (e :: es) X.env = (false, eval e X.env) :: starEach es X.env := by rfl) (hpl : (backTo pos (starEach es X.env)).any (·.1) = false := by rfl) : PE X (.Call (.Name x p) (e :: es) [] pos) (tCallS (spX K c) (WE W) tx) := by
  subst hP hw hK hm hb
  obtain ⟨f, fd, h, g, kp, b⟩ := C.ex
  exact pe_callS h (hr.mono hk) hg g kp b (fun σ => passAt tk σ) ha hdb he hpl
/-- keywords alone -/
def tCallKS (sp : Sp) (gV : List V → List V → List V) (E : L2.St → XK) (t : TA) : TE := fun σ H Q => t σ H fun zs H1 => sp (gV [] zs) H1 Q (E σ)
theorem eclK {k m : Nat} {x : Str} {ps ks : List Str} {c : Con'} {p : Pos} {tx : TA} {kws : List Keyword} {gV : List V → List V → List V} (C : CalEK P w K mg base k x ps ks gV c) (tk : Takes X W) (hr : Room m X.A) (hk : k ≤ m) (hg : Gl X x) (hkw : PK X kws tx)
    (hP : X.prog = P := by rfl) (hw : X.w = w := by rfl) (hK : X.K = K := by rfl) (hm : X.mg = mg := by rfl) (hb : X.base = base := by rfl)
    (hall : (backToKw pos (keywordEach kws X.env)).all (·.1.isSome) = true := by rfl) (hks : (backToKw pos (keywordEach kws X.env)).filterMap (·.1) = ks := by rfl)
    (hdb : (x == ("__debug__" : Str)) = false := by decide) (hpl : ((backTo pos (starEach [] X.env)).any (·.1) || (backToKw pos (keywordEach kws X.env)).any (·.1.isNone)) = false := by rfl) : PE X (.Call (.Name x p) [] kws pos) (tCallKS (spX K c) gV (WE W) tx) := by
  subst hP hw hK hm hb
  obtain ⟨f, fd, g, h, gm, kp, b⟩ := C.ex
  refine ⟨fun pins s σ H Q I q => ?_⟩
  refine wpAny_Call_Name_kw (ld_glob I hg gm ?_ hdb)
  refine PySem.W.callWith_KW0 (h₀ := X.base) I.ok.mod.kin kp hall (thn (hkw.run pos pins s σ H _ I q) fun ws s2 ⟨zs, H2, I2, rz, q2⟩ => ⟨I2.kIn, ?_⟩) hpl
  rw [hks]
  have r2 := b.rel (Paired.nil : Vals [] []) rz
  have hl : (g [] ws).length = ps.length := by rw [← r2.length]; exact h.len _ _ _ _ q2
  refine wpAny_call (codeAny_mono ((h.mono hk).run X.A X.stack s2 H2 ⟨[], ks.zip ws⟩ (g [] ws) (gV [] zs) Q (WE W σ) hr I2.env0 (b.to s2 [] ws I2.kIn hl) r2 q2) fun r s' hq => ?_)
  cases r with
  | error e => exact passAt tk σ pins H2 s2 e s' I2 hq
  | ok fl =>
    cases fl with
    | ret u => exact I2.after hq
    | next => exact False.elim hq
    | brk => exact False.elim hq
    | cont => exact False.elim hq
end
def callQ (c : Con') (bs : List Bool) (δ : Env) (rs : List Arg) (Q : EK) (X : XK') : Prop := opt (takeM δ bs rs) fun q => opt (readR q.2 q.1 rs) fun ts =>
  c ts (fun r o => flat r = true ∧ flatO q.1 o ∧ opt (putBack δ q.1 o q.2) fun δ2 => retQ δ2 r Q) (fun C x o => (isF x = true ∧ flat x = true) ∧ flatO q.1 o ∧ opt (putBack δ q.1 o q.2) fun δ2 => X C x δ2)
def wCall (c : Con') (bs : List Bool) (wa : WA') : WE' := fun n δ Q X => wa n δ (fun rs δ1 => callQ c bs δ1 rs Q X) X
section
variable {N : Nat} {K : PySem.W.Frag} {W : WX} {M M' M1 H H' : Hp} {σ S S1 : L2.St} {δ δ' : Env} {α β γ : List A} {Q : EK} {X : XK'} {Qm : VK}
theorem putBack_len {δ0 : Env} : ∀ {os : List (Option (Nat × T))} {outs : List T} {δ δ' : Env}, putBack δ0 os outs δ = some δ' → outs.length = os.length
  | [], [], _, _, _ => rfl
  | none :: os, _ :: ts, δ, δ', h => by simp only [putBack] at h; simp [putBack_len h]
  | some q :: os, t :: ts, δ, δ', h => by
    simp only [putBack] at h
    split at h
    · simp [putBack_len h]
    · cases h
  | [], _ :: _, _, _, h => by cases h
  | none :: _, [], _, _, h => by cases h
  | some _ :: _, [], _, _, h => by cases h
theorem readR_len : ∀ {os : List (Option (Nat × T))} {rs : List Arg} {ts : List T}, readR δ os rs = some ts → ts.length = os.length
  | [], [], _, h => by cases h; rfl
  | some q :: os, _ :: rs, ts, h => by
    simp only [readR] at h
    cases e : readR δ os rs with
    | none => rw [e] at h; cases h
    | some l => rw [e] at h; cases h; simp [readR_len e]
  | none :: os, x :: rs, ts, h => by
    simp only [readR] at h
    cases et : argT δ x with
    | none => rw [et] at h; cases h
    | some τ =>
      rw [et] at h
      simp only [Option.bind_some] at h
      cases e : readR δ os rs with
      | none => rw [e] at h; cases h
      | some l => rw [e] at h; cases h; simp [readR_len e]
  | [], _ :: _, _, h => by cases h
  | some _ :: _, [], _, h => by cases h
  | none :: _, [], _, h => by cases h
theorem call_ok {c : Con'} {bs : List Bool} {rs : List Arg} {us : List V} (hm : MonoC c) (r : R K M S H δ) (ok : ArgsOk K M S rs us) (h : callQ c bs δ rs Q X) (hn : NC K M S Q Qm) (hx : XC K W σ M S X) : spX K c us H Qm (WE W σ) := by
  obtain ⟨⟨os, δ1⟩, ht, h⟩ := opt_elim h
  obtain ⟨ts, hr, h⟩ := opt_elim h
  obtain ⟨Mc, rc, back⟩ := R.call r ok ht hr
  have hl := readR_len hr
  refine ⟨Mc, ts, rc, hm ts _ _ _ _ (fun τ o hq => ?_) (fun C x o hq => ?_) h⟩
  · obtain ⟨hf, hfo, hq⟩ := hq
    obtain ⟨δ2, hp, q⟩ := opt_elim hq
    refine ⟨(putBack_len hp).trans hl.symm, fun M' H' a e rb ea => ?_⟩
    subst ea
    obtain ⟨s2, r2⟩ := back M' H' o [a] e ((putBack_len hp).trans hl.symm) rb (by simp only [erL, flatL, hf, Bool.and_self]) hfo δ2 hp
    exact (hn.on s2 Pre.refl).ret r2 q
  · obtain ⟨⟨hfx, hf⟩, hfo, hq⟩ := hq
    obtain ⟨δ2, hp, q⟩ := opt_elim hq
    refine ⟨(putBack_len hp).trans hl.symm, fun M' H' u d e rr rp hd => ?_⟩
    obtain ⟨s2, r2⟩ := back M' H' o [.lf x u] e ((putBack_len hp).trans hl.symm) (RB.float (β := []) rr rp) (by simp only [erL, er, flatL, hf, Bool.and_self]) hfo δ2 hp
    exact hx _ H' C x u d δ2 S s2 Pre.refl (RB.drop1 (β := []) r2) (RB.holds r2).1 hd q
theorem se_call {c : Con'} {bs : List Bool} {tx : TA} {wa : WA'} (hm : MonoC c) (ha : SA N K W tx wa) : SE N K W (tCallS (spX K c) (WE W) tx) (wCall c bs wa) := fun n δ Q X h M σ S H r hN p Qm hn hx =>
  ha n δ _ X h M σ S H r hN p _ (fun M1 us H1 rs δ1 S1 e1 p1 r1 o1 h1 => call_ok hm r1 o1 h1 (hn.on e1 p1) (hx.on e1 p1)) hx
/-- the arguments of a call by keywords, in the parameters' order -/
def pickA (rs : List Arg) (perm : List Nat) : List Arg := perm.filterMap fun i => rs[i]?
def wCallK (c : Con') (bs : List Bool) (m : Nat) (perm : List Nat) (wa : WA') : WE' := fun n δ Q X => wa n δ (fun rs δ1 => rs.length = m ∧ callQ c bs δ1 (pickA rs perm) Q X) X
theorem ArgsOk.length : ∀ {rs : List Arg} {vs : List V}, ArgsOk K M S rs vs → vs.length = rs.length
  | [], _, h => by cases h; rfl
  | _ :: _, _, ⟨v, q, h1, h2, h3⟩ => by subst h1; simp [ArgsOk.length h3]
theorem ArgsOk.get : ∀ {rs : List Arg} {vs : List V} {i : Nat} {r : Arg}, ArgsOk K M S rs vs → rs[i]? = some r → ∃ v, vs[i]? = some v ∧ ArgOk K M S r v
  | [], _, i, _, _, h => by simp at h
  | _ :: _, _, 0, _, ⟨v, q, h1, h2, h3⟩, h => by subst h1; simp at h; subst h; exact ⟨v, rfl, h2⟩
  | _ :: _, _, i + 1, _, ⟨v, q, h1, h2, h3⟩, h => by subst h1; simpa using ArgsOk.get h3 (by simpa using h)
theorem pick_ok {rs : List Arg} {vs : List V} (h : ArgsOk K M S rs vs) : ∀ perm : List Nat, ArgsOk K M S (pickA rs perm) (perm.filterMap fun i => vs[i]?)
  | [] => rfl
  | i :: r => by
    have ih := pick_ok h r
    unfold pickA at ih ⊢
    cases e : rs[i]? with
    | none =>
      have : vs[i]? = none := by
        have := h.length
        rw [List.getElem?_eq_none_iff] at e ⊢
        omega
      rw [List.filterMap_cons, List.filterMap_cons, e, this]
      exact ih
    | some a =>
      obtain ⟨v, hv, ok⟩ := h.get e
      rw [List.filterMap_cons, List.filterMap_cons, e, hv]
      exact ⟨v, _, rfl, ok, ih⟩
theorem se_callK {c : Con'} {bs : List Bool} {m : Nat} {perm : List Nat} {tx : TA} {wa : WA'} (hm : MonoC c) (ha : SA N K W tx wa) : SE N K W (tCallKS (spX K c) (TV.gK m perm) (WE W) tx) (wCallK c bs m perm wa) := fun n δ Q X h M σ S H r hN p Qm hn hx =>
  ha n δ _ X h M σ S H r hN p _ (fun M1 us H1 rs δ1 S1 e1 p1 r1 o1 h1 => by
    have : TV.gK m perm ([] : List V) us = perm.filterMap fun i => us[i]? := by
      unfold TV.gK
      rw [if_pos ⟨rfl, o1.length.trans h1.1⟩]
    show spX K c (TV.gK m perm [] us) H1 Qm _
    rw [this]
    exact call_ok hm r1 (pick_ok o1 perm) h1.2 (hn.on e1 p1) (hx.on e1 p1)) hx
/-! ### a def by its body -/
def okA : List Bool → List T → Bool
  | [], [] => true
  | b :: bs, t :: ts => (isF t != b) && okA bs ts
  | _, _ => false
/-- what may be changed stands above, the parameter names it -/
def pinP : Nat → List Bool → Env → Env
  | _, [], δ => δ
  | k, false :: bs, δ => pinP (k + 1) bs δ
  | k, true :: bs, δ => match tree δ k with
    | some τ => pinP (k + 1) bs ((((kilr k δ).set k none) ++ [some (Sl.t τ)]).set k (some (Sl.al δ.length [])))
    | none => pinP (k + 1) bs δ
def startE (n : Nat) (bs : List Bool) (ts : List T) : Env := pinP 0 bs (ownE ts ++ List.replicate n none)
def outsE (δ : Env) : Nat → List Bool → List T → Option (List T)
  | _, [], [] => some []
  | k, false :: bs, t :: ts => (outsE δ k bs ts).map (t :: ·)
  | k, true :: bs, _ :: ts => (tree δ k).bind fun t => (outsE δ (k + 1) bs ts).map (t :: ·)
  | _, _, _ => none
theorem RB.pushN (r : RB K M S H δ β) : ∀ n : Nat, RB K M (S ++ List.replicate n none) H (δ ++ List.replicate n none) β := fun n => by
  obtain ⟨α, r⟩ := r
  have hz : ∀ (n : Nat) (x : Addr), ctL (List.replicate n (A.lf .non .non)) x = 0 := fun n x => by
    induction n with
    | zero => rfl
    | succ n ih => rw [List.replicate_succ]; simp only [ctL, ct, ih]
  have nn : ∀ (i : Nat) (t : Sl), (δ ++ List.replicate n none)[i]? = some (some t) → δ[i]? = some (some t) := fun i t h => by
    by_cases hi : i < δ.length
    · rwa [List.getElem?_append_left hi] at h
    · rw [List.getElem?_append_right (by omega), List.getElem?_replicate] at h
      split at h <;> cases h
  refine ⟨α ++ List.replicate n (.lf .non .non), r.ex, by simp [r.ls], by simp [r.la], fun x => ?_, fun x hx => r.nm x ?_, ?_, r.hb, fun i τ h => ?_, fun i j p h => ?_⟩
  · rw [ctL_append, hz]; exact r.un x
  · rw [ctL_append, hz] at hx; exact hx
  · have := r.ho
    rw [HoldL_iff] at this ⊢
    intro t ht
    rcases List.mem_append.mp ht with q | q
    · exact this t q
    · rw [(List.mem_replicate.mp q).2]; exact rfl
  · obtain ⟨a, h1, h2, h3⟩ := r.own i τ (nn i _ h)
    exact ⟨a, get_left h1, h2, get_left h3⟩
  · obtain ⟨τ, a, b, h1, h2, h3, h4⟩ := r.ali i j p (nn i _ h)
    exact ⟨τ, a, b, get_left h1, get_left h2, h3, get_left h4⟩
theorem RB.alias {i j : Nat} {τ : T} (r : RB K M S H δ β) (hi : δ[i]? = some none) (hj : δ[j]? = some (some (.t τ))) (hs : S[i]? = S[j]?) : RB K M S H (δ.set i (some (.al j []))) β := by
  obtain ⟨α, r⟩ := r
  have hil := (List.getElem?_eq_some_iff.mp hi).1
  have hij : i ≠ j := by rintro rfl; rw [hi] at hj; cases hj
  have kt : ∀ (k : Nat) τ', δ[k]? = some (some (.t τ')) → (δ.set i (some (.al j [])))[k]? = some (some (.t τ')) := fun k τ' h => by
    rw [List.getElem?_set_ne]
    · exact h
    · rintro rfl; rw [hi] at h; cases h
  refine ⟨α, r.ex, by simp [r.ls], by simp [r.la], r.un, r.nm, r.ho, r.hb, fun k τ' h => ?_, fun k j' p h => ?_⟩
  · by_cases hk : k = i
    · subst hk; rw [List.getElem?_set_self hil] at h; cases h
    · rw [List.getElem?_set_ne (Ne.symm hk)] at h
      exact r.own k τ' h
  · by_cases hk : k = i
    · subst hk
      rw [List.getElem?_set_self hil] at h
      cases h
      obtain ⟨a, g1, g2, g3⟩ := r.own j τ hj
      exact ⟨τ, a, a, kt j τ hj, g1, rfl, by rw [hs]; exact g3⟩
    · rw [List.getElem?_set_ne (Ne.symm hk)] at h
      obtain ⟨τ', a, b, h1, h2⟩ := r.ali k j' p h
      exact ⟨τ', a, b, kt j' τ' h1, h2⟩
def PinOk (S : L2.St) : Nat → List Bool → List V → Prop
  | _, [], [] => True
  | k, false :: bs, _ :: us => PinOk S k bs us
  | k, true :: bs, u :: us => S[k]? = some (some u) ∧ PinOk S (k + 1) bs us
  | _, _, _ => False
theorem PinOk.app {ρ : L2.St} : ∀ {k : Nat} {bs : List Bool} {us : List V}, PinOk S k bs us → PinOk (S ++ ρ) k bs us
  | _, [], [], _ => trivial
  | k, false :: bs, _ :: us, h => PinOk.app (k := k) (bs := bs) (us := us) h
  | k, true :: bs, u :: us, h => ⟨get_left h.1, PinOk.app h.2⟩
  | _, [], _ :: _, h => h.elim
  | _, false :: _, [], h => h.elim
  | _, true :: _, [], h => h.elim
theorem PinOk.hi {τs σ' : L2.St} (hl : σ'.length = σ.length) : ∀ {k : Nat} {bs : List Bool} {us : List V}, σ.length ≤ k → PinOk (σ ++ τs) k bs us → PinOk (σ' ++ τs) k bs us
  | _, [], [], _, _ => trivial
  | k, false :: bs, _ :: us, hk, h => PinOk.hi (k := k) (bs := bs) (us := us) hl hk h
  | k, true :: bs, u :: us, hk, h => ⟨hiGet h.1 hk hl, PinOk.hi hl (by omega) h.2⟩
  | _, [], _ :: _, _, h => h.elim
  | _, false :: _, [], _, h => h.elim
  | _, true :: _, [], _, h => h.elim
theorem tree_of {j : Nat} {τ : T} (h : δ[j]? = some (some (.t τ))) : tree δ j = some τ := by unfold tree; rw [h]
theorem pinP_ok : ∀ {bs : List Bool} {us : List V} {k : Nat} {S : L2.St} {δ : Env}, R K M S H δ → (∀ (i : Nat) u, us[i]? = some u → S[k + i]? = some (some u)) → bs.length = us.length → (∀ i : Nat, bs[i]? = some true → ∃ τ, δ[k + i]? = some (some (.t τ)) ∧ isF τ = false) →
    ∃ ρ, R K M (S ++ ρ) H (pinP k bs δ) ∧ PinOk (S ++ ρ) S.length bs us
  | [], us, k, S, δ, r, hs, hl, ht => by
    cases us with
    | nil => exact ⟨[], by simpa [pinP] using r, trivial⟩
    | cons _ _ => cases hl
  | false :: bs, us, k, S, δ, r, hs, hl, ht => by
    cases us with
    | nil => cases hl
    | cons u us =>
      exact pinP_ok (bs := bs) (us := us) (k := k + 1) r (fun i v h => by rw [show k + 1 + i = k + (i + 1) by omega]; exact hs (i + 1) v (by simpa using h)) (by simpa using hl) (fun i h => by rw [show k + 1 + i = k + (i + 1) by omega]; exact ht (i + 1) (by simpa using h))
  | true :: bs, us, k, S, δ, r, hs, hl, ht => by
    cases us with
    | nil => cases hl
    | cons u us =>
      obtain ⟨τ, hk, hf⟩ := ht 0 rfl
      have hk : δ[k]? = some (some (.t τ)) := hk
      obtain ⟨a, g1, g2, r1⟩ := RB.takeRoot (β := []) r hk hf
      have hu : S[k]? = some (some u) := hs 0 u rfl
      rw [hu] at g2
      have eu : u = val a := Option.some.inj (Option.some.inj g2)
      have r2 := RB.push (β := []) r1
      have hkl := (List.getElem?_eq_some_iff.mp hk).1
      have hl0 : ((kilr k δ).set k none).length = δ.length := by simp [kilr, kil_length]
      have hSl : S.length = δ.length := r.ls
      have r3 := RB.alias (i := k) (j := δ.length) (τ := er a) r2 (by rw [List.getElem?_append_left (by rw [hl0]; exact hkl), List.getElem?_set_self (by simp [kilr, kil_length]; exact hkl)]) (by rw [← hl0]; exact get_top) (by rw [get_left hu, ← hSl, get_top, eu])
      have hd : pinP k (true :: bs) δ = pinP (k + 1) bs ((((kilr k δ).set k none) ++ [some (Sl.t τ)]).set k (some (Sl.al δ.length []))) := by
        simp only [pinP, tree_of hk]
      rw [g1] at r3
      rw [hd]
      obtain ⟨ρ, r4, p4⟩ := pinP_ok (bs := bs) (us := us) (k := k + 1) r3 (fun i v h => by
        rw [show k + 1 + i = k + (i + 1) by omega]
        exact get_left (hs (i + 1) v (by simpa using h))) (by simpa using hl) (fun i h => by
        obtain ⟨τ', h1, h2⟩ := ht (i + 1) (by simpa using h)
        refine ⟨τ', ?_, h2⟩
        rw [show k + 1 + i = k + (i + 1) by omega, List.getElem?_set_ne (by omega)]
        refine get_left ?_
        rw [List.getElem?_set_ne (by omega)]
        exact kil_t.mpr h1)
      refine ⟨[some (val a)] ++ ρ, by rw [← List.append_assoc]; exact r4, ?_⟩
      rw [← List.append_assoc]
      refine ⟨?_, ?_⟩
      · rw [eu]; exact get_left get_top
      · have : (S ++ [some (val a)]).length = S.length + 1 := by simp
        rw [this] at p4
        exact p4
def RdOk (K : PySem.W.Frag) (M : Hp) : List Bool → List T → List V → Prop
  | [], [], [] => True
  | true :: bs, _ :: ts, _ :: us => RdOk K M bs ts us
  | false :: bs, t :: ts, u :: us => Rp K M t u ∧ RdOk K M bs ts us
  | _, _, _ => False
theorem RdOk.mono (e : Same M M') : ∀ {bs : List Bool} {ts : List T} {us : List V}, RdOk K M bs ts us → RdOk K M' bs ts us
  | [], [], [], _ => trivial
  | true :: bs, _ :: ts, _ :: us, h => RdOk.mono e (bs := bs) (ts := ts) (us := us) h
  | false :: bs, t :: ts, u :: us, h => ⟨Rp.mono e h.1, RdOk.mono e h.2⟩
  | [], _ :: _, _, h => by cases h
  | [], [], _ :: _, h => by cases h
  | true :: _, [], _, h => by cases h
  | true :: _, _ :: _, [], h => by cases h
  | false :: _, [], _, h => by cases h
  | false :: _, _ :: _, [], h => by cases h
theorem RB.rot' {a : A} (r : RB K M S H δ (a :: β)) : RB K M S H δ (β ++ [a]) := by
  obtain ⟨α, r⟩ := r
  refine ⟨α, r.ex, r.ls, r.la, fun x => ?_, fun x hx => r.nm x ?_, r.ho, ?_, r.own, r.ali⟩
  · have := r.un x; simp only [ctL_append, ctL] at this ⊢; omega
  · simp only [ctL_append, ctL] at hx ⊢; omega
  · have := r.hb
    rw [HoldL_iff] at this ⊢
    intro t ht
    exact this t (by simp at ht ⊢; rcases ht with h | h <;> simp [h])
theorem outsE_congr {δ1 δ2 : Env} : ∀ {bs : List Bool} {ts : List T} {k : Nat}, (∀ j, k ≤ j → tree δ1 j = tree δ2 j) → outsE δ1 k bs ts = outsE δ2 k bs ts
  | [], [], _, _ => rfl
  | false :: bs, t :: ts, k, h => by simp only [outsE, outsE_congr (bs := bs) (ts := ts) (k := k) h]
  | true :: bs, t :: ts, k, h => by simp only [outsE, h k (Nat.le_refl _), outsE_congr (bs := bs) (ts := ts) (k := k + 1) fun j hj => h j (by omega)]
  | [], _ :: _, _, _ => rfl
  | false :: _, [], _, _ => rfl
  | true :: _, [], _, _ => rfl
theorem gatherP : ∀ {bs : List Bool} {ts outs : List T} {us : List V} {k : Nat} {δ : Env} {β : List A}, RB K M S H δ β → PinOk S k bs us → outsE δ k bs ts = some outs → RdOk K M bs ts us → ∃ δ'' as, RB K M S H δ'' (β ++ as) ∧ erL as = outs ∧ as.map val = us
  | [], [], outs, [], k, δ, β, r, _, h, _ => by cases h; exact ⟨δ, [], by simpa using r, rfl, rfl⟩
  | false :: bs, t :: ts, outs, u :: us, k, δ, β, r, hp, h, hr => by
    simp only [outsE] at h
    cases e : outsE δ k bs ts with
    | none => rw [e] at h; cases h
    | some l =>
      rw [e] at h
      cases h
      obtain ⟨δ2, as, r2, g1, g2⟩ := gatherP (bs := bs) (us := us) (r.float hr.1) hp e hr.2
      exact ⟨δ2, .lf t u :: as, by simpa [List.append_assoc] using r2, by simp only [erL, er, g1], by simp [val, g2]⟩
  | true :: bs, t :: ts, outs, u :: us, k, δ, β, r, hp, h, hr => by
    simp only [outsE] at h
    cases et : tree δ k with
    | none => rw [et] at h; cases h
    | some τ =>
      rw [et] at h
      simp only [Option.bind_some] at h
      cases e : outsE δ (k + 1) bs ts with
      | none => rw [e] at h; cases h
      | some l =>
        rw [e] at h
        cases h
        have hk := tree_eq et
        cases hf : isF τ with
        | true =>
          have ok : ArgOk K M S (.sl k) u := hp.1
          have ht : argT δ (.sl k) = some τ := by simp [argT, look, hk, sub, et, T.at]
          obtain ⟨δ2, as, r2, g1, g2⟩ := gatherP (r.float (r.flat ht hf ok)) hp.2 e hr
          exact ⟨δ2, .lf τ u :: as, by simpa [List.append_assoc] using r2, by simp only [erL, er, g1], by simp [val, g2]⟩
        | false =>
          obtain ⟨a, g1, g2, r1⟩ := r.takeRoot hk hf
          rw [hp.1] at g2
          have eu : u = val a := Option.some.inj (Option.some.inj g2)
          have e2 : outsE ((kilr k δ).set k none) (k + 1) bs ts = some l := by
            rw [← e]
            refine outsE_congr fun j hj => ?_
            unfold tree
            rw [List.getElem?_set_ne (by omega)]
            cases ed : δ[j]? with
            | none => 
              have : (kilr k δ)[j]? = none := by
                rw [List.getElem?_eq_none_iff] at ed ⊢
                rw [kilr, kil_length]; exact ed
              rw [this]
            | some o =>
              unfold kilr kil
              rw [List.getElem?_map, ed]
              cases o with
              | none => rfl
              | some s => cases s with
                | t _ => rfl
                | al i p => simp only [Option.map_some]; split <;> simp_all
          obtain ⟨δ2, as, r2, k1, k2⟩ := gatherP r1.rot' hp.2 e2 hr
          exact ⟨δ2, a :: as, by simpa [List.append_assoc] using r2, by simp only [erL, g1, k1], by simp [eu, k2]⟩
  | [], [], _, _ :: _, _, _, _, _, hp, _, _ => hp.elim
  | [], _ :: _, _, _, _, _, _, _, _, h, _ => by cases h
  | false :: _, [], _, _, _, _, _, _, _, h, _ => by cases h
  | true :: _, [], _, _, _, _, _, _, _, h, _ => by cases h
  | false :: _, _ :: _, _, [], _, _, _, _, hp, _, _ => hp.elim
  | true :: _, _ :: _, _, [], _, _, _, _, hp, _, _ => hp.elim
theorem finish_ok {bs : List Bool} {ts outs : List T} {us : List V} {k : Nat} (r : RB K M S H δ β) (hp : PinOk S k bs us) (h : outsE δ k bs ts = some outs) (hr : RdOk K M bs ts us) : RB K M (us.map some) H (ownE outs) β := by
  obtain ⟨δ2, as, r2, g1, g2⟩ := gatherP r hp h hr
  have r3 : RB K M ([] ++ S) H δ2 (β ++ as) := r2
  have r4 := RB.pushes r3.cut
  have e1 : tk ([] : L2.St).length δ2 = [] := by simp [tk, kil]
  rw [e1, g1] at r4
  have e2 : ([] : L2.St) ++ as.map (fun a => some (val a)) = us.map some := by rw [← g2]; simp
  rw [e2] at r4
  simpa [ownE] using r4
theorem okA_len : ∀ {bs : List Bool} {ts : List T}, okA bs ts = true → bs.length = ts.length
  | [], [], _ => rfl
  | b :: bs, t :: ts, h => by
    simp only [okA, Bool.and_eq_true] at h
    simp [okA_len h.2]
  | [], _ :: _, h => by cases h
  | _ :: _, [], h => by cases h
theorem okA_get : ∀ {bs : List Bool} {ts : List T} {i : Nat} {b : Bool}, okA bs ts = true → bs[i]? = some b → ∃ t, ts[i]? = some t ∧ isF t = !b
  | b :: bs, t :: ts, 0, c, h, g => by
    simp only [okA, Bool.and_eq_true] at h
    simp at g
    subst g
    refine ⟨t, rfl, ?_⟩
    cases b <;> cases e : isF t <;> simp_all
  | b :: bs, t :: ts, i + 1, c, h, g => by
    simp only [okA, Bool.and_eq_true] at h
    simpa using okA_get h.2 (by simpa using g)
  | [], _, i, _, h, g => by simp at g
  | _ :: _, [], _, _, h, _ => by cases h
theorem RdOk_of : ∀ {bs : List Bool} {ts : List T} {us : List V}, okA bs ts = true → ts.length = us.length → (∀ (i : Nat) t u, ts[i]? = some t → us[i]? = some u → isF t = true → Rp K M t u) → RdOk K M bs ts us
  | [], [], [], _, _, _ => trivial
  | true :: bs, t :: ts, u :: us, h, hl, g => by
    simp only [okA, Bool.and_eq_true] at h
    exact RdOk_of (bs := bs) h.2 (by simpa using hl) fun i t' u' a b c => g (i + 1) t' u' (by simpa using a) (by simpa using b) c
  | false :: bs, t :: ts, u :: us, h, hl, g => by
    simp only [okA, Bool.and_eq_true] at h
    exact ⟨g 0 t u rfl rfl (by cases e : isF t <;> simp_all), RdOk_of (bs := bs) h.2 (by simpa using hl) fun i t' u' a b c => g (i + 1) t' u' (by simpa using a) (by simpa using b) c⟩
  | [], _ :: _, _, h, _, _ => by cases h
  | _ :: _, [], _, h, _, _ => by cases h
  | [], [], _ :: _, _, h, _ => by cases h
  | _ :: _, _ :: _, [], _, h, _ => by cases h
end
/-- what a def's body must show -/
def bodyE (m : Nat) (bs : List Bool) (ts : List T) (Q : T → List T → Prop) (X : Addr → T → List T → Prop) : ED where
  nx := fun δ => opt (outsE δ m bs ts) fun o => Q .non o
  rt := fun τ δ => opt (outsE δ m bs ts) fun o => Q τ o
  ex := fun C x δ => opt (outsE δ m bs ts) fun o => X C x o
abbrev WOut (E : XK) : WX := fun cls d _ H => E cls d H
theorem okF {P : Program} {w : World} {K : PySem.W.Frag} {mg : Str → Option Value} {base : Heap} {x qual : Str} {st : Stmt} {f : Addr} {fd : FuncData} {N params : List Str} {k : Nat} (bs : List Bool) (n : Nat) (c : Con') (F : Fun K x qual st f fd) (S : FnScope N params (defScope st)) (hN : N.length = params.length + n) (hb : bs.length = params.length)
    (hts : ∀ ts Q X, c ts Q X → okA bs ts = true)
    (hbody : ∀ (cdv : Value) (A : Around) (outer : List PySem.Env) (s : Shared) (H : Hp) (E : XK), Room k (A.deeper (envOfC qual (defScope st) s.heap.objs.size f cdv)) → Takes (cxOf (L2.CX P w) P w K mg base N qual (defScope st) f cdv A outer s H E) (WOut E) → PassesOwn (model P w) (cxOf (L2.CX P w) P w K mg base N qual (defScope st) f cdv A outer s H E).A (cxOf (L2.CX P w) P w K mg base N qual (defScope st) f cdv A outer s H E).env (cxOf (L2.CX P w) P w K mg base N qual (defScope st) f cdv A outer s H E).xe →
      ∃ t wb, PSs (cxOf (L2.CX P w) P w K mg base N qual (defScope st) f cdv A outer s H E) (defBody st) t ∧ SS N.length K (WOut E) t wb ∧ ∀ ts Q X, c ts Q X → wb (startE n bs ts) (bodyE N.length bs ts Q X)) :
    FnOk P w K mg base (L2.CX P w) (k + 1) f fd params (spX K c) := by
  refine F.okX S (fun vs H Q E h => ?_) (fun cdv A outer s H vs Q E hr h => ?_)
  · obtain ⟨M, ts, r, h⟩ := h
    have := r.ls
    have h2 := okA_len (hts _ _ _ h)
    simp [ownE] at this
    omega
  · obtain ⟨M, ts, r, h⟩ := h
    obtain ⟨t, wb, ht, hs, hw⟩ := hbody cdv A outer s H E hr (takes_of rfl rfl rfl rfl) (passes_of rfl)
    refine ⟨t, ht, ?_⟩
    have hok := hts _ _ _ h
    have hl1 := okA_len hok
    have hl2 : vs.length = ts.length := by have := r.ls; simpa [ownE] using this
    have hst : L2.start N vs = vs.map some ++ List.replicate n none := by
      rw [TV.start_eq, hN]
      congr 2
      omega
    rw [hst]
    have r1 : R K M (vs.map some ++ List.replicate n none) H (ownE ts ++ List.replicate n none) := RB.pushN r n
    have hvi : ∀ (i : Nat) u, vs[i]? = some u → (vs.map some ++ List.replicate n none)[0 + i]? = some (some u) := fun i u hu => get_left (by rw [Nat.zero_add, List.getElem?_map, hu]; rfl)
    obtain ⟨ρ, r2, p2⟩ := pinP_ok (k := 0) r1 hvi (hl1.trans hl2.symm) (fun i hi => by
      obtain ⟨τ, h1, h2⟩ := okA_get hok hi
      refine ⟨τ, get_left ?_, by simpa using h2⟩
      rw [Nat.zero_add]
      simp [ownE, h1])
    have hσ : (vs.map some ++ List.replicate n none : L2.St).length = N.length := by simp; omega
    have rd : RdOk K M bs ts vs := RdOk_of hok hl2.symm fun i τ u h1 h2 h3 => by
      have ok : ArgOk K M (vs.map some) (.sl i) u := by show (vs.map some)[i]? = _; rw [List.getElem?_map, h2]; rfl
      have hd : (ownE ts)[i]? = some (some (.t τ)) := by simp [ownE, h1]
      exact RB.flat (β := []) r (by simp [argT, look, hd, sub, tree, T.at]) h3 ok
    rw [hσ] at p2
    refine hs _ _ (hw ts _ _ h) M _ ρ H r2 hσ _ ⟨fun M' σ' H' δ e l r' q => ?_, fun M' σ' H' δ a e l r' q => ?_, fun _ _ _ _ _ _ _ q => q.elim, fun _ _ _ _ _ _ _ q => q.elim, fun M' σ' H' C x u d δ e l r' rp hd q => ?_⟩
    · obtain ⟨o, ho, q⟩ := opt_elim q
      exact q.2 M' H' (.lf .non .non) e (RB.float (β := []) (finish_ok (β := []) r' (p2.hi l (Nat.le_of_eq hσ)) ho (rd.mono e)) rfl) rfl
    · obtain ⟨o, ho, q⟩ := opt_elim q
      exact q.2 M' H' a e (finish_ok (β := [a]) r' (p2.hi l (Nat.le_of_eq hσ)) ho (rd.mono e)) rfl
    · obtain ⟨o, ho, q⟩ := opt_elim q
      exact q.2 M' H' u d e (finish_ok (β := []) r' (p2.hi l (Nat.le_of_eq hσ)) ho (rd.mono e)) rp hd
end EV

/-! EV13: isinstance, raise, the law's own call -/
namespace EV
open PySem PySem.Spec PyProof.Rows L2
section
variable {N : Nat} {K : PySem.W.Frag} {W : WX} {M M' M1 H H' : Hp} {σ S S1 : L2.St} {δ δ' : Env} {α β γ : List A} {Q : EK} {X : XK'} {Qm : VK}
theorem se_int {i : Int} : SE N K W (tC (.int i)) (wC (.int i)) := se_c fun _ _ => rfl
theorem se_bl {i : Bool} : SE N K W (tC (.bl i)) (wC (.bl i)) := se_c fun _ _ => rfl
theorem se_str {i : Str} : SE N K W (tC (.str i)) (wC (.str i)) := se_c fun _ _ => rfl
theorem se_non : SE N K W (tC .non) (wC .non) := se_c fun _ _ => rfl
theorem se_ty {n : String} : SE N K W (tC (.ty n)) (wC (.ty n)) := se_c fun _ _ => rfl
theorem se_adr {a : Addr} : SE N K W (tC (.ref a)) (wC (.adr a)) := se_c fun _ _ => rfl
def tyN : T → Option String
  | .non => some "NoneType"
  | .bl _ => some "bool"
  | .int _ => some "int"
  | .str _ => some "str"
  | .nd .lst _ _ => some "list"
  | .nd .tup _ _ => some "tuple"
  | _ => none
def isiB (n c : String) : Option Bool := match n, c with
  | "bool", "int" => some true
  | n, c => if c = "bool" ∨ c = "int" ∨ c = "str" ∨ c = "list" ∨ c = "tuple" ∨ c = "dict" then some (n == c) else none
def kIsi : Env → List Arg → EK → Prop := fun δ rs Q => match rs with
  | [r, .v (.ty c)] => opt (argT δ r) fun τ => opt (tyN τ) fun n => opt (isiB n c) fun b => Q (.v (.bl b)) δ
  | _ => False
theorem tyN_ok {x : Arg} {u : V} {τ : T} {n : String} (r : R K M S H δ) (h : argT δ x = some τ) (hn : tyN τ = some n) (ok : ArgOk K M S x u) : TyX K H u (.type n) := by
  cases τ with
  | non => cases hn; cases (show u = .non from r.flat h rfl ok); exact .base .non
  | bl b => cases hn; cases (show u = .bl b from r.flat h rfl ok); exact .base (.bl _)
  | int b => cases hn; cases (show u = .int b from r.flat h rfl ok); exact .base (.int _)
  | str b => cases hn; cases (show u = .str b from r.flat h rfl ok); exact .base (.str _)
  | ty b => cases hn
  | adr b => cases hn
  | nd c o ts =>
    obtain ⟨a, vs, rfl, h2, _⟩ := r.kids h ok
    cases c with
    | lst => cases hn; exact .base (.lst h2)
    | tup =>
      cases hn
      rcases (h2 : SqT K H a vs) with (h2 | ⟨o, h2⟩) | ⟨o, its, m, h2, h3, _⟩
      · exact .base (.tup h2)
      · exact .fTuple h2
      · exact .kTuple h2 h3
    | dK ks => cases hn
    | scr => cases hn
    | dT ks => cases hn
    | err d => cases hn
    | ins C fs => cases hn
theorem kit_ok {n c : String} {b : Bool} (h : isiB n c = some b) (hn : n = "NoneType" ∨ n = "bool" ∨ n = "int" ∨ n = "str" ∨ n = "list" ∨ n = "tuple") : PySem.W.kitOne K (.type n) (.type c) = some b := by
  have hc : c = "bool" ∨ c = "int" ∨ c = "str" ∨ c = "list" ∨ c = "tuple" ∨ c = "dict" := by
    unfold isiB at h
    split at h
    · simp
    · split at h
      · rename_i hh; simpa using hh
      · cases h
  rcases hn with rfl | rfl | rfl | rfl | rfl | rfl <;> rcases hc with rfl | rfl | rfl | rfl | rfl | rfl <;> cases h <;> rfl
theorem tyN_mem {τ : T} {n : String} (h : tyN τ = some n) : n = "NoneType" ∨ n = "bool" ∨ n = "int" ∨ n = "str" ∨ n = "list" ∨ n = "tuple" := by
  cases τ with
  | nd c o ts => cases c <;> cases h <;> simp
  | _ => cases h <;> simp
theorem pb_isi : PB K (rIsi K) kIsi := fun δ rs Q h M S H us rr oo Qm hn => by
  unfold kIsi at h
  split at h
  · rename_i r c
    obtain ⟨v, w, rfl, o1, o2⟩ := args2 oo
    obtain ⟨τ, ht, h⟩ := opt_elim h
    obtain ⟨n, hty, h⟩ := opt_elim h
    obtain ⟨b, hb, q⟩ := opt_elim h
    have o2 : w = .ty c := o2
    subst o2
    exact ⟨v, .ty c, .type n, .type c, b, rfl, .ty c, tyN_ok rr ht hty o1, kit_ok hb (tyN_mem hty), hn.bl rr q⟩
  · exact h.elim
/-- raise C(e) -/
def wRaise (C : Addr) (wa : WA') : WS := fun δ D => wa δ.length δ (fun rs δ1 => match rs with
  | [r] => opt (argT δ1 r) fun τ => isF τ = true ∧ D.ex C τ (tk δ.length δ1)
  | _ => False) (xk D δ.length)
theorem ss_raise {C : Addr} {ta : TA} {wa : WA'} (ha : SA N K W ta wa) : SS N K W (tRaiseErr C W ta) (wRaise C wa) := fun δ D h M σ τs H r hN E hE =>
  ha _ δ _ _ h M σ (σ ++ τs) H r hN Pre.app _ (fun M1 us H1 rs δ1 S1 e1 p1 r1 o1 h1 => by
    try dsimp only at h1
    split at h1
    · rename_i x
      obtain ⟨v, rfl, o⟩ := args1 o1
      obtain ⟨τ, ht, hf, q⟩ := opt_elim h1
      refine ⟨v, rfl, fun d hd => ?_⟩
      obtain ⟨ρ, rfl⟩ := p1
      have rp := r1.flat ht hf o
      have r2 := r1.cut
      rw [r.ls] at r2
      exact hE.ex M1 σ H1 C τ v d _ e1 rfl r2 rp hd q
    · exact h1.elim) (XC_of hE r.ls.symm)
end
def scrT (ns : List Int) : T := .nd .scr false (ns.map T.int)
/-- the law's own call -/
theorem law_sp {K : PySem.W.Frag} {H : Hp} {a : Addr} {ns : List Int} {c : Con'} (hS : SqL K H a (ns.map V.int)) (h : ∀ (Q : T → List T → Prop) X, Q (.bl true) [scrT ns] → c [scrT ns] Q X) : spX K c [.ref a] H (fun v _ => v = .bl true) fun _ _ _ => False := by
  refine ⟨H, [scrT ns], ⟨[.lf (scrT ns) (.ref a)], Same.refl H, rfl, rfl, fun x => by simp [ctL, ct], fun x hx => by simp [ctL, ct] at hx, ⟨⟨rfl, a, ns.map V.int, rfl, hS, RpL.ints ns⟩, trivial⟩, trivial, fun i τ hi => ?_, fun i j p hi => ?_⟩, h _ _ ⟨rfl, fun M' H' b e r eb => ?_⟩⟩
  · rcases i with _ | i
    · cases hi; exact ⟨_, rfl, rfl, rfl⟩
    · simp [ownE] at hi
  · rcases i with _ | i
    · cases hi
    · simp [ownE] at hi
  · obtain ⟨τ, v, rfl⟩ := leaf_of (a := b) (by rw [eb]; rfl)
    have eb : τ = .bl true := eb
    subst eb
    exact (RB.holds r).1
end EV

/-! EV14: how a wp is reckoned: equations for simp -/
namespace EV
open PySem PySem.Spec PyProof.Rows L2
/-- what follows, out of simp's sight -/
class CK (α : Type) where
  k : α → Prop
class C2 where
  p : Prop
  q : Prop
def optC {α : Type} (o : Option α) [c : CK α] : Prop := opt o c.k
theorem optC_some {α : Type} {x : α} {k : α → Prop} : @optC α (some x) ⟨k⟩ = k x := id rfl
theorem optC_eq {α : Type} {o : Option α} {k : α → Prop} : @optC α o ⟨k⟩ = opt o k := id rfl
theorem optC_i {α : Type} {o : Option α} {k : α → Prop} {x : α} (h : o = some x) (q : k x) : @optC α o ⟨k⟩ := by rw [h]; exact q
/-- the slots, reckoned before one goes on -/
def evE (δ : Env) [c : CK Env] : Prop := c.k δ
theorem evE_e {δ : Env} {k : Env → Prop} : @evE δ ⟨k⟩ = k δ := id rfl
/-- two ways -/
def brP (b : Bool) (p q : Prop) : Prop := if b = true then p else q
def brC (b : Bool) [c : C2] : Prop := brP b c.p c.q
theorem brC_t {p q : Prop} : @brC true ⟨p, q⟩ = p := id rfl
theorem brC_f {p q : Prop} : @brC false ⟨p, q⟩ = q := id rfl
theorem brC_eq {b : Bool} {p q : Prop} : @brC b ⟨p, q⟩ = brP b p q := id rfl
theorem brC_of {b : Bool} {p q : Prop} (h1 : b = true → p) (h2 : b = false → q) : @brC b ⟨p, q⟩ := by
  cases b with
  | true => exact h1 rfl
  | false => exact h2 rfl
theorem brC_dec {c : Prop} [Decidable c] {p q : Prop} (h1 : c → p) (h2 : ¬ c → q) : @brC (decide c) ⟨p, q⟩ := brC_of (fun h => h1 (of_decide_eq_true h)) fun h => h2 (of_decide_eq_false h)
theorem brP_t {p q : Prop} : brP true p q = p := id rfl
theorem brP_f {p q : Prop} : brP false p q = q := id rfl
theorem brP_of {b : Bool} {p q : Prop} (h1 : b = true → p) (h2 : b = false → q) : brP b p q := by
  cases b with
  | true => exact h1 rfl
  | false => exact h2 rfl
theorem brP_dec {c : Prop} [Decidable c] {p q : Prop} (h1 : c → p) (h2 : ¬ c → q) : brP (decide c) p q := brP_of (fun h => h1 (of_decide_eq_true h)) fun h => h2 (of_decide_eq_false h)
section
variable {n : Nat} {δ : Env} {Q : EK} {X : XK'} {D : ED} {a b : WS} {wa wb we wo wi : WE'} {ws : WA'} {wl wh : WO'} {wt wu : WT'} {r s x : Arg} {rs : List Arg}
theorem wSeq_e : wSeq a b δ D = a δ ⟨fun δ' => @evE δ' ⟨fun δ'' => b δ'' D⟩, D.rt, D.bk, D.ct, D.ex⟩ := id rfl
theorem wNext_e : wNext δ D = D.nx δ := id rfl
theorem wBreak_e : wBreak δ D = D.bk δ := id rfl
theorem wCont_e : wCont δ D = D.ct δ := id rfl
theorem xk_e {C : Addr} {τ : T} {δ' : Env} : xk D n C τ δ' = D.ex C τ (tk n δ') := id rfl
theorem wIf_e : wIf wt a b δ D = wt δ.length δ (fun z δ1 => @brC z ⟨(a (tk δ.length δ1) D), (b (tk δ.length δ1) D)⟩) (xk D δ.length) := id rfl
theorem wDrop_e : wDrop wa δ D = wa δ.length δ (fun _ δ1 => D.nx (tk δ.length δ1)) (xk D δ.length) := id rfl
theorem wRet_e : wRet wa δ D = wa δ.length δ (fun r δ1 => @optC _ ((take1 0 δ1 r)) ⟨fun q => D.rt q.1 (tk δ.length q.2)⟩) (xk D δ.length) := id rfl
theorem wRetN_e : wRetN δ D = D.rt .non δ := id rfl
theorem wAsg_e {g : WG} : wAsg wa g δ D = wa δ.length δ (fun r δ1 => @optC _ ((g δ.length δ1 r)) ⟨fun δ2 => D.nx (tk δ.length δ2)⟩) (xk D δ.length) := id rfl
theorem wAug_e {i : Nat} {f : Int → Int → Int} : wAug i f wa δ D = @optC _ ((varA δ i)) ⟨fun r => @optC _ ((intA r)) ⟨fun a => wa δ.length δ (fun s δ1 => @optC _ ((intA s)) ⟨fun b => D.nx (tk δ.length ((kilr i δ1).set i (some (.t (.int (f a b))))))⟩) (xk D δ.length)⟩⟩ := id rfl
theorem wSetI_e : wSetI we wo wi δ D = we δ.length δ (fun x δ1 => wo δ.length δ1 (fun r δ2 => wi δ.length δ2 (fun s δ3 => kSetI δ.length δ3 x r s fun δ4 => D.nx (tk δ.length δ4)) (xk D δ.length)) (xk D δ.length)) (xk D δ.length) := id rfl
def ownV (δ : Env) (r : Arg) : Option (Nat × List Nat × List T) := (plA δ r).bind fun q => match sub δ q.1 q.2 with
  | some (.nd .lst true ts) => some (q.1, q.2, ts)
  | _ => none
theorem ownL_e {k : Nat → List Nat → List T → Prop} : ownL δ r k = @optC _ ((ownV δ r)) ⟨fun v => k v.1 v.2.1 v.2.2⟩ := by
  simp only [optC_eq]
  unfold ownL ownV
  cases plA δ r with
  | none => rfl
  | some q =>
    simp only [opt_some, Option.bind_some]
    cases sub δ q.1 q.2 with
    | none => rfl
    | some τ => cases τ <;> first | rfl | (rename_i c o ts; cases c <;> cases o <;> rfl)
theorem kSetI_e {k : Env → Prop} : kSetI n δ x r s k = @optC _ ((take1 n δ x)) ⟨fun w => @optC _ ((intA s)) ⟨fun i => @optC _ ((ownV w.2 r)) ⟨fun v => @optC _ ((ixN v.2.2.length i)) ⟨fun m => k (putE w.2 v.1 v.2.1 (L (v.2.2.set m w.1)))⟩⟩⟩⟩ := by
  unfold kSetI
  simp only [ownL_e, optC_eq]
theorem wFor_e {w : WI} {g : WG} : wFor w g a δ D = w δ.length δ (fun its δ1 => loopW its g a D δ.length δ1.length (itLen its) 0 δ1) (xk D δ.length) := id rfl
theorem wRaise_e {C : Addr} : wRaise C ws δ D = ws δ.length δ (fun rs δ1 => match rs with
  | [r] => @optC _ ((argT δ1 r)) ⟨fun τ => isF τ = true ∧ D.ex C τ (tk δ.length δ1)⟩
  | _ => False) (xk D δ.length) := rfl
theorem wVar_e {i : Nat} : wVar i n δ Q X = @optC _ ((varA δ i)) ⟨fun r => Q r δ⟩ := id rfl
theorem wC_e {τ : T} : wC τ n δ Q X = Q (.v τ) δ := id rfl
theorem w2_e {k : Env → Arg → Arg → EK → Prop} : w2 k wa wb n δ Q X = wa n δ (fun r δ1 => wb n δ1 (fun s δ2 => k δ2 r s Q) X) X := id rfl
theorem w1_e {k : Env → Arg → EK → Prop} : w1 k wa n δ Q X = wa n δ (fun r δ1 => k δ1 r Q) X := id rfl
theorem wB_e {k : Env → List Arg → EK → Prop} : wB k ws n δ Q X = ws n δ (fun rs δ1 => k δ1 rs Q) X := id rfl
theorem waNil_e {Q : List Arg → Env → Prop} : waNil n δ Q X = Q [] δ := id rfl
theorem waCons_e {Q : List Arg → Env → Prop} : waCons wa ws n δ Q X = wa n δ (fun r δ1 => ws n δ1 (fun rs δ2 => Q (r :: rs) δ2) X) X := id rfl
theorem kI_e {C : Int → Int → Prop} {f : Int → Int → T} : kI C f δ r s Q = @optC _ ((intA r)) ⟨fun i => @optC _ ((intA s)) ⟨fun j => C i j ∧ Q (.v (f i j)) δ⟩⟩ := id rfl
theorem kI0_e {f : Int → Int → T} : kI0 f δ r s Q = @optC _ ((intA r)) ⟨fun i => @optC _ ((intA s)) ⟨fun j => Q (.v (f i j)) δ⟩⟩ := id rfl
theorem kU_e {f : Int → T} : kU f δ r Q = @optC _ ((intA r)) ⟨fun i => Q (.v (f i)) δ⟩ := id rfl
/-- two summands -/
inductive AddV where
  | i (i j : Int) | s (x y : Str) | l (ts us : List T)
def addV (δ : Env) (r s : Arg) : Option AddV := match r, s with
  | .v (.int i), .v (.int j) => some (.i i j)
  | .v (.str x), .v (.str y) => some (.s x y)
  | r, s => (lsK δ r).bind fun ts => (lsK δ s).map fun us => .l ts us
def addQ (δ : Env) (Q : EK) : AddV → Prop
  | .i i j => Q (.v (.int (i + j))) δ
  | .s x y => len6 (x.length + y.length) ∧ Q (.v (.str (x ++ y))) δ
  | .l ts us => AllF ts ∧ AllF us ∧ len6 (ts.length + us.length) ∧ ownQ δ (L (ts ++ us)) Q
theorem addL_e {r s : Arg} : (opt (lsK δ r) fun ts => opt (lsK δ s) fun us => AllF ts ∧ AllF us ∧ len6 (ts.length + us.length) ∧ ownQ δ (L (ts ++ us)) Q) = opt ((lsK δ r).bind fun ts => (lsK δ s).map fun us => AddV.l ts us) fun v => addQ δ Q v := by
  cases lsK δ r with
  | none => rfl
  | some ts =>
    cases lsK δ s with
    | none => rfl
    | some us => rfl
theorem kAdd_e : kAdd δ r s Q = @optC _ ((addV δ r s)) ⟨fun v => addQ δ Q v⟩ := by
  simp only [optC_eq]
  cases r with
  | sl k => simp only [kAdd, addV]; exact addL_e
  | v τ => cases τ <;> (cases s with
    | sl k => simp only [kAdd, addV]; exact addL_e
    | v τ' => cases τ' <;> first | rfl | (simp only [kAdd, addV]; exact addL_e))
theorem kMul_e {i j : Int} : kMul δ (.v (.int i)) (.v (.int j)) Q = (TV.CMulB i j ∧ Q (.v (.int (i * j))) δ) := id rfl
theorem kMul_el {m : Nat} {k : Int} : kMul δ (.sl m) (.v (.int k)) Q = @optC _ ((lsK δ (.sl m))) ⟨fun ts => AllF ts ∧ (-(2 ^ 63) ≤ k ∧ k < 2 ^ 63) ∧ len6 (ts.length * k.toNat) ∧ ownQ δ (L (List.replicate k.toNat ts).flatten) Q⟩ := id rfl
def seqV : T → Option (List T)
  | .nd .lst _ ts => some ts
  | .nd .scr _ ts => some ts
  | .nd .tup _ ts => some ts
  | _ => none
def kidV (δ : Env) (r : Arg) (k : Nat) (t : T) : Option (Arg × Env) := if isF t = true then some (.v t, δ) else (plA δ r).map fun q => (.sl δ.length, δ ++ [some (.al q.1 (q.2 ++ [k]))])
theorem kidQ_e {k : Nat} {t : T} : kidQ δ r k t Q = @optC _ (kidV δ r k t) ⟨fun v => Q v.1 v.2⟩ := by
  simp only [optC_eq]
  unfold kidQ kidV
  split
  · rfl
  · cases plA δ r with
    | none => rfl
    | some q => rfl
/-- where an index leads -/
def ixS (δ : Env) (r : Arg) (i : Int) (ts : List T) (Q : EK) : Prop := @optC _ (ixN ts.length i) ⟨fun k => @optC _ (ts[k]?) ⟨fun t => kidQ δ r k t Q⟩⟩
def ixQ (δ : Env) (r : Arg) (i : Int) (Q : EK) : T → Prop
  | .nd .lst _ ts => ixS δ r i ts Q
  | .nd .scr _ ts => ixS δ r i ts Q
  | .nd .tup _ ts => ixS δ r i ts Q
  | .str z => len6 z.length ∧ @optC _ (atI z.cps.toList i) ⟨fun c => Q (.v (.str ⟨#[c]⟩)) δ⟩
  | _ => False
theorem ixS_e {i : Int} {ts : List T} : ixS δ r i ts Q = @optC _ (ixN ts.length i) ⟨fun k => @optC _ (ts[k]?) ⟨fun t => kidQ δ r k t Q⟩⟩ := id rfl
theorem kIx_e : kIx δ r s Q = @optC _ (intA s) ⟨fun i => @optC _ (argT δ r) ⟨fun τ => ixQ δ r i Q τ⟩⟩ := by
  simp only [optC_eq]
  unfold kIx
  congr 1
  funext i
  cases argT δ r with
  | none => rfl
  | some τ => cases τ <;> first | rfl | (rename_i c o ts; cases c <;> rfl)
theorem ixN_nat {n i : Nat} (h : i < n) : ixN n (i : Int) = some i := by
  unfold ixN
  rw [if_pos (by omega), if_pos (by omega)]
  simp
theorem ixN_of {n : Nat} {i : Int} {k : Nat} (h : i = (k : Int)) (h2 : k < n) : ixN n i = some k := by subst h; exact ixN_nat h2
theorem ixN_neg {n : Nat} {i : Int} {k : Nat} (h : i + n = (k : Int)) (h1 : i < 0) : ixN n i = some k := by
  unfold ixN
  rw [if_neg (by omega), if_pos (by omega), h]
  simp
theorem woNone_e {Q : Option Int → Env → Prop} : woNone n δ Q X = Q none δ := id rfl
theorem woSome_e {Q : Option Int → Env → Prop} : woSome wa n δ Q X = wa n δ (fun r δ1 => @optC _ ((intA r)) ⟨fun i => Q (some i) δ1⟩) X := id rfl
theorem wSl_e : wSl wa wl wh n δ Q X = wa n δ (fun r δ1 => wl n δ1 (fun lo δ2 => wh n δ2 (fun hi δ3 => kSl δ3 r lo hi Q) X) X) X := id rfl
def slV (δ : Env) (r : Arg) : Option T := match argT δ r with
  | some (.str z) => some (.str z)
  | some (.nd .tup o ts) => some (.nd .tup o ts)
  | some (.nd .lst o ts) => some (.nd .lst o ts)
  | some (.nd .scr o ts) => some (.nd .scr o ts)
  | _ => none
def slQ (δ : Env) (lo hi : Option Int) (Q : EK) : T → Prop
  | .str z => len6 z.length ∧ Q (.v (.str (cutS z lo hi))) δ
  | .nd .tup _ ts => AllF ts ∧ ¬ (HT.sIx ts.length 0 lo = 0 ∧ HT.sIx ts.length ts.length hi = ts.length) ∧ Q (.v (.nd .tup false (TV.cutL ts lo hi))) δ
  | .nd .lst _ ts => AllF ts ∧ ownQ δ (L (TV.cutL ts lo hi)) Q
  | .nd .scr _ ts => AllF ts ∧ ownQ δ (L (TV.cutL ts lo hi)) Q
  | _ => False
theorem kSl_e {lo hi : Option Int} : kSl δ r lo hi Q = @optC _ ((argT δ r)) ⟨fun τ => slQ δ lo hi Q τ⟩ := by
  simp only [optC_eq, brC_eq]
  unfold kSl
  cases argT δ r with
  | none => rfl
  | some τ => cases τ <;> first | rfl | (rename_i c o ts; cases c <;> rfl)
/-- len of a list or tuple, or of a text -/
def lenW (δ : Env) (r : Arg) : Option T := (argT δ r).bind fun τ => match τ with
  | .nd .lst o ts => some (.nd .lst o ts)
  | .nd .scr o ts => some (.nd .scr o ts)
  | .nd .tup o ts => some (.nd .tup o ts)
  | .str z => some (.str z)
  | _ => none
def lenQ (δ : Env) (Q : EK) : T → Prop
  | .nd _ _ ts => Q (.v (.int ts.length)) δ
  | .str z => len6 z.length ∧ Q (.v (.int z.length)) δ
  | _ => False
theorem kLen_e : kLen δ [r] Q = @optC _ ((lenW δ r)) ⟨fun τ => lenQ δ Q τ⟩ := by
  simp only [optC_eq, brC_eq]
  unfold kLen lenW
  dsimp only
  cases argT δ r with
  | none => rfl
  | some τ => cases τ <;> first | rfl | (rename_i c o ts; cases c <;> rfl)
theorem kSum_e : kSum δ [r] Q = @optC _ ((intsK δ r)) ⟨fun ns => Q (.v (.int ns.sum)) δ⟩ := id rfl
theorem kAll_e : kAll δ [r] Q = @optC _ ((blsK δ r)) ⟨fun ns => Q (.v (.bl (ns.all id))) δ⟩ := id rfl
theorem kAny_e : kAny δ [r] Q = @optC _ ((blsK δ r)) ⟨fun ns => Q (.v (.bl (ns.any id))) δ⟩ := id rfl
theorem kSorted_e : kSorted δ [r] Q = @optC _ ((intsK δ r)) ⟨fun ns => ownQ δ (L ((TV.sortI ns).map T.int)) Q⟩ := id rfl
theorem kMin2_e : kMin2 δ [r, s] Q = @optC _ ((intA r)) ⟨fun i => @optC _ ((intA s)) ⟨fun j => Q (.v (.int (min i j))) δ⟩⟩ := id rfl
theorem kMax2_e : kMax2 δ [r, s] Q = @optC _ ((intA r)) ⟨fun i => @optC _ ((intA s)) ⟨fun j => Q (.v (.int (max i j))) δ⟩⟩ := id rfl
theorem kAbs_e : kAbs δ [r] Q = @optC _ ((intA r)) ⟨fun i => Q (.v (.int i.natAbs)) δ⟩ := id rfl
theorem kInt_i {i : Int} : kInt δ [.v (.int i)] Q = Q (.v (.int i)) δ := id rfl
theorem kInt_b {b : Bool} : kInt δ [.v (.bl b)] Q = Q (.v (.int (if b then 1 else 0))) δ := id rfl
def sqV (δ : Env) (r : Arg) : Option (List T) := (argT δ r).bind seqV
theorem kList_e : kList δ [r] Q = @optC _ ((sqV δ r)) ⟨fun ts => AllF ts ∧ ownQ δ (L ts) Q⟩ := by
  simp only [optC_eq, brC_eq]
  unfold kList sqV
  dsimp only
  cases argT δ r with
  | none => rfl
  | some τ => cases τ <;> first | rfl | (rename_i c o ts; cases c <;> rfl)
theorem wNot_e : wNot wa n δ Q X = wa n δ (fun r δ1 => @optC _ ((truA δ1 r)) ⟨fun b => Q (.v (.bl (!b))) δ1⟩) X := id rfl
theorem wAnd_e : wAnd wa wb n δ Q X = wa n δ (fun r δ1 => @optC _ ((truA δ1 r)) ⟨fun b => @brC b ⟨(wb n δ1 Q X), (Q r δ1)⟩⟩) X := id rfl
theorem wOr_e : wOr wa wb n δ Q X = wa n δ (fun r δ1 => @optC _ ((truA δ1 r)) ⟨fun b => @brC b ⟨(Q r δ1), (wb n δ1 Q X)⟩⟩) X := id rfl
def blA : Arg → Option Bool
  | .v (.bl b) => some b
  | _ => none
theorem wtE_e {Q : Bool → Env → Prop} : wtE wa n δ Q X = wa n δ (fun r δ1 => @optC _ ((blA r)) ⟨fun b => Q b δ1⟩) X := by
  simp only [optC_eq, brC_eq]
  unfold wtE
  congr 1
  funext r δ1
  cases r with
  | v τ => cases τ <;> rfl
  | sl k => rfl
theorem wtT_e {Q : Bool → Env → Prop} : wtT wa n δ Q X = wa n δ (fun r δ1 => @optC _ ((truA δ1 r)) ⟨fun b => Q b δ1⟩) X := id rfl
theorem wtAnd_e {Q : Bool → Env → Prop} : wtAnd wt wu n δ Q X = wt n δ (fun b δ1 => @brC b ⟨(wu n δ1 Q X), (Q false δ1)⟩) X := id rfl
theorem wtOr_e {Q : Bool → Env → Prop} : wtOr wt wu n δ Q X = wt n δ (fun b δ1 => @brC b ⟨(Q true δ1), (wu n δ1 Q X)⟩) X := id rfl
theorem wtNot_e {Q : Bool → Env → Prop} : wtNot wt n δ Q X = wt n δ (fun b δ1 => Q (!b) δ1) X := id rfl
theorem wtYes_e {Q : Bool → Env → Prop} : wtYes n δ Q X = Q true δ := id rfl
theorem wIfE_e : wIfE wt wa wb n δ Q X = wt n δ (fun b δ1 => @brC b ⟨(wa n δ1 Q X), (wb n δ1 Q X)⟩) X := id rfl
theorem wIsN_e {neg : Bool} : wIsN neg wa n δ Q X = wa n δ (fun r δ1 => @optC _ ((argT δ1 r)) ⟨fun τ => Q (.v (.bl (if neg then !isNon τ else isNon τ))) δ1⟩) X := id rfl
theorem wLst_e : wLst ws n δ Q X = ws n δ (fun rs δ1 => @optC _ ((takeL n δ1 rs)) ⟨fun q => len6 q.1.length ∧ ownQ q.2 (L q.1) Q⟩) X := id rfl
theorem wTup_e : wTup ws n δ Q X = ws n δ (fun rs δ1 => @optC _ ((takeL n δ1 rs)) ⟨fun q => len6 q.1.length ∧ @brC (q.1.all isF) ⟨(Q (.v (.nd .tup false q.1)) q.2), (ownQ q.2 (.nd .tup true q.1) Q)⟩⟩) X := id rfl
theorem kEq_e {neg : Bool} : kEq neg δ r s Q = @optC _ ((argT δ r)) ⟨fun a => @optC _ ((argT δ s)) ⟨fun b => OkT 16 a ∧ OkT 16 b ∧ Q (.v (.bl (if neg then !eqT a b else eqT a b))) δ⟩⟩ := id rfl
theorem kIn_e {neg : Bool} : kIn neg δ r s Q = @optC _ ((argT δ r)) ⟨fun a => @optC _ ((sqV δ s)) ⟨fun ts => OkT 16 a ∧ (∀ t ∈ ts, OkT 15 t) ∧ Q (.v (.bl (if neg then !ts.any fun t => eqT t a else ts.any fun t => eqT t a))) δ⟩⟩ := by
  simp only [optC_eq]
  have : seqK δ s = sqV δ s := by
    unfold seqK sqV
    cases argT δ s with
    | none => rfl
    | some τ => cases τ <;> first | rfl | (rename_i c o ts; cases c <;> rfl)
  unfold kIn
  rw [this]
theorem retQ_e {τ : T} : retQ δ τ Q = @brC (isF τ) ⟨(Q (.v τ) δ), (Q (.sl δ.length) (δ ++ [some (.t τ)]))⟩ := id rfl
theorem ownQ_e {τ : T} : ownQ δ τ Q = Q (.sl δ.length) (δ ++ [some (.t τ)]) := id rfl
theorem wM_e {k : Nat → Env → Arg → List Arg → EK → Prop} : wM k wo ws n δ Q X = wo n δ (fun r δ1 => isL δ1 r = true ∧ ws n δ1 (fun rs δ2 => k n δ2 r rs Q) X) X := id rfl
theorem wM0_e {k : Nat → Env → Arg → List Arg → EK → Prop} : wM0 k wo n δ Q X = wo n δ (fun r δ1 => isL δ1 r = true ∧ k n δ1 r [] Q) X := id rfl
theorem kAppend_e : kAppend n δ r [x] Q = @optC _ ((take1 n δ x)) ⟨fun w => @optC _ ((ownV w.2 r)) ⟨fun v => len6 v.2.2.length ∧ Q (.v .non) (putK w.2 v.1 v.2.1 (L (v.2.2 ++ [w.1])))⟩⟩ := by
  simp only [optC_eq, brC_eq]
  unfold kAppend
  simp only [ownL_e, optC_eq]
theorem kRemove_e {k : Int} : kRemove n δ r [.v (.int k)] Q = @optC _ ((ownV δ r)) ⟨fun v => @optC _ ((seqO tInt v.2.2)) ⟨fun ns => k ∈ ns ∧ Q (.v .non) (putE δ v.1 v.2.1 (L ((ns.erase k).map T.int)))⟩⟩ := by
  simp only [optC_eq, brC_eq]
  unfold kRemove
  simp only [ownL_e, optC_eq]
theorem kExtend_e : kExtend n δ r [x] Q = @optC _ ((lsK δ x)) ⟨fun us => AllF us ∧ @optC _ ((ownV δ r)) ⟨fun v => len6 (v.2.2.length + us.length) ∧ Q (.v .non) (putK δ v.1 v.2.1 (L (v.2.2 ++ us)))⟩⟩ := by
  simp only [optC_eq, brC_eq]
  unfold kExtend
  simp only [ownL_e, optC_eq]
theorem kPop_e : kPop n δ r [] Q = @optC _ ((ownV δ r)) ⟨fun v => @optC _ (v.2.2.getLast?) ⟨fun t => retQ (putE δ v.1 v.2.1 (L v.2.2.dropLast)) t Q⟩⟩ := by
  simp only [optC_eq, brC_eq]
  unfold kPop
  simp only [ownL_e, optC_eq]
theorem kPopAt_e {i : Int} : kPopAt n δ r [.v (.int i)] Q = @optC _ ((ownV δ r)) ⟨fun v => (-(2 ^ 63) ≤ i ∧ i < 2 ^ 63) ∧ @optC _ ((ixN v.2.2.length i)) ⟨fun k => @optC _ (v.2.2[k]?) ⟨fun t => retQ (putE δ v.1 v.2.1 (L (v.2.2.eraseIdx k))) t Q⟩⟩⟩ := by
  simp only [optC_eq, brC_eq]
  unfold kPopAt
  simp only [ownL_e, optC_eq]
theorem kReverse_e : kReverse n δ r [] Q = @optC _ ((ownV δ r)) ⟨fun v => Q (.v .non) (putE δ v.1 v.2.1 (L v.2.2.reverse))⟩ := by
  simp only [optC_eq, brC_eq]
  unfold kReverse
  simp only [ownL_e, optC_eq]
theorem kInsert_e {i : Int} : kInsert n δ r [.v (.int i), x] Q = @optC _ ((take1 n δ x)) ⟨fun w => @optC _ ((ownV w.2 r)) ⟨fun v => (0 ≤ i ∧ i < 2 ^ 63) ∧ len6 v.2.2.length ∧ Q (.v .non) (putE w.2 v.1 v.2.1 (L (v.2.2.take i.toNat ++ [w.1] ++ v.2.2.drop i.toNat)))⟩⟩ := by
  simp only [optC_eq, brC_eq]
  unfold kInsert
  simp only [ownL_e, optC_eq]
theorem kIsi_e {c : String} : kIsi δ [r, .v (.ty c)] Q = @optC _ ((argT δ r)) ⟨fun τ => @optC _ ((tyN τ)) ⟨fun n => @optC _ ((isiB n c)) ⟨fun b => Q (.v (.bl b)) δ⟩⟩⟩ := id rfl
theorem wCall_e {c : Con'} {bs : List Bool} : wCall c bs ws n δ Q X = ws n δ (fun rs δ1 => @optC _ ((takeM δ1 bs rs)) ⟨fun q => @optC _ ((readR q.2 q.1 rs)) ⟨fun ts => c ts (fun r o => flat r = true ∧ flatO q.1 o ∧ @optC _ ((putBack δ1 q.1 o q.2)) ⟨fun δ2 => retQ δ2 r Q⟩) (fun C x o => (isF x = true ∧ flat x = true) ∧ flatO q.1 o ∧ @optC _ ((putBack δ1 q.1 o q.2)) ⟨fun δ2 => X C x δ2⟩)⟩⟩) X := id rfl
theorem wCallK_e {c : Con'} {bs : List Bool} {m : Nat} {perm : List Nat} : wCallK c bs m perm ws n δ Q X = ws n δ (fun rs δ1 => rs.length = m ∧ @optC _ ((takeM δ1 bs (pickA rs perm))) ⟨fun q => @optC _ ((readR q.2 q.1 (pickA rs perm))) ⟨fun ts => c ts (fun r o => flat r = true ∧ flatO q.1 o ∧ @optC _ ((putBack δ1 q.1 o q.2)) ⟨fun δ2 => retQ δ2 r Q⟩) (fun C x o => (isF x = true ∧ flat x = true) ∧ flatO q.1 o ∧ @optC _ ((putBack δ1 q.1 o q.2)) ⟨fun δ2 => X C x δ2⟩)⟩⟩) X := id rfl
/-! what is walked -/
variable {N : Nat} {Qi : ItS → Env → Prop}
/-- a list as it is walked -/
def walkV (N : Nat) (δ : Env) : Arg → Option (ItS × Env)
  | .v (.nd .lst _ ts) => some (.st ts [], δ)
  | .v (.nd .scr _ ts) => some (.st ts [], δ)
  | .v _ => none
  | .sl k => (lqK δ (.sl k)).bind fun ts => (pin N δ k).map fun q => (.lv q.1 ts.length, q.2)
theorem wiList_e : wiList N we n δ Qi X = we n δ (fun r δ1 => @optC _ ((walkV N δ1 r)) ⟨fun v => Qi v.1 v.2⟩) X := by
  simp only [optC_eq, brC_eq]
  unfold wiList
  congr 1
  funext r δ1
  cases r with
  | v τ => cases τ <;> first | rfl | (rename_i c o ts; cases c <;> rfl)
  | sl k =>
    simp only [walkV]
    cases lqK δ1 (.sl k) with
    | none => rfl
    | some ts =>
      simp only [opt_some, Option.bind_some]
      cases pin N δ1 k with
      | none => rfl
      | some q => rfl
def rngA1 : List Arg → Option Int
  | [.v (.int m)] => some m
  | _ => none
theorem wiRng1_e : wiRng1 ws n δ Qi X = ws n δ (fun rs δ1 => @optC _ ((rngA1 rs)) ⟨fun m => big62 m ∧ Qi (.st (rngT 0 m.toNat) []) δ1⟩) X := by
  simp only [optC_eq, brC_eq]
  unfold wiRng1
  congr 1
  funext rs δ1
  split
  · rfl
  · rename_i h
    unfold rngA1
    split
    · rename_i m; exact absurd rfl (h m)
    · rfl
def rngA2 : List Arg → Option (Int × Int)
  | [.v (.int a), .v (.int b)] => some (a, b)
  | _ => none
theorem wiRng2_e : wiRng2 ws n δ Qi X = ws n δ (fun rs δ1 => @optC _ ((rngA2 rs)) ⟨fun m => (big62 m.1 ∧ big62 m.2) ∧ Qi (.st (rngT m.1 (m.2 - m.1).toNat) []) δ1⟩) X := by
  simp only [optC_eq, brC_eq]
  unfold wiRng2
  congr 1
  funext rs δ1
  split
  · rfl
  · rename_i h
    unfold rngA2
    split
    · rename_i a b; exact absurd rfl (h a b)
    · rfl
theorem wiEnum_e : wiEnum N ws n δ Qi X = ws n δ (fun rs δ1 => match rs with
  | [r] => @optC _ ((srcA N δ1 r)) ⟨fun q => Qi (.st (enumT q.1) q.2.1) q.2.2⟩
  | _ => False) X := rfl
theorem wiZip_e : wiZip N ws n δ Qi X = ws n δ (fun rs δ1 => match rs with
  | [r, s] => @optC _ ((srcA N δ1 r)) ⟨fun q => @optC _ ((srcA N q.2.2 s)) ⟨fun q2 => Qi (.st ((q.1.zip q2.1).map fun p => .nd .tup false [p.1, p.2]) (q.2.1 ++ q2.2.1)) q2.2.2⟩⟩
  | _ => False) X := rfl
theorem wLc_e {w : WI} {g : WG} {vs : List Nat} : wLc w g wt we vs n δ Q X = w n δ (fun its δ1 => lcW its g wt we vs Q δ1.length (itLen its) 0 (wpe vs δ1 ++ [some (.t (L []))])) X := id rfl
end
/-! ### loops by what holds -/
/-- a turn of a for loop: the item, the target, the body -/
def turnW (its : ItS) (g : WG) (b : WS) (D : ED) (n n1 i : Nat) (δ : Env) (k : Env → Prop) : Prop := @optC _ ((itemA δ i its)) ⟨fun q => @optC _ ((g n1 q.2 q.1)) ⟨fun δ2 => b (tk n1 δ2) ⟨k, fun τ δ' => D.rt τ (tk n δ'), fun δ' => D.nx (tk n δ'), k, fun C x δ' => D.ex C x (tk n δ')⟩⟩⟩
theorem loop_ind {its : ItS} {g : WG} {b : WS} {D : ED} {n n1 N : Nat} (P : Nat → Env → Prop) (ho : ∀ i δ, P i δ → okI δ its) (hs : ∀ i δ, i < N → P i δ → ∀ k : Env → Prop, (∀ δ', P (i + 1) δ' → k δ') → turnW its g b D n n1 i δ k) (hd : ∀ δ, P N δ → D.nx (tk n δ)) :
    ∀ {m i : Nat} {δ : Env}, i + m = N → P i δ → loopW its g b D n n1 m i δ
  | 0, i, δ, e, h => by
    have : i = N := by omega
    subst this
    exact ⟨ho i δ h, hd δ h⟩
  | m + 1, i, δ, e, h => ⟨ho i δ h, hs i δ (by omega) h _ fun δ' h' => loop_ind P ho hs hd (m := m) (i := i + 1) (by omega) h'⟩
/-- the slots told turn by turn -/
theorem loop_fn {its : ItS} {g : WG} {b : WS} {D : ED} {n n1 : Nat} {δ : Env} (env : Nat → Env) (h0 : δ = env 0) (ho : ∀ i, okI (env i) its) (hs : ∀ i, i < itLen its → ∀ k : Env → Prop, k (env (i + 1)) → turnW its g b D n n1 i (env i) k) (hd : D.nx (tk n (env (itLen its)))) : loopW its g b D n n1 (itLen its) 0 δ :=
  loop_ind (N := itLen its) (fun i δ => δ = env i) (fun i δ h => h ▸ ho i) (fun i δ hi h k hk => by subst h; exact hs i hi k (hk _ rfl)) (fun δ h => h ▸ hd) (by omega) h0
/-- a while loop: what holds, with a measure -/
theorem while_ind {c : WT'} {b : WS} {D : ED} {n : Nat} (P : Env → Prop) (μ : Env → Nat) (hs : ∀ δ, P δ → ∀ k : Env → Prop, (∀ δ', P δ' → μ δ' < μ δ → k δ') → c n δ (fun z δ1 => @brC z ⟨(b (tk n δ1) ⟨k, D.rt, D.nx, k, D.ex⟩), (D.nx (tk n δ1))⟩) (xk D n)) :
    ∀ {m : Nat} {δ : Env}, P δ → μ δ < m → whileW c b D n m δ
  | 0, δ, _, h => by omega
  | m + 1, δ, h, hm => hs δ h _ fun δ' h' hl => while_ind P μ hs h' (by omega)
theorem wWhile_of {c : WT'} {b : WS} {D : ED} {δ : Env} (P : Env → Prop) (μ : Env → Nat) (h0 : P δ) (hs : ∀ δ1, P δ1 → ∀ k : Env → Prop, (∀ δ', P δ' → μ δ' < μ δ1 → k δ') → c δ.length δ1 (fun z δ2 => @brC z ⟨(b (tk δ.length δ2) ⟨k, D.rt, D.nx, k, D.ex⟩), (D.nx (tk δ.length δ2))⟩) (xk D δ.length)) : wWhile c b δ D :=
  ⟨μ δ + 1, while_ind P μ hs h0 (by omega)⟩
/-- a turn of a comprehension -/
def turnL (its : ItS) (g : WG) (tt : WT') (we : WE') (vs : List Nat) (d i : Nat) (δ : Env) (k : Env → Prop) : Prop := @optC _ ((itemA δ i its)) ⟨fun q => @optC _ ((g (d + 1) q.2 q.1)) ⟨fun δa => tt (d + 1) δa (fun b δb => @brC b ⟨(we (d + 1) δb (fun r δc => @optC _ ((take1 (d + 1) δc r)) ⟨fun w => lcPut d w fun δd => k (wpe vs (tk (d + 1) δd))⟩) noX), (k (wpe vs (tk (d + 1) δb)))⟩) noX⟩⟩
theorem lc_ind {its : ItS} {g : WG} {tt : WT'} {we : WE'} {vs : List Nat} {Q : EK} {d N : Nat} (P : Nat → Env → Prop) (ho : ∀ i δ, P i δ → okI δ its) (hs : ∀ i δ, i < N → P i δ → ∀ k : Env → Prop, (∀ δ', P (i + 1) δ' → k δ') → turnL its g tt we vs d i δ k) (hd : ∀ δ, P N δ → Q (.sl d) δ) :
    ∀ {m i : Nat} {δ : Env}, i + m = N → P i δ → lcW its g tt we vs Q d m i δ
  | 0, i, δ, e, h => by
    have : i = N := by omega
    subst this
    exact ⟨ho i δ h, hd δ h⟩
  | m + 1, i, δ, e, h => ⟨ho i δ h, hs i δ (by omega) h _ fun δ' h' => lc_ind P ho hs hd (m := m) (i := i + 1) (by omega) h'⟩
theorem lc_fn {its : ItS} {g : WG} {tt : WT'} {we : WE'} {vs : List Nat} {Q : EK} {d : Nat} {δ : Env} (env : Nat → Env) (h0 : δ = env 0) (ho : ∀ i, okI (env i) its) (hs : ∀ i, i < itLen its → ∀ k : Env → Prop, k (env (i + 1)) → turnL its g tt we vs d i (env i) k) (hd : Q (.sl d) (env (itLen its))) : lcW its g tt we vs Q d (itLen its) 0 δ :=
  lc_ind (N := itLen its) (fun i δ => δ = env i) (fun i δ h => h ▸ ho i) (fun i δ hi h k hk => by subst h; exact hs i hi k (hk _ rfl)) (fun δ h => h ▸ hd) (by omega) h0
/-- what must hold between two statements -/
theorem cut {a b : WS} {δ : Env} {D : ED} (P : Env → Prop) (h : ∀ k : Env → Prop, (∀ δ', P δ' → k δ') → a δ ⟨k, D.rt, D.bk, D.ct, D.ex⟩) (h2 : ∀ δ', P δ' → b δ' D) : wSeq a b δ D := h _ h2
end EV

/-! EV15: what lists of data are -/
namespace EV
open PySem PySem.Spec PyProof.Rows L2
abbrev iL (ns : List Int) : List T := ns.map T.int
/-- pairs of whole numbers -/
def pT (p : Int × Int) : T := .nd .tup false [.int p.1, .int p.2]
theorem AllF_nil : AllF [] := fun t h => by simp at h
theorem AllF_cons {t : T} {r : List T} : AllF (t :: r) ↔ isF t = true ∧ AllF r := by simp [AllF]
theorem AllF_app {a b : List T} : AllF (a ++ b) ↔ AllF a ∧ AllF b := by
  simp only [AllF, List.mem_append]
  exact ⟨fun h => ⟨fun t ht => h t (.inl ht), fun t ht => h t (.inr ht)⟩, fun h t ht => ht.elim (h.1 t) (h.2 t)⟩
theorem AllF_int {ns : List Int} : AllF (ns.map T.int) := fun t h => by
  obtain ⟨i, _, rfl⟩ := List.mem_map.mp h
  rfl
theorem AllF_map {α : Type} {f : α → T} {l : List α} : AllF (l.map f) ↔ ∀ x ∈ l, isF (f x) = true := by simp [AllF]
theorem AllF_cut {a : List T} {lo hi : Option Int} (h : AllF a) : AllF (TV.cutL a lo hi) := fun t ht => h t (List.mem_of_mem_drop (List.mem_of_mem_take ht))
theorem AllF_rep {a : List T} {n : Nat} (h : AllF a) : AllF (List.replicate n a).flatten := fun t ht => by
  obtain ⟨l, hl, ht⟩ := List.mem_flatten.mp ht
  rw [(List.mem_replicate.mp hl).2] at ht
  exact h t ht
theorem all_isF {a : List T} (h : AllF a) : a.all isF = true := List.all_eq_true.mpr h
theorem all_int {ns : List Int} : (ns.map T.int).all isF = true := all_isF AllF_int
theorem all_map {α : Type} {f : α → T} {l : List α} (h : ∀ x, isF (f x) = true) : (l.map f).all isF = true := all_isF fun t ht => by
  obtain ⟨i, _, rfl⟩ := List.mem_map.mp ht
  exact h i
theorem flatL_map {α : Type} {f : α → T} {l : List α} (h : ∀ x ∈ l, flat (f x) = true) : flatL (l.map f) = true := flatL_iff.mpr fun t ht => by
  obtain ⟨i, hi, rfl⟩ := List.mem_map.mp ht
  exact h i hi
theorem flatL_int {ns : List Int} : flatL (ns.map T.int) = true := flatL_map fun _ _ => rfl
theorem flat_int {i : Int} : flat (.int i) = true := rfl
theorem flat_bl {i : Bool} : flat (.bl i) = true := rfl
theorem flat_non : flat .non = true := rfl
theorem flat_str {x : Str} : flat (.str x) = true := rfl
theorem flat_L {ts : List T} : flat (.nd .lst true ts) = flatL ts := by rw [flat]; all_goals simp
theorem flat_tup {ts : List T} : flat (.nd .tup false ts) = flatL ts := by rw [flat]
theorem flat_tupO {ts : List T} : flat (.nd .tup true ts) = flatL ts := by rw [flat]; all_goals simp
theorem flatL_nil : flatL [] = true := rfl
theorem flatL_cons {t : T} {r : List T} : flatL (t :: r) = (flat t && flatL r) := rfl
theorem flatL_app {a b : List T} : flatL (a ++ b) = (flatL a && flatL b) := by
  induction a with
  | nil => simp [flatL]
  | cons t r ih => simp only [List.cons_append, flatL, ih, Bool.and_assoc]
theorem flat_pT {p : Int × Int} : flat (pT p) = true := rfl
theorem isF_pT {p : Int × Int} : isF (pT p) = true := rfl
/-! equality -/
theorem OkT_int {n : Nat} {i : Int} : OkT n (.int i) := by cases n <;> trivial
theorem OkT_bl {n : Nat} {i : Bool} : OkT n (.bl i) := by cases n <;> trivial
theorem OkT_str {n : Nat} {i : Str} : OkT n (.str i) := by cases n <;> trivial
theorem OkT_non {n : Nat} : OkT n .non := by cases n <;> trivial
theorem OkT_lst {n : Nat} {o : Bool} {ts : List T} : OkT (n + 1) (.nd .lst o ts) ↔ ∀ t ∈ ts, OkT n t := Iff.rfl
theorem OkT_tup {n : Nat} {o : Bool} {ts : List T} : OkT (n + 1) (.nd .tup o ts) ↔ ∀ t ∈ ts, OkT n t := Iff.rfl
theorem OkT_scr {n : Nat} {o : Bool} {ts : List T} : OkT (n + 1) (.nd .scr o ts) ↔ ∀ t ∈ ts, OkT n t := Iff.rfl
theorem OkT_pT {n : Nat} {p : Int × Int} : OkT (n + 1) (pT p) := fun t ht => by
  simp at ht
  rcases ht with rfl | rfl <;> exact OkT_int
theorem OkT_ints {n : Nat} {ns : List Int} : ∀ t ∈ ns.map T.int, OkT n t := fun t h => by
  obtain ⟨i, _, rfl⟩ := List.mem_map.mp h
  exact OkT_int
theorem OkT_map {α : Type} {n : Nat} {f : α → T} {l : List α} : (∀ t ∈ l.map f, OkT n t) ↔ ∀ x ∈ l, OkT n (f x) := by simp
theorem eqT_refl (a : T) : eqT a a = true := PySem.SeqAt.eqv_refl_plain _ (py_plain a)
theorem eqT_int {i j : Int} : eqT (.int i) (.int j) = decide (i = j) := by
  show PyData.eqv (.int i) (.int j) = _
  by_cases e : i = j
  · subst e
    simp [PyData.eqv]
  · simp [PyData.eqv, e]
theorem eqT_bl {i j : Bool} : eqT (.bl i) (.bl j) = decide (i = j) := by
  show PyData.eqv (.bool i) (.bool j) = _
  cases i <;> cases j <;> rfl
theorem eqT_nonI {i : Int} : eqT .non (.int i) = false := rfl
theorem eqT_Inon {i : Int} : eqT (.int i) .non = false := rfl
theorem eqT_non : eqT .non .non = true := rfl
/-- lists, part by part -/
def eqTs (a b : List T) : Bool := PyData.eqvAll (pyL a) (pyL b)
theorem eqT_lst {o o' : Bool} {a b : List T} : eqT (.nd .lst o a) (.nd .lst o' b) = eqTs a b := rfl
theorem eqT_tup {o o' : Bool} {a b : List T} : eqT (.nd .tup o a) (.nd .tup o' b) = eqTs a b := rfl
theorem eqT_lt {o o' : Bool} {a b : List T} : eqT (.nd .lst o a) (.nd .tup o' b) = false := rfl
theorem eqT_tl {o o' : Bool} {a b : List T} : eqT (.nd .tup o a) (.nd .lst o' b) = false := rfl
theorem eqTs_nil : eqTs [] [] = true := rfl
theorem eqTs_nc {b : T} {r : List T} : eqTs [] (b :: r) = false := rfl
theorem eqTs_cn {b : T} {r : List T} : eqTs (b :: r) [] = false := rfl
theorem eqTs_cons {a b : T} {r s : List T} : eqTs (a :: r) (b :: s) = (eqT a b && eqTs r s) := rfl
theorem eqTs_map {α : Type} {f : α → T} (h : ∀ x y, eqT (f x) (f y) = true ↔ x = y) [DecidableEq α] : ∀ a b : List α, eqTs (a.map f) (b.map f) = decide (a = b)
  | [], [] => rfl
  | [], _ :: _ => rfl
  | _ :: _, [] => rfl
  | x :: r, y :: s => by
    rw [List.map_cons, List.map_cons, eqTs_cons, eqTs_map h r s]
    by_cases e : x = y
    · subst e
      simp [eqT_refl]
    · have : eqT (f x) (f y) = false := by
        cases e2 : eqT (f x) (f y) with
        | false => rfl
        | true => exact absurd ((h x y).mp e2) e
      simp [this, e]
theorem eqTs_int (a b : List Int) : eqTs (a.map T.int) (b.map T.int) = decide (a = b) := eqTs_map (fun x y => by simp [eqT_int]) a b
theorem eqTs_bl (a b : List Bool) : eqTs (a.map T.bl) (b.map T.bl) = decide (a = b) := eqTs_map (fun x y => by simp [eqT_bl]) a b
theorem eqT_pT {p q : Int × Int} : eqT (pT p) (pT q) = decide (p = q) := by
  obtain ⟨a, b⟩ := p
  obtain ⟨c, d⟩ := q
  show eqTs [.int a, .int b] [.int c, .int d] = _
  rw [eqTs_cons, eqTs_cons, eqT_int, eqT_int, eqTs_nil]
  simp [Bool.and_true, Prod.mk.injEq, Bool.decide_and]
theorem eqTs_pT (a b : List (Int × Int)) : eqTs (a.map pT) (b.map pT) = decide (a = b) := eqTs_map (fun x y => by simp [eqT_pT]) a b
theorem eqTs_nilR {a : List T} : eqTs a [] = a.isEmpty := by cases a <;> rfl
theorem eqTs_nilL {a : List T} : eqTs [] a = a.isEmpty := by cases a <;> rfl
theorem anyI {ns : List Int} {k : Int} : ((ns.map T.int).any fun t => eqT t (.int k)) = decide (k ∈ ns) := by
  induction ns with
  | nil => rfl
  | cons n r ih =>
    rw [List.map_cons, List.any_cons, ih, eqT_int]
    by_cases e : n = k
    · subst e; simp
    · have : k ≠ n := fun z => e z.symm
      simp [e, this]
/-! pieces -/
theorem cut_map {α β : Type} (f : α → β) (xs : List α) (lo hi : Option Int) : TV.cutL (xs.map f) lo hi = (TV.cutL xs lo hi).map f := by
  unfold TV.cutL
  rw [List.length_map, List.map_take, List.map_drop]
theorem cut_none {α : Type} (xs : List α) : TV.cutL xs none none = xs := by
  unfold TV.cutL
  simp [HT.sIx]
theorem seqI {ns : List Int} : seqO tInt (ns.map T.int) = some ns := by
  have := seqO_map (f := tInt) (g := T.int) (k := id) (fun _ => rfl) ns
  rwa [List.map_id] at this
theorem seqB {ns : List Bool} : seqO tBl (ns.map T.bl) = some ns := by
  have := seqO_map (f := tBl) (g := T.bl) (k := id) (fun _ => rfl) ns
  rwa [List.map_id] at this
theorem fzL_map {α : Type} {f : α → T} {l : List α} (h : ∀ x, fz (f x) = f x) : fzL (l.map f) = l.map f := by
  induction l with
  | nil => rfl
  | cons x r ih => rw [List.map_cons, fzL, h, ih]
theorem fzL_int {ns : List Int} : fzL (ns.map T.int) = ns.map T.int := fzL_map fun _ => rfl
theorem fzL_pT {ns : List (Int × Int)} : fzL (ns.map pT) = ns.map pT := fzL_map fun _ => rfl
theorem fz_pT {p : Int × Int} : fz (pT p) = pT p := rfl
theorem fzL_id {ts : List T} (h : ∀ t ∈ ts, fz t = t) : fzL ts = ts := by
  induction ts with
  | nil => rfl
  | cons x r ih => rw [fzL, h x (by simp), ih fun t ht => h t (by simp [ht])]
theorem getI {ns : List Int} {i : Nat} : (ns.map T.int)[i]? = ns[i]?.map T.int := List.getElem?_map
theorem setI {ns : List Int} {i : Nat} {x : Int} : (ns.map T.int).set i (.int x) = (ns.set i x).map T.int := (List.map_set (f := T.int)).symm
theorem appI {ns ms : List Int} : ns.map T.int ++ ms.map T.int = (ns ++ ms).map T.int := by simp
theorem snocI {ns : List Int} {x : Int} : ns.map T.int ++ [.int x] = (ns ++ [x]).map T.int := by simp
/-- list(range(..)) -/
def RgB (m : Int) : Prop := -16777216 ≤ m ∧ m ≤ 16777216
def RgB2 (a m : Int) : Prop := -16777216 ≤ a ∧ a ≤ 16777216 ∧ -16777216 ≤ m ∧ m ≤ 16777216 ∧ m - a ≤ 16777216
def wRgL1 (wa : WE') : WE' := fun n δ Q X => wa n δ (fun r δ1 => @optC _ (intA r) ⟨fun m => RgB m ∧ ownQ δ1 (L (rngT 0 m.toNat)) Q⟩) X
def wRgL2 (wa wb : WE') : WE' := fun n δ Q X => wa n δ (fun r δ1 => wb n δ1 (fun s δ2 => @optC _ (intA r) ⟨fun a => @optC _ (intA s) ⟨fun m => RgB2 a m ∧ ownQ δ2 (L (rngT a (m - a).toNat)) Q⟩⟩) X) X
theorem rgV_rp {K : PySem.W.Frag} {M : Hp} (lo hi : Int) : RpL K M (rngT lo (hi - lo).toNat) (rgV lo hi) := by
  have : rgV lo hi = (rngT lo (hi - lo).toNat).map (fun t => match t with | .int i => V.int i | _ => .non) := by
    simp [rgV, rngT]
  have e : rngT lo (hi - lo).toNat = ((List.range (hi - lo).toNat).map fun (i : Nat) => (lo + i : Int)).map T.int := by simp [rngT]
  have e2 : rgV lo hi = ((List.range (hi - lo).toNat).map fun (i : Nat) => (lo + i : Int)).map V.int := by
    rw [this, e]
    simp
  rw [e, e2]
  exact RpL.ints _
section
variable {N : Nat} {K : PySem.W.Frag} {W : WX}
theorem se_listRg1 {ta : TE} {wa : WE'} (ha : SE N K W ta wa) : SE N K W (tLstRg (tRg1 ta)) (wRgL1 wa) := fun n δ Q X h M σ S H r hN p Qm hn hx =>
  ha n δ _ X h M σ S H r hN p _ (fun M1 u H1 a δ1 S1 e1 p1 r1 o1 h1 => by
    obtain ⟨m, hm, hb, q⟩ := opt_elim (show opt (intA _) _ from h1)
    unfold RgB at hb
    refine ⟨m, intA_ok hm o1, ⟨by decide, by decide, by omega, by omega, by omega⟩, fun q' hq => ?_⟩
    have := rgV_rp (K := K) (M := M1) 0 m
    rw [Int.sub_zero] at this
    exact (hn.on e1 p1).list r1 hq this q) hx
theorem se_listRg2 {ta tb : TE} {wa wb : WE'} (ha : SE N K W ta wa) (hb : SE N K W tb wb) : SE N K W (tLstRg (tRg2 ta tb)) (wRgL2 wa wb) := fun n δ Q X h M σ S H r hN p Qm hn hx =>
  ha n δ _ X h M σ S H r hN p _ (fun M1 u H1 a δ1 S1 e1 p1 r1 o1 h1 => hb n δ1 _ X h1 M1 σ S1 H1 r1 hN (p.trans p1) _ (fun M2 v H2 b δ2 S2 e2 p2 r2 o2 h2 => by
    obtain ⟨i, hi, h2⟩ := opt_elim (show opt (intA _) _ from h2)
    obtain ⟨m, hm, hc, q⟩ := opt_elim (show opt (intA _) _ from h2)
    unfold RgB2 at hc
    exact ⟨i, m, intA_ok hi (o1.mono e2 |>.pre p2), intA_ok hm o2, ⟨by omega, by omega, by omega, by omega, by omega⟩, fun q' hq => (hn.on (e1.trans e2) (p1.trans p2)).list r2 hq (rgV_rp i m) q⟩) (hx.on e1 p1)) hx
end
theorem wRgL1_e {wa : WE'} {n : Nat} {δ : Env} {Q : EK} {X : XK'} : wRgL1 wa n δ Q X = wa n δ (fun r δ1 => @optC _ (intA r) ⟨fun m => RgB m ∧ ownQ δ1 (L (rngT 0 m.toNat)) Q⟩) X := id rfl
theorem wRgL2_e {wa wb : WE'} {n : Nat} {δ : Env} {Q : EK} {X : XK'} : wRgL2 wa wb n δ Q X = wa n δ (fun r δ1 => wb n δ1 (fun s δ2 => @optC _ (intA r) ⟨fun a => @optC _ (intA s) ⟨fun m => RgB2 a m ∧ ownQ δ2 (L (rngT a (m - a).toNat)) Q⟩⟩) X) X := id rfl
end EV

/-! EV16: what is never reached; isinstance; the told answer compared with the due one -/
namespace EV
open PySem PySem.Spec PyProof.Rows L2
def wNever : WS := fun _ _ => False
theorem ss_never {N : Nat} {K : PySem.W.Frag} {W : WX} : SS N K W tNever wNever := fun _ _ h => h.elim
theorem wNever_e {δ : Env} {D : ED} : wNever δ D = False := id rfl
/-- a place to say what holds -/
def wSeqC (a b : WS) : WS := wSeq a b
theorem ss_seqC {N : Nat} {K : PySem.W.Frag} {W : WX} {t u : TS} {a b : WS} (ha : SS N K W t a) (hb : SS N K W u b) : SS N K W (tSeq t u) (wSeqC a b) := ss_seq ha hb
theorem wSeqC_e {a b : WS} {δ : Env} {D : ED} : wSeqC a b δ D = wSeq a b δ D := id rfl
theorem cutC {a b : WS} {δ : Env} {D : ED} (P : Env → Prop) (h : ∀ k : Env → Prop, (∀ δ', P δ' → k δ') → a δ ⟨k, D.rt, D.bk, D.ct, D.ex⟩) (h2 : ∀ δ', P δ' → b δ' D) : wSeqC a b δ D := cut P h h2
/-- what is returned takes what the names hold -/
def wRet0 (wa : WE') : WS := fun δ D => wa 0 δ (fun r δ1 => @optC _ (take1 0 δ1 r) ⟨fun q => D.rt q.1 (tk δ.length q.2)⟩) (xk D δ.length)
theorem ss_ret0 {N : Nat} {K : PySem.W.Frag} {W : WX} {te : TE} {wa : WE'} (ha : SE N K W te wa) : SS N K W (tRet te) (wRet0 wa) := fun δ D h M σ τs H r hN E hE =>
  ha _ δ _ _ h M σ (σ ++ τs) H r hN Pre.app _ (fun M1 u H1 a δ1 S1 e1 p1 r1 o1 h1 => by
    obtain ⟨⟨τ, δ2⟩, ht, q⟩ := opt_elim (show opt (take1 0 _ _) _ from h1)
    obtain ⟨M2, x, s2, r2, g1, g2⟩ := take1_ok (β := []) r1 ht o1
    obtain ⟨ρ, rfl⟩ := p1
    have r3 := r2.cut
    rw [r.ls] at r3
    subst g1
    rw [← g2]
    exact hE.rt M2 σ H1 _ x (e1.trans s2) rfl r3 q) (XC_of hE r.ls.symm)
theorem wRet0_e {wa : WE'} {δ : Env} {D : ED} : wRet0 wa δ D = wa 0 δ (fun r δ1 => @optC _ (take1 0 δ1 r) ⟨fun q => D.rt q.1 (tk δ.length q.2)⟩) (xk D δ.length) := id rfl
theorem isi_NoneType_bool : isiB "NoneType" "bool" = some false := by simp [isiB]
theorem isi_NoneType_int : isiB "NoneType" "int" = some false := by simp [isiB]
theorem isi_NoneType_str : isiB "NoneType" "str" = some false := by simp [isiB]
theorem isi_NoneType_list : isiB "NoneType" "list" = some false := by simp [isiB]
theorem isi_NoneType_tuple : isiB "NoneType" "tuple" = some false := by simp [isiB]
theorem isi_NoneType_dict : isiB "NoneType" "dict" = some false := by simp [isiB]
theorem isi_bool_bool : isiB "bool" "bool" = some true := by simp [isiB]
theorem isi_bool_int : isiB "bool" "int" = some true := by simp [isiB]
theorem isi_bool_str : isiB "bool" "str" = some false := by simp [isiB]
theorem isi_bool_list : isiB "bool" "list" = some false := by simp [isiB]
theorem isi_bool_tuple : isiB "bool" "tuple" = some false := by simp [isiB]
theorem isi_bool_dict : isiB "bool" "dict" = some false := by simp [isiB]
theorem isi_int_bool : isiB "int" "bool" = some false := by simp [isiB]
theorem isi_int_int : isiB "int" "int" = some true := by simp [isiB]
theorem isi_int_str : isiB "int" "str" = some false := by simp [isiB]
theorem isi_int_list : isiB "int" "list" = some false := by simp [isiB]
theorem isi_int_tuple : isiB "int" "tuple" = some false := by simp [isiB]
theorem isi_int_dict : isiB "int" "dict" = some false := by simp [isiB]
theorem isi_str_bool : isiB "str" "bool" = some false := by simp [isiB]
theorem isi_str_int : isiB "str" "int" = some false := by simp [isiB]
theorem isi_str_str : isiB "str" "str" = some true := by simp [isiB]
theorem isi_str_list : isiB "str" "list" = some false := by simp [isiB]
theorem isi_str_tuple : isiB "str" "tuple" = some false := by simp [isiB]
theorem isi_str_dict : isiB "str" "dict" = some false := by simp [isiB]
theorem isi_list_bool : isiB "list" "bool" = some false := by simp [isiB]
theorem isi_list_int : isiB "list" "int" = some false := by simp [isiB]
theorem isi_list_str : isiB "list" "str" = some false := by simp [isiB]
theorem isi_list_list : isiB "list" "list" = some true := by simp [isiB]
theorem isi_list_tuple : isiB "list" "tuple" = some false := by simp [isiB]
theorem isi_list_dict : isiB "list" "dict" = some false := by simp [isiB]
theorem isi_tuple_bool : isiB "tuple" "bool" = some false := by simp [isiB]
theorem isi_tuple_int : isiB "tuple" "int" = some false := by simp [isiB]
theorem isi_tuple_str : isiB "tuple" "str" = some false := by simp [isiB]
theorem isi_tuple_list : isiB "tuple" "list" = some false := by simp [isiB]
theorem isi_tuple_tuple : isiB "tuple" "tuple" = some true := by simp [isiB]
theorem isi_tuple_dict : isiB "tuple" "dict" = some false := by simp [isiB]
theorem brC_not {b : Bool} {p q : Prop} : @brC (!b) ⟨p, q⟩ = @brC b ⟨q, p⟩ := by cases b <;> rfl
mutual
/-- found as due: same kind, same parts -/
def likeT : T → T → Bool
  | .non, f => isNon f
  | .bl b, .bl c => c == b
  | .int i, .int j => j == i
  | .nd .lst _ ds, .nd .lst _ fs => likeL ds fs
  | .nd .tup _ ds, .nd .tup _ fs => likeL ds fs
  | _, _ => false
def likeL : List T → List T → Bool
  | [], [] => true
  | d :: ds, f :: fs => likeT d f && likeL ds fs
  | _, _ => false
end
/-- what may be compared: frozen, to a depth -/
def LikeStep (P : T → Prop) : T → Prop
  | .non => True
  | .bl _ => True
  | .int _ => True
  | .nd .lst false ts => ts.length ≤ 100000 ∧ ∀ t ∈ ts, P t
  | .nd .tup false ts => ts.length ≤ 100000 ∧ ∀ t ∈ ts, P t
  | _ => False
def LikeOk : Nat → T → Prop
  | 0 => LikeStep fun _ => False
  | n + 1 => LikeStep (LikeOk n)
theorem LikeOk.zero {t : T} : LikeOk 0 t = LikeStep (fun _ => False) t := rfl
theorem LikeOk.succ {n : Nat} {t : T} : LikeOk (n + 1) t = LikeStep (LikeOk n) t := rfl
theorem LikeStep.elim {P : T → Prop} {M : T → Prop} {t : T} (h : LikeStep P t) (hn : M .non) (hb : ∀ b, M (.bl b)) (hi : ∀ i, M (.int i)) (hl : ∀ ts, ts.length ≤ 100000 → (∀ t ∈ ts, P t) → M (.nd .lst false ts)) (ht : ∀ ts, ts.length ≤ 100000 → (∀ t ∈ ts, P t) → M (.nd .tup false ts)) : M t := by
  cases t with
  | non => exact hn
  | bl b => exact hb b
  | int i => exact hi i
  | nd c o ts =>
    cases c with
    | lst => cases o with
      | false => exact hl ts h.1 h.2
      | true => exact False.elim h
    | tup => cases o with
      | false => exact ht ts h.1 h.2
      | true => exact False.elim h
    | _ => exact False.elim h
  | _ => exact False.elim h
theorem likeL_len : ∀ {ds fs : List T}, fs.length ≠ ds.length → likeL ds fs = false
  | [], [], h => absurd rfl h
  | [], _ :: _, _ => rfl
  | _ :: _, [], _ => rfl
  | d :: ds, f :: fs, h => by simp only [likeL, likeL_len (ds := ds) (fs := fs) (fun e => h (by simp [e])), Bool.and_false]
theorem likeL_all : ∀ {ds fs : List T}, fs.length = ds.length → (likeL ds fs = true ↔ ∀ (i : Nat) (d f : T), ds[i]? = some d → fs[i]? = some f → likeT d f = true)
  | [], [], _ => by simp [likeL]
  | [], _ :: _, h => by simp at h
  | _ :: _, [], h => by simp at h
  | d :: ds, f :: fs, h => by
    simp only [likeL, Bool.and_eq_true]
    rw [likeL_all (ds := ds) (fs := fs) (by simpa using h)]
    constructor
    · rintro ⟨h1, h2⟩ i d' f' e1 e2
      cases i with
      | zero => simp at e1 e2; subst e1 e2; exact h1
      | succ i => exact h2 i d' f' (by simpa using e1) (by simpa using e2)
    · intro h
      exact ⟨h 0 d f rfl rfl, fun i d' f' e1 e2 => h (i + 1) d' f' (by simpa using e1) (by simpa using e2)⟩
theorem LikeStep.or {P : T → Prop} {t : T} (h : LikeStep P t) : t = .non ∨ (∃ b, t = .bl b) ∨ (∃ i, t = .int i) ∨ (∃ ts, t = .nd .lst false ts ∧ ts.length ≤ 100000 ∧ ∀ t ∈ ts, P t) ∨ ∃ ts, t = .nd .tup false ts ∧ ts.length ≤ 100000 ∧ ∀ t ∈ ts, P t :=
  h.elim (M := fun t => t = .non ∨ (∃ b, t = .bl b) ∨ (∃ i, t = .int i) ∨ (∃ ts, t = .nd .lst false ts ∧ ts.length ≤ 100000 ∧ ∀ t ∈ ts, P t) ∨ ∃ ts, t = .nd .tup false ts ∧ ts.length ≤ 100000 ∧ ∀ t ∈ ts, P t) (.inl rfl) (fun b => .inr (.inl ⟨b, rfl⟩)) (fun b => .inr (.inr (.inl ⟨b, rfl⟩))) (fun ts h1 h2 => .inr (.inr (.inr (.inl ⟨ts, rfl, h1, h2⟩)))) fun ts h1 h2 => .inr (.inr (.inr (.inr ⟨ts, rfl, h1, h2⟩)))
theorem LikeStep.pl {P : T → Prop} {t : T} (h : LikeStep P t) : isF t = true := h.elim (M := fun t => isF t = true) rfl (fun _ => rfl) (fun _ => rfl) (fun _ _ _ => rfl) fun _ _ _ => rfl
theorem okA_ff {a b : T} (ha : isF a = true) (hb : isF b = true) : okA [false, false] [a, b] = true := by simp [okA, ha, hb]
theorem LikeOk.step {n : Nat} {t : T} (h : LikeOk n t) : ∃ P, LikeStep P t := by
  cases n with
  | zero => exact ⟨_, h⟩
  | succ n => exact ⟨_, h⟩
theorem LikeOk.pl {n : Nat} {t : T} (h : LikeOk n t) : isF t = true := by
  obtain ⟨P, h⟩ := h.step
  exact h.elim (M := fun t => isF t = true) rfl (fun _ => rfl) (fun _ => rfl) (fun _ _ _ => rfl) fun _ _ _ => rfl
theorem LikeOk.non {n : Nat} : LikeOk n .non := by cases n <;> trivial
theorem LikeOk.fz : ∀ {n : Nat} {t : T}, LikeOk n t → EV.fz t = t
  | 0, t, h => LikeStep.elim (M := fun t => EV.fz t = t) h rfl (fun _ => rfl) (fun _ => rfl) (fun ts _ hp => by rw [EV.fz, fzL_id fun t ht => (hp t ht).elim]) fun ts _ hp => by rw [EV.fz, fzL_id fun t ht => (hp t ht).elim]
  | n + 1, t, h => LikeStep.elim (M := fun t => EV.fz t = t) h rfl (fun _ => rfl) (fun _ => rfl) (fun ts _ hp => by rw [EV.fz, fzL_id fun t ht => LikeOk.fz (hp t ht)]) fun ts _ hp => by rw [EV.fz, fzL_id fun t ht => LikeOk.fz (hp t ht)]
theorem noneE {P : Program} {w : World} {K : PySem.W.Frag} {mg : Str → Option Value} {base : Heap} {CX : CXT} {k : Nat} {f : Addr} {fd : FuncData} {ps : List Str} {c : Con'} (hc : ∀ ts Q X, c ts Q X → False) : FnOk P w K mg base CX k f fd ps (spX K c) :=
  ⟨fun vs H Q E h => by obtain ⟨_, _, _, h⟩ := h; exact (hc _ _ _ h).elim, fun A outer s H args us vs Q E _ _ _ _ h => by obtain ⟨_, _, _, h⟩ := h; exact (hc _ _ _ h).elim⟩
theorem LikeOk.int {n : Nat} {i : Int} : LikeOk n (.int i) := by cases n <;> trivial
theorem LikeOk.bl {n : Nat} {i : Bool} : LikeOk n (.bl i) := by cases n <;> trivial
theorem LikeOk.ints {n : Nat} {ns : List Int} (h : ns.length ≤ 100000) : LikeOk (n + 1) (.nd .lst false (ns.map T.int)) := ⟨by simpa using h, fun t ht => by
  obtain ⟨i, _, rfl⟩ := List.mem_map.mp ht
  exact LikeOk.int⟩
theorem LikeOk.map {α : Type} {n : Nat} {f : α → T} {l : List α} (h : l.length ≤ 100000) (hf : ∀ x ∈ l, LikeOk n (f x)) : LikeOk (n + 1) (.nd .lst false (l.map f)) := ⟨by simpa using h, fun t ht => by
  obtain ⟨i, hi, rfl⟩ := List.mem_map.mp ht
  exact hf i hi⟩
theorem likeL_map {α : Type} [DecidableEq α] {f : α → T} (h : ∀ x y, likeT (f x) (f y) = decide (x = y)) : ∀ a b : List α, likeL (a.map f) (b.map f) = decide (a = b)
  | [], [] => rfl
  | [], _ :: _ => rfl
  | _ :: _, [] => rfl
  | x :: r, y :: s => by
    rw [List.map_cons, List.map_cons, likeL, likeL_map h r s, h]
    by_cases e : x = y <;> simp [e]
theorem likeT_int {i j : Int} : likeT (.int i) (.int j) = decide (i = j) := by
  rw [likeT]
  by_cases e : i = j
  · subst e; simp
  · have : j ≠ i := fun z => e z.symm
    simp [e, this]
theorem likeT_bl {i j : Bool} : likeT (.bl i) (.bl j) = decide (i = j) := by cases i <;> cases j <;> rfl
theorem likeT_ints {o p : Bool} {a b : List Int} : likeT (.nd .lst o (a.map T.int)) (.nd .lst p (b.map T.int)) = decide (a = b) := by
  rw [likeT]
  exact likeL_map (fun _ _ => likeT_int) a b
theorem likeT_pT {p q : Int × Int} : likeT (pT p) (pT q) = decide (p = q) := by
  obtain ⟨a, b⟩ := p
  obtain ⟨c, d⟩ := q
  show likeT (.nd .tup false [.int a, .int b]) (.nd .tup false [.int c, .int d]) = _
  rw [likeT, likeL, likeL, likeL, likeT_int, likeT_int]
  simp [Prod.mk.injEq, Bool.decide_and]
theorem likeT_map {α : Type} [DecidableEq α] {f : α → T} {o p : Bool} (h : ∀ x y, likeT (f x) (f y) = decide (x = y)) (a b : List α) : likeT (.nd .lst o (a.map f)) (.nd .lst p (b.map f)) = decide (a = b) := by
  rw [likeT]
  exact likeL_map h a b
end EV

/-! EV17: loops over ranges, lists, enumerations -/
namespace EV
open PySem PySem.Spec PyProof.Rows L2
def kil1 (f : Nat → List Nat → Bool) (o : Option Sl) : Option Sl := match o with
  | some (.al j p) => if f j p then none else some (.al j p)
  | o => o
/-- a slot that holds a tree, or nothing -/
def oT (y : Option T) : Option Sl := y.map Sl.t
theorem kil_nil {f : Nat → List Nat → Bool} : kil f [] = [] := rfl
theorem kil_cons {f : Nat → List Nat → Bool} {o : Option Sl} {δ : Env} : kil f (o :: δ) = kil1 f o :: kil f δ := rfl
theorem kil_app {f : Nat → List Nat → Bool} {δ δ' : Env} : kil f (δ ++ δ') = kil f δ ++ kil f δ' := by simp [kil]
theorem kil1_n {f : Nat → List Nat → Bool} : kil1 f none = none := rfl
theorem kil1_t {f : Nat → List Nat → Bool} {τ : T} : kil1 f (some (.t τ)) = some (.t τ) := rfl
theorem kil1_al {f : Nat → List Nat → Bool} {j : Nat} {p : List Nat} : kil1 f (some (.al j p)) = if f j p = true then none else some (.al j p) := rfl
theorem kil1_o {f : Nat → List Nat → Bool} {y : Option T} : kil1 f (oT y) = oT y := by cases y <;> rfl
def noAl1 (j : Nat) (o : Option Sl) : Bool := match o with
  | some (.al i _) => !(i == j)
  | _ => true
theorem noAl_nil {j : Nat} : noAl j [] = true := rfl
theorem noAl_cons {j : Nat} {o : Option Sl} {δ : Env} : noAl j (o :: δ) = (noAl1 j o && noAl j δ) := rfl
theorem noAl1_n {j : Nat} : noAl1 j none = true := rfl
theorem noAl1_t {j : Nat} {τ : T} : noAl1 j (some (.t τ)) = true := rfl
theorem noAl1_al {i j : Nat} {p : List Nat} : noAl1 j (some (.al i p)) = !(i == j) := rfl
theorem noAl1_o {j : Nat} {y : Option T} : noAl1 j (oT y) = true := by cases y <;> rfl
def reAl1 (j : Nat) (o x : Option Sl) : Option Sl := match o, x with
  | some (.al i []), none => if i = j then some (.al j []) else none
  | _, x => x
theorem reAl_nil {j : Nat} {δ : Env} : reAl [] j δ = [] := rfl
theorem reAl_nil2 {j : Nat} {δ : Env} : reAl δ j [] = [] := by cases δ <;> rfl
theorem reAl_cons {j : Nat} {o x : Option Sl} {δ δ' : Env} : reAl (o :: δ) j (x :: δ') = reAl1 j o x :: reAl δ j δ' := rfl
theorem reAl1_t {j : Nat} {τ : T} {x : Option Sl} : reAl1 j (some (.t τ)) x = x := rfl
theorem reAl1_n {j : Nat} {x : Option Sl} : reAl1 j none x = x := rfl
theorem reAl1_o {j : Nat} {y : Option T} {x : Option Sl} : reAl1 j (oT y) x = x := by cases y <;> rfl
theorem reAl1_al {i j : Nat} : reAl1 j (some (.al i [])) none = if i = j then some (.al j []) else none := rfl
theorem reAl1_xt {j : Nat} {o : Option Sl} {τ : T} : reAl1 j o (some (.t τ)) = some (.t τ) := by unfold reAl1; split <;> simp_all
theorem ixN_0 {n : Nat} (h : 0 < n) : ixN n 0 = some 0 := ixN_nat (i := 0) h
theorem ixN_1 {n : Nat} (h : 1 < n) : ixN n 1 = some 1 := ixN_nat (i := 1) h
theorem ixN_2 {n : Nat} (h : 2 < n) : ixN n 2 = some 2 := ixN_nat (i := 2) h
theorem ixN_3 {n : Nat} (h : 3 < n) : ixN n 3 = some 3 := ixN_nat (i := 3) h
theorem ixN_4 {n : Nat} (h : 4 < n) : ixN n 4 = some 4 := ixN_nat (i := 4) h
theorem ixN_m1 {n : Nat} (h : 0 < n) : ixN n (-1) = some (n - 1) := ixN_neg (by omega) (by omega)
theorem ixN_p {n : Nat} {i : Int} (h : 0 ≤ i) (h2 : i < n) : ixN n i = some i.toNat := ixN_of (by omega) (by omega)
theorem ixN_n {n : Nat} {i : Int} (h : i < 0) (h2 : 0 ≤ i + n) : ixN n i = some (i + n).toNat := ixN_neg (by omega) h
theorem isF_non : isF .non = true := rfl
theorem isF_bl {b : Bool} : isF (.bl b) = true := rfl
theorem isF_int {i : Int} : isF (.int i) = true := rfl
theorem isF_str {i : Str} : isF (.str i) = true := rfl
theorem isF_ty {i : String} : isF (.ty i) = true := rfl
theorem isF_adr {i : Addr} : isF (.adr i) = true := rfl
theorem isF_nd {c : Con} {o : Bool} {ts : List T} : isF (.nd c o ts) = !o := rfl
theorem rngT_get {a : Int} {m i : Nat} (h : i < m) : (rngT a m)[i]? = some (.int (a + (i : Nat))) := by simp [rngT, h]
theorem enumT_get {ts : List T} {i : Nat} {t : T} (h : ts[i]? = some t) : (enumT ts)[i]? = some (.nd .tup false [.int (i : Nat), t]) := by simp [enumT, h]
theorem enumT_length {ts : List T} : (enumT ts).length = ts.length := by simp [enumT]
theorem get_lt {α : Type} {l : List α} {i : Nat} (h : i < l.length) : l[i]? = some l[i] := List.getElem?_eq_getElem h
section
variable {g : WG} {b : WS} {D : ED} {n n1 m z : Nat} {δ : Env} {its : ItS} {α : Type}
/-- a turn, the item known -/
def turnV (x : Arg) (g : WG) (b : WS) (D : ED) (n n1 : Nat) (δ : Env) (k : Env → Prop) : Prop := @optC _ (g n1 δ x) ⟨fun δ2 => b (tk n1 δ2) ⟨k, fun τ δ' => D.rt τ (tk n δ'), fun δ' => D.nx (tk n δ'), k, fun C x δ' => D.ex C x (tk n δ')⟩⟩
theorem turnV_e {x : Arg} {k : Env → Prop} : turnV x g b D n n1 δ k = @optC _ (g n1 δ x) ⟨fun δ2 => b (tk n1 δ2) ⟨k, fun τ δ' => D.rt τ (tk n δ'), fun δ' => D.nx (tk n δ'), k, fun C x δ' => D.ex C x (tk n δ')⟩⟩ := id rfl
theorem turn_st {ts : List T} {srcs : List (Nat × T)} {i : Nat} {t : T} {k : Env → Prop} (h : ts[i]? = some t) (q : turnV (.v t) g b D n n1 δ k) : turnW (.st ts srcs) g b D n n1 i δ k := by
  have e : itemA δ i (.st ts srcs) = some (.v t, δ) := by simp only [itemA, h, Option.map_some]
  unfold turnW
  rw [e]
  exact q
theorem loop_rng {a : Int} (P : Nat → Env → Prop) (h0 : P 0 δ) (hs : ∀ (i : Nat) δ, i < m → P i δ → ∀ k : Env → Prop, (∀ δ', P (i + 1) δ' → k δ') → turnV (.v (.int (a + (i : Nat)))) g b D n n1 δ k) (hd : ∀ δ, P m δ → D.nx (tk n δ)) (hz : z = m := by simp [rngT_length]) : loopW (.st (rngT a m) []) g b D n n1 z 0 δ :=
  loop_ind (its := .st (rngT a m) []) (N := m) P (fun i δ h q hq => by simp at hq) (fun i δ hi h k hk => turn_st (rngT_get hi) (hs i δ hi h k hk)) hd (by omega) h0
theorem loop_map {f : α → T} {l : List α} {srcs : List (Nat × T)} (P : Nat → Env → Prop) (h0 : P 0 δ) (hk : ∀ i δ, P i δ → ∀ q ∈ srcs, argT δ (.sl q.1) = some q.2) (hs : ∀ (i : Nat) δ x, l[i]? = some x → P i δ → ∀ k : Env → Prop, (∀ δ', P (i + 1) δ' → k δ') → turnV (.v (f x)) g b D n n1 δ k) (hd : ∀ δ, P l.length δ → D.nx (tk n δ)) (hz : z = l.length := by simp) : loopW (.st (l.map f) srcs) g b D n n1 z 0 δ :=
  loop_ind (its := .st (l.map f) srcs) (N := l.length) P (fun i δ h => hk i δ h) (fun i δ hi h k hk => turn_st (t := f l[i]) (by simp [get_lt hi]) (hs i δ _ (get_lt hi) h k hk)) hd (by omega) h0
theorem loop_enum {f : α → T} {l : List α} {srcs : List (Nat × T)} (P : Nat → Env → Prop) (h0 : P 0 δ) (hk : ∀ i δ, P i δ → ∀ q ∈ srcs, argT δ (.sl q.1) = some q.2) (hs : ∀ (i : Nat) δ x, l[i]? = some x → P i δ → ∀ k : Env → Prop, (∀ δ', P (i + 1) δ' → k δ') → turnV (.v (.nd .tup false [.int (i : Nat), f x])) g b D n n1 δ k) (hd : ∀ δ, P l.length δ → D.nx (tk n δ)) (hz : z = l.length := by simp [enumT_length]) : loopW (.st (enumT (l.map f)) srcs) g b D n n1 z 0 δ :=
  loop_ind (its := .st (enumT (l.map f)) srcs) (N := l.length) P (fun i δ h => hk i δ h) (fun i δ hi h k hk => turn_st (t := .nd .tup false [.int (i : Nat), f l[i]]) (enumT_get (by simp [get_lt hi])) (hs i δ _ (get_lt hi) h k hk)) hd (by omega) h0
theorem loop_list {l : List T} {srcs : List (Nat × T)} (P : Nat → Env → Prop) (h0 : P 0 δ) (hk : ∀ i δ, P i δ → ∀ q ∈ srcs, argT δ (.sl q.1) = some q.2) (hs : ∀ (i : Nat) δ x, l[i]? = some x → P i δ → ∀ k : Env → Prop, (∀ δ', P (i + 1) δ' → k δ') → turnV (.v x) g b D n n1 δ k) (hd : ∀ δ, P l.length δ → D.nx (tk n δ)) (hz : z = l.length := by rfl) : loopW (.st l srcs) g b D n n1 z 0 δ :=
  loop_ind (its := .st l srcs) (N := l.length) P (fun i δ h => hk i δ h) (fun i δ hi h k hk => turn_st (get_lt hi) (hs i δ _ (get_lt hi) h k hk)) hd (by omega) h0
/-- a list that is one's own, read where it stands -/
theorem loop_lv {k m : Nat} (P : Nat → Env → Prop) (h0 : P 0 δ) (hm : ∀ i δ, P i δ → (lqK δ (.sl k)).map List.length = some m) (hs : ∀ (i : Nat) δ, i < m → P i δ → ∀ k' : Env → Prop, (∀ δ', P (i + 1) δ' → k' δ') → turnW (.lv k m) g b D n n1 i δ k') (hd : ∀ δ, P m δ → D.nx (tk n δ)) : loopW (.lv k m) g b D n n1 m 0 δ :=
  loop_ind (N := m) (its := .lv k m) P (fun i δ h => hm i δ h) hs hd (by omega) h0
theorem turn_lvF {k i : Nat} {ts : List T} {t : T} {k' : Env → Prop} (h : lqK δ (.sl k) = some ts) (ht : ts[i]? = some t) (hf : isF t = true) (q : turnV (.v t) g b D n n1 δ k') : turnW (.lv k m) g b D n n1 i δ k' := by
  have : itemA δ i (.lv k m) = some (.v t, δ) := by
    unfold itemA
    simp only [h, Option.bind_some, ht, hf, if_true]
  unfold turnW
  rw [this]
  exact q
theorem loop_lvM {f : α → T} {l : List α} {k : Nat} (hf : ∀ x, isF (f x) = true) (P : Nat → Env → Prop) (h0 : P 0 δ) (hl : ∀ i δ, P i δ → lqK δ (.sl k) = some (l.map f)) (hs : ∀ (i : Nat) δ x, l[i]? = some x → P i δ → ∀ k' : Env → Prop, (∀ δ', P (i + 1) δ' → k' δ') → turnV (.v (f x)) g b D n n1 δ k') (hd : ∀ δ, P l.length δ → D.nx (tk n δ)) (hm : m = l.length) : loopW (.lv k m) g b D n n1 m 0 δ := by
  subst hm
  exact loop_lv P h0 (fun i δ h => by rw [hl i δ h]; simp) (fun i δ hi h k' hk => turn_lvF (hl i δ h) (t := f l[i]) (by simp [get_lt hi]) (hf _) (hs i δ _ (get_lt hi) h k' hk)) hd
/-! comprehensions -/
variable {tt : WT'} {we : WE'} {vs : List Nat} {d : Nat} {Q : EK}
def lineV (x : Arg) (g : WG) (tt : WT') (we : WE') (vs : List Nat) (d : Nat) (δ : Env) (k : Env → Prop) : Prop := @optC _ (g (d + 1) δ x) ⟨fun δa => tt (d + 1) δa (fun b δb => @brC b ⟨(we (d + 1) δb (fun r δc => @optC _ ((take1 (d + 1) δc r)) ⟨fun w => lcPut d w fun δd => k (wpe vs (tk (d + 1) δd))⟩) noX), (k (wpe vs (tk (d + 1) δb)))⟩) noX⟩
theorem lineV_e {x : Arg} {k : Env → Prop} : lineV x g tt we vs d δ k = @optC _ (g (d + 1) δ x) ⟨fun δa => tt (d + 1) δa (fun b δb => @brC b ⟨(we (d + 1) δb (fun r δc => @optC _ ((take1 (d + 1) δc r)) ⟨fun w => lcPut d w fun δd => k (wpe vs (tk (d + 1) δd))⟩) noX), (k (wpe vs (tk (d + 1) δb)))⟩) noX⟩ := id rfl
theorem line_st {ts : List T} {srcs : List (Nat × T)} {i : Nat} {t : T} {k : Env → Prop} (h : ts[i]? = some t) (q : lineV (.v t) g tt we vs d δ k) : turnL (.st ts srcs) g tt we vs d i δ k := by
  have e : itemA δ i (.st ts srcs) = some (.v t, δ) := by simp only [itemA, h, Option.map_some]
  unfold turnL
  rw [e]
  exact q
theorem lc_rng {a : Int} (P : Nat → Env → Prop) (h0 : P 0 δ) (hs : ∀ (i : Nat) δ, i < m → P i δ → ∀ k : Env → Prop, (∀ δ', P (i + 1) δ' → k δ') → lineV (.v (.int (a + (i : Nat)))) g tt we vs d δ k) (hd : ∀ δ, P m δ → Q (.sl d) δ) (hz : z = m := by simp [rngT_length]) : lcW (.st (rngT a m) []) g tt we vs Q d z 0 δ :=
  lc_ind (its := .st (rngT a m) []) (N := m) P (fun i δ h q hq => by simp at hq) (fun i δ hi h k hk => line_st (rngT_get hi) (hs i δ hi h k hk)) hd (by omega) h0
theorem lc_map {f : α → T} {l : List α} {srcs : List (Nat × T)} (P : Nat → Env → Prop) (h0 : P 0 δ) (hk : ∀ i δ, P i δ → ∀ q ∈ srcs, argT δ (.sl q.1) = some q.2) (hs : ∀ (i : Nat) δ x, l[i]? = some x → P i δ → ∀ k : Env → Prop, (∀ δ', P (i + 1) δ' → k δ') → lineV (.v (f x)) g tt we vs d δ k) (hd : ∀ δ, P l.length δ → Q (.sl d) δ) (hz : z = l.length := by simp) : lcW (.st (l.map f) srcs) g tt we vs Q d z 0 δ :=
  lc_ind (its := .st (l.map f) srcs) (N := l.length) P (fun i δ h => hk i δ h) (fun i δ hi h k hk => line_st (t := f l[i]) (by simp [get_lt hi]) (hs i δ _ (get_lt hi) h k hk)) hd (by omega) h0
theorem lc_list {l : List T} {srcs : List (Nat × T)} (P : Nat → Env → Prop) (h0 : P 0 δ) (hk : ∀ i δ, P i δ → ∀ q ∈ srcs, argT δ (.sl q.1) = some q.2) (hs : ∀ (i : Nat) δ x, l[i]? = some x → P i δ → ∀ k : Env → Prop, (∀ δ', P (i + 1) δ' → k δ') → lineV (.v x) g tt we vs d δ k) (hd : ∀ δ, P l.length δ → Q (.sl d) δ) (hz : z = l.length := by rfl) : lcW (.st l srcs) g tt we vs Q d z 0 δ :=
  lc_ind (its := .st l srcs) (N := l.length) P (fun i δ h => hk i δ h) (fun i δ hi h k hk => line_st (get_lt hi) (hs i δ _ (get_lt hi) h k hk)) hd (by omega) h0
theorem line_lvF {k i : Nat} {ts : List T} {t : T} {k' : Env → Prop} (h : lqK δ (.sl k) = some ts) (ht : ts[i]? = some t) (hf : isF t = true) (q : lineV (.v t) g tt we vs d δ k') : turnL (.lv k m) g tt we vs d i δ k' := by
  have : itemA δ i (.lv k m) = some (.v t, δ) := by
    unfold itemA
    simp only [h, Option.bind_some, ht, hf, if_true]
  unfold turnL
  rw [this]
  exact q
theorem lc_lvM {f : α → T} {l : List α} {k : Nat} (hf : ∀ x, isF (f x) = true) (P : Nat → Env → Prop) (h0 : P 0 δ) (hl : ∀ i δ, P i δ → lqK δ (.sl k) = some (l.map f)) (hs : ∀ (i : Nat) δ x, l[i]? = some x → P i δ → ∀ k' : Env → Prop, (∀ δ', P (i + 1) δ' → k' δ') → lineV (.v (f x)) g tt we vs d δ k') (hd : ∀ δ, P l.length δ → Q (.sl d) δ) (hm : m = l.length) : lcW (.lv k m) g tt we vs Q d m 0 δ := by
  subst hm
  exact lc_ind (its := .lv k l.length) (N := l.length) P (fun i δ h => by show _ = _; rw [hl i δ h]; simp) (fun i δ hi h k' hk => line_lvF (hl i δ h) (t := f l[i]) (by simp [get_lt hi]) (hf _) (hs i δ _ (get_lt hi) h k' hk)) hd (by omega) h0
end
end EV

/-! EV18: lists of numbers, entries of a way -/
namespace EV
open PySem PySem.Spec PyProof.Rows L2
abbrev nI (ns : List Nat) : List Int := ns.map fun n : Nat => (n : Int)
def cAt (cs : List Int) (i : Nat) : Int := cs.getD i 0
/-- whole numbers from 0 on as trees -/
def tN (n : Nat) : T := .int (n : Nat)
theorem isF_tN {n : Nat} : isF (tN n) = true := rfl
theorem fz_tN {n : Nat} : fz (tN n) = tN n := rfl
theorem flat_tN {n : Nat} : flat (tN n) = true := rfl
abbrev Fi (cs : List Int) : T := .nd .lst false (cs.map T.int)
abbrev Li (cs : List Int) : T := .nd .lst true (cs.map T.int)
abbrev Fn (is : List Nat) : T := .nd .lst false (is.map tN)
abbrev Ln (is : List Nat) : T := .nd .lst true (is.map tN)
theorem getC {cs : List Int} {i : Nat} (h : i < cs.length) : (cs.map T.int)[i]? = some (.int (cAt cs i)) := by simp [cAt, h]
theorem getCZ {cs : List Int} {i : Int} (h0 : 0 ≤ i) (h : i < cs.length) : (cs.map T.int)[i.toNat]? = some (.int (cAt cs i.toNat)) := getC (by omega)
theorem AllF_tN {ns : List Nat} : AllF (ns.map tN) := AllF_map.mpr fun _ _ => rfl
theorem all_tN {ns : List Nat} : (ns.map tN).all isF = true := all_isF AllF_tN
theorem flatL_tN {ns : List Nat} : flatL (ns.map tN) = true := flatL_map fun _ _ => rfl
theorem fzL_tN {ns : List Nat} : fzL (ns.map tN) = ns.map tN := fzL_map fun _ => rfl
theorem tN_int (ns : List Nat) : ns.map tN = (nI ns).map T.int := by simp [nI, tN]
/-- an entry of a way -/
def tE (e : Nat × Int) : T := .nd .tup false [.int (e.1 : Nat), .int e.2]
theorem isF_tE {e : Nat × Int} : isF (tE e) = true := rfl
theorem fz_tE {e : Nat × Int} : fz (tE e) = tE e := rfl
theorem flat_tE {e : Nat × Int} : flat (tE e) = true := rfl
abbrev Le (es : List (Nat × Int)) : T := .nd .lst true (es.map tE)
abbrev Fe (es : List (Nat × Int)) : T := .nd .lst false (es.map tE)
theorem AllF_tE {ns : List (Nat × Int)} : AllF (ns.map tE) := AllF_map.mpr fun _ _ => rfl
theorem all_tE {ns : List (Nat × Int)} : (ns.map tE).all isF = true := all_isF AllF_tE
theorem flatL_tE {ns : List (Nat × Int)} : flatL (ns.map tE) = true := flatL_map fun _ _ => rfl
theorem fzL_tE {ns : List (Nat × Int)} : fzL (ns.map tE) = ns.map tE := fzL_map fun _ => rfl
theorem flatL_Ln {l : List (List Nat)} : flatL (l.map Ln) = true := flatL_map fun _ _ => by rw [flat_L, flatL_tN]
theorem flatL_Li {l : List (List Int)} : flatL (l.map Li) = true := flatL_map fun _ _ => by rw [flat_L, flatL_int]
theorem flatL_Le {l : List (List (Nat × Int))} : flatL (l.map Le) = true := flatL_map fun _ _ => by rw [flat_L, flatL_tE]
theorem rngT_tN (n : Nat) : rngT 0 n = (List.range n).map tN := by
  unfold rngT
  exact List.map_congr_left fun i _ => by simp [tN]
theorem seqN {ns : List Nat} : seqO tInt (ns.map tN) = some (nI ns) := by rw [tN_int]; exact seqI
theorem remN {ns : List Nat} {x : Nat} : ((nI ns).erase (x : Int)).map T.int = (ns.erase x).map tN := by
  induction ns with
  | nil => rfl
  | cons a r ih =>
    by_cases h : a = x
    · subst h; simp [nI, tN]
    · have h2 : ¬ ((a : Int) == (x : Int)) = true := by simpa using fun z => h (by omega)
      have h3 : ¬ (a == x) = true := by simpa using h
      show ((((a : Int) :: nI r).erase (x : Int))).map T.int = _
      rw [List.erase_cons_tail (by simpa using h2), List.erase_cons_tail (by simpa using h3), List.map_cons, ih]
      rfl
theorem emp_map {α : Type} {f : α → T} {l : List α} : (l.map f).isEmpty = l.isEmpty := by cases l <;> rfl
/-! comprehensions whose lines are alike: the list that comes about -/
section
variable {g : WG} {tt : WT'} {we : WE'} {vs : List Nat} {d m : Nat} {Q : EK} {δ : Env} {α : Type}
/-- the slots but the last, and a list on top -/
def onTop (δ : Env) (acc : List T) : Env := δ.dropLast ++ [some (.t (L acc))]
theorem onTop_nil {x : Option Sl} {acc : List T} : onTop [x] acc = [some (.t (L acc))] := rfl
theorem onTop_cons {x y : Option Sl} {r : Env} {acc : List T} : onTop (x :: y :: r) acc = x :: onTop (y :: r) acc := rfl
def accP (p : α → Bool) (ge : α → T) (l : List α) (i : Nat) : List T := ((l.take i).filter p).map ge
theorem accP_s {p : α → Bool} {ge : α → T} {l : List α} {i : Nat} {x : α} (h : l[i]? = some x) : accP p ge l (i + 1) = if p x = true then accP p ge l i ++ [ge x] else accP p ge l i := by
  unfold accP
  rw [List.take_add_one, h, Option.toList_some, List.filter_append, List.map_append]
  by_cases hp : p x = true
  · rw [if_pos hp, List.filter_cons_of_pos hp]
    rfl
  · rw [if_neg hp, List.filter_cons_of_neg hp]
    simp
theorem accP_len {p : α → Bool} {ge : α → T} {l : List α} {i : Nat} : (accP p ge l i).length ≤ i := by
  unfold accP
  rw [List.length_map]
  exact Nat.le_trans (List.length_filter_le _ _) (List.length_take_le _ _)
theorem lc_lvP {f : α → T} {l : List α} {k : Nat} (p : α → Bool) (ge : α → T) (hδ : δ = onTop δ []) (hf : ∀ x, isF (f x) = true) (hl : ∀ acc, lqK (onTop δ acc) (.sl k) = some (l.map f))
    (hs : ∀ (i : Nat) x, l[i]? = some x → ∀ acc : List T, acc.length ≤ i → ∀ kk : Env → Prop, kk (onTop δ (if p x = true then acc ++ [ge x] else acc)) → lineV (.v (f x)) g tt we vs d (onTop δ acc) kk)
    (hd : Q (.sl d) (onTop δ ((l.filter p).map ge))) (hm : m = l.length) : lcW (.lv k m) g tt we vs Q d m 0 δ := by
  refine lc_lvM hf (fun i δ' => δ' = onTop δ (accP p ge l i)) (by simpa [accP] using hδ) (fun i δ' h => by subst h; exact hl _) (fun i δ' x hx h k' hk => ?_) (fun δ' h => ?_) hm
  · subst h
    refine hs i x hx _ accP_len _ (hk _ ?_)
    rw [accP_s hx]
  · subst h
    unfold accP
    rw [List.take_length]
    exact hd
theorem lc_stP {f : α → T} {l : List α} {srcs : List (Nat × T)} {z : Nat} (p : α → Bool) (ge : α → T) (hδ : δ = onTop δ []) (hk : ∀ acc, ∀ q ∈ srcs, argT (onTop δ acc) (.sl q.1) = some q.2)
    (hs : ∀ (i : Nat) x, l[i]? = some x → ∀ acc : List T, acc.length ≤ i → ∀ kk : Env → Prop, kk (onTop δ (if p x = true then acc ++ [ge x] else acc)) → lineV (.v (f x)) g tt we vs d (onTop δ acc) kk)
    (hd : Q (.sl d) (onTop δ ((l.filter p).map ge))) (hm : z = l.length) : lcW (.st (l.map f) srcs) g tt we vs Q d z 0 δ := by
  refine lc_map (fun i δ' => δ' = onTop δ (accP p ge l i)) (by simpa [accP] using hδ) (fun i δ' h => by subst h; exact hk _) (fun i δ' x hx h k' hk => ?_) (fun δ' h => ?_) hm
  · subst h
    refine hs i x hx _ accP_len _ (hk _ ?_)
    rw [accP_s hx]
  · subst h
    unfold accP
    rw [List.take_length]
    exact hd
theorem filter_tt {l : List α} : l.filter (fun _ => true) = l := by simp
end
end EV

/-! EV19: slots that may hold anything -/
namespace EV
open PySem PySem.Spec PyProof.Rows L2
theorem OkT_nil {n : Nat} {o : Bool} : OkT (n + 1) (.nd .lst o []) := fun t ht => by simp at ht
theorem oTs {τ : T} : some (Sl.t τ) = oT (some τ) := id rfl
theorem oTn : (none : Option Sl) = oT none := id rfl
theorem consEq {α : Type} {a b : α} {l r : List α} (h : a = b) (g : l = r) : a :: l = b :: r := by rw [h, g]
theorem likeL_of : ∀ {ts : List T}, (∀ t ∈ ts, likeT t t = true) → likeL ts ts = true
  | [], _ => rfl
  | t :: r, h => by rw [likeL, h t (by simp), likeL_of fun x hx => h x (by simp [hx])]; rfl
theorem likeT_self : ∀ {n : Nat} {t : T}, LikeOk n t → likeT t t = true
  | 0, t, h => LikeStep.elim (M := fun t => likeT t t = true) h rfl (fun b => by simp [likeT]) (fun i => by simp [likeT]) (fun ts _ hp => by rw [likeT]; exact likeL_of fun t ht => (hp t ht).elim) fun ts _ hp => by rw [likeT]; exact likeL_of fun t ht => (hp t ht).elim
  | n + 1, t, h => LikeStep.elim (M := fun t => likeT t t = true) h rfl (fun b => by simp [likeT]) (fun i => by simp [likeT]) (fun ts _ hp => by rw [likeT]; exact likeL_of fun t ht => likeT_self (hp t ht)) fun ts _ hp => by rw [likeT]; exact likeL_of fun t ht => likeT_self (hp t ht)
local macro_rules | `(tactic| walk_at "zz") => `(tactic| (repeat (apply Exists.intro)); repeat' (first | exact oTs | exact oTn | (with_reducible refine consEq ?_ ?_) | rfl))
example (a b : T) (y : Option T) : ∃ z1 z2 z3 : Option T, [some (Sl.t a), none, oT y] = [oT z1, oT z2, oT z3] := by walk_at "zz"
example (a b : T) (y : Option T) : ∃ (n : Nat) (z1 z2 z3 : Option T), n = 3 ∧ [some (Sl.t a), none, oT y, some (.t b)] = [oT z1, oT z2, oT z3, some (.t b)] := ⟨_, _, _, _, rfl, by walk_at "zz"⟩
section
variable {g : WG} {tt : WT'} {we : WE'} {vs : List Nat} {d m : Nat} {Q : EK} {δ : Env} {α : Type}
theorem lc_rngP {a : Int} {z : Nat} (p : Nat → Bool) (ge : Nat → T) (hδ : δ = onTop δ [])
    (hs : ∀ i : Nat, i < m → ∀ acc : List T, acc.length ≤ i → ∀ kk : Env → Prop, kk (onTop δ (if p i = true then acc ++ [ge i] else acc)) → lineV (.v (.int (a + (i : Nat)))) g tt we vs d (onTop δ acc) kk)
    (hd : Q (.sl d) (onTop δ (((List.range m).filter p).map ge))) (hz : z = m := by simp [rngT_length]) : lcW (.st (rngT a m) []) g tt we vs Q d z 0 δ :=
  lc_stP (f := fun i : Nat => T.int (a + (i : Nat))) (l := List.range m) p ge hδ (fun acc q hq => by simp at hq) (fun i x hx acc ha kk hk => by
    obtain ⟨h1, h2⟩ := List.getElem?_eq_some_iff.mp hx
    rw [List.getElem_range] at h2
    rw [List.length_range] at h1
    subst h2
    exact hs _ h1 acc ha kk hk) hd (by simp [hz])
theorem lc_enumP {f : α → T} {l : List α} {srcs : List (Nat × T)} {z : Nat} (p : α × Nat → Bool) (ge : α × Nat → T) (hδ : δ = onTop δ []) (hk : ∀ acc, ∀ q ∈ srcs, argT (onTop δ acc) (.sl q.1) = some q.2)
    (hs : ∀ (i : Nat) x, l[i]? = some x → ∀ acc : List T, acc.length ≤ i → ∀ kk : Env → Prop, kk (onTop δ (if p (x, i) = true then acc ++ [ge (x, i)] else acc)) → lineV (.v (.nd .tup false [.int (i : Nat), f x])) g tt we vs d (onTop δ acc) kk)
    (hd : Q (.sl d) (onTop δ ((l.zipIdx.filter p).map ge))) (hz : z = l.length := by simp [enumT_length]) : lcW (.st (enumT (l.map f)) srcs) g tt we vs Q d z 0 δ := by
  have e : enumT (l.map f) = l.zipIdx.map fun q => T.nd .tup false [.int (q.2 : Nat), f q.1] := by
    unfold enumT
    rw [List.zipIdx_map, List.map_map]
    rfl
  rw [e]
  refine lc_stP (f := fun q : α × Nat => T.nd .tup false [.int (q.2 : Nat), f q.1]) (l := l.zipIdx) p ge hδ hk (fun i x hx acc ha kk hk => ?_) hd (by simp [hz])
  rw [List.getElem?_zipIdx] at hx
  cases e2 : l[i]? with
  | none => rw [e2] at hx; cases hx
  | some y =>
    rw [e2] at hx
    simp at hx
    subst hx
    exact hs i y e2 acc ha kk hk
end
end EV

/-! EV20: aliases forgotten at a turn's end; loops over lists whose parts are one's own -/
namespace EV
open PySem PySem.Spec PyProof.Rows L2
theorem mapI {α : Type} (f : α → Int) (l : List α) : (l.map fun k => T.int (f k)) = (l.map f).map T.int := by rw [List.map_map]; rfl
theorem fz_Li {l : List Int} : fz (Li l) = Fi l := by rw [fz, fzL_int]
theorem fz_Ln {l : List Nat} : fz (Ln l) = Fn l := by rw [fz, fzL_tN]
theorem fz_Le {l : List (Nat × Int)} : fz (Le l) = Fe l := by rw [fz, fzL_tE]
theorem fzL_mapF {α : Type} {f g : α → T} (h : ∀ x, fz (f x) = g x) : ∀ l : List α, fzL (l.map f) = l.map g
  | [] => rfl
  | x :: r => by rw [List.map_cons, fzL, h, fzL_mapF h r, List.map_cons]
theorem fzL_Li {l : List (List Int)} : fzL (l.map Li) = l.map Fi := fzL_mapF (fun _ => fz_Li) l
theorem fzL_Ln {l : List (List Nat)} : fzL (l.map Ln) = l.map Fn := fzL_mapF (fun _ => fz_Ln) l
theorem fzL_Le {l : List (List (Nat × Int))} : fzL (l.map Le) = l.map Fe := fzL_mapF (fun _ => fz_Le) l
theorem LikeOk.lists {n : Nat} {ps : List (List Int)} (h : ps.length ≤ 100000) (g : ∀ l ∈ ps, l.length ≤ 100000) : LikeOk (n + 2) (.nd .lst false (ps.map Fi)) := LikeOk.map h fun l hl => LikeOk.ints (g l hl)
def fg1 (o : Option Sl) : Option Sl := match o with
  | some (.al _ _) => none
  | x => x
def fgE : List Bool → Env → Env
  | [], δ => δ
  | _, [] => []
  | true :: m, o :: δ => fg1 o :: fgE m δ
  | false :: m, o :: δ => o :: fgE m δ
theorem fg1_n : fg1 none = none := rfl
theorem fg1_t {τ : T} : fg1 (some (.t τ)) = some (.t τ) := rfl
theorem fg1_al {j : Nat} {p : List Nat} : fg1 (some (.al j p)) = none := rfl
theorem fg1_o {y : Option T} : fg1 (oT y) = oT y := by cases y <;> rfl
theorem fgE_nil {δ : Env} : fgE [] δ = δ := by cases δ <;> rfl
theorem fgE_nil2 {m : List Bool} : fgE m [] = [] := by cases m <;> rfl
theorem fgE_t {m : List Bool} {o : Option Sl} {δ : Env} : fgE (true :: m) (o :: δ) = fg1 o :: fgE m δ := rfl
theorem fgE_f {m : List Bool} {o : Option Sl} {δ : Env} : fgE (false :: m) (o :: δ) = o :: fgE m δ := rfl
theorem fgE_len : ∀ {m : List Bool} {δ : Env}, (fgE m δ).length = δ.length
  | [], δ => by rw [fgE_nil]
  | _ :: _, [] => by rw [fgE_nil2]
  | true :: m, o :: δ => by rw [fgE_t, List.length_cons, fgE_len, List.length_cons]
  | false :: m, o :: δ => by rw [fgE_f, List.length_cons, fgE_len, List.length_cons]
theorem fg1_get {o : Option Sl} {s : Sl} (h : fg1 o = some s) : o = some s := by
  cases o with
  | none => cases h
  | some x => cases x with
    | t τ => exact h
    | al j p => cases h
theorem fgE_get : ∀ {m : List Bool} {δ : Env} {i : Nat} {s : Sl}, (fgE m δ)[i]? = some (some s) → δ[i]? = some (some s)
  | [], δ, i, s, h => by rwa [fgE_nil] at h
  | _ :: _, [], i, s, h => by rw [fgE_nil2] at h; simp at h
  | true :: m, o :: δ, 0, s, h => by
    rw [fgE_t] at h
    simp only [List.getElem?_cons_zero, Option.some.injEq] at h ⊢
    exact fg1_get h
  | false :: m, o :: δ, 0, s, h => by rwa [fgE_f] at h
  | true :: m, o :: δ, i + 1, s, h => by
    rw [fgE_t, List.getElem?_cons_succ] at h
    rw [List.getElem?_cons_succ]
    exact fgE_get h
  | false :: m, o :: δ, i + 1, s, h => by
    rw [fgE_f, List.getElem?_cons_succ] at h
    rw [List.getElem?_cons_succ]
    exact fgE_get h
theorem fgE_tt : ∀ {m : List Bool} {δ : Env} {i : Nat} {τ : T}, δ[i]? = some (some (.t τ)) → (fgE m δ)[i]? = some (some (.t τ))
  | [], δ, i, τ, h => by rwa [fgE_nil]
  | _ :: _, [], i, τ, h => by simp at h
  | true :: m, o :: δ, 0, τ, h => by
    simp only [List.getElem?_cons_zero, Option.some.injEq] at h
    rw [fgE_t, h]
    rfl
  | false :: m, o :: δ, 0, τ, h => by rwa [fgE_f]
  | true :: m, o :: δ, i + 1, τ, h => by
    rw [fgE_t, List.getElem?_cons_succ]
    exact fgE_tt (by simpa using h)
  | false :: m, o :: δ, i + 1, τ, h => by
    rw [fgE_f, List.getElem?_cons_succ]
    exact fgE_tt (by simpa using h)
section
variable {N : Nat} {K : PySem.W.Frag} {W : WX} {M H : Hp} {S : L2.St} {δ : Env} {β : List A}
theorem RB.fg {m : List Bool} (r : RB K M S H δ β) : RB K M S H (fgE m δ) β := by
  obtain ⟨α, r⟩ := r
  exact ⟨α, r.ex, r.ls.trans fgE_len.symm, r.la.trans fgE_len.symm, r.un, r.nm, r.ho, r.hb, fun i τ h => r.own i τ (fgE_get h), fun i j p h => by
    obtain ⟨τ, a, b, h1, h2⟩ := r.ali i j p (fgE_get h)
    exact ⟨τ, a, b, fgE_tt h1, h2⟩⟩
def wFg (m : List Bool) (b : WS) : WS := fun δ D => b δ { D with nx := fun δ' => D.nx (fgE m δ'), bk := fun δ' => D.bk (fgE m δ'), ct := fun δ' => D.ct (fgE m δ') }
theorem ss_fg {t : TS} {b : WS} (m : List Bool) (hb : SS N K W t b) : SS N K W t (wFg m b) := fun δ D h M σ τs H r hN E hE =>
  hb δ _ h M σ τs H r hN E ⟨fun M' σ' H' δ' e k r' q => hE.nx M' σ' H' _ e k r'.fg q, hE.rt, fun M' σ' H' δ' e k r' q => hE.bk M' σ' H' _ e k r'.fg q, fun M' σ' H' δ' e k r' q => hE.ct M' σ' H' _ e k r'.fg q, hE.ex⟩
theorem wFg_e {m : List Bool} {b : WS} {D : ED} : wFg m b δ D = b δ ⟨fun δ' => D.nx (fgE m δ'), D.rt, fun δ' => D.bk (fgE m δ'), fun δ' => D.ct (fgE m δ'), D.ex⟩ := id rfl
end
section
variable {g : WG} {b : WS} {D : ED} {n n1 m : Nat} {δ : Env} {α : Type}
theorem turn_lvO {k i j : Nat} {p : List Nat} {ts : List T} {t : T} {k' : Env → Prop} (h : lqK δ (.sl k) = some ts) (ht : ts[i]? = some t) (hf : isF t = false) (hl : look δ k = some (j, p)) (q : turnV (.sl δ.length) g b D n n1 (δ ++ [some (.al j (p ++ [i]))]) k') : turnW (.lv k m) g b D n n1 i δ k' := by
  have : itemA δ i (.lv k m) = some (.sl δ.length, δ ++ [some (.al j (p ++ [i]))]) := by
    unfold itemA
    simp [h, ht, hf, hl]
  unfold turnW
  rw [this]
  exact q
theorem loop_lvO {f : α → T} {l : List α} {k j : Nat} {p : List Nat} (hf : ∀ x, isF (f x) = false) (P : Nat → Env → Prop) (h0 : P 0 δ) (hl : ∀ i δ, P i δ → lqK δ (.sl k) = some (l.map f) ∧ look δ k = some (j, p)) (hs : ∀ (i : Nat) δ x, l[i]? = some x → P i δ → ∀ k' : Env → Prop, (∀ δ', P (i + 1) δ' → k' δ') → turnV (.sl δ.length) g b D n n1 (δ ++ [some (.al j (p ++ [i]))]) k') (hd : ∀ δ, P l.length δ → D.nx (tk n δ)) (hm : m = l.length) : loopW (.lv k m) g b D n n1 m 0 δ := by
  subst hm
  exact loop_lv P h0 (fun i δ h => by rw [(hl i δ h).1]; simp) (fun i δ hi h k' hk => turn_lvO (hl i δ h).1 (t := f l[i]) (by simp [get_lt hi]) (hf _) (hl i δ h).2 (hs i δ _ (get_lt hi) h k' hk)) hd
variable {tt : WT'} {we : WE'} {vs : List Nat} {d : Nat} {Q : EK}
theorem line_lvO {k i j : Nat} {p : List Nat} {ts : List T} {t : T} {k' : Env → Prop} (h : lqK δ (.sl k) = some ts) (ht : ts[i]? = some t) (hf : isF t = false) (hl : look δ k = some (j, p)) (q : lineV (.sl δ.length) g tt we vs d (δ ++ [some (.al j (p ++ [i]))]) k') : turnL (.lv k m) g tt we vs d i δ k' := by
  have : itemA δ i (.lv k m) = some (.sl δ.length, δ ++ [some (.al j (p ++ [i]))]) := by
    unfold itemA
    simp [h, ht, hf, hl]
  unfold turnL
  rw [this]
  exact q
theorem lc_lvO {f : α → T} {l : List α} {k j : Nat} {q : List Nat} (p : α → Bool) (ge : α → T) (hδ : δ = onTop δ []) (hf : ∀ x, isF (f x) = false) (hl : ∀ acc, lqK (onTop δ acc) (.sl k) = some (l.map f)) (hlk : ∀ acc, look (onTop δ acc) k = some (j, q))
    (hs : ∀ (i : Nat) x, l[i]? = some x → ∀ acc : List T, acc.length ≤ i → ∀ kk : Env → Prop, kk (onTop δ (if p x = true then acc ++ [ge x] else acc)) → lineV (.sl (onTop δ acc).length) g tt we vs d (onTop δ acc ++ [some (.al j (q ++ [i]))]) kk)
    (hd : Q (.sl d) (onTop δ ((l.filter p).map ge))) (hm : m = l.length) : lcW (.lv k m) g tt we vs Q d m 0 δ := by
  subst hm
  refine lc_ind (its := .lv k l.length) (N := l.length) (fun i δ' => δ' = onTop δ (accP p ge l i)) (fun i δ' h => by subst h; show _ = _; rw [hl]; simp) (fun i δ' hi h k' hk => ?_) (fun δ' h => ?_) (by omega) (by simpa [accP] using hδ)
  · subst h
    refine line_lvO (hl _) (t := f l[i]) (by simp [get_lt hi]) (hf _) (hlk _) (hs i _ (get_lt hi) _ accP_len _ (hk _ ?_))
    rw [accP_s (get_lt hi)]
  · subst h
    unfold accP
    rw [List.take_length]
    exact hd
end
end EV

/-! EV21: sorted of data; isinstance by a tuple of types -/
namespace EV
open PySem PySem.Spec PyProof.Rows L2
/-- sorted(xs), xs a list that reads as data: a new list of the same parts -/
def rSortD (K : PySem.W.Frag) : List V → Hp → VK → Prop := fun us H Q => ∃ (a : Addr) (ps : List (T × V)), us = [V.ref a] ∧ SqL K H a (ps.map (·.2)) ∧ (∀ p ∈ ps, Dp K H p.2 (py p.1)) ∧ PySem.W.AllAlike (ps.map fun p => py p.1) ∧ PySem.W.Sortable (ps.map fun p => py p.1) ∧ (∀ p ∈ ps, (py p.1).depth ≤ 16) ∧
  ∀ p, H p = none → Q (.ref p) (upd H p (.lst ((ps.mergeSort (PySem.W.dataLe false fun p => py p.1)).map (·.2))))
def rSortDR (K : PySem.W.Frag) : List V → List V → Hp → VK → Prop := fun us zs H Q => ∃ (a : Addr) (ps : List (T × V)), us = [V.ref a] ∧ zs = [.bl true] ∧ SqL K H a (ps.map (·.2)) ∧ (∀ p ∈ ps, Dp K H p.2 (py p.1)) ∧ PySem.W.AllAlike (ps.map fun p => py p.1) ∧ PySem.W.Sortable (ps.map fun p => py p.1) ∧ (∀ p ∈ ps, (py p.1).depth ≤ 16) ∧
  ∀ p, H p = none → Q (.ref p) (upd H p (.lst ((ps.mergeSort (PySem.W.dataLe true fun p => py p.1)).map (·.2))))
section
variable {X : Cx}
theorem each_of : ∀ {ps : List (T × V)} {us : List Value}, Vals (ps.map (·.2)) us → PySem.W.EachIs (fun u (p : T × V) => RelV p.2 u) us ps
  | [], _, h => by cases h; exact .nil
  | p :: r, _, h => by
    cases h with
    | cons h1 h2 => exact .cons h1 (each_of h2)
theorem of_each : ∀ {ps : List (T × V)} {us : List Value}, PySem.W.EachIs (fun u (p : T × V) => RelV p.2 u) us ps → Vals (ps.map (·.2)) us
  | [], _, h => by cases h; exact .nil
  | p :: r, _, h => by
    cases h with
    | cons h1 h2 => exact .cons h1 (of_each h2)
theorem cr_sortD (hu : X.A.units + 64 < cLine) : CallR X (.builtin "sorted") (rSortD X.K) := by
  intro pins s σ H vs us Q I r h
  obtain ⟨a, ps, rfl, hs, hx, al, so, dp, q⟩ := h
  obtain ⟨its, rv, hl, hz⟩ := I.list hs
  obtain ⟨u, rfl, ru⟩ := vals1 r
  obtain rfl : u = Value.ref a := ru
  have e := each_of rv
  have er : PySem.W.EachIs (fun v (p : T × V) => ∃ as, Reads s.heap v (py p.1) as) its ps := (PySem.W.each_mem e).mono fun v p ⟨h1, h2⟩ => Dp.reads I _ _ _ (hx p h2) h1
  rw [List.length_map] at hz
  refine PySem.W.sorted_data (R := fun u (p : T × V) => RelV p.2 u) (enc := fun p => py p.1) hl.isList e er al so hz (fun b hb => by have := dp b hb; omega) fun out ho eo => ?_
  obtain ⟨ep, he'⟩ := PyProof.Rows.sortedAll_at s.heap its out.toArray
  refine ⟨.ref _, upd H (s.heap.objs.size + 1) (.lst ((ps.mergeSort (PySem.W.dataLe false fun p => py p.1)).map (·.2))), I.laid (t' := s.toks) (fun _ _ => PyProof.Rows.sortedAll_old) (Nat.le_succ _) ⟨?_, out, ep, of_each eo, he'⟩, rfl, q _ (I.hok.fresh (Nat.le_succ _))⟩
  rw [List.length_map, List.length_mergeSort]
  exact hz
theorem cr_sortDR (hu : X.A.units + 64 < cLine) : CallRK X (.builtin "sorted") [Str.ofString "reverse"] (rSortDR X.K) := by
  intro pins s σ H vs zs us ws Q I r rz h
  obtain ⟨a, ps, rfl, rfl, hs, hx, al, so, dp, q⟩ := h
  obtain ⟨its, rv, hl, hz⟩ := I.list hs
  obtain ⟨u, rfl, ru⟩ := vals1 r
  obtain rfl : u = Value.ref a := ru
  obtain ⟨w1, rfl, e1⟩ := vals1 rz
  obtain rfl : w1 = Value.bool true := e1
  have e := each_of rv
  have er : PySem.W.EachIs (fun v (p : T × V) => ∃ as, Reads s.heap v (py p.1) as) its ps := (PySem.W.each_mem e).mono fun v p ⟨h1, h2⟩ => Dp.reads I _ _ _ (hx p h2) h1
  rw [List.length_map] at hz
  refine PySem.W.sorted_rev_data (R := fun u (p : T × V) => RelV p.2 u) (enc := fun p => py p.1) hl.isList e er al so hz (fun b hb => by have := dp b hb; omega) fun out ho eo => ?_
  obtain ⟨ep, he'⟩ := PyProof.Rows.sortedAll_at s.heap its out.toArray
  refine ⟨.ref _, upd H (s.heap.objs.size + 1) (.lst ((ps.mergeSort (PySem.W.dataLe true fun p => py p.1)).map (·.2))), I.laid (t' := s.toks) (fun _ _ => PyProof.Rows.sortedAll_old) (Nat.le_succ _) ⟨?_, out, ep, of_each eo, he'⟩, rfl, q _ (I.hok.fresh (Nat.le_succ _))⟩
  rw [List.length_map, List.length_mergeSort]
  exact hz
theorem ksortD {X : Cx} (K : PySem.W.Frag) (hu : X.A.units + 64 < cLine) (hK : X.K = K := by rfl) : CallR X (.builtin "sorted") (rSortD K) := hK ▸ cr_sortD hu
theorem ksortDR {X : Cx} (K : PySem.W.Frag) (hu : X.A.units + 64 < cLine) (hK : X.K = K := by rfl) : CallRK X (.builtin "sorted") [Str.ofString "reverse"] (rSortDR K) := hK ▸ cr_sortDR hu
end
def sortT (ts : List T) : List T := ts.mergeSort (PySem.W.dataLe false py)
def sortTR (ts : List T) : List T := ts.mergeSort (PySem.W.dataLe true py)
def SortOk (ts : List T) : Prop := (∀ t ∈ ts, OkT 15 t) ∧ PySem.W.AllAlike (ts.map py) ∧ PySem.W.Sortable (ts.map py)
def kSortD : Env → List Arg → EK → Prop := fun δ rs Q => match rs with
  | [r] => opt (lqK δ r) fun ts => AllF ts ∧ SortOk ts ∧ ownQ δ (L (sortT ts)) Q
  | _ => False
def kSortDR : Env → List Arg → EK → Prop := fun δ rs Q => match rs with
  | [r] => opt (lqK δ r) fun ts => AllF ts ∧ SortOk ts ∧ ownQ δ (L (sortTR ts)) Q
  | _ => False
section
variable {N : Nat} {K : PySem.W.Frag} {W : WX} {M H : Hp} {S : L2.St} {δ : Env} {Q : EK} {Qm : VK}
theorem rp_of_mem : ∀ {ps : List (T × V)}, (∀ p ∈ ps, Rp K M p.1 p.2) → RpL K M (ps.map (·.1)) (ps.map (·.2))
  | [], _ => rfl
  | p :: r, h => ⟨_, _, rfl, h p (by simp), rp_of_mem fun q hq => h q (by simp [hq])⟩
theorem rp_zip : ∀ {ts : List T} {vs : List V}, RpL K M ts vs → ∃ ps : List (T × V), ps.map (·.1) = ts ∧ ps.map (·.2) = vs ∧ ∀ p ∈ ps, Rp K M p.1 p.2
  | [], vs, h => ⟨[], rfl, h.symm, fun p hp => by cases hp⟩
  | t :: r, _, ⟨v, q, h1, h2, h3⟩ => by
    obtain ⟨ps, e1, e2, e3⟩ := rp_zip h3
    refine ⟨(t, v) :: ps, by simp [e1], by simp [e2, h1], fun p hp => ?_⟩
    rcases List.mem_cons.mp hp with e | e
    · rw [e]; exact h2
    · exact e3 p e
theorem pb_sortD : PB K (rSortD K) kSortD := fun δ rs Q h M S H us rr oo Qm hn => by
  unfold kSortD at h
  split at h
  · obtain ⟨v, rfl, o1⟩ := args1 oo
    obtain ⟨ts, hts, hf, ⟨ok, al, so⟩, q⟩ := opt_elim h
    obtain ⟨a, vs, rfl, h2, h3⟩ := lqK_ok rr hts o1 hf
    obtain ⟨ps, e1, e2, e3⟩ := rp_zip h3
    obtain ⟨α, ra⟩ := rr
    have em : ps.map (fun p => py p.1) = ts.map py := by rw [← e1, List.map_map]; rfl
    have hm : ∀ p ∈ ps, OkT 15 p.1 := fun p hp => ok _ (by rw [← e1]; exact List.mem_map_of_mem hp)
    refine ⟨a, ps, rfl, by rw [e2]; exact h2, fun p hp => Rp.dp ra.ex (hm p hp) (e3 p hp), by rw [em]; exact al, by rw [em]; exact so, fun p hp => Nat.le_succ_of_le (hm p hp).depth, fun q' hq => ?_⟩
    have e4 : ts.mergeSort (PySem.W.dataLe false py) = (ps.mergeSort (PySem.W.dataLe false fun p => py p.1)).map (·.1) := by
      rw [← e1]
      exact (List.map_mergeSort (r := PySem.W.dataLe false fun p : T × V => py p.1) (s := PySem.W.dataLe false py) (f := Prod.fst) (l := ps) (fun a _ b _ => rfl)).symm
    refine hn.list ⟨α, ra⟩ hq (ts := sortT ts) ?_ q
    unfold sortT
    rw [e4]
    exact rp_of_mem fun p hp => e3 p (List.mem_mergeSort.mp hp)
  · exact h.elim
theorem se_sortDR {ta : TE} {wa : WE'} (ha : SE N K W ta wa) : SE N K W (tCKw (rSortDR K) (tCons ta tNil) (tCons (tC (.bl true)) tNil)) (w1 (fun δ r Q => kSortDR δ [r] Q) wa) := fun n δ Q X h M σ S H r hN p Qm hn hx =>
  ha n δ _ X h M σ S H r hN p _ (fun M1 u H1 x δ1 S1 e1 p1 r1 o1 h1 => by
    obtain ⟨ts, hts, hf, ⟨ok, al, so⟩, q⟩ := opt_elim h1
    obtain ⟨a, vs, rfl, h2, h3⟩ := lqK_ok r1 hts o1 hf
    obtain ⟨ps, e1', e2, e3⟩ := rp_zip h3
    obtain ⟨α, ra⟩ := r1
    have em : ps.map (fun p => py p.1) = ts.map py := by rw [← e1', List.map_map]; rfl
    have hm : ∀ p ∈ ps, OkT 15 p.1 := fun p hp => ok _ (by rw [← e1']; exact List.mem_map_of_mem hp)
    refine ⟨a, ps, rfl, rfl, by rw [e2]; exact h2, fun p hp => Rp.dp ra.ex (hm p hp) (e3 p hp), by rw [em]; exact al, by rw [em]; exact so, fun p hp => Nat.le_succ_of_le (hm p hp).depth, fun q' hq => ?_⟩
    have e4 : ts.mergeSort (PySem.W.dataLe true py) = (ps.mergeSort (PySem.W.dataLe true fun p => py p.1)).map (·.1) := by
      rw [← e1']
      exact (List.map_mergeSort (r := PySem.W.dataLe true fun p : T × V => py p.1) (s := PySem.W.dataLe true py) (f := Prod.fst) (l := ps) (fun a _ b _ => rfl)).symm
    refine (hn.on e1 p1).list ⟨α, ra⟩ hq (ts := sortTR ts) ?_ q
    unfold sortTR
    rw [e4]
    exact rp_of_mem fun p hp => e3 p (List.mem_mergeSort.mp hp)) hx
theorem kSortD_e {r : Arg} : kSortD δ [r] Q = @optC _ (lqK δ r) ⟨fun ts => AllF ts ∧ SortOk ts ∧ ownQ δ (L (sortT ts)) Q⟩ := id rfl
theorem kSortDR_e {r : Arg} : kSortDR δ [r] Q = @optC _ (lqK δ r) ⟨fun ts => AllF ts ∧ SortOk ts ∧ ownQ δ (L (sortTR ts)) Q⟩ := id rfl
end
/-! by kinds of parts -/
theorem sortT_map {α : Type} {f : α → T} {le : α → α → Bool} (h : ∀ a b, PySem.W.dataLe false py (f a) (f b) = le a b) (l : List α) : sortT (l.map f) = (l.mergeSort le).map f := (List.map_mergeSort (fun a _ b _ => (h a b).symm)).symm
theorem sortTR_map {α : Type} {f : α → T} {le : α → α → Bool} (h : ∀ a b, PySem.W.dataLe true py (f a) (f b) = le a b) (l : List α) : sortTR (l.map f) = (l.mergeSort le).map f := (List.map_mergeSort (fun a _ b _ => (h a b).symm)).symm
theorem sortT_int (ns : List Int) : sortT (ns.map T.int) = (TV.sortI ns).map T.int := sortT_map (fun a b => by
  show PySem.W.dataLe false (fun x => x) (PyData.int a) (PyData.int b) = _
  have := congrFun (congrFun (PySem.W.dataLe_int (fun i : Int => i)) a) b
  exact this) ns
theorem SortOk_int {ns : List Int} : SortOk (ns.map T.int) := by
  refine ⟨fun t ht => ?_, ?_, ?_⟩
  · obtain ⟨i, _, rfl⟩ := List.mem_map.mp ht
    trivial
  · rw [List.map_map]
    exact PySem.W.AllAlike.of (enc := fun i : Int => PyData.int i) fun a b => by simp [PySem.W.alike, PySem.W.alikeAll]
  · rw [List.map_map]
    exact PySem.W.Sortable.others (enc := fun i : Int => PyData.int i) fun b => ⟨fun z => by simp at z, fun xs z => by simp at z⟩
def lePI (a b : Int × Int) : Bool := decide (a.1 < b.1 ∨ (a.1 = b.1 ∧ a.2 ≤ b.2))
theorem sortT_pT (ps : List (Int × Int)) : sortT (ps.map pT) = (ps.mergeSort lePI).map pT := sortT_map (fun a b => by
  have := congrFun (congrFun (PySem.W.dataLe_ii (fun p : Int × Int => p.1) (fun p : Int × Int => p.2)) a) b
  exact this) ps
theorem SortOk_pT {ps : List (Int × Int)} : SortOk (ps.map pT) := by
  refine ⟨fun t ht => ?_, ?_, ?_⟩
  · obtain ⟨i, _, rfl⟩ := List.mem_map.mp ht
    intro t ht
    simp at ht
    rcases ht with h | h <;> subst h <;> trivial
  · rw [List.map_map]
    exact PySem.W.AllAlike.of (enc := fun p : Int × Int => PyData.tuple [.int p.1, .int p.2]) fun a b => by simp [PySem.W.alike, PySem.W.alikeAll]
  · rw [List.map_map]
    exact PySem.W.Sortable.tuples (enc := fun p : Int × Int => PyData.tuple [.int p.1, .int p.2]) fun b => ⟨_, _, rfl⟩
/-! isinstance(x, (A, B)) -/
section
variable {N : Nat} {K : PySem.W.Frag} {W : WX}
def wIsiT (c1 c2 : String) (wx : WE') : WE' := fun n δ Q X => wx n δ (fun r δ1 => opt (argT δ1 r) fun τ => opt (tyN τ) fun m => opt (isiB m c1) fun b1 => opt (isiB m c2) fun b2 => Q (.v (.bl (b1 || b2))) δ1) X
theorem se_isiT {tx : TE} {wx : WE'} {c1 c2 : String} (hx' : SE N K W tx wx) : SE N K W (tCB (rIsiT K) (tCons tx (tCons (tTup (tCons (tC (.ty c1)) (tCons (tC (.ty c2)) tNil))) tNil))) (wIsiT c1 c2 wx) := fun n δ Q X h M σ S H r hN p Qm hn hx =>
  hx' n δ _ X h M σ S H r hN p _ (fun M1 u H1 a δ1 S1 e1 p1 r1 o1 h1 => by
    obtain ⟨τ, ht, h1⟩ := opt_elim h1
    obtain ⟨m, hty, h1⟩ := opt_elim h1
    obtain ⟨b1, hb1, h1⟩ := opt_elim h1
    obtain ⟨b2, hb2, q⟩ := opt_elim h1
    refine ⟨by show 2 ≤ sizeLine; decide, fun p' hp => ?_⟩
    obtain ⟨e2, r2⟩ := RB.laid r1 (o := .tup [.ty c1, .ty c2]) hp
    have k1 := kit_ok (K := K) hb1 (tyN_mem hty)
    have k2 := kit_ok (K := K) hb2 (tyN_mem hty)
    refine ⟨u, p', [.ty c1, .ty c2], .type m, [.type c1, .type c2], b1 || b2, rfl, upd_same, .cons (.ty c1) (.cons (.ty c2) .nil), tyN_ok r2 ht hty (o1.mono e2), ?_, ((hn.on e1 p1).on e2 Pre.refl).bl r2 q⟩
    simp only [PySem.W.kitAny, k1, k2]
    cases b1 <;> cases b2 <;> rfl) hx
theorem wIsiT_e {c1 c2 : String} {wx : WE'} {n : Nat} {δ : Env} {Q : EK} {X : XK'} : wIsiT c1 c2 wx n δ Q X = wx n δ (fun r δ1 => @optC _ (argT δ1 r) ⟨fun τ => @optC _ (tyN τ) ⟨fun m => @optC _ (isiB m c1) ⟨fun b1 => @optC _ (isiB m c2) ⟨fun b2 => Q (.v (.bl (b1 || b2))) δ1⟩⟩⟩⟩) X := id rfl
end
end EV

/-! EV22: zip over tuples -/
namespace EV
open PySem PySem.Spec PyProof.Rows L2
theorem AllF_pT {ps : List (Int × Int)} : AllF (ps.map pT) := AllF_map.mpr fun _ _ => rfl
theorem all_pT {ps : List (Int × Int)} : (ps.map pT).all isF = true := all_isF AllF_pT
theorem flatL_pT {ps : List (Int × Int)} : flatL (ps.map pT) = true := flatL_map fun _ _ => rfl
theorem isF_pT' {p : Int × Int} : isF (pT p) = true := rfl
theorem fz_pT' {p : Int × Int} : fz (pT p) = pT p := rfl
theorem flat_pT' {p : Int × Int} : flat (pT p) = true := rfl
theorem LikeOk.pT {n : Nat} {p : Int × Int} : LikeOk (n + 1) (pT p) := ⟨by show 2 ≤ 100000; decide, fun t ht => by
  simp at ht
  rcases ht with h | h <;> subst h <;> exact LikeOk.int⟩
theorem LikeOk.tE {n : Nat} {p : Nat × Int} : LikeOk (n + 1) (tE p) := ⟨by show 2 ≤ 100000; decide, fun t ht => by
  simp at ht
  rcases ht with h | h <;> subst h <;> exact LikeOk.int⟩
theorem LikeOk.pTs {n : Nat} {ps : List (Int × Int)} (h : ps.length ≤ 100000) : LikeOk (n + 2) (.nd .lst false (ps.map EV.pT)) := LikeOk.map h fun _ _ => LikeOk.pT
theorem LikeOk.tEs {n : Nat} {ps : List (Nat × Int)} (h : ps.length ≤ 100000) : LikeOk (n + 2) (.nd .lst false (ps.map EV.tE)) := LikeOk.map h fun _ _ => LikeOk.tE
inductive ZipV where
  | t (ts us : List T) | l (ts us : List T) (srcs : List (Nat × T)) (δ : Env)
def tupF : Arg → Option (List T)
  | .v (.nd .tup false ts) => some ts
  | _ => none
def zipV (N : Nat) (δ : Env) (r s : Arg) : Option ZipV := match tupF r, tupF s with
  | some ts, some us => some (.t ts us)
  | none, none => (srcA N δ r).bind fun q => (srcA N q.2.2 s).map fun q2 => .l q.1 q2.1 (q.2.1 ++ q2.2.1) q2.2.2
  | _, _ => none
def zipI (ts us : List T) : List T := (ts.zip us).map fun p => .nd .tup false [p.1, p.2]
def zipQ (δ : Env) (Q : ItS → Env → Prop) : ZipV → Prop
  | .t ts us => Q (.st (zipI ts us) []) δ
  | .l ts us srcs δ' => Q (.st (zipI ts us) srcs) δ'
def wiZipT (N : Nat) (wa : WA') : WI := fun n δ Q X => wa n δ (fun rs δ1 => match rs with
  | [r, s] => opt (zipV N δ1 r s) fun v => zipQ δ1 Q v
  | _ => False) X
section
variable {N : Nat} {K : PySem.W.Frag} {W : WX} {M H : Hp} {S : L2.St} {δ : Env}
theorem tupF_ok {r : Arg} {ts : List T} {u : V} (h : tupF r = some ts) (ok : ArgOk K M S r u) : ∃ a vs, u = .ref a ∧ SqT K M a vs ∧ RpL K M ts vs := by
  unfold tupF at h
  split at h
  · cases h
    obtain ⟨_, a, vs, rfl, g1, g2⟩ := ok
    exact ⟨a, vs, rfl, g1, g2⟩
  · cases h
theorem si_zipT {ta : TA} {wa : WA'} (ha : SA N K W ta wa) : SI N K W (RZ.iZipA K ta) (wiZipT N wa) := fun n δ Q X h M σ τs H r hN Rk hn hx =>
  ha n δ _ X h M σ (σ ++ τs) H r hN Pre.app _ (fun M1 us H1 rs δ1 S1 e1 p1 r1 o1 h1 => by
    obtain ⟨ρ, rfl⟩ := p1
    try dsimp only at h1
    split at h1
    · rename_i x x'
      obtain ⟨v, v', rfl, o, o'⟩ := args2 o1
      obtain ⟨zv, hz, h1⟩ := opt_elim h1
      unfold zipV at hz
      split at hz
      · rename_i ts ts' ht ht'
        cases hz
        obtain ⟨a, vs, rfl, g1, g2⟩ := tupF_ok ht o
        obtain ⟨b, ws, rfl, g1', g2'⟩ := tupF_ok ht' o'
        refine ⟨a, b, vs, ws, rfl, .inr ⟨TV.Same.sqT r1.ex g1, TV.Same.sqT r1.ex g1', hn M1 _ H1 _ δ1 ρ e1 (by simpa [List.append_assoc] using r1) (fun i M2 σ2 ζ H2 δ4 e2 l2 r4 ok => ?_) h1⟩⟩
        have g3 : SqT K H2 a vs := TV.Same.sqT (e2.trans r4.ex) g1
        have g3' : SqT K H2 b ws := TV.Same.sqT (e2.trans r4.ex) g1'
        have g4 := RpL.mono e2 g2
        have g4' := RpL.mono e2 g2'
        have hlv := g4.length
        have hlw := g4'.length
        simp only [zipI, itLen, List.length_map, List.length_zip]
        refine ⟨fun hi => ⟨⟨vs, ws, vs[i]'(by omega), ws[i]'(by omega), g3, g3', List.getElem?_eq_getElem _, List.getElem?_eq_getElem _⟩, fun y H' hy => ?_⟩, fun hi => ⟨vs, ws, g3, g3', by omega⟩⟩
        obtain ⟨Tp, z, z', rfl, nT, rfl, f, f'⟩ := hy
        obtain ⟨w, hw, rw⟩ := g4.get (List.getElem?_eq_getElem (show i < ts.length by omega))
        obtain ⟨w', hw', rw'⟩ := g4'.get (List.getElem?_eq_getElem (show i < ts'.length by omega))
        rw [f vs g3] at hw
        rw [f' ws g3'] at hw'
        cases hw
        cases hw'
        obtain ⟨e3, r5, rp⟩ := RB.newT (ts := [ts[i]'(by omega), ts'[i]'(by omega)]) (vs := [z, z']) r4 nT ⟨_, _, rfl, rw, _, _, rfl, rw', rfl⟩
        refine ⟨_, [], .v (.nd .tup false [ts[i]'(by omega), ts'[i]'(by omega)]), δ4, e3, by simpa using r5, ?_, rp⟩
        simp only [itemA, List.getElem?_map]
        rw [(List.getElem?_zip_eq_some (z := (ts[i]'(by omega), ts'[i]'(by omega)))).mpr ⟨List.getElem?_eq_getElem _, List.getElem?_eq_getElem _⟩]
        rfl
      · cases hs : srcA N δ1 x with
        | none => rw [hs] at hz; cases hz
        | some q =>
          obtain ⟨ts, srcs, δ2⟩ := q
          rw [hs] at hz
          simp only [Option.bind_some] at hz
          cases hs' : srcA N δ2 x' with
          | none => rw [hs'] at hz; cases hz
          | some q2 =>
            obtain ⟨ts', srcs', δ3⟩ := q2
            rw [hs'] at hz
            cases hz
            have q : Q (.st ((ts.zip ts').map fun p => .nd .tup false [p.1, p.2]) (srcs ++ srcs')) δ3 := h1
            rw [List.append_assoc] at r1 o o'
            obtain ⟨a, vs, ρ2, rfl, g1, r2, g2⟩ := srcA_ok r1 hs o hN
            have o'2 : ArgOk K M1 (σ ++ (τs ++ ρ ++ ρ2)) x' v' := by
              have := o'.pre (Pre.app (ρ := ρ2))
              simpa [List.append_assoc] using this
            rw [show σ ++ (τs ++ ρ) ++ ρ2 = σ ++ (τs ++ ρ ++ ρ2) by simp [List.append_assoc]] at r2
            obtain ⟨b, ws, ρ3, rfl, g1', r3, g2'⟩ := srcA_ok r2 hs' o'2 hN
            refine ⟨a, b, vs, ws, rfl, .inl ⟨g1, g1', hn M1 _ H1 _ δ3 (ρ ++ ρ2 ++ ρ3) e1 (by simpa [List.append_assoc] using r3) (fun i M2 σ2 ζ H2 δ4 e2 l2 r4 ok => ?_) q⟩⟩
            obtain ⟨vs2, g3, g4⟩ := g2 M2 σ2 (ρ3 ++ ζ) H2 δ4 e2 l2 (by simpa [List.append_assoc] using r4) (fun q hq => ok q (List.mem_append_left _ hq))
            obtain ⟨ws2, g3', g4'⟩ := g2' M2 σ2 ζ H2 δ4 e2 l2 (by simpa [List.append_assoc] using r4) (fun q hq => ok q (List.mem_append_right _ hq))
            have hlv := g4.length
            have hlw := g4'.length
            simp only [itLen, List.length_map, List.length_zip]
            refine ⟨fun hi => ⟨⟨vs2, ws2, vs2[i]'(by omega), ws2[i]'(by omega), g3, g3', List.getElem?_eq_getElem _, List.getElem?_eq_getElem _⟩, fun y H' hy => ?_⟩, fun hi => ⟨vs2, ws2, g3, g3', by omega⟩⟩
            obtain ⟨Tp, z, z', rfl, nT, rfl, f, f'⟩ := hy
            obtain ⟨w, hw, rw⟩ := g4.get (List.getElem?_eq_getElem (show i < ts.length by omega))
            obtain ⟨w', hw', rw'⟩ := g4'.get (List.getElem?_eq_getElem (show i < ts'.length by omega))
            rw [f vs2 g3] at hw
            rw [f' ws2 g3'] at hw'
            cases hw
            cases hw'
            obtain ⟨e3, r5, rp⟩ := RB.newT (ts := [ts[i]'(by omega), ts'[i]'(by omega)]) (vs := [z, z']) r4 nT ⟨_, _, rfl, rw, _, _, rfl, rw', rfl⟩
            refine ⟨_, [], .v (.nd .tup false [ts[i]'(by omega), ts'[i]'(by omega)]), δ4, e3, by simpa using r5, ?_, rp⟩
            simp only [itemA, List.getElem?_map]
            rw [(List.getElem?_zip_eq_some (z := (ts[i]'(by omega), ts'[i]'(by omega)))).mpr ⟨List.getElem?_eq_getElem _, List.getElem?_eq_getElem _⟩]
            rfl
      · cases hz
    · exact h1.elim) hx
theorem wiZipT_e {wa : WA'} {n : Nat} {Q : ItS → Env → Prop} {X : XK'} : wiZipT N wa n δ Q X = wa n δ (fun rs δ1 => match rs with
  | [r, s] => @optC _ (zipV N δ1 r s) ⟨fun v => zipQ δ1 Q v⟩
  | _ => False) X := id rfl
theorem zipQ_t {Q : ItS → Env → Prop} {ts us : List T} : zipQ δ Q (.t ts us) = Q (.st (zipI ts us) []) δ := id rfl
theorem zipQ_l {Q : ItS → Env → Prop} {ts us : List T} {srcs : List (Nat × T)} {δ' : Env} : zipQ δ Q (.l ts us srcs δ') = Q (.st (zipI ts us) srcs) δ' := id rfl
end
theorem zipI_map {α β : Type} {f : α → T} {g : β → T} (l : List α) (m : List β) : zipI (l.map f) (m.map g) = (l.zip m).map fun p => .nd .tup false [f p.1, g p.2] := by
  unfold zipI
  rw [List.zip_map, List.map_map]
  rfl
theorem zipI_len {ts us : List T} : (zipI ts us).length = min ts.length us.length := by simp [zipI]
theorem zipI_self {ts : List T} : zipI ts ts = ts.map fun t => .nd .tup false [t, t] := by
  unfold zipI
  induction ts with
  | nil => rfl
  | cons t r ih => rw [List.zip_cons_cons, List.map_cons, ih, List.map_cons]
end EV

/-! EV23: dicts by whole numbers or texts -/
namespace EV
open PySem PySem.Spec PyProof.Rows L2
def keyA : Arg → Option Key
  | .v (.int i) => some (.inl i)
  | .v (.str x) => some (.inr x)
  | _ => none
def inK (ks : List Key) (k : Key) : Bool := ks.any fun x => decide (x = k)
def ixK (ks : List Key) (k : Key) : Nat := ks.findIdx fun x => decide (x = k)
theorem inK_iff {ks : List Key} {k : Key} : inK ks k = true ↔ k ∈ ks := by simp [inK]
theorem ixK_cons {x k : Key} {ks : List Key} : ixK (x :: ks) k = if x = k then 0 else ixK ks k + 1 := by
  unfold ixK
  rw [List.findIdx_cons]
  by_cases e : x = k <;> simp [e]
theorem inK_cons {x k : Key} {ks : List Key} : inK (x :: ks) k = (decide (x = k) || inK ks k) := by simp [inK]
theorem ixK_lt : ∀ {ks : List Key} {k : Key}, inK ks k = true → ixK ks k < ks.length
  | [], _, h => by cases h
  | x :: ks, k, h => by
    rw [ixK_cons]
    split
    · simp
    · rename_i e
      rw [inK_cons, show decide (x = k) = false by simpa using e, Bool.false_or] at h
      have := ixK_lt h
      simp only [List.length_cons]
      omega
theorem valV_zip : ∀ {ks : List Key} {vs : List V} {k : Key}, ks.length = vs.length → valV (ks.zip vs) k = if inK ks k = true then vs[ixK ks k]? else none
  | [], [], k, _ => rfl
  | [], _ :: _, _, h => by cases h
  | _ :: _, [], _, h => by cases h
  | x :: ks, v :: vs, k, h => by
    have ih := valV_zip (ks := ks) (vs := vs) (k := k) (by simpa using h)
    by_cases e : x = k
    · subst e
      rw [ixK_cons, inK_cons, if_pos rfl]
      simp [valV]
    · unfold valV at ih ⊢
      rw [List.zip_cons_cons, List.find?_cons_of_neg (by simpa using e), ih, ixK_cons, inK_cons, if_neg e, show decide (x = k) = false by simpa using e, Bool.false_or, List.getElem?_cons_succ]
theorem any_zip : ∀ {ks : List Key} {vs : List V} {k : Key}, ks.length = vs.length → ((ks.zip vs).any fun kv => decide (kv.1 = k)) = inK ks k
  | [], [], k, _ => rfl
  | [], _ :: _, _, h => by cases h
  | _ :: _, [], _, h => by cases h
  | x :: ks, v :: vs, k, h => by rw [List.zip_cons_cons, List.any_cons, any_zip (ks := ks) (by simpa using h), inK_cons]
theorem map_zip_no : ∀ {ks : List Key} {vs : List V} {k : Key} {v : V}, k ∉ ks → (ks.zip vs).map (fun kv => if kv.1 = k then (kv.1, v) else kv) = ks.zip vs
  | [], _, _, _, _ => by simp
  | _ :: _, [], _, _, _ => by simp
  | x :: ks, w :: vs, k, v, h => by
    have h1 : ¬ x = k := fun z => h (by simp [z])
    rw [List.zip_cons_cons, List.map_cons, map_zip_no (fun z => h (by simp [z])), if_neg h1]
theorem map_zip_yes : ∀ {ks : List Key} {vs : List V} {k : Key} {v : V}, ks.Nodup → ks.length = vs.length → (ks.zip vs).map (fun kv => if kv.1 = k then (kv.1, v) else kv) = ks.zip (vs.set (ixK ks k) v)
  | [], _, _, _, _, _ => by simp
  | _ :: _, [], _, _, _, h => by cases h
  | x :: ks, w :: vs, k, v, hn, hl => by
    obtain ⟨h1, h2⟩ := List.nodup_cons.mp hn
    by_cases e : x = k
    · subst e
      rw [List.zip_cons_cons, List.map_cons, if_pos rfl, map_zip_no h1, ixK_cons, if_pos rfl]
      rfl
    · rw [List.zip_cons_cons, List.map_cons, if_neg e, map_zip_yes h2 (by simpa using hl), ixK_cons, if_neg e]
      rfl
theorem putK_old {ks : List Key} {vs : List V} {k : Key} {v : V} (hn : ks.Nodup) (hl : ks.length = vs.length) (h : inK ks k = true) : L2.putK (ks.zip vs) k v = ks.zip (vs.set (ixK ks k) v) := by
  unfold L2.putK
  rw [any_zip hl, if_pos h]
  exact map_zip_yes hn hl
theorem putK_new {ks : List Key} {vs : List V} {k : Key} {v : V} (hl : ks.length = vs.length) (h : inK ks k = false) : L2.putK (ks.zip vs) k v = (ks ++ [k]).zip (vs ++ [v]) := by
  unfold L2.putK
  rw [any_zip hl, if_neg (by rw [h]; decide), List.zip_append hl]
  rfl
theorem inK_int {l : List Int} {i : Int} : inK (l.map Sum.inl) (.inl i) = decide (i ∈ l) := by
  rw [Bool.eq_iff_iff, inK_iff]
  simp
def dicK (δ : Env) (r : Arg) : Option (List Key × List T) := match argT δ r with
  | some (.nd (.dK ks) _ ts) => some (ks, ts)
  | _ => none
section
variable {N : Nat} {K : PySem.W.Frag} {W : WX} {M M' M1 H H' : Hp} {σ S S1 : L2.St} {δ δ' : Env} {α β γ : List A} {Q : EK} {X : XK'} {Qm : VK}
theorem keyA_ok {r : Arg} {k : Key} {u : V} (h : keyA r = some k) (ok : ArgOk K M S r u) : u = kV k := by
  unfold keyA at h
  split at h
  · cases h; exact ok
  · cases h; exact ok
  · cases h
theorem dicK_ok {r : Arg} {ks : List Key} {ts : List T} {u : V} (rr : RB K M S H δ β) (h : dicK δ r = some (ks, ts)) (ok : ArgOk K M S r u) : ∃ a vs, u = .ref a ∧ H a = some (.dK (ks.zip vs)) ∧ ks.length = vs.length ∧ vs.length = ts.length := by
  unfold dicK at h
  split at h
  · rename_i ks' o ts' e
    cases h
    obtain ⟨a, vs, h1, h2, h3, _⟩ := rr.kids e ok
    exact ⟨a, vs, h1, h2.1, h2.2, h3⟩
  · cases h
/-- k in d -/
def wDIn (neg : Bool) (wk wd : WE') : WE' := fun n δ Q X => wk n δ (fun r δ1 => wd n δ1 (fun s δ2 => opt (keyA r) fun k => opt (dicK δ2 s) fun d => Q (.v (.bl (if neg then !inK d.1 k else inK d.1 k))) δ2) X) X
theorem some_iff {ks : List Key} {vs : List V} {k : Key} (hl : ks.length = vs.length) : (valV (ks.zip vs) k).isSome = inK ks k := by
  rw [valV_zip hl]
  cases h : inK ks k with
  | true =>
    have := ixK_lt h
    rw [if_pos rfl, List.getElem?_eq_getElem (by omega)]
    rfl
  | false => rfl
theorem se_din {tk td : TE} {wk wd : WE'} (hk : SE N K W tk wk) (hd : SE N K W td wd) : SE N K W (tDIn tk td) (wDIn false wk wd) := fun n δ Q X h M σ S H r hN p Qm hn hx =>
  hk n δ _ X h M σ S H r hN p _ (fun M1 u H1 a δ1 S1 e1 p1 r1 o1 h1 => hd n δ1 _ X h1 M1 σ S1 H1 r1 hN (p.trans p1) _ (fun M2 v H2 b δ2 S2 e2 p2 r2 o2 h2 => by
    obtain ⟨k, hk, h2⟩ := opt_elim h2
    obtain ⟨⟨ks, ts⟩, hd, q⟩ := opt_elim h2
    have := keyA_ok hk o1
    subst this
    obtain ⟨a, vs, rfl, g1, g2, g3⟩ := dicK_ok r2 hd o2
    refine ⟨a, _, rfl, DGet.k g1, ?_⟩
    rw [some_iff g2]
    exact (hn.on (e1.trans e2) (p1.trans p2)).bl r2 q) (hx.on e1 p1)) hx
theorem se_dnotin {tk td : TE} {wk wd : WE'} (hk : SE N K W tk wk) (hd : SE N K W td wd) : SE N K W (tDNotIn tk td) (wDIn true wk wd) := fun n δ Q X h M σ S H r hN p Qm hn hx =>
  hk n δ _ X h M σ S H r hN p _ (fun M1 u H1 a δ1 S1 e1 p1 r1 o1 h1 => hd n δ1 _ X h1 M1 σ S1 H1 r1 hN (p.trans p1) _ (fun M2 v H2 b δ2 S2 e2 p2 r2 o2 h2 => by
    obtain ⟨k, hk, h2⟩ := opt_elim h2
    obtain ⟨⟨ks, ts⟩, hd, q⟩ := opt_elim h2
    have := keyA_ok hk o1
    subst this
    obtain ⟨a, vs, rfl, g1, g2, g3⟩ := dicK_ok r2 hd o2
    refine ⟨a, _, rfl, DGet.k g1, ?_⟩
    rw [some_iff g2]
    exact (hn.on (e1.trans e2) (p1.trans p2)).bl r2 q) (hx.on e1 p1)) hx
/-- d[k] -/
def wDGet (wd wk : WE') : WE' := fun n δ Q X => wd n δ (fun s δ1 => wk n δ1 (fun r δ2 => opt (keyA r) fun k => opt (dicK δ2 s) fun d => inK d.1 k = true ∧ opt (d.2[ixK d.1 k]?) fun t => kidQ δ2 s (ixK d.1 k) t Q) X) X
theorem se_dget {tk td : TE} {wk wd : WE'} (hd : SE N K W td wd) (hk : SE N K W tk wk) : SE N K W (tDGet td tk) (wDGet wd wk) := fun n δ Q X h M σ S H r hN p Qm hn hx =>
  hd n δ _ X h M σ S H r hN p _ (fun M1 u H1 b δ1 S1 e1 p1 r1 o1 h1 => hk n δ1 _ X h1 M1 σ S1 H1 r1 hN (p.trans p1) _ (fun M2 v H2 a δ2 S2 e2 p2 r2 o2 h2 => by
    obtain ⟨k, hk, h2⟩ := opt_elim h2
    obtain ⟨⟨ks, ts⟩, hd, hm, h2⟩ := opt_elim h2
    obtain ⟨t, ht, q⟩ := opt_elim h2
    have := keyA_ok hk o2
    subst this
    unfold dicK at hd
    split at hd
    · rename_i ks' o ts' e
      cases hd
      obtain ⟨a, vs, w, g1, g2, g3, g4, g5⟩ := kid_ok r2 e ((o1.mono e2).pre p2) ht q (hn.on (e1.trans e2) (p1.trans p2))
      subst g1
      refine ⟨a, w, rfl, ?_, g5⟩
      have := DGet.k (k := k) g2.1
      rw [valV_zip g2.2, if_pos hm, g4] at this
      exact this
    · cases hd) (hx.on e1 p1)) hx
/-- {} -/
def wDNew : WE' := fun n δ Q X => ownQ δ (.nd (.dK []) true []) Q
theorem se_dnewK : SE N K W tDNewK wDNew := fun n δ Q X h M σ S H r hN p Qm hn hx => fun q hq =>
  hn.own r.ls (s := .t (.nd (.dK []) true [])) (R.newL r (c := .dK []) (ts := []) (vs := []) hq rfl rfl) h
/-- d[k] = v -/
def kDPut (n : Nat) (δ : Env) (x r s : Arg) (Q : Env → Prop) : Prop := opt (take1 n δ x) fun w => opt (keyA s) fun k => opt (plA w.2 r) fun q => match sub w.2 q.1 q.2 with
  | some (.nd (.dK ks) true ts) => ks.Nodup ∧ len6 ks.length ∧ (inK ks k = true → Q (putE w.2 q.1 q.2 (.nd (.dK ks) true (ts.set (ixK ks k) w.1)))) ∧ (inK ks k = false → Q (putE w.2 q.1 q.2 (.nd (.dK (ks ++ [k])) true (ts ++ [w.1]))))
  | _ => False
def wDPut (we wo wi : WE') : WS := fun δ D => we δ.length δ (fun x δ1 => wo δ.length δ1 (fun r δ2 => wi δ.length δ2 (fun s δ3 => kDPut δ.length δ3 x r s fun δ4 => D.nx (tk δ.length δ4)) (xk D δ.length)) (xk D δ.length)) (xk D δ.length)
theorem ss_dput {te to ti : TE} {we wo wi : WE'} (ho : SE N K W to wo) (hi : SE N K W ti wi) (he : SE N K W te we) : SS N K W (sDPut to ti te) (wDPut we wo wi) := fun δ D h M σ τs H r hN E hE =>
  he _ δ _ _ h M σ (σ ++ τs) H r hN Pre.app _ (fun M1 u H1 x δ1 S1 e1 p1 r1 o1 h1 =>
    ho _ δ1 _ _ h1 M1 σ S1 H1 r1 hN (Pre.app.trans p1) _ (fun M2 v H2 y δ2 S2 e2 p2 r2 o2 h2 =>
      hi _ δ2 _ _ h2 M2 σ S2 H2 r2 hN ((Pre.app.trans p1).trans p2) _ (fun M3 w H3 z δ3 S3 e3 p3 r3 o3 h3 => by
        obtain ⟨⟨τ, δ4⟩, ht, h3⟩ := opt_elim h3
        obtain ⟨k, hk, h3⟩ := opt_elim h3
        obtain ⟨⟨j, p⟩, hl, h3⟩ := opt_elim h3
        dsimp only at h3
        split at h3
        · rename_i ks ts hs
          obtain ⟨hnd, hlen, q1, q2⟩ := h3
          obtain ⟨M4, a1, s1, r4, g1, g2⟩ := take1_ok (β := []) r3 ht ((o1.mono (e2.trans e3)).pre (p2.trans p3))
          obtain ⟨a, y', as, rfl, h1, hok, hts, h4, wr⟩ := RB.write r4 hl hs rfl (((o2.mono e3).pre p3).mono s1)
          have hkl : ks.length = (as.map val).length := by rw [List.length_map]; exact hok
          obtain ⟨ρ, rfl⟩ := (p1.trans p2).trans p3
          have hz : (ks.zip (as.map val)).length < sizeLine := by
            rw [List.length_zip, ← hkl, Nat.min_self]
            exact len6_ok hlen
          have hw := keyA_ok hk o3
          subst hw
          subst g1 g2
          rcases hm : inK ks k with _ | _
          rotate_left 1
          · have hil : ixK ks k < as.length := by
              have := ixK_lt hm
              rw [List.length_map] at hkl
              omega
            have := (wr (.dK ks) (as.set (ixK ks k) a1) [] rfl (by rw [okc, List.length_set]; exact hok) (fun z => by
              have := ctL_set (t' := a1) (x := z) (List.getElem?_eq_getElem hil)
              simp only [ctL, List.nil_append]; omega) (HoldL_set h4 (RB.holds r4).1) trivial).1
            rw [erL_set, hts, List.map_set] at this
            have r5 := this.cut
            rw [r.ls] at r5
            refine ⟨a, _, rfl, DPut.k h1 hz, ?_⟩
            rw [putK_old hnd hkl hm]
            exact hE.nx M4 σ _ _ (((e1.trans e2).trans e3).trans s1) rfl r5 (q1 hm)
          · have := (wr (.dK (ks ++ [k])) (as ++ [a1]) [] rfl (by rw [okc, List.length_append, List.length_append, hok]; rfl) (fun z => by
              simp only [ctL_append, ctL, List.nil_append]; omega) (h4.and ⟨(RB.holds r4).1, trivial⟩) trivial).1
            rw [erL_app, hts, List.map_append] at this
            have r5 := this.cut
            rw [r.ls] at r5
            refine ⟨a, _, rfl, DPut.k h1 hz, ?_⟩
            rw [putK_new hkl hm]
            exact hE.nx M4 σ _ _ (((e1.trans e2).trans e3).trans s1) rfl r5 (q2 hm)
        · exact h3.elim) ((XC_of hE r.ls.symm).on (e1.trans e2) (p1.trans p2))) ((XC_of hE r.ls.symm).on e1 p1)) (XC_of hE r.ls.symm)
theorem wDIn_e {neg : Bool} {wk wd : WE'} {n : Nat} : wDIn neg wk wd n δ Q X = wk n δ (fun r δ1 => wd n δ1 (fun s δ2 => @optC _ (keyA r) ⟨fun k => @optC _ (dicK δ2 s) ⟨fun d => Q (.v (.bl (if neg then !inK d.1 k else inK d.1 k))) δ2⟩⟩) X) X := id rfl
theorem wDGet_e {wk wd : WE'} {n : Nat} : wDGet wd wk n δ Q X = wd n δ (fun s δ1 => wk n δ1 (fun r δ2 => @optC _ (keyA r) ⟨fun k => @optC _ (dicK δ2 s) ⟨fun d => inK d.1 k = true ∧ @optC _ (d.2[ixK d.1 k]?) ⟨fun t => kidQ δ2 s (ixK d.1 k) t Q⟩⟩⟩) X) X := id rfl
theorem wDNew_e {n : Nat} : wDNew n δ Q X = ownQ δ (.nd (.dK []) true []) Q := id rfl
theorem wDPut_e {we wo wi : WE'} {D : ED} : wDPut we wo wi δ D = we δ.length δ (fun x δ1 => wo δ.length δ1 (fun r δ2 => wi δ.length δ2 (fun s δ3 => kDPut δ.length δ3 x r s fun δ4 => D.nx (tk δ.length δ4)) (xk D δ.length)) (xk D δ.length)) (xk D δ.length) := id rfl
def dicO : Option T → Option (List Key × List T)
  | some (.nd (.dK ks) true ts) => some (ks, ts)
  | _ => none
theorem kDPut_e {n : Nat} {x r s : Arg} {Q : Env → Prop} : kDPut n δ x r s Q = @optC _ (take1 n δ x) ⟨fun w => @optC _ (keyA s) ⟨fun k => @optC _ (plA w.2 r) ⟨fun q => @optC _ (dicO (sub w.2 q.1 q.2)) ⟨fun d => d.1.Nodup ∧ len6 d.1.length ∧ (inK d.1 k = true → Q (putE w.2 q.1 q.2 (.nd (.dK d.1) true (d.2.set (ixK d.1 k) w.1)))) ∧ (inK d.1 k = false → Q (putE w.2 q.1 q.2 (.nd (.dK (d.1 ++ [k])) true (d.2 ++ [w.1]))))⟩⟩⟩⟩ := by
  simp only [optC_eq]
  unfold kDPut
  congr 1; funext w
  congr 1; funext k
  congr 1; funext q
  cases sub w.2 q.1 q.2 with
  | none => rfl
  | some τ => cases τ <;> first | rfl | (rename_i c o ts; cases c <;> cases o <;> rfl)
end
end EV

/-! EV24: tuples of whole numbers compared -/
namespace EV
open PySem PySem.Spec PyProof.Rows L2
def tupI : Arg → Option (List Int)
  | .v (.nd .tup false ts) => seqO tInt ts
  | _ => none
def kLtT : Env → Arg → Arg → EK → Prop := fun δ r s Q => opt (tupI r) fun xs => opt (tupI s) fun ys => Q (.v (.bl (HT.lexLt xs ys))) δ
section
variable {K : PySem.W.Frag} {M H : Hp} {S : L2.St} {δ : Env} {Q : EK}
theorem RpL.int_of : ∀ {ns : List Int} {vs : List V}, RpL K M (ns.map T.int) vs → vs = ns.map V.int
  | [], _, h => h
  | n :: r, _, ⟨v, q, h1, h2, h3⟩ => by
    have h2 : v = .int n := h2
    rw [h1, h2, RpL.int_of h3]
    rfl
theorem tupI_ok {r : Arg} {xs : List Int} {u : V} (h : tupI r = some xs) (ok : ArgOk K M S r u) : ∃ a, u = .ref a ∧ SqT K M a (xs.map V.int) := by
  unfold tupI at h
  split at h
  · obtain ⟨_, a, vs, rfl, g1, g2⟩ := ok
    have := tInt_inv h
    subst this
    rw [RpL.int_of g2] at g1
    exact ⟨a, rfl, g1⟩
  · cases h
theorem p2_ltT : P2 K (rLtT K) kLtT := fun δ r s Q h M S H u v rr o1 o2 Qm hn => by
  obtain ⟨xs, hx, h⟩ := opt_elim h
  obtain ⟨ys, hy, q⟩ := opt_elim h
  obtain ⟨a, rfl, g1⟩ := tupI_ok hx o1
  obtain ⟨b, rfl, g2⟩ := tupI_ok hy o2
  have ex := rr.choose_spec.ex
  exact ⟨a, b, xs, ys, rfl, rfl, TV.Same.sqT ex g1, TV.Same.sqT ex g2, hn.bl rr q⟩
theorem kLtT_e {r s : Arg} : kLtT δ r s Q = @optC _ (tupI r) ⟨fun xs => @optC _ (tupI s) ⟨fun ys => Q (.v (.bl (HT.lexLt xs ys))) δ⟩⟩ := id rfl
end
/-- the greatest, the least of whole numbers -/
def IsMax (ns : List Int) (v : Int) : Prop := v ∈ ns ∧ ∀ x ∈ ns, x ≤ v
def IsMin (ns : List Int) (v : Int) : Prop := v ∈ ns ∧ ∀ x ∈ ns, v ≤ x
def kMax : Env → List Arg → EK → Prop := fun δ rs Q => match rs with
  | [r] => opt (intsK δ r) fun ns => ns ≠ [] ∧ ∀ v, IsMax ns v → Q (.v (.int v)) δ
  | _ => False
def kMin : Env → List Arg → EK → Prop := fun δ rs Q => match rs with
  | [r] => opt (intsK δ r) fun ns => ns ≠ [] ∧ ∀ v, IsMin ns v → Q (.v (.int v)) δ
  | _ => False
theorem minD_ints : ∀ (r : List Int) (a : Int), ∃ v, PySem.W.minD (.int a) (r.map PyData.int) = .int v ∧ IsMin (a :: r) v
  | [], a => ⟨a, rfl, by simp, fun x hx => by simp at hx; omega⟩
  | b :: r, a => by
    have e : PySem.W.minD (.int a) ((b :: r).map PyData.int) = PySem.W.minD (if PySem.W.dataLt (.int b) (.int a) = true then .int b else .int a) (r.map PyData.int) := rfl
    have e2 : PySem.W.dataLt (.int b) (.int a) = decide (b < a) := PySem.W.dataLt_int b a
    rw [e, e2]
    by_cases h : b < a
    · rw [if_pos (by simpa using h)]
      obtain ⟨v, h1, h2, h3⟩ := minD_ints r b
      refine ⟨v, h1, by simp at h2 ⊢; rcases h2 with h | h <;> simp [h], fun x hx => ?_⟩
      have := h3 b (by simp)
      simp at hx
      rcases hx with hx | hx | hx
      · omega
      · omega
      · exact h3 x (by simp [hx])
    · rw [if_neg (by simpa using h)]
      obtain ⟨v, h1, h2, h3⟩ := minD_ints r a
      refine ⟨v, h1, by simp at h2 ⊢; rcases h2 with h | h <;> simp [h], fun x hx => ?_⟩
      have := h3 a (by simp)
      simp at hx
      rcases hx with hx | hx | hx
      · omega
      · omega
      · exact h3 x (by simp [hx])
theorem maxD_ints : ∀ (r : List Int) (a : Int), ∃ v, PySem.W.maxD (.int a) (r.map PyData.int) = .int v ∧ IsMax (a :: r) v
  | [], a => ⟨a, rfl, by simp, fun x hx => by simp at hx; omega⟩
  | b :: r, a => by
    have e : PySem.W.maxD (.int a) ((b :: r).map PyData.int) = PySem.W.maxD (if PySem.W.dataLt (.int a) (.int b) = true then .int b else .int a) (r.map PyData.int) := rfl
    have e2 : PySem.W.dataLt (.int a) (.int b) = decide (a < b) := PySem.W.dataLt_int a b
    rw [e, e2]
    by_cases h : a < b
    · rw [if_pos (by simpa using h)]
      obtain ⟨v, h1, h2, h3⟩ := maxD_ints r b
      refine ⟨v, h1, by simp at h2 ⊢; rcases h2 with h | h <;> simp [h], fun x hx => ?_⟩
      have := h3 b (by simp)
      simp at hx
      rcases hx with hx | hx | hx
      · omega
      · omega
      · exact h3 x (by simp [hx])
    · rw [if_neg (by simpa using h)]
      obtain ⟨v, h1, h2, h3⟩ := maxD_ints r a
      refine ⟨v, h1, by simp at h2 ⊢; rcases h2 with h | h <;> simp [h], fun x hx => ?_⟩
      have := h3 a (by simp)
      simp at hx
      rcases hx with hx | hx | hx
      · omega
      · omega
      · exact h3 x (by simp [hx])
section
variable {K : PySem.W.Frag} {M H : Hp} {S : L2.St} {δ : Env} {Q : EK}
theorem dpAll_ints : ∀ ns : List Int, DpAll K H (ns.map V.int) (ns.map PyData.int)
  | [] => .nil
  | n :: r => .cons (.int n) (dpAll_ints r)
theorem pd_int (ns : List Int) : PyData.plainAll (ns.map PyData.int) = true ∧ PyData.depthAll (ns.map PyData.int) = 0 := by
  induction ns with
  | nil => exact ⟨rfl, rfl⟩
  | cons n r ih =>
    refine ⟨?_, ?_⟩
    · rw [List.map_cons, PyData.plainAll, ih.1]; rfl
    · rw [List.map_cons, PyData.depthAll, ih.2]; rfl
theorem al_int (ns : List Int) : PySem.W.AlikeAll (ns.map PyData.int) := by
  refine ⟨fun x hx y hy => ?_, fun x hx => ?_⟩
  · obtain ⟨i, _, rfl⟩ := List.mem_map.mp hx
    obtain ⟨j, _, rfl⟩ := List.mem_map.mp hy
    simp [PySem.W.alike]
  · obtain ⟨i, _, rfl⟩ := List.mem_map.mp hx
    intro h
    cases h
theorem pb_max : PB K (TV.rMaxP K) kMax := fun δ rs Q h M S H us rr oo Qm hn => by
  unfold kMax at h
  split at h
  · obtain ⟨v, rfl, o1⟩ := args1 oo
    obtain ⟨ns, hns, hne, q⟩ := opt_elim h
    obtain ⟨a, rfl, h2⟩ := intsK_ok rr hns o1
    cases ns with
    | nil => exact absurd rfl hne
    | cons n r =>
      obtain ⟨z, z1, z2⟩ := maxD_ints r n
      refine ⟨a, (n :: r).map V.int, .int n, r.map PyData.int, rfl, h2, dpAll_ints (n :: r), al_int (n :: r), (pd_int (n :: r)).1, by have := (pd_int (n :: r)).2; rw [List.map_cons] at this; rw [this]; exact Nat.zero_le _, fun i v e hv he hm => ?_⟩
      rw [z1] at hm
      have he : ((n :: r).map PyData.int)[i]? = some e := he
      rw [List.getElem?_map] at hv he
      cases hi : (n :: r)[i]? with
      | none => rw [hi] at hv; cases hv
      | some x =>
        rw [hi] at hv he
        cases hv
        cases he
        cases hm
        exact hn.int rr (q z z2)
  · exact h.elim
theorem pb_min : PB K (TV.rMinP K) kMin := fun δ rs Q h M S H us rr oo Qm hn => by
  unfold kMin at h
  split at h
  · obtain ⟨v, rfl, o1⟩ := args1 oo
    obtain ⟨ns, hns, hne, q⟩ := opt_elim h
    obtain ⟨a, rfl, h2⟩ := intsK_ok rr hns o1
    cases ns with
    | nil => exact absurd rfl hne
    | cons n r =>
      obtain ⟨z, z1, z2⟩ := minD_ints r n
      refine ⟨a, (n :: r).map V.int, .int n, r.map PyData.int, rfl, h2, dpAll_ints (n :: r), al_int (n :: r), (pd_int (n :: r)).1, by have := (pd_int (n :: r)).2; rw [List.map_cons] at this; rw [this]; exact Nat.zero_le _, fun i v e hv he hm => ?_⟩
      rw [z1] at hm
      have he : ((n :: r).map PyData.int)[i]? = some e := he
      rw [List.getElem?_map] at hv he
      cases hi : (n :: r)[i]? with
      | none => rw [hi] at hv; cases hv
      | some x =>
        rw [hi] at hv he
        cases hv
        cases he
        cases hm
        exact hn.int rr (q z z2)
  · exact h.elim
theorem kMax_e {r : Arg} : kMax δ [r] Q = @optC _ (intsK δ r) ⟨fun ns => ns ≠ [] ∧ ∀ v, IsMax ns v → Q (.v (.int v)) δ⟩ := id rfl
theorem kMin_e {r : Arg} : kMin δ [r] Q = @optC _ (intsK δ r) ⟨fun ns => ns ≠ [] ∧ ∀ v, IsMin ns v → Q (.v (.int v)) δ⟩ := id rfl
end
theorem OkT_tE {n : Nat} {e : Nat × Int} : OkT (n + 1) (tE e) := fun t ht => by
  simp [tE] at ht
  rcases ht with rfl | rfl <;> exact OkT_int
theorem OkT_Le {n : Nat} {o : Bool} {es : List (Nat × Int)} : OkT (n + 2) (.nd .lst o (es.map tE)) := fun t ht => by
  obtain ⟨e, _, rfl⟩ := List.mem_map.mp ht
  exact OkT_tE
theorem OkT_Lp {n : Nat} {o : Bool} {es : List (Int × Int)} : OkT (n + 2) (.nd .lst o (es.map pT)) := fun t ht => by
  obtain ⟨e, _, rfl⟩ := List.mem_map.mp ht
  exact OkT_pT
theorem OkT_Li {n : Nat} {o : Bool} {es : List Int} : OkT (n + 1) (.nd .lst o (es.map T.int)) := OkT_ints
theorem OkT_Ln {n : Nat} {o : Bool} {es : List Nat} : OkT (n + 1) (.nd .lst o (es.map tN)) := fun t ht => by
  obtain ⟨e, _, rfl⟩ := List.mem_map.mp ht
  exact OkT_int
end EV

/-! EV25: triples of whole numbers sorted -/
namespace EV
open PySem PySem.Spec PyProof.Rows L2
def tT3 (x : Int × Int × Int) : T := .nd .tup false [.int x.1, .int x.2.1, .int x.2.2]
def le3 (x y : Int × Int × Int) : Bool := decide (x.1 < y.1 ∨ (x.1 = y.1 ∧ (x.2.1 < y.2.1 ∨ (x.2.1 = y.2.1 ∧ x.2.2 ≤ y.2.2))))
theorem dataLt_iii (x y z x' y' z' : Int) : PySem.W.dataLt (.tuple [.int x, .int y, .int z]) (.tuple [.int x', .int y', .int z']) = decide (x < x' ∨ (x = x' ∧ (y < y' ∨ (y = y' ∧ z < z')))) := by
  rw [PySem.W.dataLt_tuple, PySem.W.dataLt_cons (by simp [PySem.W.alike]), PySem.W.dataLt_cons (by simp [PySem.W.alike]), PySem.W.dataLt_cons (by simp [PySem.W.alike]), PySem.W.dataLt_int, PySem.W.dataLt_int, PySem.W.dataLt_int]
  have e : PyProof.Rows.lexLt itemOrd (PySem.W.keyToksAll []) (PySem.W.keyToksAll []) = false := lex_irrefl _
  rw [e]
  simp only [PyData.eqv, beq_iff_eq]
  by_cases h1 : x = x' <;> by_cases h2 : y = y' <;> by_cases h3 : z = z' <;> simp [h1, h2, h3]
theorem sortT_t3 (ps : List (Int × Int × Int)) : sortT (ps.map tT3) = (ps.mergeSort le3).map tT3 := sortT_map (fun a b => by
  show (!PySem.W.dataLt (.tuple [.int b.1, .int b.2.1, .int b.2.2]) (.tuple [.int a.1, .int a.2.1, .int a.2.2])) = _
  rw [dataLt_iii]
  unfold le3
  rw [← decide_not]
  exact decide_eq_decide.mpr (by omega)) ps
theorem SortOk_t3 {ps : List (Int × Int × Int)} : SortOk (ps.map tT3) := by
  refine ⟨fun t ht => ?_, ?_, ?_⟩
  · obtain ⟨i, _, rfl⟩ := List.mem_map.mp ht
    intro t ht
    simp at ht
    rcases ht with h | h | h <;> subst h <;> trivial
  · rw [List.map_map]
    exact PySem.W.AllAlike.of (enc := fun p : Int × Int × Int => PyData.tuple [.int p.1, .int p.2.1, .int p.2.2]) fun a b => by simp [PySem.W.alike, PySem.W.alikeAll]
  · rw [List.map_map]
    exact PySem.W.Sortable.tuples (enc := fun p : Int × Int × Int => PyData.tuple [.int p.1, .int p.2.1, .int p.2.2]) fun b => ⟨_, _, rfl⟩
theorem AllF_t3 {l : List (Int × Int × Int)} : AllF (l.map tT3) := AllF_map.mpr fun _ _ => rfl
theorem nI_T (l : List Nat) : l.map tN = (nI l).map T.int := by
  rw [List.map_map]
  rfl
theorem any_tN {l : List Nat} {x : Nat} : ((l.map tN).any fun t => eqT t (.int (x : Nat))) = decide (x ∈ l) := by
  rw [nI_T, anyI]
  exact decide_eq_decide.mpr ⟨fun z => by
    obtain ⟨j, hj, hj2⟩ := List.mem_map.mp z
    have : j = x := by omega
    subst this
    exact hj, fun z => List.mem_map_of_mem z⟩
theorem any_tNI {l : List Nat} {x : Int} : ((l.map tN).any fun t => eqT t (.int x)) = decide (x ∈ nI l) := by rw [nI_T, anyI]
theorem OkT_tN {n : Nat} {l : List Nat} : ∀ t ∈ l.map tN, OkT n t := fun t ht => by
  obtain ⟨e, _, rfl⟩ := List.mem_map.mp ht
  exact OkT_int
end EV

/-! EV26: <= and > of tuples of whole numbers -/
namespace EV
open PySem PySem.Spec PyProof.Rows L2
def eqJ (ns ms : List Int) : Nat → Bool := fun j => decide (ns.getD j 0 = ms.getD j 0)
def gtI (ns ms : List Int) : Bool := Ob.lexAt (eqJ ns ms) (fun j => decide (ns.getD j 0 > ms.getD j 0)) (decide (ns.length > ms.length)) 0 (min ns.length ms.length)
def leI (ns ms : List Int) : Bool := Ob.lexAt (eqJ ns ms) (fun j => decide (ns.getD j 0 ≤ ms.getD j 0)) (decide (ns.length ≤ ms.length)) 0 (min ns.length ms.length)
def rGtT (K : PySem.W.Frag) : R2 := fun x y H Q => ∃ (a b : Addr) (ns ms : List Int), x = .ref a ∧ y = .ref b ∧ SqT K H a (ns.map V.int) ∧ SqT K H b (ms.map V.int) ∧ Q (.bl (gtI ns ms)) H
theorem op_gtT {X : Cx} (hu : X.A.units < cLine) : OpR X (compareOp .Gt) (rGtT X.K) := fun pins s σ H x y v u Q I rx ry h => by
  obtain ⟨a, b, ns, ms, rfl, rfl, ha, hb, q⟩ := h
  cases rx
  cases ry
  obtain ⟨xs, r1, p1, _⟩ := I.tuple ha
  obtain ⟨ys, r2, p2, _⟩ := I.tuple hb
  have i1 := Vals.ints r1
  have i2 := Vals.ints r2
  have hat : ∀ {zs : List Value} {ks : List Int}, IntsAre zs ks → ∀ j (hj : j < zs.toArray.size), ∃ t, zs.toArray[j] = .int (ks.getD j 0) t := fun {zs ks} i j hj => IntsAre.int_at i _ _ (by simp at hj; simp [hj])
  have sz : ∀ {zs : List Value} {ks : List Int}, IntsAre zs ks → zs.toArray.size = ks.length := fun i => by rw [List.size_toArray]; exact i.length
  have R := Ob.RcOp.tuples_gt (A := X.A) (s := s) (e := eqJ ns ms) (r := fun j => decide (ns.getD j 0 > ms.getD j 0)) p1 p2 hu
    (fun j h1 h2 => by
      obtain ⟨t, e1⟩ := hat i1 j h1
      obtain ⟨t2, e2⟩ := hat i2 j h2
      have z : eqJ ns ms j = (ns.getD j 0 == ms.getD j 0) := by
        unfold eqJ
        rw [Bool.eq_iff_iff]
        simp
      rw [e1, e2, z]
      exact SeqAt.EqAt.int_int _ _ _ _)
    (fun j h1 h2 _ => by
      obtain ⟨t, e1⟩ := hat i1 j h1
      obtain ⟨t2, e2⟩ := hat i2 j h2
      rw [e1, e2]
      exact Ob.RcOp.gt_int _ _ _ _)
  rw [sz i1, sz i2] at R
  exact R X.prog X.w X.xe (EP X pins σ Q) ⟨.bl (gtI ns ms), H, I, rfl, q⟩
theorem kleT {X : Cx} (K : PySem.W.Frag) (hu : X.A.units + 64 < cLine) (hK : X.K = K := by rfl) : OpR X (compareOp .LtE) (rLeT K) := hK ▸ op_leT (by omega)
theorem kgtT {X : Cx} (K : PySem.W.Frag) (hu : X.A.units + 64 < cLine) (hK : X.K = K := by rfl) : OpR X (compareOp .Gt) (rGtT K) := hK ▸ op_gtT (by omega)
def kGtT : Env → Arg → Arg → EK → Prop := fun δ r s Q => opt (tupI r) fun xs => opt (tupI s) fun ys => Q (.v (.bl (gtI xs ys))) δ
def kLeT : Env → Arg → Arg → EK → Prop := fun δ r s Q => opt (tupI r) fun xs => opt (tupI s) fun ys => Q (.v (.bl (leI xs ys))) δ
section
variable {K : PySem.W.Frag} {M H : Hp} {S : L2.St} {δ : Env} {Q : EK}
theorem p2_gtT : P2 K (rGtT K) kGtT := fun δ r s Q h M S H u v rr o1 o2 Qm hn => by
  obtain ⟨xs, hx, h⟩ := opt_elim h
  obtain ⟨ys, hy, q⟩ := opt_elim h
  obtain ⟨a, rfl, g1⟩ := tupI_ok hx o1
  obtain ⟨b, rfl, g2⟩ := tupI_ok hy o2
  have ex := rr.choose_spec.ex
  exact ⟨a, b, xs, ys, rfl, rfl, TV.Same.sqT ex g1, TV.Same.sqT ex g2, hn.bl rr q⟩
theorem p2_leT : P2 K (rLeT K) kLeT := fun δ r s Q h M S H u v rr o1 o2 Qm hn => by
  obtain ⟨xs, hx, h⟩ := opt_elim h
  obtain ⟨ys, hy, q⟩ := opt_elim h
  obtain ⟨a, rfl, g1⟩ := tupI_ok hx o1
  obtain ⟨b, rfl, g2⟩ := tupI_ok hy o2
  have ex := rr.choose_spec.ex
  exact ⟨a, b, xs, ys, rfl, rfl, TV.Same.sqT ex g1, TV.Same.sqT ex g2, hn.bl rr q⟩
theorem kGtT_e {r s : Arg} : kGtT δ r s Q = @optC _ (tupI r) ⟨fun xs => @optC _ (tupI s) ⟨fun ys => Q (.v (.bl (gtI xs ys))) δ⟩⟩ := id rfl
theorem kLeT_e {r s : Arg} : kLeT δ r s Q = @optC _ (tupI r) ⟨fun xs => @optC _ (tupI s) ⟨fun ys => Q (.v (.bl (leI xs ys))) δ⟩⟩ := id rfl
end
theorem gtI_two (a b c d : Int) : gtI [a, b] [c, d] = decide (c < a ∨ (a = c ∧ d < b)) := by
  have e : gtI [a, b] [c, d] = if decide (a = c) = true then (if decide (b = d) = true then false else decide (b > d)) else decide (a > c) := rfl
  rw [e, Bool.eq_iff_iff]
  by_cases h1 : a = c <;> by_cases h2 : b = d <;> simp [h1, h2] <;> omega
theorem leI_two (a b c d : Int) : leI [a, b] [c, d] = decide (a < c ∨ (a = c ∧ b ≤ d)) := by
  have e : leI [a, b] [c, d] = if decide (a = c) = true then (if decide (b = d) = true then true else decide (b ≤ d)) else decide (a ≤ c) := rfl
  rw [e, Bool.eq_iff_iff]
  by_cases h1 : a = c <;> by_cases h2 : b = d <;> simp [h1, h2] <;> omega
def bolA : Arg → Option Bool
  | .v (.bl b) => some b
  | _ => none
def kIsBl : Env → Arg → Arg → EK → Prop := fun δ r s Q => opt (bolA r) fun c => opt (bolA s) fun d => Q (.v (.bl (c == d))) δ
def kNotBl : Env → Arg → Arg → EK → Prop := fun δ r s Q => opt (bolA r) fun c => opt (bolA s) fun d => Q (.v (.bl (c != d))) δ
section
variable {K : PySem.W.Frag} {M H : Hp} {S : L2.St} {δ : Env} {Q : EK}
theorem bolA_ok {r : Arg} {b : Bool} {u : V} (h : bolA r = some b) (ok : ArgOk K M S r u) : u = .bl b := by
  unfold bolA at h
  split at h
  · cases h; exact ok
  · cases h
theorem p2_isB : P2 K TV.rIsB kIsBl := fun δ r s Q h M S H u v rr o1 o2 Qm hn => by
  obtain ⟨c, hc, h⟩ := opt_elim h
  obtain ⟨d, hd, q⟩ := opt_elim h
  exact ⟨c, d, bolA_ok hc o1, bolA_ok hd o2, hn.bl rr q⟩
theorem p2_notB : P2 K TV.rNotB kNotBl := fun δ r s Q h M S H u v rr o1 o2 Qm hn => by
  obtain ⟨c, hc, h⟩ := opt_elim h
  obtain ⟨d, hd, q⟩ := opt_elim h
  exact ⟨c, d, bolA_ok hc o1, bolA_ok hd o2, hn.bl rr q⟩
theorem kIsBl_e {r s : Arg} : kIsBl δ r s Q = @optC _ (bolA r) ⟨fun c => @optC _ (bolA s) ⟨fun d => Q (.v (.bl (c == d))) δ⟩⟩ := id rfl
theorem kNotBl_e {r s : Arg} : kNotBl δ r s Q = @optC _ (bolA r) ⟨fun c => @optC _ (bolA s) ⟨fun d => Q (.v (.bl (c != d))) δ⟩⟩ := id rfl
end
end EV

/-! EV27: try .. except X as e -/
namespace L2
open PySem PySem.Spec PyProof.Rows
/-- the class at C is one of the program's errors -/
def IsErr (K : PySem.W.Frag) (C : Addr) : Prop := ∃ fI, PySem.ErrX.ErrTxt K C fI
theorem IsErr.of {K : PySem.W.Frag} {C fI : Addr} {q : Prop} (h : PySem.ErrX.ErrTxt K C fI ∧ q) : IsErr K C := ⟨fI, h.1⟩
def tErrV (K : PySem.W.Frag) (a : Addr) (cls : Value) (d : Option Addr) (te : TE) : TE := fun σ H Q => te σ H fun x H1 => x = .ref a ∧ ∃ C, cls = .ref C ∧ IsErr K C ∧ ∃ (dd : Addr) (v : V), d = some dd ∧ H1 dd = some (.xd [(("value" : Str), v)]) ∧ Q v H1
theorem pe_errV {X : Cx} {a : Addr} {oe : Obj} {cls : Value} {d : Option Addr} {pn : List (Addr × Obj)} {e : Expr} {te : TE} {pos : Pos} (K : PySem.W.Frag) (hz : Zc cls d oe) (hf : ∃ vs, oe.data = .fields vs) (he : PE (X.suite a ((a, oe) :: pn)) e te)
    (hK : X.K = K := by rfl) (hb : attributeBase e "value" X.env (eval e X.env) = eval e X.env := by rfl) :
    PE (X.suite a ((a, oe) :: pn)) (.Attribute e "value" pos) (tErrV K a cls d te) := by
  subst hK
  refine ⟨fun pins s σ H Q I h => ?_⟩
  refine attr_of hb (thn (he.run pins s σ H _ I h) fun u s1 hh => ?_)
  obtain ⟨x, H1, I1, rx, ex, C, ec, ⟨fI, T⟩, dd, v, ed, ea, q⟩ := hh
  subst ex
  obtain rfl : u = Value.ref a := rx
  subst ec
  subst ed
  obtain ⟨ha, _⟩ := I1.pin (a, oe) (List.mem_append_left _ List.mem_cons_self)
  obtain ⟨vs, hd⟩ := hf
  have hx : ObjOk X.prog X.w H1 s1.heap dd (.xd [(("value" : Str), v)]) := I1.hok dd _ ea
  obtain ⟨mA, hns, hr⟩ := hx
  obtain ⟨od, ho, hl⟩ := lookIn_ns hns
  have l : List.lookup ("value" : Str) [(("value" : Str), v)] = some v := by simp [List.lookup]
  obtain ⟨u, hu, ru⟩ := RelO.some_of (v := v) (o := mA "value") (by rw [← l]; exact hr "value")
  have J : PySem.W.InstAt s1.heap a oe C (some od) := ⟨ha, hz.1, by unfold PySem.W.notCls; rw [hd] <;> rfl, by rw [hz.2]; exact ho⟩
  exact HandSPX.exc_get I1.kIn J T.ga T.gg T.exC (PySem.W.findObj_own T.hdC T.noN rfl (by rw [hl, hu])) (handed_of ru) ⟨v, H1, I1.tok _, ru, q⟩
end L2
namespace EV
open PySem PySem.Spec PyProof.Rows L2
theorem cut_take {α : Type} {l : List α} {y : Int} (h : 0 ≤ y) : TV.cutL l none (some y) = l.take y.toNat := by
  have a2 : HT.sIx l.length l.length (some y) = min y.toNat l.length := by
    simp only [HT.sIx]
    rw [if_neg (by omega)]
  unfold TV.cutL
  rw [a2]
  show List.take (min y.toNat l.length - 0) (l.drop 0) = _
  rw [List.drop_zero, Nat.sub_zero]
  rcases Nat.le_total y.toNat l.length with z | z
  · rw [Nat.min_eq_left z]
  · rw [Nat.min_eq_right z, List.take_length, List.take_of_length_le z]
theorem OkT_lc {n : Nat} {o : Bool} {a : T} {r : List T} (h : OkT n a) (g : OkT (n + 1) (.nd .lst o r)) : OkT (n + 1) (.nd .lst o (a :: r)) := fun t ht => by
  rcases List.mem_cons.mp ht with e | e
  · rw [e]; exact h
  · exact g t e
theorem OkT_tc {n : Nat} {o : Bool} {a : T} {r : List T} (h : OkT n a) (g : OkT (n + 1) (.nd .tup o r)) : OkT (n + 1) (.nd .tup o (a :: r)) := fun t ht => by
  rcases List.mem_cons.mp ht with e | e
  · rw [e]; exact h
  · exact g t e
theorem OkT_tnil {n : Nat} {o : Bool} : OkT (n + 1) (.nd .tup o []) := fun t ht => by simp at ht
def errT : T → Option (Addr × T)
  | .nd (.err d) false [x] => some (d, x)
  | _ => none
def errS : Option Sl → Option (Addr × T)
  | some (.t τ) => errT τ
  | _ => none
/-- the error that the suite holds: its dict, its value -/
def errOf : Env → Option (Addr × T)
  | [] => none
  | o :: r => (errOf r).or (errS o)
theorem errOf_nil : errOf [] = none := rfl
theorem errOf_cons {o : Option Sl} {r : Env} : errOf (o :: r) = (errOf r).or (errS o) := rfl
theorem errS_err {d : Addr} {x : T} : errS (some (.t (.nd (.err d) false [x]))) = some (d, x) := rfl
theorem errOf_mem : ∀ {δ : Env} {p : Addr × T}, errOf δ = some p → ∃ (k : Nat) (τ : T), δ[k]? = some (some (.t τ)) ∧ errT τ = some p
  | [], p, h => by cases h
  | o :: r, p, h => by
    rw [errOf_cons] at h
    cases e : errOf r with
    | some z =>
      rw [e] at h
      have h : some z = some p := h
      obtain ⟨k, τ, h1, h2⟩ := errOf_mem e
      exact ⟨k + 1, τ, by simpa using h1, by rw [h2, h]⟩
    | none =>
      rw [e] at h
      have h : errS o = some p := h
      unfold errS at h
      split at h
      · rename_i τ _; exact ⟨0, τ, rfl, h⟩
      · cases h
/-- one of two ways out -/
def exO (o : Option T) (p : T → Prop) (q : Prop) : Prop := match o with
  | some x => p x
  | none => q
theorem exO_s {x : T} {p : T → Prop} {q : Prop} : exO (some x) p q = p x := id rfl
theorem exO_n {p : T → Prop} {q : Prop} : exO none p q = q := id rfl
theorem exO_mono {o : Option T} {p p' : T → Prop} {q q' : Prop} (h : ∀ x, p x → p' x) (g : q → q') : exO o p q → exO o p' q' := by
  cases o with
  | none => exact g
  | some x => exact h x
def adrA : Arg → Option Addr
  | .v (.adr a) => some a
  | _ => none
section
variable {N : Nat} {K : PySem.W.Frag} {W : WX} {M M' M1 H H' : Hp} {σ S S1 : L2.St} {δ δ' : Env} {α β γ : List A} {Q : EK} {X : XK'} {Qm : VK}
theorem err_ok {d : Addr} {x : T} (r : R K M S H δ) (h : errOf δ = some (d, x)) : ∃ v, M d = some (TV.errO v) ∧ Rp K M x v := by
  obtain ⟨k, τ, h1, h2⟩ := errOf_mem h
  obtain ⟨α, ra⟩ := r
  obtain ⟨a, g1, g2, g3⟩ := ra.own k τ h1
  have hh := (HoldL_iff.mp ra.ho) a (List.mem_of_getElem? g1)
  unfold errT at h2
  split at h2
  · rename_i d' x'
    cases h2
    cases a with
    | nd c y z us => simp [er] at g2
    | lf τ v =>
      have g2 : τ = _ := g2
      subst g2
      obtain ⟨_, b, vs, e1, ⟨e2, e3, e4⟩, v', r', e5, e6, e7⟩ := hh
      subst e2
      subst e5
      cases (show r' = [] from e7)
      exact ⟨v', e3, e6⟩
  · cases h2
def wErrV (K : PySem.W.Frag) (C a d : Addr) (we : WE') : WE' := fun n δ Q X => we n δ (fun r δ1 => opt (adrA r) fun a' => a' = a ∧ IsErr K C ∧ opt (errOf δ1) fun p => p.1 = d ∧ Q (.v p.2) δ1) X
theorem se_errV {C a d : Addr} {te : TE} {we : WE'} (he : SE N K W te we) : SE N K W (tErrV K a (.ref C) (some d) te) (wErrV K C a d we) := fun n δ Q X h M σ S H r hN p Qm hn hx =>
  he n δ _ X h M σ S H r hN p _ (fun M1 u H1 x δ1 S1 e1 p1 r1 o1 h1 => by
    obtain ⟨a', ha, rfl, hC, h1⟩ := opt_elim h1
    obtain ⟨⟨d', y⟩, he, hd, q⟩ := opt_elim h1
    dsimp only at hd q
    subst hd
    obtain ⟨v, hv, rp⟩ := err_ok r1 he
    unfold adrA at ha
    split at ha
    · cases ha
      refine ⟨o1, C, rfl, hC, d', v, rfl, RB.ex r1 _ _ hv, (hn.on e1 p1).val r1 rp q⟩
    · cases ha) hx
theorem exm_gen {C : Addr} {cls : Value} {b : Bool} (h1 : PySem.W.subIn K (.ref C) (.type "BaseException") = some true) (h2 : PySem.W.isClsIn K C = true) (h3 : PySem.W.typeIn K (.ref C) = some (.type "type")) (h4 : PySem.W.subIn K cls (.ref C) = some b) : PySem.W.exmOne K cls (.ref C) = some b := by
  have e1 : (PySem.W.subIn K (.ref C) (.type "BaseException") == some true) = true := by rw [h1] <;> rfl
  have e2 : ((PySem.W.clsIn K C).isSome && PySem.W.typeIn K (.ref C) == some (.type "type")) = true := by
    have h2' : (PySem.W.clsIn K C).isSome = true := h2
    rw [h2', h3] <;> rfl
  show (if (PySem.W.subIn K (.ref C) (.type "BaseException") == some true) = true then (if ((PySem.W.clsIn K C).isSome && PySem.W.typeIn K (.ref C) == some (.type "type")) = true then PySem.W.subIn K cls (.ref C) else none) else none) = some b
  rw [if_pos e1, if_pos e2]
  exact h4
/-- the slots as the suite has them -/
def exE (i : Nat) (a d : Addr) (x : T) (δ : Env) : Env := (kilr i δ).set i (some (.t (.adr a))) ++ [some (.t (.nd (.err d) false [x]))]
def offE (i n : Nat) (δ : Env) : Env := wpe [i] (tk n δ)
def wTry (K : PySem.W.Frag) (c : Value) (i : Nat) (wb : WS) (wh : Addr → Addr → Addr → WS) : WS := fun δ D => wb δ ⟨D.nx, D.rt, D.bk, D.ct, fun C x δ' => ∃ b, PySem.W.exmOne K (.ref C) c = some b ∧ brP b (∀ a d, wh C a d (exE i a d x δ') ⟨fun δ2 => D.nx (offE i δ.length δ2), fun τ δ2 => D.rt τ (tk δ.length δ2), fun δ2 => D.bk (offE i δ.length δ2), fun δ2 => D.ct (offE i δ.length δ2), fun _ _ _ => False⟩) (D.ex C x δ')⟩
theorem off_ok {i n : Nat} {ρ : L2.St} {τs : L2.St} (r : R K M (σ ++ (τs ++ ρ)) H δ) (hn : n = (σ ++ τs).length) (hi : i < σ.length) : R K M (σ.set i none ++ τs) H (offE i n δ) := by
  rw [← List.append_assoc] at r
  have r1 : R K M (σ ++ τs) H (tk (σ ++ τs).length δ) := RB.cut r
  rw [← hn] at r1
  have r2 : R K M (σ ++ τs) H (wpe [i] (tk n δ)) := RB.wpe r1
  refine RB.other r2 wpe_clean (by simp) fun k hk => ?_
  rw [← List.set_append_left _ _ hi]
  exact List.getElem?_set_ne (by simpa using Ne.symm (by simpa using hk))
theorem ss_tryAs {c : Value} {i : Nat} {tb : WX → TS} {ts : Addr → Value → Option Addr → TS} {wb : WS} {wh : Addr → Addr → Addr → WS} (hi : i < N) (hb : ∀ W', SS N K W' (tb W') wb) (hs : ∀ C a d, SS N K W0 (ts a (.ref C) (some d)) (wh C a d)) :
    SS N K W (fun D σ H => tb (wAs K c i ts W D) D σ H) (wTry K c i wb wh) := fun δ D h M σ τs H r hN E hE => by
  refine hb _ δ _ h M σ τs H r hN E ⟨hE.nx, hE.rt, hE.bk, hE.ct, fun M2 σ2 H2 C x u d δ2 e2 l2 r2 rp hd q => ?_⟩
  obtain ⟨b, hb1, q⟩ := q
  have hl : δ.length = (σ ++ τs).length := r.ls.symm
  refine ⟨b, hb1, fun hbt a ha => ?_, fun hbf => ?_⟩
  · subst hbt
    have q : ∀ a d, _ := q
    have q := q a d
    obtain ⟨s3, r3⟩ := RB.laid (o := TV.errO u) r2 hd
    have e3 : Same M (upd M2 d (TV.errO u)) := e2.trans s3
    have r4 := RB.setT (a := .lf (.adr a) (.ref a)) (i := i) (r3.float (τ := .adr a) (v := .ref a) rfl) (by simp; omega)
    have r5 := RB.push (β := []) (RB.float r4 (τ := .nd (.err d) false [x]) (v := .ref d) ⟨rfl, d, [u], rfl, ⟨rfl, upd_same, rfl⟩, ⟨u, [], rfl, rp.mono s3, rfl⟩⟩)
    rw [List.set_append_left _ _ (by omega), List.append_assoc] at r5
    refine hs C a d _ _ q _ (σ2.set i (some (.ref a))) (τs ++ [some (.ref d)]) _ r5 (by simp; omega) _ ⟨fun M' σ' H' δ3 e k r' q' => ?_, fun M' σ' H' δ3 a3 e k r' q' => ?_, fun M' σ' H' δ3 e k r' q' => ?_, fun M' σ' H' δ3 e k r' q' => ?_, fun _ _ _ _ _ _ _ _ _ _ _ _ _ q' => q'.elim⟩
    · have k : σ'.length = σ.length := by rw [k, List.length_set, l2]
      exact hE.nx M' _ H' _ (e3.trans e) (by rw [List.length_set, k]) (off_ok r' (by rw [hl, List.length_append, List.length_append, k]) (by omega)) q'
    · have k : σ'.length = σ.length := by rw [k, List.length_set, l2]
      rw [← List.append_assoc] at r'
      have r6 := RB.cut r'
      rw [List.length_append, k, ← List.length_append, ← hl] at r6
      exact hE.rt M' σ' H' _ a3 (e3.trans e) k r6 q'
    · have k : σ'.length = σ.length := by rw [k, List.length_set, l2]
      exact hE.bk M' _ H' _ (e3.trans e) (by rw [List.length_set, k]) (off_ok r' (by rw [hl, List.length_append, List.length_append, k]) (by omega)) q'
    · have k : σ'.length = σ.length := by rw [k, List.length_set, l2]
      exact hE.ct M' _ H' _ (e3.trans e) (by rw [List.length_set, k]) (off_ok r' (by rw [hl, List.length_append, List.length_append, k]) (by omega)) q'
  · subst hbf
    have q : D.ex C x δ2 := q
    exact hE.ex M2 σ2 H2 C x u d δ2 e2 l2 r2 rp hd q
theorem wTry_e {c : Value} {i : Nat} {wb : WS} {wh : Addr → Addr → Addr → WS} {D : ED} : wTry K c i wb wh δ D = wb δ ⟨D.nx, D.rt, D.bk, D.ct, fun C x δ' => ∃ b, PySem.W.exmOne K (.ref C) c = some b ∧ brP b (∀ a d, wh C a d (exE i a d x δ') ⟨fun δ2 => D.nx (offE i δ.length δ2), fun τ δ2 => D.rt τ (tk δ.length δ2), fun δ2 => D.bk (offE i δ.length δ2), fun δ2 => D.ct (offE i δ.length δ2), fun _ _ _ => False⟩) (D.ex C x δ')⟩ := id rfl
theorem wErrV_e {n : Nat} {C a d : Addr} {we : WE'} : wErrV K C a d we n δ Q X = we n δ (fun r δ1 => @optC _ (adrA r) ⟨fun a' => a' = a ∧ IsErr K C ∧ @optC _ (errOf δ1) ⟨fun p => p.1 = d ∧ Q (.v p.2) δ1⟩⟩) X := id rfl
theorem try_hit {c : Value} {C : Addr} {p : Addr → Addr → Prop} {q : Prop} (h : PySem.W.exmOne K (.ref C) c = some true) (hp : ∀ a d, p a d) : ∃ b, PySem.W.exmOne K (.ref C) c = some b ∧ brP b (∀ a d, p a d) q := ⟨true, h, hp⟩
end
end EV

/-! EV28: comparisons that leave the slots as they are; enumerate from 1; isinstance of the error a suite holds -/
namespace TV
open PySem PySem.Spec PyProof.Rows L2
def MaxD (ns : List Int) (d v : Int) : Prop := (ns = [] → v = d) ∧ (ns ≠ [] → EV.IsMax ns v)
def rMaxD (K : PySem.W.Frag) : List V → List V → Hp → VK → Prop := fun vs zs H Q => ∃ (a : Addr) (ns : List Int) (d : Int), vs = [V.ref a] ∧ zs = [V.int d] ∧ SqL K H a (ns.map V.int) ∧ ∀ v, MaxD ns d v → Q (.int v) H
theorem cr_maxD {X : Cx} (hc : X.calm = true) (hu : X.A.units + 64 < cLine) : CallRK X (.builtin "max") [Str.ofString "default"] (rMaxD X.K) := by
  intro pins s σ H xs zs us ws Q I r rz h
  obtain ⟨a, ns, d, rfl, rfl, hS, q⟩ := h
  obtain ⟨u1, rfl, rx⟩ := vals1 r
  cases rx
  obtain ⟨w1, rfl, rw⟩ := vals1 rz
  obtain ⟨t, rfl⟩ := rw
  obtain ⟨its, rv, hl, _⟩ := I.list hS
  have hdp := EV.dpAll_ints (K := X.K) (H := H) ns
  have hpd := EV.pd_int ns
  obtain ⟨as, rs⟩ := Dp.readsAll I _ _ _ hdp rv
  refine PySem.W.max_list_default (I.ok.hd hc) hl.isList (by simpa using rs) (EV.al_int ns) (by rw [hpd.2]; omega) (fun e h' tk hk => ?_) (fun y ys i v h' tk bs e hi hr hk => ?_)
  · have I' : Inv X pins σ H { s with heap := h', toks := tk } := I.kept hk
    have e0 : ns = [] := List.map_eq_nil_iff.mp e
    exact ⟨.int d, H, I', ⟨t, rfl⟩, q d ⟨fun _ => rfl, fun z => absurd e0 z⟩⟩
  · obtain ⟨x, hx, rxv⟩ := Vals.get2 rv (by simpa using hi)
    obtain ⟨f, hf, hde⟩ := dpAll_get hdp hx
    have I' : Inv X pins σ H { s with heap := h', toks := tk } := I.kept hk
    obtain ⟨cs, r2⟩ := Dp.reads I' f x v hde rxv
    have hu := SeqAt.plain_unique f _ v _ _ (plainAll_get hpd.1 hf) r2 hr
    rw [List.getElem?_map] at hx hf
    cases ez : ns[i]? with
    | none => rw [ez] at hx; cases hx
    | some z =>
      rw [ez] at hx hf
      cases hx
      cases hf
      refine ⟨.int z, H, I', rxv, q z ⟨fun z0 => (by rw [z0] at ez; cases ez), fun _ => ?_⟩⟩
      cases ns with
      | nil => cases e
      | cons b r =>
        rw [List.map_cons] at e
        injection e with e1 e2
        obtain ⟨v', h1, h2⟩ := EV.maxD_ints r b
        rw [← e1, ← e2, h1] at hu
        cases hu
        exact h2
theorem kmaxD {X : Cx} (K : PySem.W.Frag) (hu : X.A.units + 64 < cLine) (hc : X.calm = true := by rfl) (hK : X.K = K := by rfl) : CallRK X (.builtin "max") [Str.ofString "default"] (rMaxD K) := hK ▸ cr_maxD hc hu
end TV
namespace EV
open PySem PySem.Spec PyProof.Rows L2
/-- what an expression leaves: only more objects -/
def GE (t : TE) : Prop := ∀ σ H (Q Q' : VK), (∀ v H1, Same H H1 → Q v H1 → Q' v H1) → t σ H Q → t σ H Q'
def GA (t : TA) : Prop := ∀ σ H (Q Q' : List V → Hp → Prop), (∀ v H1, Same H H1 → Q v H1 → Q' v H1) → t σ H Q → t σ H Q'
def GO (t : TO) : Prop := ∀ σ H (Q Q' : Option Int → Hp → Prop), (∀ v H1, Same H H1 → Q v H1 → Q' v H1) → t σ H Q → t σ H Q'
def GR2 (r : R2) : Prop := ∀ u v H (Q Q' : VK), (∀ w H1, Same H H1 → Q w H1 → Q' w H1) → r u v H Q → r u v H Q'
theorem gE_var {i : Nat} : GE (tVar i) := fun σ H Q Q' h ⟨v, e, q⟩ => ⟨v, e, h v H (Same.refl H) q⟩
theorem gE_c {v : V} : GE (tC v) := fun σ H Q Q' h q => h _ _ (Same.refl H) q
theorem gE_lst {t : TA} (ha : GA t) : GE (tLst t) := fun σ H Q Q' h q => ha σ H _ _ (fun xs H1 s ⟨hl, k⟩ => ⟨hl, fun p hp => h _ _ (s.trans (sameU hp)) (k p hp)⟩) q
theorem gE_tup {t : TA} (ha : GA t) : GE (tTup t) := fun σ H Q Q' h q => ha σ H _ _ (fun xs H1 s ⟨hl, k⟩ => ⟨hl, fun p hp => h _ _ (s.trans (sameU hp)) (k p hp)⟩) q
theorem gA_nil : GA tNil := fun σ H Q Q' h q => h _ _ (Same.refl H) q
theorem gA_cons {ta : TE} {tr : TA} (ha : GE ta) (hr : GA tr) : GA (tCons ta tr) := fun σ H Q Q' h q => ha σ H _ _ (fun x H1 s q1 => hr σ H1 _ _ (fun xs H2 s2 q2 => h _ _ (s.trans s2) q2) q1) q
theorem gE_op {r : R2} {ta tb : TE} (hr : GR2 r) (ha : GE ta) (hb : GE tb) : GE (tOp r ta tb) := fun σ H Q Q' h q => ha σ H _ _ (fun x H1 s q1 => hb σ H1 _ _ (fun y H2 s2 q2 => hr x y H2 _ _ (fun w H3 s3 q3 => h _ _ ((s.trans s2).trans s3) q3) q2) q1) q
theorem gO_none : GO tNoPart := fun σ H Q Q' h q => h _ _ (Same.refl H) q
theorem gO_some {ta : TE} (ha : GE ta) : GO (tPart ta) := fun σ H Q Q' h q => ha σ H _ _ (fun x H1 s ⟨i, e, q1⟩ => ⟨i, e, h _ _ s q1⟩) q
theorem gE_sl {K : PySem.W.Frag} {ta : TE} {tl th : TO} (ha : GE ta) (hl : GO tl) (hh : GO th) : GE (L2.tSl (rSlX K) ta tl th) := fun σ H Q Q' h q => ha σ H _ _ (fun x H1 s q1 => hl σ H1 _ _ (fun l H2 s2 q2 => hh σ H2 _ _ (fun u H3 s3 q3 => by
  have sm := (s.trans s2).trans s3
  rcases q3 with ⟨a, xs, e, hs, k⟩ | q3 | ⟨z, e, hz, k⟩
  · exact .inl ⟨a, xs, e, hs, fun p hp => h _ _ (sm.trans (sameU hp)) (k p hp)⟩
  · obtain ⟨a, xs, e, hs, hn, k⟩ := q3
    exact .inr (.inl ⟨a, xs, e, hs, hn, fun p hp => h _ _ (sm.trans (sameU hp)) (k p hp)⟩)
  · exact .inr (.inr ⟨z, e, hz, h _ _ sm k⟩)) q2) q1) q
theorem gR_ix {K : PySem.W.Frag} : GR2 (rIx K) := fun u v H Q Q' h q => by
  rcases q with ⟨p, xs, i, w, e1, e2, h1, h2, q⟩ | ⟨p, xs, i, w, e1, e2, h1, h2, q⟩ | ⟨z, i, c, e1, e2, h1, h2, q⟩
  · exact .inl ⟨p, xs, i, w, e1, e2, h1, h2, h _ _ (Same.refl H) q⟩
  · exact .inr (.inl ⟨p, xs, i, w, e1, e2, h1, h2, h _ _ (Same.refl H) q⟩)
  · exact .inr (.inr ⟨z, i, c, e1, e2, h1, h2, h _ _ (Same.refl H) q⟩)
theorem gR_eq {K : PySem.W.Frag} {m : Nat} : GR2 (TV.rEqX K m) := fun u v H Q Q' h q => by
  rcases q with ⟨e, q⟩ | ⟨d, f, h1, h2, h3, h4, h5, q⟩
  · exact .inl ⟨e, h _ _ (Same.refl H) q⟩
  · exact .inr ⟨d, f, h1, h2, h3, h4, h5, h _ _ (Same.refl H) q⟩
theorem gR_ne {K : PySem.W.Frag} {m : Nat} : GR2 (TV.rNeX K m) := fun u v H Q Q' h q => by
  rcases q with ⟨e, q⟩ | ⟨d, f, h1, h2, h3, h4, h5, q⟩
  · exact .inl ⟨e, h _ _ (Same.refl H) q⟩
  · exact .inr ⟨d, f, h1, h2, h3, h4, h5, h _ _ (Same.refl H) q⟩
theorem gE_list {K : PySem.W.Frag} {t : TA} (ha : GA t) : GE (tCB (fun xs H Q => ∃ p ys, xs = [V.ref p] ∧ (SqL K H p ys ∨ SqT K H p ys) ∧ ∀ l, H l = none → Q (.ref l) (upd H l (.lst ys))) t) := fun σ H Q Q' h q => ha σ H _ _ (fun xs H1 s ⟨p, ys, e, hs, k⟩ => ⟨p, ys, e, hs, fun l hl => h _ _ (s.trans (sameU hl)) (k l hl)⟩) q
section
variable {N : Nat} {K : PySem.W.Frag} {W : WX} {M M' M1 H H' : Hp} {σ S S1 : L2.St} {δ δ' : Env} {α β γ : List A} {Q : EK} {X : XK'} {Qm : VK}
def wKeep (w : WE') : WE' := fun n δ Q X => w n δ (fun r δ1 => opt (blA r) fun b => Q (.v (.bl b)) δ) noX
theorem se_keep {t : TE} {w : WE'} (g : GE t) (h : SE N K W t w) : SE N K W t (wKeep w) := fun n δ Q X hw M σ S H r hN p Qm hn hx =>
  g σ H (fun u H' => ∃ b, u = .bl b ∧ Q (.v (.bl b)) δ) Qm (fun v H1 sm ⟨b, e, q⟩ => by subst e; exact hn.bl (RB.grow r sm) q)
    (h n δ _ _ hw M σ S H r hN p _ (fun M' u H' x δ' S' e1 p1 r1 o1 q => by
      obtain ⟨b, hb, q⟩ := opt_elim q
      unfold blA at hb
      split at hb
      · cases hb
        exact ⟨b, o1, q⟩
      · cases hb) (fun _ _ _ _ _ _ _ _ _ _ _ _ _ h => h.elim))
theorem wKeep_e {n : Nat} {w : WE'} : wKeep w n δ Q X = w n δ (fun r δ1 => @optC _ (blA r) ⟨fun b => Q (.v (.bl b)) δ⟩) noX := id rfl
/-! a tuple that stands still, walked -/
theorem stT_ok {items : List T} {a : Addr} {vs : List V} {τs : L2.St} (h1 : SqT K M a vs) (h2 : RpL K M items vs) : ItOk K N M τs (Itt K a) (.st items []) := fun i M2 σ2 ζ H2 δ2 e2 l2 r2 ok => by
  have sq : SqT K H2 a vs := TV.Same.sqT (e2.trans (RB.ex r2)) h1
  have hl := h2.length
  refine ⟨fun hi => ⟨⟨vs, vs[i]'(by simp only [itLen] at hi; omega), sq, List.getElem?_eq_getElem _⟩, fun x H' y => ?_⟩, fun hi => ⟨vs, sq, by simp only [itLen] at hi; omega⟩⟩
  obtain ⟨rfl, y⟩ := y
  have hx := y vs sq
  have hil : i < items.length := hi
  obtain ⟨w, hw, rw⟩ := h2.get (List.getElem?_eq_getElem hil)
  rw [hx] at hw
  cases hw
  exact ⟨M2, [], .v items[i], δ2, Same.refl M2, by simpa using r2, by simp [itemA, List.getElem?_eq_getElem hil], rw.mono e2⟩
def tupF' : T → Option (List T)
  | .nd .tup false ts => some ts
  | _ => none
def valA' : Arg → Option T
  | .v τ => some τ
  | _ => none
def wiTup (we : WE') : WI := fun n δ Q X => we n δ (fun r δ1 => opt ((valA' r).bind tupF') fun ts => Q (.st ts []) δ1) X
theorem si_tup {tl : TE} {we : WE'} (he : SE N K W tl we) : SI N K W (iTup K tl) (wiTup we) := fun n δ Q X h M σ τs H r hN Rk hn hx =>
  he n δ _ X h M σ (σ ++ τs) H r hN Pre.app _ (fun M1 u H1 x δ1 S1 e1 p1 r1 o1 h1 => by
    obtain ⟨ρ, rfl⟩ := p1
    obtain ⟨ts, ht, q⟩ := opt_elim h1
    cases x with
    | sl k => cases ht
    | v τ =>
      have ht : tupF' τ = some ts := ht
      unfold tupF' at ht
      split at ht
      · cases ht
        obtain ⟨_, a, vs, rfl, g1, g2⟩ := o1
        have sq : SqT K M1 a vs := g1
        exact ⟨a, rfl, ⟨vs, TV.Same.sqT (RB.ex r1) sq⟩, hn M1 _ H1 _ δ1 ρ e1 r1 (stT_ok sq g2) q⟩
      · cases ht) hx
theorem wiTup_e {n : Nat} {we : WE'} {Q : ItS → Env → Prop} : wiTup we n δ Q X = we n δ (fun r δ1 => @optC _ ((valA' r).bind tupF') ⟨fun ts => Q (.st ts []) δ1⟩) X := id rfl
def wMaxD (wa wd : WE') : WE' := fun n δ Q X => wa n δ (fun r δ1 => wd n δ1 (fun s δ2 => opt (intsK δ2 r) fun ns => opt (intA s) fun d => ∀ v, TV.MaxD ns d v → Q (.v (.int v)) δ2) X) X
theorem se_maxD {ta td : TE} {wa wd : WE'} (ha : SE N K W ta wa) (hd : SE N K W td wd) : SE N K W (tCKw (TV.rMaxD K) (tCons ta tNil) (tCons td tNil)) (wMaxD wa wd) := fun n δ Q X h M σ S H r hN p Qm hn hx =>
  ha n δ _ X h M σ S H r hN p _ (fun M1 u H1 x δ1 S1 e1 p1 r1 o1 h1 => hd n δ1 _ X h1 M1 σ S1 H1 r1 hN (p.trans p1) _ (fun M2 v H2 y δ2 S2 e2 p2 r2 o2 h2 => by
    obtain ⟨ns, hns, h2⟩ := opt_elim h2
    obtain ⟨d, hd, q⟩ := opt_elim h2
    obtain ⟨a, rfl, hq⟩ := intsK_ok r2 hns ((o1.mono e2).pre p2)
    refine ⟨a, ns, d, rfl, by rw [intA_ok hd o2], hq, fun v hv => (hn.on (e1.trans e2) (p1.trans p2)).int r2 (q v hv)⟩) (hx.on e1 p1)) hx
theorem wMaxD_e {n : Nat} {wa wd : WE'} : wMaxD wa wd n δ Q X = wa n δ (fun r δ1 => wd n δ1 (fun s δ2 => @optC _ (intsK δ2 r) ⟨fun ns => @optC _ (intA s) ⟨fun d => ∀ v, TV.MaxD ns d v → Q (.v (.int v)) δ2⟩⟩) X) X := id rfl
/-- xs.index(v) of truth values -/
def kIndex : Nat → Env → Arg → List Arg → EK → Prop := fun _ δ r rs Q => match rs with
  | [.v (.bl b)] => opt (blsK δ r) fun ns => b ∈ ns ∧ Q (.v (.int ((ns.idxOf b : Nat) : Int))) δ
  | _ => False
theorem idx_bl : ∀ {ns : List Bool} {k : Bool}, k ∈ ns → ns[ns.idxOf k]? = some k ∧ ∀ m : Nat, m < ns.idxOf k → ns[m]? ≠ some k
  | [], k, h => by simp at h
  | n :: r, k, h => by
    by_cases e : n = k
    · subst e
      simp
    · have hr : k ∈ r := by simpa [Ne.symm e] using h
      obtain ⟨h1, h2⟩ := idx_bl hr
      have hb : (n == k) = false := by simpa using e
      rw [List.idxOf_cons, hb]
      refine ⟨by simpa using h1, fun m hm => ?_⟩
      cases m with
      | zero => simpa using e
      | succ m =>
        simp only [cond_false] at hm
        simpa using h2 m (by omega)
theorem pm_index : PM K (rIndex K) kIndex := fun n δ r rs Q h M S H u us rr o1 o2 Qm hn => by
  unfold kIndex at h
  split at h
  · rename_i b
    obtain ⟨v, rfl, o3⟩ := args1 o2
    have o3 : v = .bl b := o3
    subst o3
    obtain ⟨ns, hns, hb, q⟩ := opt_elim h
    obtain ⟨a, rfl, hq⟩ := blsK_ok rr hns o1
    obtain ⟨i1, i2⟩ := idx_bl hb
    refine ⟨a, ns.map V.bl, .bl b, ns.idxOf b, .bl b, rfl, rfl, hq, rfl, by simp [flatV], by rw [List.getElem?_map, i1]; rfl, by simp [eqV], fun m z hm hz => ?_, hn.int rr q⟩
    rw [List.getElem?_map] at hz
    cases e : ns[m]? with
    | none => rw [e] at hz; cases hz
    | some c =>
      rw [e] at hz
      cases hz
      have hne : c ≠ b := fun z => i2 m hm (by rw [e, z])
      simpa [eqV] using hne
  · exact h.elim
theorem kIndex_e {b : Bool} : kIndex n δ r [.v (.bl b)] Q = @optC _ (blsK δ r) ⟨fun ns => b ∈ ns ∧ Q (.v (.int ((ns.idxOf b : Nat) : Int))) δ⟩ := id rfl
/-- what an expression gives stands still from now on -/
def wFrz (w : WE') : WE' := fun n δ Q X => w n δ (fun r δ1 => opt (take1 (δ1.length + 1) δ1 r) fun q => isF q.1 = true ∧ Q (.v q.1) q.2) X
theorem se_frz {t : TE} {w : WE'} (h : SE N K W t w) : SE N K W t (wFrz w) := fun n δ Q X hw M σ S H r hN p Qm hn hx =>
  h n δ _ X hw M σ S H r hN p _ (fun M1 u H1 x δ1 S1 e1 p1 r1 o1 q => by
    obtain ⟨⟨τ, δ2⟩, ht, hf, q⟩ := opt_elim q
    obtain ⟨M2, a1, e2, r2, g1, g2⟩ := take1_ok (β := []) r1 ht o1
    subst g2
    have hf : isF τ = true := hf
    rw [← g1] at hf
    obtain ⟨τ', v', rfl⟩ := leaf_of hf
    have q : Q (.v τ) δ2 := q
    rw [← g1] at q
    exact (hn.on (e1.trans e2) p1).val (RB.drop1 (β := []) r2) (RB.holds r2).1 q) hx
theorem wFrz_e {n : Nat} {w : WE'} : wFrz w n δ Q X = w n δ (fun r δ1 => @optC _ (take1 (δ1.length + 1) δ1 r) ⟨fun q => isF q.1 = true ∧ Q (.v q.1) q.2⟩) X := id rfl
/-- what it names is handed on, not left to stand still -/
def wMov (w : WE') : WE' := fun _ δ Q X => w 0 δ Q X
theorem se_mov {t : TE} {w : WE'} (h : SE N K W t w) : SE N K W t (wMov w) := fun _ δ Q X hw => h 0 δ Q X hw
theorem wMov_e {n : Nat} {w : WE'} : wMov w n δ Q X = w 0 δ Q X := id rfl
end
end EV

/-! EV29: x *= e -/
namespace TV
open PySem PySem.Spec PyProof.Rows L2
def ipC (c : Int → Int → Prop) (f : Int → Int → Int) : TIp := fun x y H Q => ∃ i j, x = .int i ∧ y = .int j ∧ c i j ∧ Q (.int (f i j)) H
theorem ip_mulB {X : Cx} : PIp X .Mult (ipC CMulB fun i j => i * j) := by
  intro pins s σ H x y v u Q I r1 r2 h
  obtain ⟨i, j, e1, e2, hc, q⟩ := h
  subst e1; subst e2
  obtain ⟨t, rfl⟩ := r1
  obtain ⟨t', rfl⟩ := r2
  exact imul_int ⟨.int _, H, I.tok _, ⟨_, rfl⟩, q⟩ hc.ok
end TV
namespace EV
open PySem PySem.Spec PyProof.Rows L2
section
variable {N : Nat} {K : PySem.W.Frag} {W : WX} {M M' M1 H H' : Hp} {σ S S1 : L2.St} {δ δ' : Env} {α β γ : List A} {Q : EK} {X : XK'} {Qm : VK}
def wAugC (i : Nat) (c : Int → Int → Prop) (f : Int → Int → Int) (wa : WE') : WS := fun δ D => opt (varA δ i) fun r => opt (intA r) fun a => wa δ.length δ (fun s δ1 => opt (intA s) fun b => c a b ∧ D.nx (tk δ.length ((kilr i δ1).set i (some (.t (.int (f a b))))))) (xk D δ.length)
theorem ss_augC {i : Nat} {c : Int → Int → Prop} {f : Int → Int → Int} {te : TE} {wa : WE'} (hi : i < N) (ha : SE N K W te wa) : SS N K W (tAug i te (TV.ipC c f)) (wAugC i c f wa) := fun δ D h M σ τs H r hN E hE => by
  obtain ⟨x, hx, h⟩ := opt_elim h
  obtain ⟨a, ha', h⟩ := opt_elim h
  obtain ⟨v, hv, ok⟩ := var_ok r hx
  have := intA_ok ha' ok
  subst this
  refine ⟨.int a, pre_get Pre.app (by omega) hv, ha _ δ _ _ h M σ (σ ++ τs) H r hN Pre.app _ (fun M1 u H1 s δ1 S1 e1 p1 r1 o1 h1 => ?_) (XC_of hE r.ls.symm)⟩
  obtain ⟨b, hb, hcc, q⟩ := opt_elim h1
  refine ⟨a, b, rfl, intA_ok hb o1, hcc, ?_⟩
  obtain ⟨ρ, rfl⟩ := p1
  have r2 := RB.setT (a := .lf (.int (f a b)) (.int (f a b))) (i := i) (RB.float (β := []) r1 rfl) (by simp; omega)
  rw [List.append_assoc, List.set_append_left _ _ (by omega), ← List.append_assoc] at r2
  have r3 := r2.cut
  have hl : (σ.set i (some (V.int (f a b))) ++ τs).length = δ.length := by rw [← r.ls]; simp
  simp only [val, er] at r3
  rw [hl] at r3
  exact hE.nx M1 _ H1 _ e1 (by simp) r3 q
theorem wAugC_e {i : Nat} {c : Int → Int → Prop} {f : Int → Int → Int} {wa : WE'} {D : ED} : wAugC i c f wa δ D = @optC _ ((varA δ i)) ⟨fun r => @optC _ ((intA r)) ⟨fun a => wa δ.length δ (fun s δ1 => @optC _ ((intA s)) ⟨fun b => c a b ∧ D.nx (tk δ.length ((kilr i δ1).set i (some (.t (.int (f a b))))))⟩) (xk D δ.length)⟩⟩ := id rfl
end
end EV

namespace W2
open PySem PySem.Spec PyProof.Rows L2 EV
open TV (op_addX op_mulX knot kand kor kix kdget keq kne kin knotIn kdin kdnotin ktruth kcsum kcall kcany kcsorted kcmin kcmax kcisi kclist kltT kcisiT kbm kbm0 kmindex ksrev kpi_list kpi_enum kpi_zipA kpg_tup gnm qset kdput kisB knotB CMulB big_mul sortI sortI_perm sortI_sorted sorted_one)
/-- a def of the top that the name leads to -/
def Has (K : PySem.W.Frag) (mg : Str → Option Value) (x : Str) (st : Stmt) (ps : List Str) : Prop := ∃ f fd, Fun K x x st f fd ∧ mg x = some (.ref f) ∧ L2.Binds K fd ps []
abbrev iL (ns : List Int) : List T := ns.map T.int

def topS (i : Nat) : Stmt := PySem.Challenge.pw_handpiles_k65_depths_of_merges.main.body.getD i (.Pass ⟨0, 0, 0, 0⟩)
abbrev s_check_ways : Stmt := topS 4
abbrev N_check_ways : List Str := ["ways"]
theorem sc_check_ways : FnScope N_check_ways ["ways"] (defScope s_check_ways) := ⟨rfl, rfl, rfl, by decide +kernel, rfl, by decide +kernel, by decide +kernel⟩
abbrev s_depth : Stmt := topS 5
abbrev N_depth : List Str := ["number", "ways", "merges", "room"]
theorem sc_depth : FnScope N_depth ["number", "ways"] (defScope s_depth) := ⟨rfl, rfl, rfl, by decide +kernel, rfl, by decide +kernel, by decide +kernel⟩
abbrev s_law_cell_at : Stmt := topS 7
abbrev N_law_cell_at : List Str := ["script", "place"]
theorem sc_law_cell_at : FnScope N_law_cell_at ["script", "place"] (defScope s_law_cell_at) := ⟨rfl, rfl, rfl, by decide +kernel, rfl, by decide +kernel, by decide +kernel⟩
abbrev s_law_source : Stmt := topS 8
abbrev N_law_source : List Str := ["script", "place", "cell"]
theorem sc_law_source : FnScope N_law_source ["script", "place"] (defScope s_law_source) := ⟨rfl, rfl, rfl, by decide +kernel, rfl, by decide +kernel, by decide +kernel⟩
abbrev s_law_draw : Stmt := topS 9
abbrev N_law_draw : List Str := ["source", "many", "left", "step", "mixed"]
theorem sc_law_draw : FnScope N_law_draw ["source", "many"] (defScope s_law_draw) := ⟨rfl, rfl, rfl, by decide +kernel, rfl, by decide +kernel, by decide +kernel⟩
abbrev s_law_same : Stmt := topS 10
abbrev N_law_same : List Str := ["found", "due", "one", "other"]
theorem sc_law_same : FnScope N_law_same ["found", "due"] (defScope s_law_same) := ⟨rfl, rfl, rfl, by decide +kernel, rfl, by decide +kernel, by decide +kernel⟩
abbrev s_law_ways : Stmt := topS 11
abbrev N_law_ways : List Str := ["source"]
theorem sc_law_ways : FnScope N_law_ways ["source"] (defScope s_law_ways) := ⟨rfl, rfl, rfl, by decide +kernel, rfl, by decide +kernel, by decide +kernel⟩
abbrev s_law_merges : Stmt := topS 12
abbrev N_law_merges : List Str := ["source", "many", "at_once", "there", "merges", "made", "taken", "turn"]
theorem sc_law_merges : FnScope N_law_merges ["source", "many", "at_once"] (defScope s_law_merges) := ⟨rfl, rfl, rfl, by decide +kernel, rfl, by decide +kernel, by decide +kernel⟩
abbrev s_law_divisions : Stmt := topS 13
abbrev N_law_divisions : List Str := ["many", "at_once", "found", "left", "turn"]
theorem sc_law_divisions : FnScope N_law_divisions ["many", "at_once"] (defScope s_law_divisions) := ⟨rfl, rfl, rfl, by decide +kernel, rfl, by decide +kernel, by decide +kernel⟩
abbrev s_law_many : Stmt := topS 14
abbrev N_law_many : List Str := ["source", "at_once", "choice", "power", "turn"]
theorem sc_law_many : FnScope N_law_many ["source", "at_once"] (defScope s_law_many) := ⟨rfl, rfl, rfl, by decide +kernel, rfl, by decide +kernel, by decide +kernel⟩
abbrev s_law_deepest : Stmt := topS 15
abbrev N_law_deepest : List Str := ["many", "merges", "deep", "merge", "number0"]
theorem sc_law_deepest : FnScope N_law_deepest ["many", "merges"] (defScope s_law_deepest) := ⟨rfl, rfl, rfl, by decide +kernel, rfl, by decide +kernel, by decide +kernel⟩
abbrev s_law : Stmt := topS 16
abbrev N_law : List Str := ["script", "place", "source", "at_once", "many", "due", "piles_drawn", "drawn"]
theorem sc_law : FnScope N_law ["script"] (defScope s_law) := ⟨rfl, rfl, rfl, by decide +kernel, rfl, by decide +kernel, by decide +kernel⟩
local macro_rules | `(tactic| walk_at "sd") => `(tactic| first | assumption | omega | (show _ ≤ _; omega) | (unfold EV.RgB; omega) | (unfold EV.RgB2; omega) | (unfold EV.big62; omega) | (unfold EV.len6; simp only [List.length_map, List.length_append, List.length_cons, List.length_nil]; omega) | exact ⟨by decide, by decide, by decide⟩ | decide | (with_unfolding_all decide) | rfl | trivial | (simp only [List.length_map]; omega) | exact AllF_int | exact all_int | exact flatL_int | exact flat_int | exact AllF_nil | exact AllF_map.mpr (fun _ _ => rfl) | exact AllF_cons.mpr ⟨rfl, AllF_nil⟩ | exact AllF_cons.mpr ⟨rfl, AllF_cons.mpr ⟨rfl, AllF_nil⟩⟩ | exact AllF_cons.mpr ⟨rfl, AllF_cons.mpr ⟨rfl, AllF_cons.mpr ⟨rfl, AllF_cons.mpr ⟨rfl, AllF_nil⟩⟩⟩⟩ | exact AllF_tN | exact AllF_tE | exact ⟨by omega, by omega⟩ | walk_at "ok" | exact OkT_ints | exact OkT_tN | exact OkT_Le | exact OkT_Lp | exact OkT_Ln | exact OkT_nil | exact And.intro (by first | assumption | exact And.left (by assumption)) (by omega) | exact SortOk_int | exact SortOk_pT | exact AllF_pT | exact all_pT | exact flatL_pT | walk_at "lk" | (refine And.intro ?_ ?_ <;> walk_at "lk"))
local macro_rules | `(tactic| walk_at "ok") => `(tactic| first | exact OkT_nil | exact OkT_tnil | exact OkT_int | exact OkT_non | exact OkT_bl | exact OkT_str | exact OkT_Li | exact OkT_Lp | exact OkT_Le | exact OkT_Ln | (refine OkT_lc ?_ ?_ <;> walk_at "ok") | (refine OkT_tc ?_ ?_ <;> walk_at "ok"))
local macro_rules | `(tactic| walk_at "lk") => `(tactic| first | exact LikeOk.bl | exact LikeOk.int | exact LikeOk.non | (refine LikeOk.pTs ?_; first | assumption | omega | (simp only [List.length_append, List.length_map, List.length_cons, List.length_nil, List.length_range]; omega)) | (refine LikeOk.tEs ?_; first | assumption | omega | (simp only [List.length_append, List.length_map, List.length_cons, List.length_nil, List.length_range]; omega)) | (refine LikeOk.lists ?_ ?_ <;> first | assumption | omega) | (refine LikeOk.ints ?_; first | omega | (simp only [List.length_append, List.length_map, List.length_cons, List.length_nil, List.length_range]; omega)))
local macro_rules | `(tactic| walk_at "ca") => `(tactic| fail)
local macro_rules | `(tactic| walk_at "cj") => `(tactic| ((with_reducible refine And.intro ?_ ?_); walk_at "sd"))
local macro_rules | `(tactic| walk_at "go") => `(tactic| ((try walk_at "ev"); repeat ((first | walk_at "cj" | walk_at "ca"); try walk_at "ev")))
local macro_rules | `(tactic| walk_at "zz") => `(tactic| (repeat (apply Exists.intro)); repeat' (first | exact oTs | exact oTn | (with_reducible refine consEq ?_ ?_) | rfl | (simp only [List.map_append, List.map_cons, List.map_nil]; done) | (simp only [List.map_append, List.map_cons, List.map_nil]; rfl)))
local macro_rules | `(tactic| walk_at "ev") => `(tactic| simp (maxSteps := 1000000) (disch := omega) only [↓EV.opt_some, ↓EV.wSeq_e, ↓EV.wNext_e, ↓EV.wBreak_e, ↓EV.wCont_e, ↓EV.xk_e, ↓EV.wIf_e, ↓EV.wDrop_e, ↓EV.wRet_e, ↓EV.wRet0_e, ↓EV.wRetN_e, ↓EV.wAsg_e, ↓EV.wAug_e, ↓EV.wSetI_e, ↓EV.ownL_e, ↓EV.kSetI_e, ↓EV.wFor_e, ↓EV.wRaise_e, ↓EV.wNever_e, ↓EV.turnV_e, ↓EV.lineV_e, ↓EV.wVar_e, ↓EV.wC_e, ↓EV.w2_e, ↓EV.w1_e, ↓EV.wB_e, ↓EV.waNil_e, ↓EV.waCons_e, ↓EV.kI_e, ↓EV.kI0_e, ↓EV.kU_e, ↓EV.kAdd_e, ↓EV.kIx_e, ↓EV.ixS_e, ↓EV.kMul_e, ↓EV.kMul_el, ↓EV.kidQ_e, ↓EV.woNone_e, ↓EV.woSome_e, ↓EV.wSl_e, ↓EV.kSl_e, ↓EV.kLen_e, ↓EV.kSum_e, ↓EV.kAll_e, ↓EV.kAny_e, ↓EV.kSorted_e, ↓EV.kMin2_e, ↓EV.kMax2_e, ↓EV.kAbs_e, ↓EV.kInt_i, ↓EV.kInt_b, ↓EV.kList_e, ↓EV.wNot_e, ↓EV.wAnd_e, ↓EV.wOr_e, ↓EV.wtE_e, ↓EV.wtT_e, ↓EV.wtAnd_e, ↓EV.wtOr_e, ↓EV.wtNot_e, ↓EV.wtYes_e, ↓EV.wIfE_e, ↓EV.wIsN_e, ↓EV.wLst_e, ↓EV.wTup_e, ↓EV.kEq_e, ↓EV.kIn_e, ↓EV.retQ_e, ↓EV.ownQ_e, ↓EV.wM_e, ↓EV.wM0_e, ↓EV.kAppend_e, ↓EV.kRemove_e, ↓EV.kExtend_e, ↓EV.kPop_e, ↓EV.kPopAt_e, ↓EV.kReverse_e, ↓EV.kInsert_e, ↓EV.kIsi_e, ↓EV.wCall_e, ↓EV.wCallK_e, ↓EV.wiList_e, ↓EV.wiRng1_e, ↓EV.wiRng2_e, ↓EV.wiEnum_e, ↓EV.wiZip_e, ↓EV.wLc_e, ↓EV.wRgL1_e, ↓EV.wRgL2_e, ↓EV.wFg_e, ↓EV.kLtT_e, ↓EV.kGtT_e, ↓EV.kLeT_e, ↓EV.kIsBl_e, ↓EV.kNotBl_e, ↓EV.kMax_e, ↓EV.kMin_e, ↓EV.wDIn_e, ↓EV.wDGet_e, ↓EV.wDNew_e, ↓EV.wDPut_e, ↓EV.kDPut_e, ↓EV.kSortD_e, ↓EV.kSortDR_e, ↓EV.wIsiT_e, ↓EV.wiZipT_e, ↓EV.zipQ_t, ↓EV.zipQ_l, ↓EV.wTry_e, ↓EV.wErrV_e, ↓EV.wMaxD_e, ↓EV.kIndex_e, ↓EV.wFrz_e, ↓EV.wMov_e, ↓EV.wKeep_e, ↓EV.wiTup_e, ↓EV.wAugC_e, ↓EV.optC_some, ↓EV.brC_t, ↓EV.brC_f, ↓EV.brC_not, EV.valA', EV.tupF', EV.exO_s, EV.exO_n, EV.errOf_nil, EV.errOf_cons, EV.errS, EV.errT, EV.adrA, EV.exE, EV.offE, EV.tupI, EV.bolA, EV.keyA, EV.dicK, EV.dicO, EV.inK_int, EV.all_pT, EV.flatL_pT, EV.fz_pT', EV.flat_pT', EV.tupF, EV.zipV, EV.zipI_map, EV.zipI_self, EV.zipI_len, EV.sortT_int, EV.sortT_pT, EV.fzL_Li, EV.fzL_Ln, EV.fzL_Le, EV.fg1_n, EV.fg1_t, EV.fg1_al, EV.fg1_o, EV.fgE_nil, EV.fgE_nil2, EV.fgE_t, EV.fgE_f, EV.all_int, EV.scrT, EV.onTop_nil, EV.onTop_cons, EV.filter_tt, EV.flatL_Ln, EV.flatL_Li, EV.flatL_Le, EV.flat_int, EV.flat_bl, EV.flat_non, EV.flat_str, EV.flat_L, EV.flat_tup, EV.flat_tupO, EV.flatL_nil, EV.flatL_cons, EV.flatL_int, EV.evE_e, EV.tN, EV.tE, EV.getC, EV.fzL_tN, EV.fzL_tE, EV.all_tN, EV.all_tE, EV.flatL_tN, EV.flatL_tE, EV.seqN, EV.remN, EV.addV, EV.addQ, EV.ixQ, EV.seqV, EV.kidV, EV.slQ, EV.lenW, EV.lenQ, EV.sqV, EV.blA, EV.walkV, EV.rngA1, EV.rngA2, EV.ownV, EV.varA, EV.argT, EV.look, EV.sub, EV.tree, EV.T.at, EV.T.put, EV.isF_non, EV.isF_bl, EV.isF_int, EV.isF_str, EV.isF_ty, EV.isF_adr, EV.isF_nd, EV.isF_pT, EV.intA, EV.bind1, EV.wgName, EV.wgNil, EV.wgCons, EV.wgTup, EV.explode, EV.partA, EV.kilr, EV.kil_nil, EV.kil_cons, EV.kil_app, EV.kil1_n, EV.kil1_t, EV.kil1_al, EV.kil1_o, EV.take1, EV.takeL, EV.tk, EV.startE, EV.pinP, EV.bodyE, EV.outsE, EV.ownE, EV.plA, EV.putE, EV.putK, EV.L, EV.below, EV.fz, EV.fzL, EV.truA, EV.isNon, EV.lsK, EV.lqK, EV.seqO, EV.intsK, EV.blsK, EV.tInt, EV.tBl, EV.pin, EV.srcA, EV.takeM, EV.readR, EV.putBack, EV.isNo, EV.noAl_nil, EV.noAl_cons, EV.noAl1_n, EV.noAl1_t, EV.noAl1_al, EV.noAl1_o, EV.reAl_nil, EV.reAl_nil2, EV.reAl_cons, EV.reAl1_t, EV.reAl1_n, EV.reAl1_o, EV.reAl1_al, EV.reAl1_xt, EV.flatO, EV.pickA, EV.eqT_int, EV.eqT_bl, EV.eqT_nonI, EV.eqT_Inon, EV.eqT_non, EV.eqT_lst, EV.eqT_tup, EV.eqT_lt, EV.eqT_tl, EV.eqTs_int, EV.eqTs_bl, EV.eqTs_pT, EV.eqT_pT, EV.eqTs_nilR, EV.eqTs_nilL, EV.eqTs_cons, EV.anyI, EV.seqI, EV.seqB, EV.cut_map, EV.cut_none, EV.fzL_int, EV.fzL_pT, EV.fz_pT, EV.setI, EV.appI, EV.snocI, EV.itLen, EV.itemA, EV.okI, EV.wpe, EV.isL, EV.tyN, EV.lcPut, EV.xk, EV.ixN_0, EV.ixN_1, EV.ixN_2, EV.ixN_3, EV.ixN_4, EV.ixN_m1, EV.ixN_nat, EV.ixN_p, List.getElem_cons_zero, List.getElem_cons_succ, Int.toNat_zero, Int.toNat_one, Int.reduceToNat, Std.le_refl, Int.cast_ofNat_Int, Int.neg_nonneg, Int.neg_le_neg_iff, Int.natCast_nonneg, Int.toNat_natCast, Int.zero_add, Int.reduceLE, Int.reduceLT, Int.reduceNeg, Int.reduceAdd, Int.reduceSub, Int.reduceMul, Int.cast_ofNat_Int, Int.ofNat_eq_natCast, Int.reduceOfNat, List.map_cons, List.map_nil, List.isEmpty_nil, List.isEmpty_cons, Nat.add_sub_cancel, List.replicate, List.cons_append, List.nil_append, List.getElem?_cons_zero, List.getElem?_cons_succ, List.getElem?_nil, List.length_cons, List.length_nil, List.length_append, List.length_map, List.length_reverse, List.set_cons_zero, List.set_cons_succ, List.take_succ_cons, List.take_zero, List.take_nil, List.all_cons, List.all_nil, List.zipWith_cons_cons, List.zipWith_nil_left, List.zipWith_nil_right, List.filterMap_cons, List.filterMap_nil, List.foldl_cons, List.foldl_nil, List.reverse_cons, Option.none_or, Option.some_or, Option.or_none, Option.map_some, Option.map_none, Option.bind_some, Option.bind_none, Option.some.injEq, if_true, if_false, Bool.false_eq_true, Bool.not_true, Bool.not_false, Nat.zero_add, Nat.add_zero, Nat.reduceAdd, Nat.reduceSub, Nat.reduceBEq, Nat.reduceLeDiff, Nat.reduceLT, Nat.reduceEqDiff, reduceIte, beq_self_eq_true, Bool.or_false, Bool.or_true, Bool.true_or, Bool.false_or, Bool.or_self, Bool.and_true, Bool.and_false, Bool.true_and, Bool.false_and, Bool.and_self, or_true, true_or, or_false, false_or, or_self, and_true, true_and, and_self, List.isPrefixOf, Int.reduceNeg, decide_true, decide_false, bne_self_eq_false, reduceCtorEq, ne_eq, not_false_eq_true, not_true_eq_false, Nat.ble_eq, forall_eq, forall_eq_or_imp, List.mem_cons, List.mem_nil_iff, false_imp_iff, imp_true_iff, List.not_mem_nil, EV.isi_NoneType_bool, EV.isi_NoneType_int, EV.isi_NoneType_str, EV.isi_NoneType_list, EV.isi_NoneType_tuple, EV.isi_NoneType_dict, EV.isi_bool_bool, EV.isi_bool_int, EV.isi_bool_str, EV.isi_bool_list, EV.isi_bool_tuple, EV.isi_bool_dict, EV.isi_int_bool, EV.isi_int_int, EV.isi_int_str, EV.isi_int_list, EV.isi_int_tuple, EV.isi_int_dict, EV.isi_str_bool, EV.isi_str_int, EV.isi_str_str, EV.isi_str_list, EV.isi_str_tuple, EV.isi_str_dict, EV.isi_list_bool, EV.isi_list_int, EV.isi_list_str, EV.isi_list_list, EV.isi_list_tuple, EV.isi_list_dict, EV.isi_tuple_bool, EV.isi_tuple_int, EV.isi_tuple_str, EV.isi_tuple_list, EV.isi_tuple_tuple, EV.isi_tuple_dict])
set_option hygiene false in
local macro_rules | `(tactic| walk_at "xe0") => `(tactic| simp (maxSteps := 1000000) (disch := omega) only [↓EV.opt_some, ↓EV.wSeq_e, ↓EV.wNext_e, ↓EV.wBreak_e, ↓EV.wCont_e, ↓EV.xk_e, ↓EV.wIf_e, ↓EV.wDrop_e, ↓EV.wRet_e, ↓EV.wRet0_e, ↓EV.wRetN_e, ↓EV.wAsg_e, ↓EV.wAug_e, ↓EV.wSetI_e, ↓EV.ownL_e, ↓EV.kSetI_e, ↓EV.wFor_e, ↓EV.wRaise_e, ↓EV.wNever_e, ↓EV.turnV_e, ↓EV.lineV_e, ↓EV.wVar_e, ↓EV.wC_e, ↓EV.w2_e, ↓EV.w1_e, ↓EV.wB_e, ↓EV.waNil_e, ↓EV.waCons_e, ↓EV.kI_e, ↓EV.kI0_e, ↓EV.kU_e, ↓EV.kAdd_e, ↓EV.kIx_e, ↓EV.ixS_e, ↓EV.kMul_e, ↓EV.kMul_el, ↓EV.kidQ_e, ↓EV.woNone_e, ↓EV.woSome_e, ↓EV.wSl_e, ↓EV.kSl_e, ↓EV.kLen_e, ↓EV.kSum_e, ↓EV.kAll_e, ↓EV.kAny_e, ↓EV.kSorted_e, ↓EV.kMin2_e, ↓EV.kMax2_e, ↓EV.kAbs_e, ↓EV.kInt_i, ↓EV.kInt_b, ↓EV.kList_e, ↓EV.wNot_e, ↓EV.wAnd_e, ↓EV.wOr_e, ↓EV.wtE_e, ↓EV.wtT_e, ↓EV.wtAnd_e, ↓EV.wtOr_e, ↓EV.wtNot_e, ↓EV.wtYes_e, ↓EV.wIfE_e, ↓EV.wIsN_e, ↓EV.wLst_e, ↓EV.wTup_e, ↓EV.kEq_e, ↓EV.kIn_e, ↓EV.retQ_e, ↓EV.ownQ_e, ↓EV.wM_e, ↓EV.wM0_e, ↓EV.kAppend_e, ↓EV.kRemove_e, ↓EV.kExtend_e, ↓EV.kPop_e, ↓EV.kPopAt_e, ↓EV.kReverse_e, ↓EV.kInsert_e, ↓EV.kIsi_e, ↓EV.wCall_e, ↓EV.wCallK_e, ↓EV.wiList_e, ↓EV.wiRng1_e, ↓EV.wiRng2_e, ↓EV.wiEnum_e, ↓EV.wiZip_e, ↓EV.wLc_e, ↓EV.wRgL1_e, ↓EV.wRgL2_e, ↓EV.wFg_e, ↓EV.kLtT_e, ↓EV.kGtT_e, ↓EV.kLeT_e, ↓EV.kIsBl_e, ↓EV.kNotBl_e, ↓EV.kMax_e, ↓EV.kMin_e, ↓EV.wDIn_e, ↓EV.wDGet_e, ↓EV.wDNew_e, ↓EV.wDPut_e, ↓EV.kDPut_e, ↓EV.kSortD_e, ↓EV.kSortDR_e, ↓EV.wIsiT_e, ↓EV.wiZipT_e, ↓EV.zipQ_t, ↓EV.zipQ_l, ↓EV.wTry_e, ↓EV.wErrV_e, ↓EV.wMaxD_e, ↓EV.kIndex_e, ↓EV.wFrz_e, ↓EV.wMov_e, ↓EV.wKeep_e, ↓EV.wiTup_e, ↓EV.wAugC_e, ↓EV.optC_some, ↓EV.brC_t, ↓EV.brC_f, ↓EV.brC_not, EV.valA', EV.tupF', EV.exO_s, EV.exO_n, EV.errOf_nil, EV.errOf_cons, EV.errS, EV.errT, EV.adrA, EV.exE, EV.offE, EV.tupI, EV.bolA, EV.keyA, EV.dicK, EV.dicO, EV.inK_int, EV.all_pT, EV.flatL_pT, EV.fz_pT', EV.flat_pT', EV.tupF, EV.zipV, EV.zipI_map, EV.zipI_self, EV.zipI_len, EV.sortT_int, EV.sortT_pT, EV.fzL_Li, EV.fzL_Ln, EV.fzL_Le, EV.fg1_n, EV.fg1_t, EV.fg1_al, EV.fg1_o, EV.fgE_nil, EV.fgE_nil2, EV.fgE_t, EV.fgE_f, EV.all_int, EV.scrT, EV.onTop_nil, EV.onTop_cons, EV.filter_tt, EV.flatL_Ln, EV.flatL_Li, EV.flatL_Le, EV.flat_int, EV.flat_bl, EV.flat_non, EV.flat_str, EV.flat_L, EV.flat_tup, EV.flat_tupO, EV.flatL_nil, EV.flatL_cons, EV.flatL_int, EV.evE_e, EV.tN, EV.tE, EV.getC, EV.fzL_tN, EV.fzL_tE, EV.all_tN, EV.all_tE, EV.flatL_tN, EV.flatL_tE, EV.seqN, EV.remN, EV.addV, EV.addQ, EV.ixQ, EV.seqV, EV.kidV, EV.slQ, EV.lenW, EV.lenQ, EV.sqV, EV.blA, EV.walkV, EV.rngA1, EV.rngA2, EV.ownV, EV.varA, EV.argT, EV.look, EV.sub, EV.tree, EV.T.at, EV.T.put, EV.isF_non, EV.isF_bl, EV.isF_int, EV.isF_str, EV.isF_ty, EV.isF_adr, EV.isF_nd, EV.isF_pT, EV.intA, EV.bind1, EV.wgName, EV.wgNil, EV.wgCons, EV.wgTup, EV.explode, EV.partA, EV.kilr, EV.kil_nil, EV.kil_cons, EV.kil_app, EV.kil1_n, EV.kil1_t, EV.kil1_al, EV.kil1_o, EV.take1, EV.takeL, EV.tk, EV.startE, EV.pinP, EV.bodyE, EV.outsE, EV.ownE, EV.plA, EV.putE, EV.putK, EV.L, EV.below, EV.fz, EV.fzL, EV.truA, EV.isNon, EV.lsK, EV.lqK, EV.seqO, EV.intsK, EV.blsK, EV.tInt, EV.tBl, EV.pin, EV.srcA, EV.takeM, EV.readR, EV.putBack, EV.isNo, EV.noAl_nil, EV.noAl_cons, EV.noAl1_n, EV.noAl1_t, EV.noAl1_al, EV.noAl1_o, EV.reAl_nil, EV.reAl_nil2, EV.reAl_cons, EV.reAl1_t, EV.reAl1_n, EV.reAl1_o, EV.reAl1_al, EV.reAl1_xt, EV.flatO, EV.pickA, EV.eqT_int, EV.eqT_bl, EV.eqT_nonI, EV.eqT_Inon, EV.eqT_non, EV.eqT_lst, EV.eqT_tup, EV.eqT_lt, EV.eqT_tl, EV.eqTs_int, EV.eqTs_bl, EV.eqTs_pT, EV.eqT_pT, EV.eqTs_nilR, EV.eqTs_nilL, EV.eqTs_cons, EV.anyI, EV.seqI, EV.seqB, EV.cut_map, EV.cut_none, EV.fzL_int, EV.fzL_pT, EV.fz_pT, EV.setI, EV.appI, EV.snocI, EV.itLen, EV.itemA, EV.okI, EV.wpe, EV.isL, EV.tyN, EV.lcPut, EV.xk, EV.ixN_0, EV.ixN_1, EV.ixN_2, EV.ixN_3, EV.ixN_4, EV.ixN_m1, EV.ixN_nat, EV.ixN_p, List.getElem_cons_zero, List.getElem_cons_succ, Int.toNat_zero, Int.toNat_one, Int.reduceToNat, Std.le_refl, Int.cast_ofNat_Int, Int.neg_nonneg, Int.neg_le_neg_iff, Int.natCast_nonneg, Int.toNat_natCast, Int.zero_add, Int.reduceLE, Int.reduceLT, Int.reduceNeg, Int.reduceAdd, Int.reduceSub, Int.reduceMul, Int.cast_ofNat_Int, Int.ofNat_eq_natCast, Int.reduceOfNat, List.map_cons, List.map_nil, List.isEmpty_nil, List.isEmpty_cons, Nat.add_sub_cancel, List.replicate, List.cons_append, List.nil_append, List.getElem?_cons_zero, List.getElem?_cons_succ, List.getElem?_nil, List.length_cons, List.length_nil, List.length_append, List.length_map, List.length_reverse, List.set_cons_zero, List.set_cons_succ, List.take_succ_cons, List.take_zero, List.take_nil, List.all_cons, List.all_nil, List.zipWith_cons_cons, List.zipWith_nil_left, List.zipWith_nil_right, List.filterMap_cons, List.filterMap_nil, List.foldl_cons, List.foldl_nil, List.reverse_cons, Option.none_or, Option.some_or, Option.or_none, Option.map_some, Option.map_none, Option.bind_some, Option.bind_none, Option.some.injEq, if_true, if_false, Bool.false_eq_true, Bool.not_true, Bool.not_false, Nat.zero_add, Nat.add_zero, Nat.reduceAdd, Nat.reduceSub, Nat.reduceBEq, Nat.reduceLeDiff, Nat.reduceLT, Nat.reduceEqDiff, reduceIte, beq_self_eq_true, Bool.or_false, Bool.or_true, Bool.true_or, Bool.false_or, Bool.or_self, Bool.and_true, Bool.and_false, Bool.true_and, Bool.false_and, Bool.and_self, or_true, true_or, or_false, false_or, or_self, and_true, true_and, and_self, List.isPrefixOf, Int.reduceNeg, decide_true, decide_false, bne_self_eq_false, reduceCtorEq, ne_eq, not_false_eq_true, not_true_eq_false, Nat.ble_eq, forall_eq, forall_eq_or_imp, List.mem_cons, List.mem_nil_iff, false_imp_iff, imp_true_iff, List.not_mem_nil, EV.isi_NoneType_bool, EV.isi_NoneType_int, EV.isi_NoneType_str, EV.isi_NoneType_list, EV.isi_NoneType_tuple, EV.isi_NoneType_dict, EV.isi_bool_bool, EV.isi_bool_int, EV.isi_bool_str, EV.isi_bool_list, EV.isi_bool_tuple, EV.isi_bool_dict, EV.isi_int_bool, EV.isi_int_int, EV.isi_int_str, EV.isi_int_list, EV.isi_int_tuple, EV.isi_int_dict, EV.isi_str_bool, EV.isi_str_int, EV.isi_str_str, EV.isi_str_list, EV.isi_str_tuple, EV.isi_str_dict, EV.isi_list_bool, EV.isi_list_int, EV.isi_list_str, EV.isi_list_list, EV.isi_list_tuple, EV.isi_list_dict, EV.isi_tuple_bool, EV.isi_tuple_int, EV.isi_tuple_str, EV.isi_tuple_list, EV.isi_tuple_tuple, EV.isi_tuple_dict, e])
local macro_rules | `(tactic| walk_at "xg0") => `(tactic| ((try walk_at "xe0"); repeat ((first | walk_at "cj" | walk_at "ca"); try walk_at "xe0")))
set_option hygiene false in
local macro_rules | `(tactic| walk_at "xe1") => `(tactic| simp (maxSteps := 1000000) (disch := omega) only [↓EV.opt_some, ↓EV.wSeq_e, ↓EV.wNext_e, ↓EV.wBreak_e, ↓EV.wCont_e, ↓EV.xk_e, ↓EV.wIf_e, ↓EV.wDrop_e, ↓EV.wRet_e, ↓EV.wRet0_e, ↓EV.wRetN_e, ↓EV.wAsg_e, ↓EV.wAug_e, ↓EV.wSetI_e, ↓EV.ownL_e, ↓EV.kSetI_e, ↓EV.wFor_e, ↓EV.wRaise_e, ↓EV.wNever_e, ↓EV.turnV_e, ↓EV.lineV_e, ↓EV.wVar_e, ↓EV.wC_e, ↓EV.w2_e, ↓EV.w1_e, ↓EV.wB_e, ↓EV.waNil_e, ↓EV.waCons_e, ↓EV.kI_e, ↓EV.kI0_e, ↓EV.kU_e, ↓EV.kAdd_e, ↓EV.kIx_e, ↓EV.ixS_e, ↓EV.kMul_e, ↓EV.kMul_el, ↓EV.kidQ_e, ↓EV.woNone_e, ↓EV.woSome_e, ↓EV.wSl_e, ↓EV.kSl_e, ↓EV.kLen_e, ↓EV.kSum_e, ↓EV.kAll_e, ↓EV.kAny_e, ↓EV.kSorted_e, ↓EV.kMin2_e, ↓EV.kMax2_e, ↓EV.kAbs_e, ↓EV.kInt_i, ↓EV.kInt_b, ↓EV.kList_e, ↓EV.wNot_e, ↓EV.wAnd_e, ↓EV.wOr_e, ↓EV.wtE_e, ↓EV.wtT_e, ↓EV.wtAnd_e, ↓EV.wtOr_e, ↓EV.wtNot_e, ↓EV.wtYes_e, ↓EV.wIfE_e, ↓EV.wIsN_e, ↓EV.wLst_e, ↓EV.wTup_e, ↓EV.kEq_e, ↓EV.kIn_e, ↓EV.retQ_e, ↓EV.ownQ_e, ↓EV.wM_e, ↓EV.wM0_e, ↓EV.kAppend_e, ↓EV.kRemove_e, ↓EV.kExtend_e, ↓EV.kPop_e, ↓EV.kPopAt_e, ↓EV.kReverse_e, ↓EV.kInsert_e, ↓EV.kIsi_e, ↓EV.wCall_e, ↓EV.wCallK_e, ↓EV.wiList_e, ↓EV.wiRng1_e, ↓EV.wiRng2_e, ↓EV.wiEnum_e, ↓EV.wiZip_e, ↓EV.wLc_e, ↓EV.wRgL1_e, ↓EV.wRgL2_e, ↓EV.wFg_e, ↓EV.kLtT_e, ↓EV.kGtT_e, ↓EV.kLeT_e, ↓EV.kIsBl_e, ↓EV.kNotBl_e, ↓EV.kMax_e, ↓EV.kMin_e, ↓EV.wDIn_e, ↓EV.wDGet_e, ↓EV.wDNew_e, ↓EV.wDPut_e, ↓EV.kDPut_e, ↓EV.kSortD_e, ↓EV.kSortDR_e, ↓EV.wIsiT_e, ↓EV.wiZipT_e, ↓EV.zipQ_t, ↓EV.zipQ_l, ↓EV.wTry_e, ↓EV.wErrV_e, ↓EV.wMaxD_e, ↓EV.kIndex_e, ↓EV.wFrz_e, ↓EV.wMov_e, ↓EV.wKeep_e, ↓EV.wiTup_e, ↓EV.wAugC_e, ↓EV.optC_some, ↓EV.brC_t, ↓EV.brC_f, ↓EV.brC_not, EV.valA', EV.tupF', EV.exO_s, EV.exO_n, EV.errOf_nil, EV.errOf_cons, EV.errS, EV.errT, EV.adrA, EV.exE, EV.offE, EV.tupI, EV.bolA, EV.keyA, EV.dicK, EV.dicO, EV.inK_int, EV.all_pT, EV.flatL_pT, EV.fz_pT', EV.flat_pT', EV.tupF, EV.zipV, EV.zipI_map, EV.zipI_self, EV.zipI_len, EV.sortT_int, EV.sortT_pT, EV.fzL_Li, EV.fzL_Ln, EV.fzL_Le, EV.fg1_n, EV.fg1_t, EV.fg1_al, EV.fg1_o, EV.fgE_nil, EV.fgE_nil2, EV.fgE_t, EV.fgE_f, EV.all_int, EV.scrT, EV.onTop_nil, EV.onTop_cons, EV.filter_tt, EV.flatL_Ln, EV.flatL_Li, EV.flatL_Le, EV.flat_int, EV.flat_bl, EV.flat_non, EV.flat_str, EV.flat_L, EV.flat_tup, EV.flat_tupO, EV.flatL_nil, EV.flatL_cons, EV.flatL_int, EV.evE_e, EV.tN, EV.tE, EV.getC, EV.fzL_tN, EV.fzL_tE, EV.all_tN, EV.all_tE, EV.flatL_tN, EV.flatL_tE, EV.seqN, EV.remN, EV.addV, EV.addQ, EV.ixQ, EV.seqV, EV.kidV, EV.slQ, EV.lenW, EV.lenQ, EV.sqV, EV.blA, EV.walkV, EV.rngA1, EV.rngA2, EV.ownV, EV.varA, EV.argT, EV.look, EV.sub, EV.tree, EV.T.at, EV.T.put, EV.isF_non, EV.isF_bl, EV.isF_int, EV.isF_str, EV.isF_ty, EV.isF_adr, EV.isF_nd, EV.isF_pT, EV.intA, EV.bind1, EV.wgName, EV.wgNil, EV.wgCons, EV.wgTup, EV.explode, EV.partA, EV.kilr, EV.kil_nil, EV.kil_cons, EV.kil_app, EV.kil1_n, EV.kil1_t, EV.kil1_al, EV.kil1_o, EV.take1, EV.takeL, EV.tk, EV.startE, EV.pinP, EV.bodyE, EV.outsE, EV.ownE, EV.plA, EV.putE, EV.putK, EV.L, EV.below, EV.fz, EV.fzL, EV.truA, EV.isNon, EV.lsK, EV.lqK, EV.seqO, EV.intsK, EV.blsK, EV.tInt, EV.tBl, EV.pin, EV.srcA, EV.takeM, EV.readR, EV.putBack, EV.isNo, EV.noAl_nil, EV.noAl_cons, EV.noAl1_n, EV.noAl1_t, EV.noAl1_al, EV.noAl1_o, EV.reAl_nil, EV.reAl_nil2, EV.reAl_cons, EV.reAl1_t, EV.reAl1_n, EV.reAl1_o, EV.reAl1_al, EV.reAl1_xt, EV.flatO, EV.pickA, EV.eqT_int, EV.eqT_bl, EV.eqT_nonI, EV.eqT_Inon, EV.eqT_non, EV.eqT_lst, EV.eqT_tup, EV.eqT_lt, EV.eqT_tl, EV.eqTs_int, EV.eqTs_bl, EV.eqTs_pT, EV.eqT_pT, EV.eqTs_nilR, EV.eqTs_nilL, EV.eqTs_cons, EV.anyI, EV.seqI, EV.seqB, EV.cut_map, EV.cut_none, EV.fzL_int, EV.fzL_pT, EV.fz_pT, EV.setI, EV.appI, EV.snocI, EV.itLen, EV.itemA, EV.okI, EV.wpe, EV.isL, EV.tyN, EV.lcPut, EV.xk, EV.ixN_0, EV.ixN_1, EV.ixN_2, EV.ixN_3, EV.ixN_4, EV.ixN_m1, EV.ixN_nat, EV.ixN_p, List.getElem_cons_zero, List.getElem_cons_succ, Int.toNat_zero, Int.toNat_one, Int.reduceToNat, Std.le_refl, Int.cast_ofNat_Int, Int.neg_nonneg, Int.neg_le_neg_iff, Int.natCast_nonneg, Int.toNat_natCast, Int.zero_add, Int.reduceLE, Int.reduceLT, Int.reduceNeg, Int.reduceAdd, Int.reduceSub, Int.reduceMul, Int.cast_ofNat_Int, Int.ofNat_eq_natCast, Int.reduceOfNat, List.map_cons, List.map_nil, List.isEmpty_nil, List.isEmpty_cons, Nat.add_sub_cancel, List.replicate, List.cons_append, List.nil_append, List.getElem?_cons_zero, List.getElem?_cons_succ, List.getElem?_nil, List.length_cons, List.length_nil, List.length_append, List.length_map, List.length_reverse, List.set_cons_zero, List.set_cons_succ, List.take_succ_cons, List.take_zero, List.take_nil, List.all_cons, List.all_nil, List.zipWith_cons_cons, List.zipWith_nil_left, List.zipWith_nil_right, List.filterMap_cons, List.filterMap_nil, List.foldl_cons, List.foldl_nil, List.reverse_cons, Option.none_or, Option.some_or, Option.or_none, Option.map_some, Option.map_none, Option.bind_some, Option.bind_none, Option.some.injEq, if_true, if_false, Bool.false_eq_true, Bool.not_true, Bool.not_false, Nat.zero_add, Nat.add_zero, Nat.reduceAdd, Nat.reduceSub, Nat.reduceBEq, Nat.reduceLeDiff, Nat.reduceLT, Nat.reduceEqDiff, reduceIte, beq_self_eq_true, Bool.or_false, Bool.or_true, Bool.true_or, Bool.false_or, Bool.or_self, Bool.and_true, Bool.and_false, Bool.true_and, Bool.false_and, Bool.and_self, or_true, true_or, or_false, false_or, or_self, and_true, true_and, and_self, List.isPrefixOf, Int.reduceNeg, decide_true, decide_false, bne_self_eq_false, reduceCtorEq, ne_eq, not_false_eq_true, not_true_eq_false, Nat.ble_eq, forall_eq, forall_eq_or_imp, List.mem_cons, List.mem_nil_iff, false_imp_iff, imp_true_iff, List.not_mem_nil, EV.isi_NoneType_bool, EV.isi_NoneType_int, EV.isi_NoneType_str, EV.isi_NoneType_list, EV.isi_NoneType_tuple, EV.isi_NoneType_dict, EV.isi_bool_bool, EV.isi_bool_int, EV.isi_bool_str, EV.isi_bool_list, EV.isi_bool_tuple, EV.isi_bool_dict, EV.isi_int_bool, EV.isi_int_int, EV.isi_int_str, EV.isi_int_list, EV.isi_int_tuple, EV.isi_int_dict, EV.isi_str_bool, EV.isi_str_int, EV.isi_str_str, EV.isi_str_list, EV.isi_str_tuple, EV.isi_str_dict, EV.isi_list_bool, EV.isi_list_int, EV.isi_list_str, EV.isi_list_list, EV.isi_list_tuple, EV.isi_list_dict, EV.isi_tuple_bool, EV.isi_tuple_int, EV.isi_tuple_str, EV.isi_tuple_list, EV.isi_tuple_tuple, EV.isi_tuple_dict, hA])
local macro_rules | `(tactic| walk_at "xg1") => `(tactic| ((try walk_at "xe1"); repeat ((first | walk_at "cj" | walk_at "ca"); try walk_at "xe1")))
set_option hygiene false in
local macro_rules | `(tactic| walk_at "xe2") => `(tactic| simp (maxSteps := 1000000) (disch := omega) only [↓EV.opt_some, ↓EV.wSeq_e, ↓EV.wNext_e, ↓EV.wBreak_e, ↓EV.wCont_e, ↓EV.xk_e, ↓EV.wIf_e, ↓EV.wDrop_e, ↓EV.wRet_e, ↓EV.wRet0_e, ↓EV.wRetN_e, ↓EV.wAsg_e, ↓EV.wAug_e, ↓EV.wSetI_e, ↓EV.ownL_e, ↓EV.kSetI_e, ↓EV.wFor_e, ↓EV.wRaise_e, ↓EV.wNever_e, ↓EV.turnV_e, ↓EV.lineV_e, ↓EV.wVar_e, ↓EV.wC_e, ↓EV.w2_e, ↓EV.w1_e, ↓EV.wB_e, ↓EV.waNil_e, ↓EV.waCons_e, ↓EV.kI_e, ↓EV.kI0_e, ↓EV.kU_e, ↓EV.kAdd_e, ↓EV.kIx_e, ↓EV.ixS_e, ↓EV.kMul_e, ↓EV.kMul_el, ↓EV.kidQ_e, ↓EV.woNone_e, ↓EV.woSome_e, ↓EV.wSl_e, ↓EV.kSl_e, ↓EV.kLen_e, ↓EV.kSum_e, ↓EV.kAll_e, ↓EV.kAny_e, ↓EV.kSorted_e, ↓EV.kMin2_e, ↓EV.kMax2_e, ↓EV.kAbs_e, ↓EV.kInt_i, ↓EV.kInt_b, ↓EV.kList_e, ↓EV.wNot_e, ↓EV.wAnd_e, ↓EV.wOr_e, ↓EV.wtE_e, ↓EV.wtT_e, ↓EV.wtAnd_e, ↓EV.wtOr_e, ↓EV.wtNot_e, ↓EV.wtYes_e, ↓EV.wIfE_e, ↓EV.wIsN_e, ↓EV.wLst_e, ↓EV.wTup_e, ↓EV.kEq_e, ↓EV.kIn_e, ↓EV.retQ_e, ↓EV.ownQ_e, ↓EV.wM_e, ↓EV.wM0_e, ↓EV.kAppend_e, ↓EV.kRemove_e, ↓EV.kExtend_e, ↓EV.kPop_e, ↓EV.kPopAt_e, ↓EV.kReverse_e, ↓EV.kInsert_e, ↓EV.kIsi_e, ↓EV.wCall_e, ↓EV.wCallK_e, ↓EV.wiList_e, ↓EV.wiRng1_e, ↓EV.wiRng2_e, ↓EV.wiEnum_e, ↓EV.wiZip_e, ↓EV.wLc_e, ↓EV.wRgL1_e, ↓EV.wRgL2_e, ↓EV.wFg_e, ↓EV.kLtT_e, ↓EV.kGtT_e, ↓EV.kLeT_e, ↓EV.kIsBl_e, ↓EV.kNotBl_e, ↓EV.kMax_e, ↓EV.kMin_e, ↓EV.wDIn_e, ↓EV.wDGet_e, ↓EV.wDNew_e, ↓EV.wDPut_e, ↓EV.kDPut_e, ↓EV.kSortD_e, ↓EV.kSortDR_e, ↓EV.wIsiT_e, ↓EV.wiZipT_e, ↓EV.zipQ_t, ↓EV.zipQ_l, ↓EV.wTry_e, ↓EV.wErrV_e, ↓EV.wMaxD_e, ↓EV.kIndex_e, ↓EV.wFrz_e, ↓EV.wMov_e, ↓EV.wKeep_e, ↓EV.wiTup_e, ↓EV.wAugC_e, ↓EV.optC_some, ↓EV.brC_t, ↓EV.brC_f, ↓EV.brC_not, EV.valA', EV.tupF', EV.exO_s, EV.exO_n, EV.errOf_nil, EV.errOf_cons, EV.errS, EV.errT, EV.adrA, EV.exE, EV.offE, EV.tupI, EV.bolA, EV.keyA, EV.dicK, EV.dicO, EV.inK_int, EV.all_pT, EV.flatL_pT, EV.fz_pT', EV.flat_pT', EV.tupF, EV.zipV, EV.zipI_map, EV.zipI_self, EV.zipI_len, EV.sortT_int, EV.sortT_pT, EV.fzL_Li, EV.fzL_Ln, EV.fzL_Le, EV.fg1_n, EV.fg1_t, EV.fg1_al, EV.fg1_o, EV.fgE_nil, EV.fgE_nil2, EV.fgE_t, EV.fgE_f, EV.all_int, EV.scrT, EV.onTop_nil, EV.onTop_cons, EV.filter_tt, EV.flatL_Ln, EV.flatL_Li, EV.flatL_Le, EV.flat_int, EV.flat_bl, EV.flat_non, EV.flat_str, EV.flat_L, EV.flat_tup, EV.flat_tupO, EV.flatL_nil, EV.flatL_cons, EV.flatL_int, EV.evE_e, EV.tN, EV.tE, EV.getC, EV.fzL_tN, EV.fzL_tE, EV.all_tN, EV.all_tE, EV.flatL_tN, EV.flatL_tE, EV.seqN, EV.remN, EV.addV, EV.addQ, EV.ixQ, EV.seqV, EV.kidV, EV.slQ, EV.lenW, EV.lenQ, EV.sqV, EV.blA, EV.walkV, EV.rngA1, EV.rngA2, EV.ownV, EV.varA, EV.argT, EV.look, EV.sub, EV.tree, EV.T.at, EV.T.put, EV.isF_non, EV.isF_bl, EV.isF_int, EV.isF_str, EV.isF_ty, EV.isF_adr, EV.isF_nd, EV.isF_pT, EV.intA, EV.bind1, EV.wgName, EV.wgNil, EV.wgCons, EV.wgTup, EV.explode, EV.partA, EV.kilr, EV.kil_nil, EV.kil_cons, EV.kil_app, EV.kil1_n, EV.kil1_t, EV.kil1_al, EV.kil1_o, EV.take1, EV.takeL, EV.tk, EV.startE, EV.pinP, EV.bodyE, EV.outsE, EV.ownE, EV.plA, EV.putE, EV.putK, EV.L, EV.below, EV.fz, EV.fzL, EV.truA, EV.isNon, EV.lsK, EV.lqK, EV.seqO, EV.intsK, EV.blsK, EV.tInt, EV.tBl, EV.pin, EV.srcA, EV.takeM, EV.readR, EV.putBack, EV.isNo, EV.noAl_nil, EV.noAl_cons, EV.noAl1_n, EV.noAl1_t, EV.noAl1_al, EV.noAl1_o, EV.reAl_nil, EV.reAl_nil2, EV.reAl_cons, EV.reAl1_t, EV.reAl1_n, EV.reAl1_o, EV.reAl1_al, EV.reAl1_xt, EV.flatO, EV.pickA, EV.eqT_int, EV.eqT_bl, EV.eqT_nonI, EV.eqT_Inon, EV.eqT_non, EV.eqT_lst, EV.eqT_tup, EV.eqT_lt, EV.eqT_tl, EV.eqTs_int, EV.eqTs_bl, EV.eqTs_pT, EV.eqT_pT, EV.eqTs_nilR, EV.eqTs_nilL, EV.eqTs_cons, EV.anyI, EV.seqI, EV.seqB, EV.cut_map, EV.cut_none, EV.fzL_int, EV.fzL_pT, EV.fz_pT, EV.setI, EV.appI, EV.snocI, EV.itLen, EV.itemA, EV.okI, EV.wpe, EV.isL, EV.tyN, EV.lcPut, EV.xk, EV.ixN_0, EV.ixN_1, EV.ixN_2, EV.ixN_3, EV.ixN_4, EV.ixN_m1, EV.ixN_nat, EV.ixN_p, List.getElem_cons_zero, List.getElem_cons_succ, Int.toNat_zero, Int.toNat_one, Int.reduceToNat, Std.le_refl, Int.cast_ofNat_Int, Int.neg_nonneg, Int.neg_le_neg_iff, Int.natCast_nonneg, Int.toNat_natCast, Int.zero_add, Int.reduceLE, Int.reduceLT, Int.reduceNeg, Int.reduceAdd, Int.reduceSub, Int.reduceMul, Int.cast_ofNat_Int, Int.ofNat_eq_natCast, Int.reduceOfNat, List.map_cons, List.map_nil, List.isEmpty_nil, List.isEmpty_cons, Nat.add_sub_cancel, List.replicate, List.cons_append, List.nil_append, List.getElem?_cons_zero, List.getElem?_cons_succ, List.getElem?_nil, List.length_cons, List.length_nil, List.length_append, List.length_map, List.length_reverse, List.set_cons_zero, List.set_cons_succ, List.take_succ_cons, List.take_zero, List.take_nil, List.all_cons, List.all_nil, List.zipWith_cons_cons, List.zipWith_nil_left, List.zipWith_nil_right, List.filterMap_cons, List.filterMap_nil, List.foldl_cons, List.foldl_nil, List.reverse_cons, Option.none_or, Option.some_or, Option.or_none, Option.map_some, Option.map_none, Option.bind_some, Option.bind_none, Option.some.injEq, if_true, if_false, Bool.false_eq_true, Bool.not_true, Bool.not_false, Nat.zero_add, Nat.add_zero, Nat.reduceAdd, Nat.reduceSub, Nat.reduceBEq, Nat.reduceLeDiff, Nat.reduceLT, Nat.reduceEqDiff, reduceIte, beq_self_eq_true, Bool.or_false, Bool.or_true, Bool.true_or, Bool.false_or, Bool.or_self, Bool.and_true, Bool.and_false, Bool.true_and, Bool.false_and, Bool.and_self, or_true, true_or, or_false, false_or, or_self, and_true, true_and, and_self, List.isPrefixOf, Int.reduceNeg, decide_true, decide_false, bne_self_eq_false, reduceCtorEq, ne_eq, not_false_eq_true, not_true_eq_false, Nat.ble_eq, forall_eq, forall_eq_or_imp, List.mem_cons, List.mem_nil_iff, false_imp_iff, imp_true_iff, List.not_mem_nil, EV.isi_NoneType_bool, EV.isi_NoneType_int, EV.isi_NoneType_str, EV.isi_NoneType_list, EV.isi_NoneType_tuple, EV.isi_NoneType_dict, EV.isi_bool_bool, EV.isi_bool_int, EV.isi_bool_str, EV.isi_bool_list, EV.isi_bool_tuple, EV.isi_bool_dict, EV.isi_int_bool, EV.isi_int_int, EV.isi_int_str, EV.isi_int_list, EV.isi_int_tuple, EV.isi_int_dict, EV.isi_str_bool, EV.isi_str_int, EV.isi_str_str, EV.isi_str_list, EV.isi_str_tuple, EV.isi_str_dict, EV.isi_list_bool, EV.isi_list_int, EV.isi_list_str, EV.isi_list_list, EV.isi_list_tuple, EV.isi_list_dict, EV.isi_tuple_bool, EV.isi_tuple_int, EV.isi_tuple_str, EV.isi_tuple_list, EV.isi_tuple_tuple, EV.isi_tuple_dict, f1, f2])
local macro_rules | `(tactic| walk_at "xg2") => `(tactic| ((try walk_at "xe2"); repeat ((first | walk_at "cj" | walk_at "ca"); try walk_at "xe2")))
set_option hygiene false in
local macro_rules | `(tactic| walk_at "xe3") => `(tactic| simp (maxSteps := 1000000) (disch := omega) only [↓EV.opt_some, ↓EV.wSeq_e, ↓EV.wNext_e, ↓EV.wBreak_e, ↓EV.wCont_e, ↓EV.xk_e, ↓EV.wIf_e, ↓EV.wDrop_e, ↓EV.wRet_e, ↓EV.wRet0_e, ↓EV.wRetN_e, ↓EV.wAsg_e, ↓EV.wAug_e, ↓EV.wSetI_e, ↓EV.ownL_e, ↓EV.kSetI_e, ↓EV.wFor_e, ↓EV.wRaise_e, ↓EV.wNever_e, ↓EV.turnV_e, ↓EV.lineV_e, ↓EV.wVar_e, ↓EV.wC_e, ↓EV.w2_e, ↓EV.w1_e, ↓EV.wB_e, ↓EV.waNil_e, ↓EV.waCons_e, ↓EV.kI_e, ↓EV.kI0_e, ↓EV.kU_e, ↓EV.kAdd_e, ↓EV.kIx_e, ↓EV.ixS_e, ↓EV.kMul_e, ↓EV.kMul_el, ↓EV.kidQ_e, ↓EV.woNone_e, ↓EV.woSome_e, ↓EV.wSl_e, ↓EV.kSl_e, ↓EV.kLen_e, ↓EV.kSum_e, ↓EV.kAll_e, ↓EV.kAny_e, ↓EV.kSorted_e, ↓EV.kMin2_e, ↓EV.kMax2_e, ↓EV.kAbs_e, ↓EV.kInt_i, ↓EV.kInt_b, ↓EV.kList_e, ↓EV.wNot_e, ↓EV.wAnd_e, ↓EV.wOr_e, ↓EV.wtE_e, ↓EV.wtT_e, ↓EV.wtAnd_e, ↓EV.wtOr_e, ↓EV.wtNot_e, ↓EV.wtYes_e, ↓EV.wIfE_e, ↓EV.wIsN_e, ↓EV.wLst_e, ↓EV.wTup_e, ↓EV.kEq_e, ↓EV.kIn_e, ↓EV.retQ_e, ↓EV.ownQ_e, ↓EV.wM_e, ↓EV.wM0_e, ↓EV.kAppend_e, ↓EV.kRemove_e, ↓EV.kExtend_e, ↓EV.kPop_e, ↓EV.kPopAt_e, ↓EV.kReverse_e, ↓EV.kInsert_e, ↓EV.kIsi_e, ↓EV.wCall_e, ↓EV.wCallK_e, ↓EV.wiList_e, ↓EV.wiRng1_e, ↓EV.wiRng2_e, ↓EV.wiEnum_e, ↓EV.wiZip_e, ↓EV.wLc_e, ↓EV.wRgL1_e, ↓EV.wRgL2_e, ↓EV.wFg_e, ↓EV.kLtT_e, ↓EV.kGtT_e, ↓EV.kLeT_e, ↓EV.kIsBl_e, ↓EV.kNotBl_e, ↓EV.kMax_e, ↓EV.kMin_e, ↓EV.wDIn_e, ↓EV.wDGet_e, ↓EV.wDNew_e, ↓EV.wDPut_e, ↓EV.kDPut_e, ↓EV.kSortD_e, ↓EV.kSortDR_e, ↓EV.wIsiT_e, ↓EV.wiZipT_e, ↓EV.zipQ_t, ↓EV.zipQ_l, ↓EV.wTry_e, ↓EV.wErrV_e, ↓EV.wMaxD_e, ↓EV.kIndex_e, ↓EV.wFrz_e, ↓EV.wMov_e, ↓EV.wKeep_e, ↓EV.wiTup_e, ↓EV.wAugC_e, ↓EV.optC_some, ↓EV.brC_t, ↓EV.brC_f, ↓EV.brC_not, EV.valA', EV.tupF', EV.exO_s, EV.exO_n, EV.errOf_nil, EV.errOf_cons, EV.errS, EV.errT, EV.adrA, EV.exE, EV.offE, EV.tupI, EV.bolA, EV.keyA, EV.dicK, EV.dicO, EV.inK_int, EV.all_pT, EV.flatL_pT, EV.fz_pT', EV.flat_pT', EV.tupF, EV.zipV, EV.zipI_map, EV.zipI_self, EV.zipI_len, EV.sortT_int, EV.sortT_pT, EV.fzL_Li, EV.fzL_Ln, EV.fzL_Le, EV.fg1_n, EV.fg1_t, EV.fg1_al, EV.fg1_o, EV.fgE_nil, EV.fgE_nil2, EV.fgE_t, EV.fgE_f, EV.all_int, EV.scrT, EV.onTop_nil, EV.onTop_cons, EV.filter_tt, EV.flatL_Ln, EV.flatL_Li, EV.flatL_Le, EV.flat_int, EV.flat_bl, EV.flat_non, EV.flat_str, EV.flat_L, EV.flat_tup, EV.flat_tupO, EV.flatL_nil, EV.flatL_cons, EV.flatL_int, EV.evE_e, EV.tN, EV.tE, EV.getC, EV.fzL_tN, EV.fzL_tE, EV.all_tN, EV.all_tE, EV.flatL_tN, EV.flatL_tE, EV.seqN, EV.remN, EV.addV, EV.addQ, EV.ixQ, EV.seqV, EV.kidV, EV.slQ, EV.lenW, EV.lenQ, EV.sqV, EV.blA, EV.walkV, EV.rngA1, EV.rngA2, EV.ownV, EV.varA, EV.argT, EV.look, EV.sub, EV.tree, EV.T.at, EV.T.put, EV.isF_non, EV.isF_bl, EV.isF_int, EV.isF_str, EV.isF_ty, EV.isF_adr, EV.isF_nd, EV.isF_pT, EV.intA, EV.bind1, EV.wgName, EV.wgNil, EV.wgCons, EV.wgTup, EV.explode, EV.partA, EV.kilr, EV.kil_nil, EV.kil_cons, EV.kil_app, EV.kil1_n, EV.kil1_t, EV.kil1_al, EV.kil1_o, EV.take1, EV.takeL, EV.tk, EV.startE, EV.pinP, EV.bodyE, EV.outsE, EV.ownE, EV.plA, EV.putE, EV.putK, EV.L, EV.below, EV.fz, EV.fzL, EV.truA, EV.isNon, EV.lsK, EV.lqK, EV.seqO, EV.intsK, EV.blsK, EV.tInt, EV.tBl, EV.pin, EV.srcA, EV.takeM, EV.readR, EV.putBack, EV.isNo, EV.noAl_nil, EV.noAl_cons, EV.noAl1_n, EV.noAl1_t, EV.noAl1_al, EV.noAl1_o, EV.reAl_nil, EV.reAl_nil2, EV.reAl_cons, EV.reAl1_t, EV.reAl1_n, EV.reAl1_o, EV.reAl1_al, EV.reAl1_xt, EV.flatO, EV.pickA, EV.eqT_int, EV.eqT_bl, EV.eqT_nonI, EV.eqT_Inon, EV.eqT_non, EV.eqT_lst, EV.eqT_tup, EV.eqT_lt, EV.eqT_tl, EV.eqTs_int, EV.eqTs_bl, EV.eqTs_pT, EV.eqT_pT, EV.eqTs_nilR, EV.eqTs_nilL, EV.eqTs_cons, EV.anyI, EV.seqI, EV.seqB, EV.cut_map, EV.cut_none, EV.fzL_int, EV.fzL_pT, EV.fz_pT, EV.setI, EV.appI, EV.snocI, EV.itLen, EV.itemA, EV.okI, EV.wpe, EV.isL, EV.tyN, EV.lcPut, EV.xk, EV.ixN_0, EV.ixN_1, EV.ixN_2, EV.ixN_3, EV.ixN_4, EV.ixN_m1, EV.ixN_nat, EV.ixN_p, List.getElem_cons_zero, List.getElem_cons_succ, Int.toNat_zero, Int.toNat_one, Int.reduceToNat, Std.le_refl, Int.cast_ofNat_Int, Int.neg_nonneg, Int.neg_le_neg_iff, Int.natCast_nonneg, Int.toNat_natCast, Int.zero_add, Int.reduceLE, Int.reduceLT, Int.reduceNeg, Int.reduceAdd, Int.reduceSub, Int.reduceMul, Int.cast_ofNat_Int, Int.ofNat_eq_natCast, Int.reduceOfNat, List.map_cons, List.map_nil, List.isEmpty_nil, List.isEmpty_cons, Nat.add_sub_cancel, List.replicate, List.cons_append, List.nil_append, List.getElem?_cons_zero, List.getElem?_cons_succ, List.getElem?_nil, List.length_cons, List.length_nil, List.length_append, List.length_map, List.length_reverse, List.set_cons_zero, List.set_cons_succ, List.take_succ_cons, List.take_zero, List.take_nil, List.all_cons, List.all_nil, List.zipWith_cons_cons, List.zipWith_nil_left, List.zipWith_nil_right, List.filterMap_cons, List.filterMap_nil, List.foldl_cons, List.foldl_nil, List.reverse_cons, Option.none_or, Option.some_or, Option.or_none, Option.map_some, Option.map_none, Option.bind_some, Option.bind_none, Option.some.injEq, if_true, if_false, Bool.false_eq_true, Bool.not_true, Bool.not_false, Nat.zero_add, Nat.add_zero, Nat.reduceAdd, Nat.reduceSub, Nat.reduceBEq, Nat.reduceLeDiff, Nat.reduceLT, Nat.reduceEqDiff, reduceIte, beq_self_eq_true, Bool.or_false, Bool.or_true, Bool.true_or, Bool.false_or, Bool.or_self, Bool.and_true, Bool.and_false, Bool.true_and, Bool.false_and, Bool.and_self, or_true, true_or, or_false, false_or, or_self, and_true, true_and, and_self, List.isPrefixOf, Int.reduceNeg, decide_true, decide_false, bne_self_eq_false, reduceCtorEq, ne_eq, not_false_eq_true, not_true_eq_false, Nat.ble_eq, forall_eq, forall_eq_or_imp, List.mem_cons, List.mem_nil_iff, false_imp_iff, imp_true_iff, List.not_mem_nil, EV.isi_NoneType_bool, EV.isi_NoneType_int, EV.isi_NoneType_str, EV.isi_NoneType_list, EV.isi_NoneType_tuple, EV.isi_NoneType_dict, EV.isi_bool_bool, EV.isi_bool_int, EV.isi_bool_str, EV.isi_bool_list, EV.isi_bool_tuple, EV.isi_bool_dict, EV.isi_int_bool, EV.isi_int_int, EV.isi_int_str, EV.isi_int_list, EV.isi_int_tuple, EV.isi_int_dict, EV.isi_str_bool, EV.isi_str_int, EV.isi_str_str, EV.isi_str_list, EV.isi_str_tuple, EV.isi_str_dict, EV.isi_list_bool, EV.isi_list_int, EV.isi_list_str, EV.isi_list_list, EV.isi_list_tuple, EV.isi_list_dict, EV.isi_tuple_bool, EV.isi_tuple_int, EV.isi_tuple_str, EV.isi_tuple_list, EV.isi_tuple_tuple, EV.isi_tuple_dict, e, e2])
local macro_rules | `(tactic| walk_at "xg3") => `(tactic| ((try walk_at "xe3"); repeat ((first | walk_at "cj" | walk_at "ca"); try walk_at "xe3")))
set_option hygiene false in
local macro_rules | `(tactic| walk_at "xe4") => `(tactic| simp (maxSteps := 1000000) (disch := omega) only [↓EV.opt_some, ↓EV.wSeq_e, ↓EV.wNext_e, ↓EV.wBreak_e, ↓EV.wCont_e, ↓EV.xk_e, ↓EV.wIf_e, ↓EV.wDrop_e, ↓EV.wRet_e, ↓EV.wRet0_e, ↓EV.wRetN_e, ↓EV.wAsg_e, ↓EV.wAug_e, ↓EV.wSetI_e, ↓EV.ownL_e, ↓EV.kSetI_e, ↓EV.wFor_e, ↓EV.wRaise_e, ↓EV.wNever_e, ↓EV.turnV_e, ↓EV.lineV_e, ↓EV.wVar_e, ↓EV.wC_e, ↓EV.w2_e, ↓EV.w1_e, ↓EV.wB_e, ↓EV.waNil_e, ↓EV.waCons_e, ↓EV.kI_e, ↓EV.kI0_e, ↓EV.kU_e, ↓EV.kAdd_e, ↓EV.kIx_e, ↓EV.ixS_e, ↓EV.kMul_e, ↓EV.kMul_el, ↓EV.kidQ_e, ↓EV.woNone_e, ↓EV.woSome_e, ↓EV.wSl_e, ↓EV.kSl_e, ↓EV.kLen_e, ↓EV.kSum_e, ↓EV.kAll_e, ↓EV.kAny_e, ↓EV.kSorted_e, ↓EV.kMin2_e, ↓EV.kMax2_e, ↓EV.kAbs_e, ↓EV.kInt_i, ↓EV.kInt_b, ↓EV.kList_e, ↓EV.wNot_e, ↓EV.wAnd_e, ↓EV.wOr_e, ↓EV.wtE_e, ↓EV.wtT_e, ↓EV.wtAnd_e, ↓EV.wtOr_e, ↓EV.wtNot_e, ↓EV.wtYes_e, ↓EV.wIfE_e, ↓EV.wIsN_e, ↓EV.wLst_e, ↓EV.wTup_e, ↓EV.kEq_e, ↓EV.kIn_e, ↓EV.retQ_e, ↓EV.ownQ_e, ↓EV.wM_e, ↓EV.wM0_e, ↓EV.kAppend_e, ↓EV.kRemove_e, ↓EV.kExtend_e, ↓EV.kPop_e, ↓EV.kPopAt_e, ↓EV.kReverse_e, ↓EV.kInsert_e, ↓EV.kIsi_e, ↓EV.wCall_e, ↓EV.wCallK_e, ↓EV.wiList_e, ↓EV.wiRng1_e, ↓EV.wiRng2_e, ↓EV.wiEnum_e, ↓EV.wiZip_e, ↓EV.wLc_e, ↓EV.wRgL1_e, ↓EV.wRgL2_e, ↓EV.wFg_e, ↓EV.kLtT_e, ↓EV.kGtT_e, ↓EV.kLeT_e, ↓EV.kIsBl_e, ↓EV.kNotBl_e, ↓EV.kMax_e, ↓EV.kMin_e, ↓EV.wDIn_e, ↓EV.wDGet_e, ↓EV.wDNew_e, ↓EV.wDPut_e, ↓EV.kDPut_e, ↓EV.kSortD_e, ↓EV.kSortDR_e, ↓EV.wIsiT_e, ↓EV.wiZipT_e, ↓EV.zipQ_t, ↓EV.zipQ_l, ↓EV.wTry_e, ↓EV.wErrV_e, ↓EV.wMaxD_e, ↓EV.kIndex_e, ↓EV.wFrz_e, ↓EV.wMov_e, ↓EV.wKeep_e, ↓EV.wiTup_e, ↓EV.wAugC_e, ↓EV.optC_some, ↓EV.brC_t, ↓EV.brC_f, ↓EV.brC_not, EV.valA', EV.tupF', EV.exO_s, EV.exO_n, EV.errOf_nil, EV.errOf_cons, EV.errS, EV.errT, EV.adrA, EV.exE, EV.offE, EV.tupI, EV.bolA, EV.keyA, EV.dicK, EV.dicO, EV.inK_int, EV.all_pT, EV.flatL_pT, EV.fz_pT', EV.flat_pT', EV.tupF, EV.zipV, EV.zipI_map, EV.zipI_self, EV.zipI_len, EV.sortT_int, EV.sortT_pT, EV.fzL_Li, EV.fzL_Ln, EV.fzL_Le, EV.fg1_n, EV.fg1_t, EV.fg1_al, EV.fg1_o, EV.fgE_nil, EV.fgE_nil2, EV.fgE_t, EV.fgE_f, EV.all_int, EV.scrT, EV.onTop_nil, EV.onTop_cons, EV.filter_tt, EV.flatL_Ln, EV.flatL_Li, EV.flatL_Le, EV.flat_int, EV.flat_bl, EV.flat_non, EV.flat_str, EV.flat_L, EV.flat_tup, EV.flat_tupO, EV.flatL_nil, EV.flatL_cons, EV.flatL_int, EV.evE_e, EV.tN, EV.tE, EV.getC, EV.fzL_tN, EV.fzL_tE, EV.all_tN, EV.all_tE, EV.flatL_tN, EV.flatL_tE, EV.seqN, EV.remN, EV.addV, EV.addQ, EV.ixQ, EV.seqV, EV.kidV, EV.slQ, EV.lenW, EV.lenQ, EV.sqV, EV.blA, EV.walkV, EV.rngA1, EV.rngA2, EV.ownV, EV.varA, EV.argT, EV.look, EV.sub, EV.tree, EV.T.at, EV.T.put, EV.isF_non, EV.isF_bl, EV.isF_int, EV.isF_str, EV.isF_ty, EV.isF_adr, EV.isF_nd, EV.isF_pT, EV.intA, EV.bind1, EV.wgName, EV.wgNil, EV.wgCons, EV.wgTup, EV.explode, EV.partA, EV.kilr, EV.kil_nil, EV.kil_cons, EV.kil_app, EV.kil1_n, EV.kil1_t, EV.kil1_al, EV.kil1_o, EV.take1, EV.takeL, EV.tk, EV.startE, EV.pinP, EV.bodyE, EV.outsE, EV.ownE, EV.plA, EV.putE, EV.putK, EV.L, EV.below, EV.fz, EV.fzL, EV.truA, EV.isNon, EV.lsK, EV.lqK, EV.seqO, EV.intsK, EV.blsK, EV.tInt, EV.tBl, EV.pin, EV.srcA, EV.takeM, EV.readR, EV.putBack, EV.isNo, EV.noAl_nil, EV.noAl_cons, EV.noAl1_n, EV.noAl1_t, EV.noAl1_al, EV.noAl1_o, EV.reAl_nil, EV.reAl_nil2, EV.reAl_cons, EV.reAl1_t, EV.reAl1_n, EV.reAl1_o, EV.reAl1_al, EV.reAl1_xt, EV.flatO, EV.pickA, EV.eqT_int, EV.eqT_bl, EV.eqT_nonI, EV.eqT_Inon, EV.eqT_non, EV.eqT_lst, EV.eqT_tup, EV.eqT_lt, EV.eqT_tl, EV.eqTs_int, EV.eqTs_bl, EV.eqTs_pT, EV.eqT_pT, EV.eqTs_nilR, EV.eqTs_nilL, EV.eqTs_cons, EV.anyI, EV.seqI, EV.seqB, EV.cut_map, EV.cut_none, EV.fzL_int, EV.fzL_pT, EV.fz_pT, EV.setI, EV.appI, EV.snocI, EV.itLen, EV.itemA, EV.okI, EV.wpe, EV.isL, EV.tyN, EV.lcPut, EV.xk, EV.ixN_0, EV.ixN_1, EV.ixN_2, EV.ixN_3, EV.ixN_4, EV.ixN_m1, EV.ixN_nat, EV.ixN_p, List.getElem_cons_zero, List.getElem_cons_succ, Int.toNat_zero, Int.toNat_one, Int.reduceToNat, Std.le_refl, Int.cast_ofNat_Int, Int.neg_nonneg, Int.neg_le_neg_iff, Int.natCast_nonneg, Int.toNat_natCast, Int.zero_add, Int.reduceLE, Int.reduceLT, Int.reduceNeg, Int.reduceAdd, Int.reduceSub, Int.reduceMul, Int.cast_ofNat_Int, Int.ofNat_eq_natCast, Int.reduceOfNat, List.map_cons, List.map_nil, List.isEmpty_nil, List.isEmpty_cons, Nat.add_sub_cancel, List.replicate, List.cons_append, List.nil_append, List.getElem?_cons_zero, List.getElem?_cons_succ, List.getElem?_nil, List.length_cons, List.length_nil, List.length_append, List.length_map, List.length_reverse, List.set_cons_zero, List.set_cons_succ, List.take_succ_cons, List.take_zero, List.take_nil, List.all_cons, List.all_nil, List.zipWith_cons_cons, List.zipWith_nil_left, List.zipWith_nil_right, List.filterMap_cons, List.filterMap_nil, List.foldl_cons, List.foldl_nil, List.reverse_cons, Option.none_or, Option.some_or, Option.or_none, Option.map_some, Option.map_none, Option.bind_some, Option.bind_none, Option.some.injEq, if_true, if_false, Bool.false_eq_true, Bool.not_true, Bool.not_false, Nat.zero_add, Nat.add_zero, Nat.reduceAdd, Nat.reduceSub, Nat.reduceBEq, Nat.reduceLeDiff, Nat.reduceLT, Nat.reduceEqDiff, reduceIte, beq_self_eq_true, Bool.or_false, Bool.or_true, Bool.true_or, Bool.false_or, Bool.or_self, Bool.and_true, Bool.and_false, Bool.true_and, Bool.false_and, Bool.and_self, or_true, true_or, or_false, false_or, or_self, and_true, true_and, and_self, List.isPrefixOf, Int.reduceNeg, decide_true, decide_false, bne_self_eq_false, reduceCtorEq, ne_eq, not_false_eq_true, not_true_eq_false, Nat.ble_eq, forall_eq, forall_eq_or_imp, List.mem_cons, List.mem_nil_iff, false_imp_iff, imp_true_iff, List.not_mem_nil, EV.isi_NoneType_bool, EV.isi_NoneType_int, EV.isi_NoneType_str, EV.isi_NoneType_list, EV.isi_NoneType_tuple, EV.isi_NoneType_dict, EV.isi_bool_bool, EV.isi_bool_int, EV.isi_bool_str, EV.isi_bool_list, EV.isi_bool_tuple, EV.isi_bool_dict, EV.isi_int_bool, EV.isi_int_int, EV.isi_int_str, EV.isi_int_list, EV.isi_int_tuple, EV.isi_int_dict, EV.isi_str_bool, EV.isi_str_int, EV.isi_str_str, EV.isi_str_list, EV.isi_str_tuple, EV.isi_str_dict, EV.isi_list_bool, EV.isi_list_int, EV.isi_list_str, EV.isi_list_list, EV.isi_list_tuple, EV.isi_list_dict, EV.isi_tuple_bool, EV.isi_tuple_int, EV.isi_tuple_str, EV.isi_tuple_list, EV.isi_tuple_tuple, EV.isi_tuple_dict, e1])
local macro_rules | `(tactic| walk_at "xg4") => `(tactic| ((try walk_at "xe4"); repeat ((first | walk_at "cj" | walk_at "ca"); try walk_at "xe4")))
set_option hygiene false in
local macro_rules | `(tactic| walk_at "xe5") => `(tactic| simp (maxSteps := 1000000) (disch := omega) only [↓EV.opt_some, ↓EV.wSeq_e, ↓EV.wNext_e, ↓EV.wBreak_e, ↓EV.wCont_e, ↓EV.xk_e, ↓EV.wIf_e, ↓EV.wDrop_e, ↓EV.wRet_e, ↓EV.wRet0_e, ↓EV.wRetN_e, ↓EV.wAsg_e, ↓EV.wAug_e, ↓EV.wSetI_e, ↓EV.ownL_e, ↓EV.kSetI_e, ↓EV.wFor_e, ↓EV.wRaise_e, ↓EV.wNever_e, ↓EV.turnV_e, ↓EV.lineV_e, ↓EV.wVar_e, ↓EV.wC_e, ↓EV.w2_e, ↓EV.w1_e, ↓EV.wB_e, ↓EV.waNil_e, ↓EV.waCons_e, ↓EV.kI_e, ↓EV.kI0_e, ↓EV.kU_e, ↓EV.kAdd_e, ↓EV.kIx_e, ↓EV.ixS_e, ↓EV.kMul_e, ↓EV.kMul_el, ↓EV.kidQ_e, ↓EV.woNone_e, ↓EV.woSome_e, ↓EV.wSl_e, ↓EV.kSl_e, ↓EV.kLen_e, ↓EV.kSum_e, ↓EV.kAll_e, ↓EV.kAny_e, ↓EV.kSorted_e, ↓EV.kMin2_e, ↓EV.kMax2_e, ↓EV.kAbs_e, ↓EV.kInt_i, ↓EV.kInt_b, ↓EV.kList_e, ↓EV.wNot_e, ↓EV.wAnd_e, ↓EV.wOr_e, ↓EV.wtE_e, ↓EV.wtT_e, ↓EV.wtAnd_e, ↓EV.wtOr_e, ↓EV.wtNot_e, ↓EV.wtYes_e, ↓EV.wIfE_e, ↓EV.wIsN_e, ↓EV.wLst_e, ↓EV.wTup_e, ↓EV.kEq_e, ↓EV.kIn_e, ↓EV.retQ_e, ↓EV.ownQ_e, ↓EV.wM_e, ↓EV.wM0_e, ↓EV.kAppend_e, ↓EV.kRemove_e, ↓EV.kExtend_e, ↓EV.kPop_e, ↓EV.kPopAt_e, ↓EV.kReverse_e, ↓EV.kInsert_e, ↓EV.kIsi_e, ↓EV.wCall_e, ↓EV.wCallK_e, ↓EV.wiList_e, ↓EV.wiRng1_e, ↓EV.wiRng2_e, ↓EV.wiEnum_e, ↓EV.wiZip_e, ↓EV.wLc_e, ↓EV.wRgL1_e, ↓EV.wRgL2_e, ↓EV.wFg_e, ↓EV.kLtT_e, ↓EV.kGtT_e, ↓EV.kLeT_e, ↓EV.kIsBl_e, ↓EV.kNotBl_e, ↓EV.kMax_e, ↓EV.kMin_e, ↓EV.wDIn_e, ↓EV.wDGet_e, ↓EV.wDNew_e, ↓EV.wDPut_e, ↓EV.kDPut_e, ↓EV.kSortD_e, ↓EV.kSortDR_e, ↓EV.wIsiT_e, ↓EV.wiZipT_e, ↓EV.zipQ_t, ↓EV.zipQ_l, ↓EV.wTry_e, ↓EV.wErrV_e, ↓EV.wMaxD_e, ↓EV.kIndex_e, ↓EV.wFrz_e, ↓EV.wMov_e, ↓EV.wKeep_e, ↓EV.wiTup_e, ↓EV.wAugC_e, ↓EV.optC_some, ↓EV.brC_t, ↓EV.brC_f, ↓EV.brC_not, EV.valA', EV.tupF', EV.exO_s, EV.exO_n, EV.errOf_nil, EV.errOf_cons, EV.errS, EV.errT, EV.adrA, EV.exE, EV.offE, EV.tupI, EV.bolA, EV.keyA, EV.dicK, EV.dicO, EV.inK_int, EV.all_pT, EV.flatL_pT, EV.fz_pT', EV.flat_pT', EV.tupF, EV.zipV, EV.zipI_map, EV.zipI_self, EV.zipI_len, EV.sortT_int, EV.sortT_pT, EV.fzL_Li, EV.fzL_Ln, EV.fzL_Le, EV.fg1_n, EV.fg1_t, EV.fg1_al, EV.fg1_o, EV.fgE_nil, EV.fgE_nil2, EV.fgE_t, EV.fgE_f, EV.all_int, EV.scrT, EV.onTop_nil, EV.onTop_cons, EV.filter_tt, EV.flatL_Ln, EV.flatL_Li, EV.flatL_Le, EV.flat_int, EV.flat_bl, EV.flat_non, EV.flat_str, EV.flat_L, EV.flat_tup, EV.flat_tupO, EV.flatL_nil, EV.flatL_cons, EV.flatL_int, EV.evE_e, EV.tN, EV.tE, EV.getC, EV.fzL_tN, EV.fzL_tE, EV.all_tN, EV.all_tE, EV.flatL_tN, EV.flatL_tE, EV.seqN, EV.remN, EV.addV, EV.addQ, EV.ixQ, EV.seqV, EV.kidV, EV.slQ, EV.lenW, EV.lenQ, EV.sqV, EV.blA, EV.walkV, EV.rngA1, EV.rngA2, EV.ownV, EV.varA, EV.argT, EV.look, EV.sub, EV.tree, EV.T.at, EV.T.put, EV.isF_non, EV.isF_bl, EV.isF_int, EV.isF_str, EV.isF_ty, EV.isF_adr, EV.isF_nd, EV.isF_pT, EV.intA, EV.bind1, EV.wgName, EV.wgNil, EV.wgCons, EV.wgTup, EV.explode, EV.partA, EV.kilr, EV.kil_nil, EV.kil_cons, EV.kil_app, EV.kil1_n, EV.kil1_t, EV.kil1_al, EV.kil1_o, EV.take1, EV.takeL, EV.tk, EV.startE, EV.pinP, EV.bodyE, EV.outsE, EV.ownE, EV.plA, EV.putE, EV.putK, EV.L, EV.below, EV.fz, EV.fzL, EV.truA, EV.isNon, EV.lsK, EV.lqK, EV.seqO, EV.intsK, EV.blsK, EV.tInt, EV.tBl, EV.pin, EV.srcA, EV.takeM, EV.readR, EV.putBack, EV.isNo, EV.noAl_nil, EV.noAl_cons, EV.noAl1_n, EV.noAl1_t, EV.noAl1_al, EV.noAl1_o, EV.reAl_nil, EV.reAl_nil2, EV.reAl_cons, EV.reAl1_t, EV.reAl1_n, EV.reAl1_o, EV.reAl1_al, EV.reAl1_xt, EV.flatO, EV.pickA, EV.eqT_int, EV.eqT_bl, EV.eqT_nonI, EV.eqT_Inon, EV.eqT_non, EV.eqT_lst, EV.eqT_tup, EV.eqT_lt, EV.eqT_tl, EV.eqTs_int, EV.eqTs_bl, EV.eqTs_pT, EV.eqT_pT, EV.eqTs_nilR, EV.eqTs_nilL, EV.eqTs_cons, EV.anyI, EV.seqI, EV.seqB, EV.cut_map, EV.cut_none, EV.fzL_int, EV.fzL_pT, EV.fz_pT, EV.setI, EV.appI, EV.snocI, EV.itLen, EV.itemA, EV.okI, EV.wpe, EV.isL, EV.tyN, EV.lcPut, EV.xk, EV.ixN_0, EV.ixN_1, EV.ixN_2, EV.ixN_3, EV.ixN_4, EV.ixN_m1, EV.ixN_nat, EV.ixN_p, List.getElem_cons_zero, List.getElem_cons_succ, Int.toNat_zero, Int.toNat_one, Int.reduceToNat, Std.le_refl, Int.cast_ofNat_Int, Int.neg_nonneg, Int.neg_le_neg_iff, Int.natCast_nonneg, Int.toNat_natCast, Int.zero_add, Int.reduceLE, Int.reduceLT, Int.reduceNeg, Int.reduceAdd, Int.reduceSub, Int.reduceMul, Int.cast_ofNat_Int, Int.ofNat_eq_natCast, Int.reduceOfNat, List.map_cons, List.map_nil, List.isEmpty_nil, List.isEmpty_cons, Nat.add_sub_cancel, List.replicate, List.cons_append, List.nil_append, List.getElem?_cons_zero, List.getElem?_cons_succ, List.getElem?_nil, List.length_cons, List.length_nil, List.length_append, List.length_map, List.length_reverse, List.set_cons_zero, List.set_cons_succ, List.take_succ_cons, List.take_zero, List.take_nil, List.all_cons, List.all_nil, List.zipWith_cons_cons, List.zipWith_nil_left, List.zipWith_nil_right, List.filterMap_cons, List.filterMap_nil, List.foldl_cons, List.foldl_nil, List.reverse_cons, Option.none_or, Option.some_or, Option.or_none, Option.map_some, Option.map_none, Option.bind_some, Option.bind_none, Option.some.injEq, if_true, if_false, Bool.false_eq_true, Bool.not_true, Bool.not_false, Nat.zero_add, Nat.add_zero, Nat.reduceAdd, Nat.reduceSub, Nat.reduceBEq, Nat.reduceLeDiff, Nat.reduceLT, Nat.reduceEqDiff, reduceIte, beq_self_eq_true, Bool.or_false, Bool.or_true, Bool.true_or, Bool.false_or, Bool.or_self, Bool.and_true, Bool.and_false, Bool.true_and, Bool.false_and, Bool.and_self, or_true, true_or, or_false, false_or, or_self, and_true, true_and, and_self, List.isPrefixOf, Int.reduceNeg, decide_true, decide_false, bne_self_eq_false, reduceCtorEq, ne_eq, not_false_eq_true, not_true_eq_false, Nat.ble_eq, forall_eq, forall_eq_or_imp, List.mem_cons, List.mem_nil_iff, false_imp_iff, imp_true_iff, List.not_mem_nil, EV.isi_NoneType_bool, EV.isi_NoneType_int, EV.isi_NoneType_str, EV.isi_NoneType_list, EV.isi_NoneType_tuple, EV.isi_NoneType_dict, EV.isi_bool_bool, EV.isi_bool_int, EV.isi_bool_str, EV.isi_bool_list, EV.isi_bool_tuple, EV.isi_bool_dict, EV.isi_int_bool, EV.isi_int_int, EV.isi_int_str, EV.isi_int_list, EV.isi_int_tuple, EV.isi_int_dict, EV.isi_str_bool, EV.isi_str_int, EV.isi_str_str, EV.isi_str_list, EV.isi_str_tuple, EV.isi_str_dict, EV.isi_list_bool, EV.isi_list_int, EV.isi_list_str, EV.isi_list_list, EV.isi_list_tuple, EV.isi_list_dict, EV.isi_tuple_bool, EV.isi_tuple_int, EV.isi_tuple_str, EV.isi_tuple_list, EV.isi_tuple_tuple, EV.isi_tuple_dict, hn])
local macro_rules | `(tactic| walk_at "xg5") => `(tactic| ((try walk_at "xe5"); repeat ((first | walk_at "cj" | walk_at "ca"); try walk_at "xe5")))
set_option hygiene false in
local macro_rules | `(tactic| walk_at "xe6") => `(tactic| simp (maxSteps := 1000000) (disch := omega) only [↓EV.opt_some, ↓EV.wSeq_e, ↓EV.wNext_e, ↓EV.wBreak_e, ↓EV.wCont_e, ↓EV.xk_e, ↓EV.wIf_e, ↓EV.wDrop_e, ↓EV.wRet_e, ↓EV.wRet0_e, ↓EV.wRetN_e, ↓EV.wAsg_e, ↓EV.wAug_e, ↓EV.wSetI_e, ↓EV.ownL_e, ↓EV.kSetI_e, ↓EV.wFor_e, ↓EV.wRaise_e, ↓EV.wNever_e, ↓EV.turnV_e, ↓EV.lineV_e, ↓EV.wVar_e, ↓EV.wC_e, ↓EV.w2_e, ↓EV.w1_e, ↓EV.wB_e, ↓EV.waNil_e, ↓EV.waCons_e, ↓EV.kI_e, ↓EV.kI0_e, ↓EV.kU_e, ↓EV.kAdd_e, ↓EV.kIx_e, ↓EV.ixS_e, ↓EV.kMul_e, ↓EV.kMul_el, ↓EV.kidQ_e, ↓EV.woNone_e, ↓EV.woSome_e, ↓EV.wSl_e, ↓EV.kSl_e, ↓EV.kLen_e, ↓EV.kSum_e, ↓EV.kAll_e, ↓EV.kAny_e, ↓EV.kSorted_e, ↓EV.kMin2_e, ↓EV.kMax2_e, ↓EV.kAbs_e, ↓EV.kInt_i, ↓EV.kInt_b, ↓EV.kList_e, ↓EV.wNot_e, ↓EV.wAnd_e, ↓EV.wOr_e, ↓EV.wtE_e, ↓EV.wtT_e, ↓EV.wtAnd_e, ↓EV.wtOr_e, ↓EV.wtNot_e, ↓EV.wtYes_e, ↓EV.wIfE_e, ↓EV.wIsN_e, ↓EV.wLst_e, ↓EV.wTup_e, ↓EV.kEq_e, ↓EV.kIn_e, ↓EV.retQ_e, ↓EV.ownQ_e, ↓EV.wM_e, ↓EV.wM0_e, ↓EV.kAppend_e, ↓EV.kRemove_e, ↓EV.kExtend_e, ↓EV.kPop_e, ↓EV.kPopAt_e, ↓EV.kReverse_e, ↓EV.kInsert_e, ↓EV.kIsi_e, ↓EV.wCall_e, ↓EV.wCallK_e, ↓EV.wiList_e, ↓EV.wiRng1_e, ↓EV.wiRng2_e, ↓EV.wiEnum_e, ↓EV.wiZip_e, ↓EV.wLc_e, ↓EV.wRgL1_e, ↓EV.wRgL2_e, ↓EV.wFg_e, ↓EV.kLtT_e, ↓EV.kGtT_e, ↓EV.kLeT_e, ↓EV.kIsBl_e, ↓EV.kNotBl_e, ↓EV.kMax_e, ↓EV.kMin_e, ↓EV.wDIn_e, ↓EV.wDGet_e, ↓EV.wDNew_e, ↓EV.wDPut_e, ↓EV.kDPut_e, ↓EV.kSortD_e, ↓EV.kSortDR_e, ↓EV.wIsiT_e, ↓EV.wiZipT_e, ↓EV.zipQ_t, ↓EV.zipQ_l, ↓EV.wTry_e, ↓EV.wErrV_e, ↓EV.wMaxD_e, ↓EV.kIndex_e, ↓EV.wFrz_e, ↓EV.wMov_e, ↓EV.wKeep_e, ↓EV.wiTup_e, ↓EV.wAugC_e, ↓EV.optC_some, ↓EV.brC_t, ↓EV.brC_f, ↓EV.brC_not, EV.valA', EV.tupF', EV.exO_s, EV.exO_n, EV.errOf_nil, EV.errOf_cons, EV.errS, EV.errT, EV.adrA, EV.exE, EV.offE, EV.tupI, EV.bolA, EV.keyA, EV.dicK, EV.dicO, EV.inK_int, EV.all_pT, EV.flatL_pT, EV.fz_pT', EV.flat_pT', EV.tupF, EV.zipV, EV.zipI_map, EV.zipI_self, EV.zipI_len, EV.sortT_int, EV.sortT_pT, EV.fzL_Li, EV.fzL_Ln, EV.fzL_Le, EV.fg1_n, EV.fg1_t, EV.fg1_al, EV.fg1_o, EV.fgE_nil, EV.fgE_nil2, EV.fgE_t, EV.fgE_f, EV.all_int, EV.scrT, EV.onTop_nil, EV.onTop_cons, EV.filter_tt, EV.flatL_Ln, EV.flatL_Li, EV.flatL_Le, EV.flat_int, EV.flat_bl, EV.flat_non, EV.flat_str, EV.flat_L, EV.flat_tup, EV.flat_tupO, EV.flatL_nil, EV.flatL_cons, EV.flatL_int, EV.evE_e, EV.tN, EV.tE, EV.getC, EV.fzL_tN, EV.fzL_tE, EV.all_tN, EV.all_tE, EV.flatL_tN, EV.flatL_tE, EV.seqN, EV.remN, EV.addV, EV.addQ, EV.ixQ, EV.seqV, EV.kidV, EV.slQ, EV.lenW, EV.lenQ, EV.sqV, EV.blA, EV.walkV, EV.rngA1, EV.rngA2, EV.ownV, EV.varA, EV.argT, EV.look, EV.sub, EV.tree, EV.T.at, EV.T.put, EV.isF_non, EV.isF_bl, EV.isF_int, EV.isF_str, EV.isF_ty, EV.isF_adr, EV.isF_nd, EV.isF_pT, EV.intA, EV.bind1, EV.wgName, EV.wgNil, EV.wgCons, EV.wgTup, EV.explode, EV.partA, EV.kilr, EV.kil_nil, EV.kil_cons, EV.kil_app, EV.kil1_n, EV.kil1_t, EV.kil1_al, EV.kil1_o, EV.take1, EV.takeL, EV.tk, EV.startE, EV.pinP, EV.bodyE, EV.outsE, EV.ownE, EV.plA, EV.putE, EV.putK, EV.L, EV.below, EV.fz, EV.fzL, EV.truA, EV.isNon, EV.lsK, EV.lqK, EV.seqO, EV.intsK, EV.blsK, EV.tInt, EV.tBl, EV.pin, EV.srcA, EV.takeM, EV.readR, EV.putBack, EV.isNo, EV.noAl_nil, EV.noAl_cons, EV.noAl1_n, EV.noAl1_t, EV.noAl1_al, EV.noAl1_o, EV.reAl_nil, EV.reAl_nil2, EV.reAl_cons, EV.reAl1_t, EV.reAl1_n, EV.reAl1_o, EV.reAl1_al, EV.reAl1_xt, EV.flatO, EV.pickA, EV.eqT_int, EV.eqT_bl, EV.eqT_nonI, EV.eqT_Inon, EV.eqT_non, EV.eqT_lst, EV.eqT_tup, EV.eqT_lt, EV.eqT_tl, EV.eqTs_int, EV.eqTs_bl, EV.eqTs_pT, EV.eqT_pT, EV.eqTs_nilR, EV.eqTs_nilL, EV.eqTs_cons, EV.anyI, EV.seqI, EV.seqB, EV.cut_map, EV.cut_none, EV.fzL_int, EV.fzL_pT, EV.fz_pT, EV.setI, EV.appI, EV.snocI, EV.itLen, EV.itemA, EV.okI, EV.wpe, EV.isL, EV.tyN, EV.lcPut, EV.xk, EV.ixN_0, EV.ixN_1, EV.ixN_2, EV.ixN_3, EV.ixN_4, EV.ixN_m1, EV.ixN_nat, EV.ixN_p, List.getElem_cons_zero, List.getElem_cons_succ, Int.toNat_zero, Int.toNat_one, Int.reduceToNat, Std.le_refl, Int.cast_ofNat_Int, Int.neg_nonneg, Int.neg_le_neg_iff, Int.natCast_nonneg, Int.toNat_natCast, Int.zero_add, Int.reduceLE, Int.reduceLT, Int.reduceNeg, Int.reduceAdd, Int.reduceSub, Int.reduceMul, Int.cast_ofNat_Int, Int.ofNat_eq_natCast, Int.reduceOfNat, List.map_cons, List.map_nil, List.isEmpty_nil, List.isEmpty_cons, Nat.add_sub_cancel, List.replicate, List.cons_append, List.nil_append, List.getElem?_cons_zero, List.getElem?_cons_succ, List.getElem?_nil, List.length_cons, List.length_nil, List.length_append, List.length_map, List.length_reverse, List.set_cons_zero, List.set_cons_succ, List.take_succ_cons, List.take_zero, List.take_nil, List.all_cons, List.all_nil, List.zipWith_cons_cons, List.zipWith_nil_left, List.zipWith_nil_right, List.filterMap_cons, List.filterMap_nil, List.foldl_cons, List.foldl_nil, List.reverse_cons, Option.none_or, Option.some_or, Option.or_none, Option.map_some, Option.map_none, Option.bind_some, Option.bind_none, Option.some.injEq, if_true, if_false, Bool.false_eq_true, Bool.not_true, Bool.not_false, Nat.zero_add, Nat.add_zero, Nat.reduceAdd, Nat.reduceSub, Nat.reduceBEq, Nat.reduceLeDiff, Nat.reduceLT, Nat.reduceEqDiff, reduceIte, beq_self_eq_true, Bool.or_false, Bool.or_true, Bool.true_or, Bool.false_or, Bool.or_self, Bool.and_true, Bool.and_false, Bool.true_and, Bool.false_and, Bool.and_self, or_true, true_or, or_false, false_or, or_self, and_true, true_and, and_self, List.isPrefixOf, Int.reduceNeg, decide_true, decide_false, bne_self_eq_false, reduceCtorEq, ne_eq, not_false_eq_true, not_true_eq_false, Nat.ble_eq, forall_eq, forall_eq_or_imp, List.mem_cons, List.mem_nil_iff, false_imp_iff, imp_true_iff, List.not_mem_nil, EV.isi_NoneType_bool, EV.isi_NoneType_int, EV.isi_NoneType_str, EV.isi_NoneType_list, EV.isi_NoneType_tuple, EV.isi_NoneType_dict, EV.isi_bool_bool, EV.isi_bool_int, EV.isi_bool_str, EV.isi_bool_list, EV.isi_bool_tuple, EV.isi_bool_dict, EV.isi_int_bool, EV.isi_int_int, EV.isi_int_str, EV.isi_int_list, EV.isi_int_tuple, EV.isi_int_dict, EV.isi_str_bool, EV.isi_str_int, EV.isi_str_str, EV.isi_str_list, EV.isi_str_tuple, EV.isi_str_dict, EV.isi_list_bool, EV.isi_list_int, EV.isi_list_str, EV.isi_list_list, EV.isi_list_tuple, EV.isi_list_dict, EV.isi_tuple_bool, EV.isi_tuple_int, EV.isi_tuple_str, EV.isi_tuple_list, EV.isi_tuple_tuple, EV.isi_tuple_dict, e0])
local macro_rules | `(tactic| walk_at "xg6") => `(tactic| ((try walk_at "xe6"); repeat ((first | walk_at "cj" | walk_at "ca"); try walk_at "xe6")))
set_option hygiene false in
local macro_rules | `(tactic| walk_at "xe7") => `(tactic| simp (maxSteps := 1000000) (disch := omega) only [↓EV.opt_some, ↓EV.wSeq_e, ↓EV.wNext_e, ↓EV.wBreak_e, ↓EV.wCont_e, ↓EV.xk_e, ↓EV.wIf_e, ↓EV.wDrop_e, ↓EV.wRet_e, ↓EV.wRet0_e, ↓EV.wRetN_e, ↓EV.wAsg_e, ↓EV.wAug_e, ↓EV.wSetI_e, ↓EV.ownL_e, ↓EV.kSetI_e, ↓EV.wFor_e, ↓EV.wRaise_e, ↓EV.wNever_e, ↓EV.turnV_e, ↓EV.lineV_e, ↓EV.wVar_e, ↓EV.wC_e, ↓EV.w2_e, ↓EV.w1_e, ↓EV.wB_e, ↓EV.waNil_e, ↓EV.waCons_e, ↓EV.kI_e, ↓EV.kI0_e, ↓EV.kU_e, ↓EV.kAdd_e, ↓EV.kIx_e, ↓EV.ixS_e, ↓EV.kMul_e, ↓EV.kMul_el, ↓EV.kidQ_e, ↓EV.woNone_e, ↓EV.woSome_e, ↓EV.wSl_e, ↓EV.kSl_e, ↓EV.kLen_e, ↓EV.kSum_e, ↓EV.kAll_e, ↓EV.kAny_e, ↓EV.kSorted_e, ↓EV.kMin2_e, ↓EV.kMax2_e, ↓EV.kAbs_e, ↓EV.kInt_i, ↓EV.kInt_b, ↓EV.kList_e, ↓EV.wNot_e, ↓EV.wAnd_e, ↓EV.wOr_e, ↓EV.wtE_e, ↓EV.wtT_e, ↓EV.wtAnd_e, ↓EV.wtOr_e, ↓EV.wtNot_e, ↓EV.wtYes_e, ↓EV.wIfE_e, ↓EV.wIsN_e, ↓EV.wLst_e, ↓EV.wTup_e, ↓EV.kEq_e, ↓EV.kIn_e, ↓EV.retQ_e, ↓EV.ownQ_e, ↓EV.wM_e, ↓EV.wM0_e, ↓EV.kAppend_e, ↓EV.kRemove_e, ↓EV.kExtend_e, ↓EV.kPop_e, ↓EV.kPopAt_e, ↓EV.kReverse_e, ↓EV.kInsert_e, ↓EV.kIsi_e, ↓EV.wCall_e, ↓EV.wCallK_e, ↓EV.wiList_e, ↓EV.wiRng1_e, ↓EV.wiRng2_e, ↓EV.wiEnum_e, ↓EV.wiZip_e, ↓EV.wLc_e, ↓EV.wRgL1_e, ↓EV.wRgL2_e, ↓EV.wFg_e, ↓EV.kLtT_e, ↓EV.kGtT_e, ↓EV.kLeT_e, ↓EV.kIsBl_e, ↓EV.kNotBl_e, ↓EV.kMax_e, ↓EV.kMin_e, ↓EV.wDIn_e, ↓EV.wDGet_e, ↓EV.wDNew_e, ↓EV.wDPut_e, ↓EV.kDPut_e, ↓EV.kSortD_e, ↓EV.kSortDR_e, ↓EV.wIsiT_e, ↓EV.wiZipT_e, ↓EV.zipQ_t, ↓EV.zipQ_l, ↓EV.wTry_e, ↓EV.wErrV_e, ↓EV.wMaxD_e, ↓EV.kIndex_e, ↓EV.wFrz_e, ↓EV.wMov_e, ↓EV.wKeep_e, ↓EV.wiTup_e, ↓EV.wAugC_e, ↓EV.optC_some, ↓EV.brC_t, ↓EV.brC_f, ↓EV.brC_not, EV.valA', EV.tupF', EV.exO_s, EV.exO_n, EV.errOf_nil, EV.errOf_cons, EV.errS, EV.errT, EV.adrA, EV.exE, EV.offE, EV.tupI, EV.bolA, EV.keyA, EV.dicK, EV.dicO, EV.inK_int, EV.all_pT, EV.flatL_pT, EV.fz_pT', EV.flat_pT', EV.tupF, EV.zipV, EV.zipI_map, EV.zipI_self, EV.zipI_len, EV.sortT_int, EV.sortT_pT, EV.fzL_Li, EV.fzL_Ln, EV.fzL_Le, EV.fg1_n, EV.fg1_t, EV.fg1_al, EV.fg1_o, EV.fgE_nil, EV.fgE_nil2, EV.fgE_t, EV.fgE_f, EV.all_int, EV.scrT, EV.onTop_nil, EV.onTop_cons, EV.filter_tt, EV.flatL_Ln, EV.flatL_Li, EV.flatL_Le, EV.flat_int, EV.flat_bl, EV.flat_non, EV.flat_str, EV.flat_L, EV.flat_tup, EV.flat_tupO, EV.flatL_nil, EV.flatL_cons, EV.flatL_int, EV.evE_e, EV.tN, EV.tE, EV.getC, EV.fzL_tN, EV.fzL_tE, EV.all_tN, EV.all_tE, EV.flatL_tN, EV.flatL_tE, EV.seqN, EV.remN, EV.addV, EV.addQ, EV.ixQ, EV.seqV, EV.kidV, EV.slQ, EV.lenW, EV.lenQ, EV.sqV, EV.blA, EV.walkV, EV.rngA1, EV.rngA2, EV.ownV, EV.varA, EV.argT, EV.look, EV.sub, EV.tree, EV.T.at, EV.T.put, EV.isF_non, EV.isF_bl, EV.isF_int, EV.isF_str, EV.isF_ty, EV.isF_adr, EV.isF_nd, EV.isF_pT, EV.intA, EV.bind1, EV.wgName, EV.wgNil, EV.wgCons, EV.wgTup, EV.explode, EV.partA, EV.kilr, EV.kil_nil, EV.kil_cons, EV.kil_app, EV.kil1_n, EV.kil1_t, EV.kil1_al, EV.kil1_o, EV.take1, EV.takeL, EV.tk, EV.startE, EV.pinP, EV.bodyE, EV.outsE, EV.ownE, EV.plA, EV.putE, EV.putK, EV.L, EV.below, EV.fz, EV.fzL, EV.truA, EV.isNon, EV.lsK, EV.lqK, EV.seqO, EV.intsK, EV.blsK, EV.tInt, EV.tBl, EV.pin, EV.srcA, EV.takeM, EV.readR, EV.putBack, EV.isNo, EV.noAl_nil, EV.noAl_cons, EV.noAl1_n, EV.noAl1_t, EV.noAl1_al, EV.noAl1_o, EV.reAl_nil, EV.reAl_nil2, EV.reAl_cons, EV.reAl1_t, EV.reAl1_n, EV.reAl1_o, EV.reAl1_al, EV.reAl1_xt, EV.flatO, EV.pickA, EV.eqT_int, EV.eqT_bl, EV.eqT_nonI, EV.eqT_Inon, EV.eqT_non, EV.eqT_lst, EV.eqT_tup, EV.eqT_lt, EV.eqT_tl, EV.eqTs_int, EV.eqTs_bl, EV.eqTs_pT, EV.eqT_pT, EV.eqTs_nilR, EV.eqTs_nilL, EV.eqTs_cons, EV.anyI, EV.seqI, EV.seqB, EV.cut_map, EV.cut_none, EV.fzL_int, EV.fzL_pT, EV.fz_pT, EV.setI, EV.appI, EV.snocI, EV.itLen, EV.itemA, EV.okI, EV.wpe, EV.isL, EV.tyN, EV.lcPut, EV.xk, EV.ixN_0, EV.ixN_1, EV.ixN_2, EV.ixN_3, EV.ixN_4, EV.ixN_m1, EV.ixN_nat, EV.ixN_p, List.getElem_cons_zero, List.getElem_cons_succ, Int.toNat_zero, Int.toNat_one, Int.reduceToNat, Std.le_refl, Int.cast_ofNat_Int, Int.neg_nonneg, Int.neg_le_neg_iff, Int.natCast_nonneg, Int.toNat_natCast, Int.zero_add, Int.reduceLE, Int.reduceLT, Int.reduceNeg, Int.reduceAdd, Int.reduceSub, Int.reduceMul, Int.cast_ofNat_Int, Int.ofNat_eq_natCast, Int.reduceOfNat, List.map_cons, List.map_nil, List.isEmpty_nil, List.isEmpty_cons, Nat.add_sub_cancel, List.replicate, List.cons_append, List.nil_append, List.getElem?_cons_zero, List.getElem?_cons_succ, List.getElem?_nil, List.length_cons, List.length_nil, List.length_append, List.length_map, List.length_reverse, List.set_cons_zero, List.set_cons_succ, List.take_succ_cons, List.take_zero, List.take_nil, List.all_cons, List.all_nil, List.zipWith_cons_cons, List.zipWith_nil_left, List.zipWith_nil_right, List.filterMap_cons, List.filterMap_nil, List.foldl_cons, List.foldl_nil, List.reverse_cons, Option.none_or, Option.some_or, Option.or_none, Option.map_some, Option.map_none, Option.bind_some, Option.bind_none, Option.some.injEq, if_true, if_false, Bool.false_eq_true, Bool.not_true, Bool.not_false, Nat.zero_add, Nat.add_zero, Nat.reduceAdd, Nat.reduceSub, Nat.reduceBEq, Nat.reduceLeDiff, Nat.reduceLT, Nat.reduceEqDiff, reduceIte, beq_self_eq_true, Bool.or_false, Bool.or_true, Bool.true_or, Bool.false_or, Bool.or_self, Bool.and_true, Bool.and_false, Bool.true_and, Bool.false_and, Bool.and_self, or_true, true_or, or_false, false_or, or_self, and_true, true_and, and_self, List.isPrefixOf, Int.reduceNeg, decide_true, decide_false, bne_self_eq_false, reduceCtorEq, ne_eq, not_false_eq_true, not_true_eq_false, Nat.ble_eq, forall_eq, forall_eq_or_imp, List.mem_cons, List.mem_nil_iff, false_imp_iff, imp_true_iff, List.not_mem_nil, EV.isi_NoneType_bool, EV.isi_NoneType_int, EV.isi_NoneType_str, EV.isi_NoneType_list, EV.isi_NoneType_tuple, EV.isi_NoneType_dict, EV.isi_bool_bool, EV.isi_bool_int, EV.isi_bool_str, EV.isi_bool_list, EV.isi_bool_tuple, EV.isi_bool_dict, EV.isi_int_bool, EV.isi_int_int, EV.isi_int_str, EV.isi_int_list, EV.isi_int_tuple, EV.isi_int_dict, EV.isi_str_bool, EV.isi_str_int, EV.isi_str_str, EV.isi_str_list, EV.isi_str_tuple, EV.isi_str_dict, EV.isi_list_bool, EV.isi_list_int, EV.isi_list_str, EV.isi_list_list, EV.isi_list_tuple, EV.isi_list_dict, EV.isi_tuple_bool, EV.isi_tuple_int, EV.isi_tuple_str, EV.isi_tuple_list, EV.isi_tuple_tuple, EV.isi_tuple_dict, hg, pop_map, tN, e4])
local macro_rules | `(tactic| walk_at "xg7") => `(tactic| ((try walk_at "xe7"); repeat ((first | walk_at "cj" | walk_at "ca"); try walk_at "xe7")))
set_option hygiene false in
local macro_rules | `(tactic| walk_at "xe8") => `(tactic| simp (maxSteps := 1000000) (disch := omega) only [↓EV.opt_some, ↓EV.wSeq_e, ↓EV.wNext_e, ↓EV.wBreak_e, ↓EV.wCont_e, ↓EV.xk_e, ↓EV.wIf_e, ↓EV.wDrop_e, ↓EV.wRet_e, ↓EV.wRet0_e, ↓EV.wRetN_e, ↓EV.wAsg_e, ↓EV.wAug_e, ↓EV.wSetI_e, ↓EV.ownL_e, ↓EV.kSetI_e, ↓EV.wFor_e, ↓EV.wRaise_e, ↓EV.wNever_e, ↓EV.turnV_e, ↓EV.lineV_e, ↓EV.wVar_e, ↓EV.wC_e, ↓EV.w2_e, ↓EV.w1_e, ↓EV.wB_e, ↓EV.waNil_e, ↓EV.waCons_e, ↓EV.kI_e, ↓EV.kI0_e, ↓EV.kU_e, ↓EV.kAdd_e, ↓EV.kIx_e, ↓EV.ixS_e, ↓EV.kMul_e, ↓EV.kMul_el, ↓EV.kidQ_e, ↓EV.woNone_e, ↓EV.woSome_e, ↓EV.wSl_e, ↓EV.kSl_e, ↓EV.kLen_e, ↓EV.kSum_e, ↓EV.kAll_e, ↓EV.kAny_e, ↓EV.kSorted_e, ↓EV.kMin2_e, ↓EV.kMax2_e, ↓EV.kAbs_e, ↓EV.kInt_i, ↓EV.kInt_b, ↓EV.kList_e, ↓EV.wNot_e, ↓EV.wAnd_e, ↓EV.wOr_e, ↓EV.wtE_e, ↓EV.wtT_e, ↓EV.wtAnd_e, ↓EV.wtOr_e, ↓EV.wtNot_e, ↓EV.wtYes_e, ↓EV.wIfE_e, ↓EV.wIsN_e, ↓EV.wLst_e, ↓EV.wTup_e, ↓EV.kEq_e, ↓EV.kIn_e, ↓EV.retQ_e, ↓EV.ownQ_e, ↓EV.wM_e, ↓EV.wM0_e, ↓EV.kAppend_e, ↓EV.kRemove_e, ↓EV.kExtend_e, ↓EV.kPop_e, ↓EV.kPopAt_e, ↓EV.kReverse_e, ↓EV.kInsert_e, ↓EV.kIsi_e, ↓EV.wCall_e, ↓EV.wCallK_e, ↓EV.wiList_e, ↓EV.wiRng1_e, ↓EV.wiRng2_e, ↓EV.wiEnum_e, ↓EV.wiZip_e, ↓EV.wLc_e, ↓EV.wRgL1_e, ↓EV.wRgL2_e, ↓EV.wFg_e, ↓EV.kLtT_e, ↓EV.kGtT_e, ↓EV.kLeT_e, ↓EV.kIsBl_e, ↓EV.kNotBl_e, ↓EV.kMax_e, ↓EV.kMin_e, ↓EV.wDIn_e, ↓EV.wDGet_e, ↓EV.wDNew_e, ↓EV.wDPut_e, ↓EV.kDPut_e, ↓EV.kSortD_e, ↓EV.kSortDR_e, ↓EV.wIsiT_e, ↓EV.wiZipT_e, ↓EV.zipQ_t, ↓EV.zipQ_l, ↓EV.wTry_e, ↓EV.wErrV_e, ↓EV.wMaxD_e, ↓EV.kIndex_e, ↓EV.wFrz_e, ↓EV.wMov_e, ↓EV.wKeep_e, ↓EV.wiTup_e, ↓EV.wAugC_e, ↓EV.optC_some, ↓EV.brC_t, ↓EV.brC_f, ↓EV.brC_not, EV.valA', EV.tupF', EV.exO_s, EV.exO_n, EV.errOf_nil, EV.errOf_cons, EV.errS, EV.errT, EV.adrA, EV.exE, EV.offE, EV.tupI, EV.bolA, EV.keyA, EV.dicK, EV.dicO, EV.inK_int, EV.all_pT, EV.flatL_pT, EV.fz_pT', EV.flat_pT', EV.tupF, EV.zipV, EV.zipI_map, EV.zipI_self, EV.zipI_len, EV.sortT_int, EV.sortT_pT, EV.fzL_Li, EV.fzL_Ln, EV.fzL_Le, EV.fg1_n, EV.fg1_t, EV.fg1_al, EV.fg1_o, EV.fgE_nil, EV.fgE_nil2, EV.fgE_t, EV.fgE_f, EV.all_int, EV.scrT, EV.onTop_nil, EV.onTop_cons, EV.filter_tt, EV.flatL_Ln, EV.flatL_Li, EV.flatL_Le, EV.flat_int, EV.flat_bl, EV.flat_non, EV.flat_str, EV.flat_L, EV.flat_tup, EV.flat_tupO, EV.flatL_nil, EV.flatL_cons, EV.flatL_int, EV.evE_e, EV.tN, EV.tE, EV.getC, EV.fzL_tN, EV.fzL_tE, EV.all_tN, EV.all_tE, EV.flatL_tN, EV.flatL_tE, EV.seqN, EV.remN, EV.addV, EV.addQ, EV.ixQ, EV.seqV, EV.kidV, EV.slQ, EV.lenW, EV.lenQ, EV.sqV, EV.blA, EV.walkV, EV.rngA1, EV.rngA2, EV.ownV, EV.varA, EV.argT, EV.look, EV.sub, EV.tree, EV.T.at, EV.T.put, EV.isF_non, EV.isF_bl, EV.isF_int, EV.isF_str, EV.isF_ty, EV.isF_adr, EV.isF_nd, EV.isF_pT, EV.intA, EV.bind1, EV.wgName, EV.wgNil, EV.wgCons, EV.wgTup, EV.explode, EV.partA, EV.kilr, EV.kil_nil, EV.kil_cons, EV.kil_app, EV.kil1_n, EV.kil1_t, EV.kil1_al, EV.kil1_o, EV.take1, EV.takeL, EV.tk, EV.startE, EV.pinP, EV.bodyE, EV.outsE, EV.ownE, EV.plA, EV.putE, EV.putK, EV.L, EV.below, EV.fz, EV.fzL, EV.truA, EV.isNon, EV.lsK, EV.lqK, EV.seqO, EV.intsK, EV.blsK, EV.tInt, EV.tBl, EV.pin, EV.srcA, EV.takeM, EV.readR, EV.putBack, EV.isNo, EV.noAl_nil, EV.noAl_cons, EV.noAl1_n, EV.noAl1_t, EV.noAl1_al, EV.noAl1_o, EV.reAl_nil, EV.reAl_nil2, EV.reAl_cons, EV.reAl1_t, EV.reAl1_n, EV.reAl1_o, EV.reAl1_al, EV.reAl1_xt, EV.flatO, EV.pickA, EV.eqT_int, EV.eqT_bl, EV.eqT_nonI, EV.eqT_Inon, EV.eqT_non, EV.eqT_lst, EV.eqT_tup, EV.eqT_lt, EV.eqT_tl, EV.eqTs_int, EV.eqTs_bl, EV.eqTs_pT, EV.eqT_pT, EV.eqTs_nilR, EV.eqTs_nilL, EV.eqTs_cons, EV.anyI, EV.seqI, EV.seqB, EV.cut_map, EV.cut_none, EV.fzL_int, EV.fzL_pT, EV.fz_pT, EV.setI, EV.appI, EV.snocI, EV.itLen, EV.itemA, EV.okI, EV.wpe, EV.isL, EV.tyN, EV.lcPut, EV.xk, EV.ixN_0, EV.ixN_1, EV.ixN_2, EV.ixN_3, EV.ixN_4, EV.ixN_m1, EV.ixN_nat, EV.ixN_p, List.getElem_cons_zero, List.getElem_cons_succ, Int.toNat_zero, Int.toNat_one, Int.reduceToNat, Std.le_refl, Int.cast_ofNat_Int, Int.neg_nonneg, Int.neg_le_neg_iff, Int.natCast_nonneg, Int.toNat_natCast, Int.zero_add, Int.reduceLE, Int.reduceLT, Int.reduceNeg, Int.reduceAdd, Int.reduceSub, Int.reduceMul, Int.cast_ofNat_Int, Int.ofNat_eq_natCast, Int.reduceOfNat, List.map_cons, List.map_nil, List.isEmpty_nil, List.isEmpty_cons, Nat.add_sub_cancel, List.replicate, List.cons_append, List.nil_append, List.getElem?_cons_zero, List.getElem?_cons_succ, List.getElem?_nil, List.length_cons, List.length_nil, List.length_append, List.length_map, List.length_reverse, List.set_cons_zero, List.set_cons_succ, List.take_succ_cons, List.take_zero, List.take_nil, List.all_cons, List.all_nil, List.zipWith_cons_cons, List.zipWith_nil_left, List.zipWith_nil_right, List.filterMap_cons, List.filterMap_nil, List.foldl_cons, List.foldl_nil, List.reverse_cons, Option.none_or, Option.some_or, Option.or_none, Option.map_some, Option.map_none, Option.bind_some, Option.bind_none, Option.some.injEq, if_true, if_false, Bool.false_eq_true, Bool.not_true, Bool.not_false, Nat.zero_add, Nat.add_zero, Nat.reduceAdd, Nat.reduceSub, Nat.reduceBEq, Nat.reduceLeDiff, Nat.reduceLT, Nat.reduceEqDiff, reduceIte, beq_self_eq_true, Bool.or_false, Bool.or_true, Bool.true_or, Bool.false_or, Bool.or_self, Bool.and_true, Bool.and_false, Bool.true_and, Bool.false_and, Bool.and_self, or_true, true_or, or_false, false_or, or_self, and_true, true_and, and_self, List.isPrefixOf, Int.reduceNeg, decide_true, decide_false, bne_self_eq_false, reduceCtorEq, ne_eq, not_false_eq_true, not_true_eq_false, Nat.ble_eq, forall_eq, forall_eq_or_imp, List.mem_cons, List.mem_nil_iff, false_imp_iff, imp_true_iff, List.not_mem_nil, EV.isi_NoneType_bool, EV.isi_NoneType_int, EV.isi_NoneType_str, EV.isi_NoneType_list, EV.isi_NoneType_tuple, EV.isi_NoneType_dict, EV.isi_bool_bool, EV.isi_bool_int, EV.isi_bool_str, EV.isi_bool_list, EV.isi_bool_tuple, EV.isi_bool_dict, EV.isi_int_bool, EV.isi_int_int, EV.isi_int_str, EV.isi_int_list, EV.isi_int_tuple, EV.isi_int_dict, EV.isi_str_bool, EV.isi_str_int, EV.isi_str_str, EV.isi_str_list, EV.isi_str_tuple, EV.isi_str_dict, EV.isi_list_bool, EV.isi_list_int, EV.isi_list_str, EV.isi_list_list, EV.isi_list_tuple, EV.isi_list_dict, EV.isi_tuple_bool, EV.isi_tuple_int, EV.isi_tuple_str, EV.isi_tuple_list, EV.isi_tuple_tuple, EV.isi_tuple_dict, e4, e5])
local macro_rules | `(tactic| walk_at "xg8") => `(tactic| ((try walk_at "xe8"); repeat ((first | walk_at "cj" | walk_at "ca"); try walk_at "xe8")))
set_option hygiene false in
local macro_rules | `(tactic| walk_at "xe9") => `(tactic| simp (maxSteps := 1000000) (disch := omega) only [↓EV.opt_some, ↓EV.wSeq_e, ↓EV.wNext_e, ↓EV.wBreak_e, ↓EV.wCont_e, ↓EV.xk_e, ↓EV.wIf_e, ↓EV.wDrop_e, ↓EV.wRet_e, ↓EV.wRet0_e, ↓EV.wRetN_e, ↓EV.wAsg_e, ↓EV.wAug_e, ↓EV.wSetI_e, ↓EV.ownL_e, ↓EV.kSetI_e, ↓EV.wFor_e, ↓EV.wRaise_e, ↓EV.wNever_e, ↓EV.turnV_e, ↓EV.lineV_e, ↓EV.wVar_e, ↓EV.wC_e, ↓EV.w2_e, ↓EV.w1_e, ↓EV.wB_e, ↓EV.waNil_e, ↓EV.waCons_e, ↓EV.kI_e, ↓EV.kI0_e, ↓EV.kU_e, ↓EV.kAdd_e, ↓EV.kIx_e, ↓EV.ixS_e, ↓EV.kMul_e, ↓EV.kMul_el, ↓EV.kidQ_e, ↓EV.woNone_e, ↓EV.woSome_e, ↓EV.wSl_e, ↓EV.kSl_e, ↓EV.kLen_e, ↓EV.kSum_e, ↓EV.kAll_e, ↓EV.kAny_e, ↓EV.kSorted_e, ↓EV.kMin2_e, ↓EV.kMax2_e, ↓EV.kAbs_e, ↓EV.kInt_i, ↓EV.kInt_b, ↓EV.kList_e, ↓EV.wNot_e, ↓EV.wAnd_e, ↓EV.wOr_e, ↓EV.wtE_e, ↓EV.wtT_e, ↓EV.wtAnd_e, ↓EV.wtOr_e, ↓EV.wtNot_e, ↓EV.wtYes_e, ↓EV.wIfE_e, ↓EV.wIsN_e, ↓EV.wLst_e, ↓EV.wTup_e, ↓EV.kEq_e, ↓EV.kIn_e, ↓EV.retQ_e, ↓EV.ownQ_e, ↓EV.wM_e, ↓EV.wM0_e, ↓EV.kAppend_e, ↓EV.kRemove_e, ↓EV.kExtend_e, ↓EV.kPop_e, ↓EV.kPopAt_e, ↓EV.kReverse_e, ↓EV.kInsert_e, ↓EV.kIsi_e, ↓EV.wCall_e, ↓EV.wCallK_e, ↓EV.wiList_e, ↓EV.wiRng1_e, ↓EV.wiRng2_e, ↓EV.wiEnum_e, ↓EV.wiZip_e, ↓EV.wLc_e, ↓EV.wRgL1_e, ↓EV.wRgL2_e, ↓EV.wFg_e, ↓EV.kLtT_e, ↓EV.kGtT_e, ↓EV.kLeT_e, ↓EV.kIsBl_e, ↓EV.kNotBl_e, ↓EV.kMax_e, ↓EV.kMin_e, ↓EV.wDIn_e, ↓EV.wDGet_e, ↓EV.wDNew_e, ↓EV.wDPut_e, ↓EV.kDPut_e, ↓EV.kSortD_e, ↓EV.kSortDR_e, ↓EV.wIsiT_e, ↓EV.wiZipT_e, ↓EV.zipQ_t, ↓EV.zipQ_l, ↓EV.wTry_e, ↓EV.wErrV_e, ↓EV.wMaxD_e, ↓EV.kIndex_e, ↓EV.wFrz_e, ↓EV.wMov_e, ↓EV.wKeep_e, ↓EV.wiTup_e, ↓EV.wAugC_e, ↓EV.optC_some, ↓EV.brC_t, ↓EV.brC_f, ↓EV.brC_not, EV.valA', EV.tupF', EV.exO_s, EV.exO_n, EV.errOf_nil, EV.errOf_cons, EV.errS, EV.errT, EV.adrA, EV.exE, EV.offE, EV.tupI, EV.bolA, EV.keyA, EV.dicK, EV.dicO, EV.inK_int, EV.all_pT, EV.flatL_pT, EV.fz_pT', EV.flat_pT', EV.tupF, EV.zipV, EV.zipI_map, EV.zipI_self, EV.zipI_len, EV.sortT_int, EV.sortT_pT, EV.fzL_Li, EV.fzL_Ln, EV.fzL_Le, EV.fg1_n, EV.fg1_t, EV.fg1_al, EV.fg1_o, EV.fgE_nil, EV.fgE_nil2, EV.fgE_t, EV.fgE_f, EV.all_int, EV.scrT, EV.onTop_nil, EV.onTop_cons, EV.filter_tt, EV.flatL_Ln, EV.flatL_Li, EV.flatL_Le, EV.flat_int, EV.flat_bl, EV.flat_non, EV.flat_str, EV.flat_L, EV.flat_tup, EV.flat_tupO, EV.flatL_nil, EV.flatL_cons, EV.flatL_int, EV.evE_e, EV.tN, EV.tE, EV.getC, EV.fzL_tN, EV.fzL_tE, EV.all_tN, EV.all_tE, EV.flatL_tN, EV.flatL_tE, EV.seqN, EV.remN, EV.addV, EV.addQ, EV.ixQ, EV.seqV, EV.kidV, EV.slQ, EV.lenW, EV.lenQ, EV.sqV, EV.blA, EV.walkV, EV.rngA1, EV.rngA2, EV.ownV, EV.varA, EV.argT, EV.look, EV.sub, EV.tree, EV.T.at, EV.T.put, EV.isF_non, EV.isF_bl, EV.isF_int, EV.isF_str, EV.isF_ty, EV.isF_adr, EV.isF_nd, EV.isF_pT, EV.intA, EV.bind1, EV.wgName, EV.wgNil, EV.wgCons, EV.wgTup, EV.explode, EV.partA, EV.kilr, EV.kil_nil, EV.kil_cons, EV.kil_app, EV.kil1_n, EV.kil1_t, EV.kil1_al, EV.kil1_o, EV.take1, EV.takeL, EV.tk, EV.startE, EV.pinP, EV.bodyE, EV.outsE, EV.ownE, EV.plA, EV.putE, EV.putK, EV.L, EV.below, EV.fz, EV.fzL, EV.truA, EV.isNon, EV.lsK, EV.lqK, EV.seqO, EV.intsK, EV.blsK, EV.tInt, EV.tBl, EV.pin, EV.srcA, EV.takeM, EV.readR, EV.putBack, EV.isNo, EV.noAl_nil, EV.noAl_cons, EV.noAl1_n, EV.noAl1_t, EV.noAl1_al, EV.noAl1_o, EV.reAl_nil, EV.reAl_nil2, EV.reAl_cons, EV.reAl1_t, EV.reAl1_n, EV.reAl1_o, EV.reAl1_al, EV.reAl1_xt, EV.flatO, EV.pickA, EV.eqT_int, EV.eqT_bl, EV.eqT_nonI, EV.eqT_Inon, EV.eqT_non, EV.eqT_lst, EV.eqT_tup, EV.eqT_lt, EV.eqT_tl, EV.eqTs_int, EV.eqTs_bl, EV.eqTs_pT, EV.eqT_pT, EV.eqTs_nilR, EV.eqTs_nilL, EV.eqTs_cons, EV.anyI, EV.seqI, EV.seqB, EV.cut_map, EV.cut_none, EV.fzL_int, EV.fzL_pT, EV.fz_pT, EV.setI, EV.appI, EV.snocI, EV.itLen, EV.itemA, EV.okI, EV.wpe, EV.isL, EV.tyN, EV.lcPut, EV.xk, EV.ixN_0, EV.ixN_1, EV.ixN_2, EV.ixN_3, EV.ixN_4, EV.ixN_m1, EV.ixN_nat, EV.ixN_p, List.getElem_cons_zero, List.getElem_cons_succ, Int.toNat_zero, Int.toNat_one, Int.reduceToNat, Std.le_refl, Int.cast_ofNat_Int, Int.neg_nonneg, Int.neg_le_neg_iff, Int.natCast_nonneg, Int.toNat_natCast, Int.zero_add, Int.reduceLE, Int.reduceLT, Int.reduceNeg, Int.reduceAdd, Int.reduceSub, Int.reduceMul, Int.cast_ofNat_Int, Int.ofNat_eq_natCast, Int.reduceOfNat, List.map_cons, List.map_nil, List.isEmpty_nil, List.isEmpty_cons, Nat.add_sub_cancel, List.replicate, List.cons_append, List.nil_append, List.getElem?_cons_zero, List.getElem?_cons_succ, List.getElem?_nil, List.length_cons, List.length_nil, List.length_append, List.length_map, List.length_reverse, List.set_cons_zero, List.set_cons_succ, List.take_succ_cons, List.take_zero, List.take_nil, List.all_cons, List.all_nil, List.zipWith_cons_cons, List.zipWith_nil_left, List.zipWith_nil_right, List.filterMap_cons, List.filterMap_nil, List.foldl_cons, List.foldl_nil, List.reverse_cons, Option.none_or, Option.some_or, Option.or_none, Option.map_some, Option.map_none, Option.bind_some, Option.bind_none, Option.some.injEq, if_true, if_false, Bool.false_eq_true, Bool.not_true, Bool.not_false, Nat.zero_add, Nat.add_zero, Nat.reduceAdd, Nat.reduceSub, Nat.reduceBEq, Nat.reduceLeDiff, Nat.reduceLT, Nat.reduceEqDiff, reduceIte, beq_self_eq_true, Bool.or_false, Bool.or_true, Bool.true_or, Bool.false_or, Bool.or_self, Bool.and_true, Bool.and_false, Bool.true_and, Bool.false_and, Bool.and_self, or_true, true_or, or_false, false_or, or_self, and_true, true_and, and_self, List.isPrefixOf, Int.reduceNeg, decide_true, decide_false, bne_self_eq_false, reduceCtorEq, ne_eq, not_false_eq_true, not_true_eq_false, Nat.ble_eq, forall_eq, forall_eq_or_imp, List.mem_cons, List.mem_nil_iff, false_imp_iff, imp_true_iff, List.not_mem_nil, EV.isi_NoneType_bool, EV.isi_NoneType_int, EV.isi_NoneType_str, EV.isi_NoneType_list, EV.isi_NoneType_tuple, EV.isi_NoneType_dict, EV.isi_bool_bool, EV.isi_bool_int, EV.isi_bool_str, EV.isi_bool_list, EV.isi_bool_tuple, EV.isi_bool_dict, EV.isi_int_bool, EV.isi_int_int, EV.isi_int_str, EV.isi_int_list, EV.isi_int_tuple, EV.isi_int_dict, EV.isi_str_bool, EV.isi_str_int, EV.isi_str_str, EV.isi_str_list, EV.isi_str_tuple, EV.isi_str_dict, EV.isi_list_bool, EV.isi_list_int, EV.isi_list_str, EV.isi_list_list, EV.isi_list_tuple, EV.isi_list_dict, EV.isi_tuple_bool, EV.isi_tuple_int, EV.isi_tuple_str, EV.isi_tuple_list, EV.isi_tuple_tuple, EV.isi_tuple_dict, ])
local macro_rules | `(tactic| walk_at "xg9") => `(tactic| ((try walk_at "xe9"); repeat ((first | walk_at "cj" | walk_at "ca"); try walk_at "xe9")))
set_option hygiene false in
local macro_rules | `(tactic| walk_at "xe10") => `(tactic| simp (maxSteps := 1000000) (disch := omega) only [↓EV.opt_some, ↓EV.wSeq_e, ↓EV.wNext_e, ↓EV.wBreak_e, ↓EV.wCont_e, ↓EV.xk_e, ↓EV.wIf_e, ↓EV.wDrop_e, ↓EV.wRet_e, ↓EV.wRet0_e, ↓EV.wRetN_e, ↓EV.wAsg_e, ↓EV.wAug_e, ↓EV.wSetI_e, ↓EV.ownL_e, ↓EV.kSetI_e, ↓EV.wFor_e, ↓EV.wRaise_e, ↓EV.wNever_e, ↓EV.turnV_e, ↓EV.lineV_e, ↓EV.wVar_e, ↓EV.wC_e, ↓EV.w2_e, ↓EV.w1_e, ↓EV.wB_e, ↓EV.waNil_e, ↓EV.waCons_e, ↓EV.kI_e, ↓EV.kI0_e, ↓EV.kU_e, ↓EV.kAdd_e, ↓EV.kIx_e, ↓EV.ixS_e, ↓EV.kMul_e, ↓EV.kMul_el, ↓EV.kidQ_e, ↓EV.woNone_e, ↓EV.woSome_e, ↓EV.wSl_e, ↓EV.kSl_e, ↓EV.kLen_e, ↓EV.kSum_e, ↓EV.kAll_e, ↓EV.kAny_e, ↓EV.kSorted_e, ↓EV.kMin2_e, ↓EV.kMax2_e, ↓EV.kAbs_e, ↓EV.kInt_i, ↓EV.kInt_b, ↓EV.kList_e, ↓EV.wNot_e, ↓EV.wAnd_e, ↓EV.wOr_e, ↓EV.wtE_e, ↓EV.wtT_e, ↓EV.wtAnd_e, ↓EV.wtOr_e, ↓EV.wtNot_e, ↓EV.wtYes_e, ↓EV.wIfE_e, ↓EV.wIsN_e, ↓EV.wLst_e, ↓EV.wTup_e, ↓EV.kEq_e, ↓EV.kIn_e, ↓EV.retQ_e, ↓EV.ownQ_e, ↓EV.wM_e, ↓EV.wM0_e, ↓EV.kAppend_e, ↓EV.kRemove_e, ↓EV.kExtend_e, ↓EV.kPop_e, ↓EV.kPopAt_e, ↓EV.kReverse_e, ↓EV.kInsert_e, ↓EV.kIsi_e, ↓EV.wCall_e, ↓EV.wCallK_e, ↓EV.wiList_e, ↓EV.wiRng1_e, ↓EV.wiRng2_e, ↓EV.wiEnum_e, ↓EV.wiZip_e, ↓EV.wLc_e, ↓EV.wRgL1_e, ↓EV.wRgL2_e, ↓EV.wFg_e, ↓EV.kLtT_e, ↓EV.kGtT_e, ↓EV.kLeT_e, ↓EV.kIsBl_e, ↓EV.kNotBl_e, ↓EV.kMax_e, ↓EV.kMin_e, ↓EV.wDIn_e, ↓EV.wDGet_e, ↓EV.wDNew_e, ↓EV.wDPut_e, ↓EV.kDPut_e, ↓EV.kSortD_e, ↓EV.kSortDR_e, ↓EV.wIsiT_e, ↓EV.wiZipT_e, ↓EV.zipQ_t, ↓EV.zipQ_l, ↓EV.wTry_e, ↓EV.wErrV_e, ↓EV.wMaxD_e, ↓EV.kIndex_e, ↓EV.wFrz_e, ↓EV.wMov_e, ↓EV.wKeep_e, ↓EV.wiTup_e, ↓EV.wAugC_e, ↓EV.optC_some, ↓EV.brC_t, ↓EV.brC_f, ↓EV.brC_not, EV.valA', EV.tupF', EV.exO_s, EV.exO_n, EV.errOf_nil, EV.errOf_cons, EV.errS, EV.errT, EV.adrA, EV.exE, EV.offE, EV.tupI, EV.bolA, EV.keyA, EV.dicK, EV.dicO, EV.inK_int, EV.all_pT, EV.flatL_pT, EV.fz_pT', EV.flat_pT', EV.tupF, EV.zipV, EV.zipI_map, EV.zipI_self, EV.zipI_len, EV.sortT_int, EV.sortT_pT, EV.fzL_Li, EV.fzL_Ln, EV.fzL_Le, EV.fg1_n, EV.fg1_t, EV.fg1_al, EV.fg1_o, EV.fgE_nil, EV.fgE_nil2, EV.fgE_t, EV.fgE_f, EV.all_int, EV.scrT, EV.onTop_nil, EV.onTop_cons, EV.filter_tt, EV.flatL_Ln, EV.flatL_Li, EV.flatL_Le, EV.flat_int, EV.flat_bl, EV.flat_non, EV.flat_str, EV.flat_L, EV.flat_tup, EV.flat_tupO, EV.flatL_nil, EV.flatL_cons, EV.flatL_int, EV.evE_e, EV.tN, EV.tE, EV.getC, EV.fzL_tN, EV.fzL_tE, EV.all_tN, EV.all_tE, EV.flatL_tN, EV.flatL_tE, EV.seqN, EV.remN, EV.addV, EV.addQ, EV.ixQ, EV.seqV, EV.kidV, EV.slQ, EV.lenW, EV.lenQ, EV.sqV, EV.blA, EV.walkV, EV.rngA1, EV.rngA2, EV.ownV, EV.varA, EV.argT, EV.look, EV.sub, EV.tree, EV.T.at, EV.T.put, EV.isF_non, EV.isF_bl, EV.isF_int, EV.isF_str, EV.isF_ty, EV.isF_adr, EV.isF_nd, EV.isF_pT, EV.intA, EV.bind1, EV.wgName, EV.wgNil, EV.wgCons, EV.wgTup, EV.explode, EV.partA, EV.kilr, EV.kil_nil, EV.kil_cons, EV.kil_app, EV.kil1_n, EV.kil1_t, EV.kil1_al, EV.kil1_o, EV.take1, EV.takeL, EV.tk, EV.startE, EV.pinP, EV.bodyE, EV.outsE, EV.ownE, EV.plA, EV.putE, EV.putK, EV.L, EV.below, EV.fz, EV.fzL, EV.truA, EV.isNon, EV.lsK, EV.lqK, EV.seqO, EV.intsK, EV.blsK, EV.tInt, EV.tBl, EV.pin, EV.srcA, EV.takeM, EV.readR, EV.putBack, EV.isNo, EV.noAl_nil, EV.noAl_cons, EV.noAl1_n, EV.noAl1_t, EV.noAl1_al, EV.noAl1_o, EV.reAl_nil, EV.reAl_nil2, EV.reAl_cons, EV.reAl1_t, EV.reAl1_n, EV.reAl1_o, EV.reAl1_al, EV.reAl1_xt, EV.flatO, EV.pickA, EV.eqT_int, EV.eqT_bl, EV.eqT_nonI, EV.eqT_Inon, EV.eqT_non, EV.eqT_lst, EV.eqT_tup, EV.eqT_lt, EV.eqT_tl, EV.eqTs_int, EV.eqTs_bl, EV.eqTs_pT, EV.eqT_pT, EV.eqTs_nilR, EV.eqTs_nilL, EV.eqTs_cons, EV.anyI, EV.seqI, EV.seqB, EV.cut_map, EV.cut_none, EV.fzL_int, EV.fzL_pT, EV.fz_pT, EV.setI, EV.appI, EV.snocI, EV.itLen, EV.itemA, EV.okI, EV.wpe, EV.isL, EV.tyN, EV.lcPut, EV.xk, EV.ixN_0, EV.ixN_1, EV.ixN_2, EV.ixN_3, EV.ixN_4, EV.ixN_m1, EV.ixN_nat, EV.ixN_p, List.getElem_cons_zero, List.getElem_cons_succ, Int.toNat_zero, Int.toNat_one, Int.reduceToNat, Std.le_refl, Int.cast_ofNat_Int, Int.neg_nonneg, Int.neg_le_neg_iff, Int.natCast_nonneg, Int.toNat_natCast, Int.zero_add, Int.reduceLE, Int.reduceLT, Int.reduceNeg, Int.reduceAdd, Int.reduceSub, Int.reduceMul, Int.cast_ofNat_Int, Int.ofNat_eq_natCast, Int.reduceOfNat, List.map_cons, List.map_nil, List.isEmpty_nil, List.isEmpty_cons, Nat.add_sub_cancel, List.replicate, List.cons_append, List.nil_append, List.getElem?_cons_zero, List.getElem?_cons_succ, List.getElem?_nil, List.length_cons, List.length_nil, List.length_append, List.length_map, List.length_reverse, List.set_cons_zero, List.set_cons_succ, List.take_succ_cons, List.take_zero, List.take_nil, List.all_cons, List.all_nil, List.zipWith_cons_cons, List.zipWith_nil_left, List.zipWith_nil_right, List.filterMap_cons, List.filterMap_nil, List.foldl_cons, List.foldl_nil, List.reverse_cons, Option.none_or, Option.some_or, Option.or_none, Option.map_some, Option.map_none, Option.bind_some, Option.bind_none, Option.some.injEq, if_true, if_false, Bool.false_eq_true, Bool.not_true, Bool.not_false, Nat.zero_add, Nat.add_zero, Nat.reduceAdd, Nat.reduceSub, Nat.reduceBEq, Nat.reduceLeDiff, Nat.reduceLT, Nat.reduceEqDiff, reduceIte, beq_self_eq_true, Bool.or_false, Bool.or_true, Bool.true_or, Bool.false_or, Bool.or_self, Bool.and_true, Bool.and_false, Bool.true_and, Bool.false_and, Bool.and_self, or_true, true_or, or_false, false_or, or_self, and_true, true_and, and_self, List.isPrefixOf, Int.reduceNeg, decide_true, decide_false, bne_self_eq_false, reduceCtorEq, ne_eq, not_false_eq_true, not_true_eq_false, Nat.ble_eq, forall_eq, forall_eq_or_imp, List.mem_cons, List.mem_nil_iff, false_imp_iff, imp_true_iff, List.not_mem_nil, EV.isi_NoneType_bool, EV.isi_NoneType_int, EV.isi_NoneType_str, EV.isi_NoneType_list, EV.isi_NoneType_tuple, EV.isi_NoneType_dict, EV.isi_bool_bool, EV.isi_bool_int, EV.isi_bool_str, EV.isi_bool_list, EV.isi_bool_tuple, EV.isi_bool_dict, EV.isi_int_bool, EV.isi_int_int, EV.isi_int_str, EV.isi_int_list, EV.isi_int_tuple, EV.isi_int_dict, EV.isi_str_bool, EV.isi_str_int, EV.isi_str_str, EV.isi_str_list, EV.isi_str_tuple, EV.isi_str_dict, EV.isi_list_bool, EV.isi_list_int, EV.isi_list_str, EV.isi_list_list, EV.isi_list_tuple, EV.isi_list_dict, EV.isi_tuple_bool, EV.isi_tuple_int, EV.isi_tuple_str, EV.isi_tuple_list, EV.isi_tuple_tuple, EV.isi_tuple_dict, hg, tN])
local macro_rules | `(tactic| walk_at "xg10") => `(tactic| ((try walk_at "xe10"); repeat ((first | walk_at "cj" | walk_at "ca"); try walk_at "xe10")))
set_option hygiene false in
local macro_rules | `(tactic| walk_at "xe11") => `(tactic| simp (maxSteps := 1000000) (disch := omega) only [↓EV.opt_some, ↓EV.wSeq_e, ↓EV.wNext_e, ↓EV.wBreak_e, ↓EV.wCont_e, ↓EV.xk_e, ↓EV.wIf_e, ↓EV.wDrop_e, ↓EV.wRet_e, ↓EV.wRet0_e, ↓EV.wRetN_e, ↓EV.wAsg_e, ↓EV.wAug_e, ↓EV.wSetI_e, ↓EV.ownL_e, ↓EV.kSetI_e, ↓EV.wFor_e, ↓EV.wRaise_e, ↓EV.wNever_e, ↓EV.turnV_e, ↓EV.lineV_e, ↓EV.wVar_e, ↓EV.wC_e, ↓EV.w2_e, ↓EV.w1_e, ↓EV.wB_e, ↓EV.waNil_e, ↓EV.waCons_e, ↓EV.kI_e, ↓EV.kI0_e, ↓EV.kU_e, ↓EV.kAdd_e, ↓EV.kIx_e, ↓EV.ixS_e, ↓EV.kMul_e, ↓EV.kMul_el, ↓EV.kidQ_e, ↓EV.woNone_e, ↓EV.woSome_e, ↓EV.wSl_e, ↓EV.kSl_e, ↓EV.kLen_e, ↓EV.kSum_e, ↓EV.kAll_e, ↓EV.kAny_e, ↓EV.kSorted_e, ↓EV.kMin2_e, ↓EV.kMax2_e, ↓EV.kAbs_e, ↓EV.kInt_i, ↓EV.kInt_b, ↓EV.kList_e, ↓EV.wNot_e, ↓EV.wAnd_e, ↓EV.wOr_e, ↓EV.wtE_e, ↓EV.wtT_e, ↓EV.wtAnd_e, ↓EV.wtOr_e, ↓EV.wtNot_e, ↓EV.wtYes_e, ↓EV.wIfE_e, ↓EV.wIsN_e, ↓EV.wLst_e, ↓EV.wTup_e, ↓EV.kEq_e, ↓EV.kIn_e, ↓EV.retQ_e, ↓EV.ownQ_e, ↓EV.wM_e, ↓EV.wM0_e, ↓EV.kAppend_e, ↓EV.kRemove_e, ↓EV.kExtend_e, ↓EV.kPop_e, ↓EV.kPopAt_e, ↓EV.kReverse_e, ↓EV.kInsert_e, ↓EV.kIsi_e, ↓EV.wCall_e, ↓EV.wCallK_e, ↓EV.wiList_e, ↓EV.wiRng1_e, ↓EV.wiRng2_e, ↓EV.wiEnum_e, ↓EV.wiZip_e, ↓EV.wLc_e, ↓EV.wRgL1_e, ↓EV.wRgL2_e, ↓EV.wFg_e, ↓EV.kLtT_e, ↓EV.kGtT_e, ↓EV.kLeT_e, ↓EV.kIsBl_e, ↓EV.kNotBl_e, ↓EV.kMax_e, ↓EV.kMin_e, ↓EV.wDIn_e, ↓EV.wDGet_e, ↓EV.wDNew_e, ↓EV.wDPut_e, ↓EV.kDPut_e, ↓EV.kSortD_e, ↓EV.kSortDR_e, ↓EV.wIsiT_e, ↓EV.wiZipT_e, ↓EV.zipQ_t, ↓EV.zipQ_l, ↓EV.wTry_e, ↓EV.wErrV_e, ↓EV.wMaxD_e, ↓EV.kIndex_e, ↓EV.wFrz_e, ↓EV.wMov_e, ↓EV.wKeep_e, ↓EV.wiTup_e, ↓EV.wAugC_e, ↓EV.optC_some, ↓EV.brC_t, ↓EV.brC_f, ↓EV.brC_not, EV.valA', EV.tupF', EV.exO_s, EV.exO_n, EV.errOf_nil, EV.errOf_cons, EV.errS, EV.errT, EV.adrA, EV.exE, EV.offE, EV.tupI, EV.bolA, EV.keyA, EV.dicK, EV.dicO, EV.inK_int, EV.all_pT, EV.flatL_pT, EV.fz_pT', EV.flat_pT', EV.tupF, EV.zipV, EV.zipI_map, EV.zipI_self, EV.zipI_len, EV.sortT_int, EV.sortT_pT, EV.fzL_Li, EV.fzL_Ln, EV.fzL_Le, EV.fg1_n, EV.fg1_t, EV.fg1_al, EV.fg1_o, EV.fgE_nil, EV.fgE_nil2, EV.fgE_t, EV.fgE_f, EV.all_int, EV.scrT, EV.onTop_nil, EV.onTop_cons, EV.filter_tt, EV.flatL_Ln, EV.flatL_Li, EV.flatL_Le, EV.flat_int, EV.flat_bl, EV.flat_non, EV.flat_str, EV.flat_L, EV.flat_tup, EV.flat_tupO, EV.flatL_nil, EV.flatL_cons, EV.flatL_int, EV.evE_e, EV.tN, EV.tE, EV.getC, EV.fzL_tN, EV.fzL_tE, EV.all_tN, EV.all_tE, EV.flatL_tN, EV.flatL_tE, EV.seqN, EV.remN, EV.addV, EV.addQ, EV.ixQ, EV.seqV, EV.kidV, EV.slQ, EV.lenW, EV.lenQ, EV.sqV, EV.blA, EV.walkV, EV.rngA1, EV.rngA2, EV.ownV, EV.varA, EV.argT, EV.look, EV.sub, EV.tree, EV.T.at, EV.T.put, EV.isF_non, EV.isF_bl, EV.isF_int, EV.isF_str, EV.isF_ty, EV.isF_adr, EV.isF_nd, EV.isF_pT, EV.intA, EV.bind1, EV.wgName, EV.wgNil, EV.wgCons, EV.wgTup, EV.explode, EV.partA, EV.kilr, EV.kil_nil, EV.kil_cons, EV.kil_app, EV.kil1_n, EV.kil1_t, EV.kil1_al, EV.kil1_o, EV.take1, EV.takeL, EV.tk, EV.startE, EV.pinP, EV.bodyE, EV.outsE, EV.ownE, EV.plA, EV.putE, EV.putK, EV.L, EV.below, EV.fz, EV.fzL, EV.truA, EV.isNon, EV.lsK, EV.lqK, EV.seqO, EV.intsK, EV.blsK, EV.tInt, EV.tBl, EV.pin, EV.srcA, EV.takeM, EV.readR, EV.putBack, EV.isNo, EV.noAl_nil, EV.noAl_cons, EV.noAl1_n, EV.noAl1_t, EV.noAl1_al, EV.noAl1_o, EV.reAl_nil, EV.reAl_nil2, EV.reAl_cons, EV.reAl1_t, EV.reAl1_n, EV.reAl1_o, EV.reAl1_al, EV.reAl1_xt, EV.flatO, EV.pickA, EV.eqT_int, EV.eqT_bl, EV.eqT_nonI, EV.eqT_Inon, EV.eqT_non, EV.eqT_lst, EV.eqT_tup, EV.eqT_lt, EV.eqT_tl, EV.eqTs_int, EV.eqTs_bl, EV.eqTs_pT, EV.eqT_pT, EV.eqTs_nilR, EV.eqTs_nilL, EV.eqTs_cons, EV.anyI, EV.seqI, EV.seqB, EV.cut_map, EV.cut_none, EV.fzL_int, EV.fzL_pT, EV.fz_pT, EV.setI, EV.appI, EV.snocI, EV.itLen, EV.itemA, EV.okI, EV.wpe, EV.isL, EV.tyN, EV.lcPut, EV.xk, EV.ixN_0, EV.ixN_1, EV.ixN_2, EV.ixN_3, EV.ixN_4, EV.ixN_m1, EV.ixN_nat, EV.ixN_p, List.getElem_cons_zero, List.getElem_cons_succ, Int.toNat_zero, Int.toNat_one, Int.reduceToNat, Std.le_refl, Int.cast_ofNat_Int, Int.neg_nonneg, Int.neg_le_neg_iff, Int.natCast_nonneg, Int.toNat_natCast, Int.zero_add, Int.reduceLE, Int.reduceLT, Int.reduceNeg, Int.reduceAdd, Int.reduceSub, Int.reduceMul, Int.cast_ofNat_Int, Int.ofNat_eq_natCast, Int.reduceOfNat, List.map_cons, List.map_nil, List.isEmpty_nil, List.isEmpty_cons, Nat.add_sub_cancel, List.replicate, List.cons_append, List.nil_append, List.getElem?_cons_zero, List.getElem?_cons_succ, List.getElem?_nil, List.length_cons, List.length_nil, List.length_append, List.length_map, List.length_reverse, List.set_cons_zero, List.set_cons_succ, List.take_succ_cons, List.take_zero, List.take_nil, List.all_cons, List.all_nil, List.zipWith_cons_cons, List.zipWith_nil_left, List.zipWith_nil_right, List.filterMap_cons, List.filterMap_nil, List.foldl_cons, List.foldl_nil, List.reverse_cons, Option.none_or, Option.some_or, Option.or_none, Option.map_some, Option.map_none, Option.bind_some, Option.bind_none, Option.some.injEq, if_true, if_false, Bool.false_eq_true, Bool.not_true, Bool.not_false, Nat.zero_add, Nat.add_zero, Nat.reduceAdd, Nat.reduceSub, Nat.reduceBEq, Nat.reduceLeDiff, Nat.reduceLT, Nat.reduceEqDiff, reduceIte, beq_self_eq_true, Bool.or_false, Bool.or_true, Bool.true_or, Bool.false_or, Bool.or_self, Bool.and_true, Bool.and_false, Bool.true_and, Bool.false_and, Bool.and_self, or_true, true_or, or_false, false_or, or_self, and_true, true_and, and_self, List.isPrefixOf, Int.reduceNeg, decide_true, decide_false, bne_self_eq_false, reduceCtorEq, ne_eq, not_false_eq_true, not_true_eq_false, Nat.ble_eq, forall_eq, forall_eq_or_imp, List.mem_cons, List.mem_nil_iff, false_imp_iff, imp_true_iff, List.not_mem_nil, EV.isi_NoneType_bool, EV.isi_NoneType_int, EV.isi_NoneType_str, EV.isi_NoneType_list, EV.isi_NoneType_tuple, EV.isi_NoneType_dict, EV.isi_bool_bool, EV.isi_bool_int, EV.isi_bool_str, EV.isi_bool_list, EV.isi_bool_tuple, EV.isi_bool_dict, EV.isi_int_bool, EV.isi_int_int, EV.isi_int_str, EV.isi_int_list, EV.isi_int_tuple, EV.isi_int_dict, EV.isi_str_bool, EV.isi_str_int, EV.isi_str_str, EV.isi_str_list, EV.isi_str_tuple, EV.isi_str_dict, EV.isi_list_bool, EV.isi_list_int, EV.isi_list_str, EV.isi_list_list, EV.isi_list_tuple, EV.isi_list_dict, EV.isi_tuple_bool, EV.isi_tuple_int, EV.isi_tuple_str, EV.isi_tuple_list, EV.isi_tuple_tuple, EV.isi_tuple_dict, e2])
local macro_rules | `(tactic| walk_at "xg11") => `(tactic| ((try walk_at "xe11"); repeat ((first | walk_at "cj" | walk_at "ca"); try walk_at "xe11")))
set_option hygiene false in
local macro_rules | `(tactic| walk_at "xe12") => `(tactic| simp (maxSteps := 1000000) (disch := omega) only [↓EV.opt_some, ↓EV.wSeq_e, ↓EV.wNext_e, ↓EV.wBreak_e, ↓EV.wCont_e, ↓EV.xk_e, ↓EV.wIf_e, ↓EV.wDrop_e, ↓EV.wRet_e, ↓EV.wRet0_e, ↓EV.wRetN_e, ↓EV.wAsg_e, ↓EV.wAug_e, ↓EV.wSetI_e, ↓EV.ownL_e, ↓EV.kSetI_e, ↓EV.wFor_e, ↓EV.wRaise_e, ↓EV.wNever_e, ↓EV.turnV_e, ↓EV.lineV_e, ↓EV.wVar_e, ↓EV.wC_e, ↓EV.w2_e, ↓EV.w1_e, ↓EV.wB_e, ↓EV.waNil_e, ↓EV.waCons_e, ↓EV.kI_e, ↓EV.kI0_e, ↓EV.kU_e, ↓EV.kAdd_e, ↓EV.kIx_e, ↓EV.ixS_e, ↓EV.kMul_e, ↓EV.kMul_el, ↓EV.kidQ_e, ↓EV.woNone_e, ↓EV.woSome_e, ↓EV.wSl_e, ↓EV.kSl_e, ↓EV.kLen_e, ↓EV.kSum_e, ↓EV.kAll_e, ↓EV.kAny_e, ↓EV.kSorted_e, ↓EV.kMin2_e, ↓EV.kMax2_e, ↓EV.kAbs_e, ↓EV.kInt_i, ↓EV.kInt_b, ↓EV.kList_e, ↓EV.wNot_e, ↓EV.wAnd_e, ↓EV.wOr_e, ↓EV.wtE_e, ↓EV.wtT_e, ↓EV.wtAnd_e, ↓EV.wtOr_e, ↓EV.wtNot_e, ↓EV.wtYes_e, ↓EV.wIfE_e, ↓EV.wIsN_e, ↓EV.wLst_e, ↓EV.wTup_e, ↓EV.kEq_e, ↓EV.kIn_e, ↓EV.retQ_e, ↓EV.ownQ_e, ↓EV.wM_e, ↓EV.wM0_e, ↓EV.kAppend_e, ↓EV.kRemove_e, ↓EV.kExtend_e, ↓EV.kPop_e, ↓EV.kPopAt_e, ↓EV.kReverse_e, ↓EV.kInsert_e, ↓EV.kIsi_e, ↓EV.wCall_e, ↓EV.wCallK_e, ↓EV.wiList_e, ↓EV.wiRng1_e, ↓EV.wiRng2_e, ↓EV.wiEnum_e, ↓EV.wiZip_e, ↓EV.wLc_e, ↓EV.wRgL1_e, ↓EV.wRgL2_e, ↓EV.wFg_e, ↓EV.kLtT_e, ↓EV.kGtT_e, ↓EV.kLeT_e, ↓EV.kIsBl_e, ↓EV.kNotBl_e, ↓EV.kMax_e, ↓EV.kMin_e, ↓EV.wDIn_e, ↓EV.wDGet_e, ↓EV.wDNew_e, ↓EV.wDPut_e, ↓EV.kDPut_e, ↓EV.kSortD_e, ↓EV.kSortDR_e, ↓EV.wIsiT_e, ↓EV.wiZipT_e, ↓EV.zipQ_t, ↓EV.zipQ_l, ↓EV.wTry_e, ↓EV.wErrV_e, ↓EV.wMaxD_e, ↓EV.kIndex_e, ↓EV.wFrz_e, ↓EV.wMov_e, ↓EV.wKeep_e, ↓EV.wiTup_e, ↓EV.wAugC_e, ↓EV.optC_some, ↓EV.brC_t, ↓EV.brC_f, ↓EV.brC_not, EV.valA', EV.tupF', EV.exO_s, EV.exO_n, EV.errOf_nil, EV.errOf_cons, EV.errS, EV.errT, EV.adrA, EV.exE, EV.offE, EV.tupI, EV.bolA, EV.keyA, EV.dicK, EV.dicO, EV.inK_int, EV.all_pT, EV.flatL_pT, EV.fz_pT', EV.flat_pT', EV.tupF, EV.zipV, EV.zipI_map, EV.zipI_self, EV.zipI_len, EV.sortT_int, EV.sortT_pT, EV.fzL_Li, EV.fzL_Ln, EV.fzL_Le, EV.fg1_n, EV.fg1_t, EV.fg1_al, EV.fg1_o, EV.fgE_nil, EV.fgE_nil2, EV.fgE_t, EV.fgE_f, EV.all_int, EV.scrT, EV.onTop_nil, EV.onTop_cons, EV.filter_tt, EV.flatL_Ln, EV.flatL_Li, EV.flatL_Le, EV.flat_int, EV.flat_bl, EV.flat_non, EV.flat_str, EV.flat_L, EV.flat_tup, EV.flat_tupO, EV.flatL_nil, EV.flatL_cons, EV.flatL_int, EV.evE_e, EV.tN, EV.tE, EV.getC, EV.fzL_tN, EV.fzL_tE, EV.all_tN, EV.all_tE, EV.flatL_tN, EV.flatL_tE, EV.seqN, EV.remN, EV.addV, EV.addQ, EV.ixQ, EV.seqV, EV.kidV, EV.slQ, EV.lenW, EV.lenQ, EV.sqV, EV.blA, EV.walkV, EV.rngA1, EV.rngA2, EV.ownV, EV.varA, EV.argT, EV.look, EV.sub, EV.tree, EV.T.at, EV.T.put, EV.isF_non, EV.isF_bl, EV.isF_int, EV.isF_str, EV.isF_ty, EV.isF_adr, EV.isF_nd, EV.isF_pT, EV.intA, EV.bind1, EV.wgName, EV.wgNil, EV.wgCons, EV.wgTup, EV.explode, EV.partA, EV.kilr, EV.kil_nil, EV.kil_cons, EV.kil_app, EV.kil1_n, EV.kil1_t, EV.kil1_al, EV.kil1_o, EV.take1, EV.takeL, EV.tk, EV.startE, EV.pinP, EV.bodyE, EV.outsE, EV.ownE, EV.plA, EV.putE, EV.putK, EV.L, EV.below, EV.fz, EV.fzL, EV.truA, EV.isNon, EV.lsK, EV.lqK, EV.seqO, EV.intsK, EV.blsK, EV.tInt, EV.tBl, EV.pin, EV.srcA, EV.takeM, EV.readR, EV.putBack, EV.isNo, EV.noAl_nil, EV.noAl_cons, EV.noAl1_n, EV.noAl1_t, EV.noAl1_al, EV.noAl1_o, EV.reAl_nil, EV.reAl_nil2, EV.reAl_cons, EV.reAl1_t, EV.reAl1_n, EV.reAl1_o, EV.reAl1_al, EV.reAl1_xt, EV.flatO, EV.pickA, EV.eqT_int, EV.eqT_bl, EV.eqT_nonI, EV.eqT_Inon, EV.eqT_non, EV.eqT_lst, EV.eqT_tup, EV.eqT_lt, EV.eqT_tl, EV.eqTs_int, EV.eqTs_bl, EV.eqTs_pT, EV.eqT_pT, EV.eqTs_nilR, EV.eqTs_nilL, EV.eqTs_cons, EV.anyI, EV.seqI, EV.seqB, EV.cut_map, EV.cut_none, EV.fzL_int, EV.fzL_pT, EV.fz_pT, EV.setI, EV.appI, EV.snocI, EV.itLen, EV.itemA, EV.okI, EV.wpe, EV.isL, EV.tyN, EV.lcPut, EV.xk, EV.ixN_0, EV.ixN_1, EV.ixN_2, EV.ixN_3, EV.ixN_4, EV.ixN_m1, EV.ixN_nat, EV.ixN_p, List.getElem_cons_zero, List.getElem_cons_succ, Int.toNat_zero, Int.toNat_one, Int.reduceToNat, Std.le_refl, Int.cast_ofNat_Int, Int.neg_nonneg, Int.neg_le_neg_iff, Int.natCast_nonneg, Int.toNat_natCast, Int.zero_add, Int.reduceLE, Int.reduceLT, Int.reduceNeg, Int.reduceAdd, Int.reduceSub, Int.reduceMul, Int.cast_ofNat_Int, Int.ofNat_eq_natCast, Int.reduceOfNat, List.map_cons, List.map_nil, List.isEmpty_nil, List.isEmpty_cons, Nat.add_sub_cancel, List.replicate, List.cons_append, List.nil_append, List.getElem?_cons_zero, List.getElem?_cons_succ, List.getElem?_nil, List.length_cons, List.length_nil, List.length_append, List.length_map, List.length_reverse, List.set_cons_zero, List.set_cons_succ, List.take_succ_cons, List.take_zero, List.take_nil, List.all_cons, List.all_nil, List.zipWith_cons_cons, List.zipWith_nil_left, List.zipWith_nil_right, List.filterMap_cons, List.filterMap_nil, List.foldl_cons, List.foldl_nil, List.reverse_cons, Option.none_or, Option.some_or, Option.or_none, Option.map_some, Option.map_none, Option.bind_some, Option.bind_none, Option.some.injEq, if_true, if_false, Bool.false_eq_true, Bool.not_true, Bool.not_false, Nat.zero_add, Nat.add_zero, Nat.reduceAdd, Nat.reduceSub, Nat.reduceBEq, Nat.reduceLeDiff, Nat.reduceLT, Nat.reduceEqDiff, reduceIte, beq_self_eq_true, Bool.or_false, Bool.or_true, Bool.true_or, Bool.false_or, Bool.or_self, Bool.and_true, Bool.and_false, Bool.true_and, Bool.false_and, Bool.and_self, or_true, true_or, or_false, false_or, or_self, and_true, true_and, and_self, List.isPrefixOf, Int.reduceNeg, decide_true, decide_false, bne_self_eq_false, reduceCtorEq, ne_eq, not_false_eq_true, not_true_eq_false, Nat.ble_eq, forall_eq, forall_eq_or_imp, List.mem_cons, List.mem_nil_iff, false_imp_iff, imp_true_iff, List.not_mem_nil, EV.isi_NoneType_bool, EV.isi_NoneType_int, EV.isi_NoneType_str, EV.isi_NoneType_list, EV.isi_NoneType_tuple, EV.isi_NoneType_dict, EV.isi_bool_bool, EV.isi_bool_int, EV.isi_bool_str, EV.isi_bool_list, EV.isi_bool_tuple, EV.isi_bool_dict, EV.isi_int_bool, EV.isi_int_int, EV.isi_int_str, EV.isi_int_list, EV.isi_int_tuple, EV.isi_int_dict, EV.isi_str_bool, EV.isi_str_int, EV.isi_str_str, EV.isi_str_list, EV.isi_str_tuple, EV.isi_str_dict, EV.isi_list_bool, EV.isi_list_int, EV.isi_list_str, EV.isi_list_list, EV.isi_list_tuple, EV.isi_list_dict, EV.isi_tuple_bool, EV.isi_tuple_int, EV.isi_tuple_str, EV.isi_tuple_list, EV.isi_tuple_tuple, EV.isi_tuple_dict, fzL_Ln])
local macro_rules | `(tactic| walk_at "xg12") => `(tactic| ((try walk_at "xe12"); repeat ((first | walk_at "cj" | walk_at "ca"); try walk_at "xe12")))
section
variable {P : Program} {w : World} {K : PySem.W.Frag} {mg : Str → Option Value} {base : Heap}
/-! depths of merges -/
def DepOk (n w d : Nat) : Prop := n ≤ w ^ d ∧ (d = 0 ∨ w ^ (d - 1) < n)
theorem DepOk.le {n w d D : Nat} (hw : 2 ≤ w) (h : DepOk n w d) (g : n ≤ w ^ D) : d ≤ D := by
  rcases h.2 with z | z
  · omega
  · have := (Nat.pow_lt_pow_iff_right (show 1 < w by omega)).mp (Nat.lt_of_lt_of_le z g)
    omega
theorem DepOk.one {n w a b : Nat} (hw : 2 ≤ w) (h : DepOk n w a) (g : DepOk n w b) : a = b := Nat.le_antisymm (h.le hw g.1) (g.le hw h.1)
def mx (l : List Nat) : Nat := l.foldr max 0
theorem mx_ge : ∀ {l : List Nat} {x : Nat}, x ∈ l → x ≤ mx l
  | y :: r, x, h => by
    have e : mx (y :: r) = max y (mx r) := rfl
    rw [e]
    rcases List.mem_cons.mp h with z | z
    · omega
    · have := mx_ge z; omega
theorem mx_mem : ∀ {l : List Nat}, mx l = 0 ∨ mx l ∈ l
  | [] => .inl rfl
  | y :: r => by
    have e : mx (y :: r) = max y (mx r) := rfl
    rw [e]
    by_cases h : y ≤ mx r
    · rw [Nat.max_eq_right h]
      rcases mx_mem (l := r) with z | z
      · exact .inl z
      · exact .inr (List.mem_cons_of_mem _ z)
    · rw [Nat.max_eq_left (by omega)]
      exact .inr List.mem_cons_self
def dAt (dv : List Nat) (x : Nat) : Nat := dv.getD x 0
def deepV (k : Nat) (ms : List (List Nat)) : List Nat := ms.foldl (fun dv m => dv ++ [1 + mx (m.map (dAt dv))]) (List.replicate k 0)
theorem deepV_snoc (k : Nat) (ms : List (List Nat)) (m : List Nat) : deepV k (ms ++ [m]) = deepV k ms ++ [1 + mx (m.map (dAt (deepV k ms)))] := by
  simp [deepV, List.foldl_append]
theorem deep_len : ∀ (ms : List (List Nat)) (dv : List Nat), (ms.foldl (fun dv m => dv ++ [1 + mx (m.map (dAt dv))]) dv).length = dv.length + ms.length
  | [], dv => rfl
  | m :: r, dv => by
    rw [List.foldl_cons, deep_len r, List.length_append, List.length_singleton, List.length_cons]
    omega
theorem deepV_len (k : Nat) (ms : List (List Nat)) : (deepV k ms).length = k + ms.length := by
  unfold deepV
  rw [deep_len, List.length_replicate]
theorem dAt_left {dv l : List Nat} {x : Nat} (h : x < dv.length) : dAt (dv ++ l) x = dAt dv x := by
  simp [dAt, List.getD_eq_getElem?_getD, List.getElem?_append_left h]
theorem dAt_top {dv : List Nat} {y : Nat} : dAt (dv ++ [y]) dv.length = y := by
  simp [dAt, List.getD_eq_getElem?_getD]
def pot (w : Nat) (dv : List Nat) : List Nat → Nat
  | [] => 0
  | x :: r => w ^ dAt dv x + pot w dv r
theorem pot_app (w : Nat) (dv : List Nat) : ∀ a b : List Nat, pot w dv (a ++ b) = pot w dv a + pot w dv b
  | [], b => by simp [pot]
  | x :: r, b => by rw [List.cons_append, pot, pot, pot_app w dv r b]; omega
theorem pot_erase (w : Nat) (dv : List Nat) : ∀ (xs : List Nat) (i : Nat) (x : Nat), xs[i]? = some x → pot w dv (xs.eraseIdx i) + w ^ dAt dv x = pot w dv xs
  | [], _, _, h => by simp at h
  | y :: r, 0, x, h => by
    simp at h
    subst h
    rw [List.eraseIdx_cons_zero, pot]
    omega
  | y :: r, i + 1, x, h => by
    have := pot_erase w dv r i x (by simpa using h)
    rw [List.eraseIdx_cons_succ, pot, pot]
    omega
theorem pot_mx {w : Nat} (hw : 1 ≤ w) (dv : List Nat) : ∀ (xs : List Nat) (D : Nat), (∀ x ∈ xs, dAt dv x ≤ D) → pot w dv xs ≤ xs.length * w ^ D
  | [], D, _ => by simp [pot]
  | x :: r, D, h => by
    have h1 := pot_mx hw dv r D fun y hy => h y (List.mem_cons_of_mem _ hy)
    have h2 : w ^ dAt dv x ≤ w ^ D := Nat.pow_le_pow_right hw (h x List.mem_cons_self)
    rw [pot, List.length_cons, Nat.add_mul, Nat.one_mul]
    omega
theorem pot_congr {w : Nat} {dv dv' : List Nat} : ∀ {xs : List Nat}, (∀ x ∈ xs, dAt dv x = dAt dv' x) → pot w dv xs = pot w dv' xs
  | [], _ => rfl
  | x :: r, h => by rw [pot, pot, h x List.mem_cons_self, pot_congr fun y hy => h y (List.mem_cons_of_mem _ hy)]
structure MInv (k w i : Nat) (ms : List (List Nat)) (th : List Nat) : Prop where
  len : ms.length = i
  val : ∀ x ∈ th, x < k + i
  mok : ∀ (j : Nat) (m : List Nat), ms[j]? = some m → m ≠ [] ∧ m.length ≤ 100 ∧ ∀ x ∈ m, x < k + j
  pt : k ≤ pot w (deepV k ms) th
theorem minv0 (k w : Nat) : MInv k w 0 [] (List.range k) := by
  refine ⟨rfl, fun x hx => by simpa using hx, fun j m h => by simp at h, ?_⟩
  have h0 : ∀ x ∈ List.range k, dAt (List.replicate k 0) x = dAt [] x := fun x hx => by
    simp only [dAt, List.getD_eq_getElem?_getD, List.getElem?_replicate]
    split <;> rfl
  show k ≤ pot w (List.replicate k 0) (List.range k)
  rw [pot_congr h0]
  have : ∀ xs : List Nat, xs.length ≤ pot w [] xs := fun xs => by
    induction xs with
    | nil => exact Nat.le_refl _
    | cons x r ih =>
      rw [pot, List.length_cons]
      have : dAt [] x = 0 := rfl
      rw [this, Nat.pow_zero]
      omega
  have := this (List.range k)
  rwa [List.length_range] at this
theorem MInv.step {k w i : Nat} {ms : List (List Nat)} {th T th' : List Nat} (hw : 2 ≤ w) (v : MInv k w i ms th) (h1 : T ≠ []) (h2 : T.length ≤ w) (h3 : T.length ≤ 100) (h4 : ∀ x ∈ T, x ∈ th) (h5 : ∀ x ∈ th', x ∈ th) (h6 : pot w (deepV k ms) T + pot w (deepV k ms) th' = pot w (deepV k ms) th) :
    MInv k w (i + 1) (ms ++ [T]) (th' ++ [k + i]) := by
  have hl := deepV_len k ms
  have hm := v.len
  refine ⟨by rw [List.length_append, List.length_singleton, hm], fun x hx => ?_, fun j m h => ?_, ?_⟩
  · rcases List.mem_append.mp hx with z | z
    · have := v.val x (h5 x z); omega
    · rw [List.mem_singleton.mp z]; omega
  · rw [List.getElem?_append] at h
    split at h
    · exact v.mok j m h
    · rename_i hj
      cases e : j - ms.length with
      | zero =>
        rw [e] at h
        simp at h
        subst h
        exact ⟨h1, h3, fun x hx => by have := v.val x (h4 x hx); omega⟩
      | succ n => rw [e] at h; simp at h
  · rw [deepV_snoc, pot_app]
    have e1 : pot w (deepV k ms ++ [1 + mx (T.map (dAt (deepV k ms)))]) th' = pot w (deepV k ms) th' := pot_congr fun x hx => dAt_left (by have := v.val x (h5 x hx); omega)
    have e2 : pot w (deepV k ms ++ [1 + mx (T.map (dAt (deepV k ms)))]) [k + i] = w ^ (1 + mx (T.map (dAt (deepV k ms)))) := by
      rw [pot, pot, show k + i = (deepV k ms).length by omega, dAt_top]
      rfl
    rw [e1, e2]
    have h7 := pot_mx (w := w) (by omega) (deepV k ms) T (mx (T.map (dAt (deepV k ms)))) fun x hx => mx_ge (List.mem_map_of_mem hx)
    have h8 : T.length * w ^ mx (T.map (dAt (deepV k ms))) ≤ w ^ (1 + mx (T.map (dAt (deepV k ms)))) := by
      rw [Nat.add_comm, Nat.pow_succ, Nat.mul_comm]
      exact Nat.mul_le_mul_left _ h2
    have := v.pt
    omega
theorem MInv.deep {k w i : Nat} {ms : List (List Nat)} {th : List Nat} (hw : 2 ≤ w) (v : MInv k w i ms th) (h : th.length ≤ 1) : k ≤ w ^ mx (deepV k ms) := by
  have hp := v.pt
  have hl := deepV_len k ms
  have hm := v.len
  match th, h with
  | [], _ =>
    rw [pot] at hp
    omega
  | [x], _ =>
    have hx := v.val x (by simp)
    rw [pot, pot, Nat.add_zero] at hp
    refine Nat.le_trans hp (Nat.pow_le_pow_right (by omega) (mx_ge ?_))
    have : (deepV k ms)[x]? = some (dAt (deepV k ms) x) := by
      simp [dAt, List.getElem?_eq_getElem (show x < (deepV k ms).length by omega)]
    exact List.mem_of_getElem? this
/-- the division rounded up -/
structure DInv (n w f : Nat) (l : Int) : Prop where
  up : (n : Int) ≤ l * ((w ^ f : Nat) : Int)
  lo : (l - 1) * ((w ^ f : Nat) : Int) < n
  ps : f = 0 ∨ w ^ (f - 1) < n
theorem dinv0 (n w : Nat) : DInv n w 0 n := ⟨by simp, by simp; omega, .inl rfl⟩
theorem DInv.step {n w f : Nat} {l : Int} (hw : 2 ≤ w) (v : DInv n w f l) (h : 1 < l) : DInv n w (f + 1) ((l + w - 1) / w) := by
  have hw0 : (0 : Int) < (w : Int) := by omega
  have hp : (0 : Int) < ((w ^ f : Nat) : Int) := by have := Nat.pow_pos (n := f) (show 0 < w by omega); omega
  have e1 : l ≤ (l + w - 1) / w * w := by
    have h1 := Int.emod_add_mul_ediv (l + w - 1) w
    have h2 := Int.emod_lt_of_pos (l + w - 1) hw0
    rw [Int.mul_comm] at h1
    omega
  have e2 : ((l + w - 1) / w - 1) * w ≤ l - 1 := by
    have h1 := Int.emod_add_mul_ediv (l + w - 1) w
    have h2 := Int.emod_nonneg (l + w - 1) (show (w : Int) ≠ 0 by omega)
    rw [Int.mul_comm] at h1
    rw [Int.sub_mul, Int.one_mul]
    omega
  have ep : ((w ^ (f + 1) : Nat) : Int) = w * ((w ^ f : Nat) : Int) := by
    rw [Nat.pow_succ]
    push_cast
    rw [Int.mul_comm]
  have h1 := v.up
  have h2 := v.lo
  rw [show ((w ^ f : Nat) : Int) = ((w ^ f : Nat) : Int) from rfl] at *
  generalize hq : (l + w - 1) / (w : Int) = q at e1 e2 ⊢
  refine ⟨?_, ?_, .inr ?_⟩
  · rw [ep, ← Int.mul_assoc]
    exact Int.le_trans h1 (Int.mul_le_mul_of_nonneg_right e1 (Int.le_of_lt hp))
  · rw [ep, ← Int.mul_assoc]
    exact Int.lt_of_le_of_lt (Int.mul_le_mul_of_nonneg_right e2 (Int.le_of_lt hp)) h2
  · rw [Nat.add_sub_cancel]
    have h3 : ((w ^ f : Nat) : Int) ≤ (l - 1) * ((w ^ f : Nat) : Int) := by
      have := Int.mul_le_mul_of_nonneg_right (show 1 ≤ l - 1 by omega) (Int.le_of_lt hp)
      rwa [Int.one_mul] at this
    omega
theorem DInv.done {n w f : Nat} {l : Int} (v : DInv n w f l) (h : l ≤ 1) : DepOk n w f := by
  refine ⟨?_, v.ps⟩
  have h1 := v.up
  have h2 := Int.mul_le_mul_of_nonneg_right h (show (0 : Int) ≤ ((w ^ f : Nat) : Int) by omega)
  rw [Int.one_mul] at h2
  omega
theorem DInv.lt {n w f : Nat} {l : Int} (hw : 2 ≤ w) (v : DInv n w f l) (h : 1 < l) (hn : n < 2 ^ 140) : f < 140 := by
  refine Classical.byContradiction fun hf => ?_
  have h2 := v.lo
  have h3 : ((w ^ f : Nat) : Int) ≤ (l - 1) * ((w ^ f : Nat) : Int) := by
    have := Int.mul_le_mul_of_nonneg_right (show 1 ≤ l - 1 by omega) (show (0 : Int) ≤ ((w ^ f : Nat) : Int) by omega)
    rwa [Int.one_mul] at this
  have h4 : 2 ^ 140 ≤ w ^ f := Nat.le_trans (Nat.pow_le_pow_right (by decide) (show 140 ≤ f by omega)) (Nat.pow_le_pow_left hw f)
  omega
theorem DInv.bd {n w f : Nat} {l : Int} (hw : 1 ≤ w) (v : DInv n w f l) : 0 ≤ l ∧ l ≤ (n : Int) + 1 := by
  have hp : (1 : Int) ≤ ((w ^ f : Nat) : Int) := by have := Nat.pow_pos (n := f) (show 0 < w by omega); omega
  have h1 := v.up
  have h2 := v.lo
  generalize ((w ^ f : Nat) : Int) = p at hp h1 h2
  constructor
  · refine Classical.byContradiction fun z => ?_
    have := Int.mul_neg_of_neg_of_pos (show l < 0 by omega) (show 0 < p by omega)
    omega
  · refine Classical.byContradiction fun z => ?_
    have := Int.mul_le_mul_of_nonneg_left hp (show 0 ≤ l - 1 by omega)
    rw [Int.mul_one] at this
    omega


theorem pick2 {a b : Int} {c : Prop} [Decidable c] : [T.int a, T.int b][(if decide c = true then (1 : Int) else 0).toNat]? = some (.int (if c then b else a)) := by
  by_cases h : c <;> simp [h]
theorem pickI {l : List Int} {i : Int} (h0 : 0 ≤ i) (h1 : i < l.length) : ∃ v ∈ l, (l.map T.int)[i.toNat]? = some (.int v) := by
  have h : i.toNat < l.length := by omega
  exact ⟨l[i.toNat], List.getElem_mem h, by simp [h]⟩
theorem bitsB {x : Int} (h : x.natAbs < 2 ^ 8999) : x.natAbs.log2 < 9000 := PySem.Flt.log2_lt_of (by decide) (Nat.lt_trans h (Nat.pow_lt_pow_right (by decide) (by decide)))
theorem bits99 {x : Int} (h : x.natAbs < 2 ^ 300) : x.natAbs.log2 < 9000 := bitsB (Nat.lt_of_lt_of_le h (Nat.pow_le_pow_right (by decide) (by decide)))
theorem mulB {x y : Int} (a b : Nat) (hx : x.natAbs < 2 ^ a) (hy : y.natAbs < 2 ^ b) : (x * y).natAbs < 2 ^ (a + b) := by
  rw [Int.natAbs_mul, Nat.pow_add]
  exact Nat.mul_lt_mul_of_lt_of_le hx (Nat.le_of_lt hy) (Nat.two_pow_pos _)
abbrev Sc (ns : List Int) : T := .nd .scr false (ns.map T.int)
def cellV (ns : List Int) (p : Int) : Int := ns.getD p.toNat 0
def cCellAt : Con' := fun ts Q X => ∃ (ns : List Int) (p : Int), ts = [Sc ns, .int p] ∧ (ns.length ≤ 63 ∧ 0 ≤ p) ∧ Q (.int (cellV ns p)) [Sc ns, .int p]
theorem cCellAt_m  : MonoC (cCellAt) := fun ts Q Q' X X' hq hx ⟨ns, p, e, h, q⟩ => ⟨ns, p, e, h, hq _ _ q⟩
theorem cCellAt_i {ns : List Int} {p : Int}  {Q : T → List T → Prop} {X : Addr → T → List T → Prop} (h : ns.length ≤ 63 ∧ 0 ≤ p) (q : Q (.int (cellV ns p)) [Sc ns, .int p]) : cCellAt [Sc ns, .int p] Q X := ⟨ns, p, rfl, h, q⟩
local macro_rules | `(tactic| walk_at "ca") => `(tactic| first | ((with_reducible refine cCellAt_i ?_ ?_); walk_at "sd"))
theorem ok_law_cell_at (m_len : mg "len" = none)
    (h : Has K mg "_law_cell_at" s_law_cell_at ["script", "place"]) : CalE P w K mg base 1 "_law_cell_at" ["script", "place"] cCellAt := by
  obtain ⟨f, fd, F, g, b⟩ := h
  have nd : N_law_cell_at.Nodup := sc_law_cell_at.nd
  have hm : MonoC cCellAt := cCellAt_m
  suffices hF : FnOk P w K mg base (L2.CX P w) 1 f fd ["script", "place"] (spX K cCellAt) from ⟨⟨f, fd, hF, g, F.kp, b⟩, hm⟩
  refine okF [false, false] 0 _ F sc_law_cell_at rfl rfl ?hts (fun cdv A outer s H E hr tk po => ⟨_, _, (pss_cons (ps_if (pt_cmpR op_lt (pv 1) (pe_callB (kclenX K) (by rfl) m_len (by decide +kernel) (pa_cons (pv 0) pa_nil)) (nomark _)) (pss_one (ps_ret (pe_ix (kix K) (pv 0) (pv 1) (fun _ _ => rfl)))) pss_nil)
      (pss_one (ps_ret pe_int))),
      (ss_seq (ss_if (st_test (se_op p2_bool0 (se_var (i := 1) (by decide)) (se_cb pb_len (sa_cons (se_var (i := 0) (by decide)) sa_nil)))) (ss_ret (se_op p2_ix (se_var (i := 0) (by decide)) (se_var (i := 1) (by decide)))) ss_next)
      (ss_ret se_int)), ?hb⟩)
  case hts => rintro ts Q X ⟨ns, p, rfl, _⟩; rfl
  case hb =>
    rintro ts Q X ⟨ns, p, rfl, h, hq⟩
    walk_at "go"
    refine brC_dec (fun hb => ?_) (fun hb => ?_)
    · have e : (ns.map T.int)[p.toNat]? = some (.int (cellV ns p)) := getC (by omega)
      walk_at "xg0"
      exact hq
    · have e : cellV ns p = 0 := by
        unfold cellV
        rw [List.getD_eq_getElem?_getD, List.getElem?_eq_none (by omega)]
        rfl
      rw [e] at hq
      walk_at "go"
      exact hq
def cSource : Con' := fun ts Q X => ∃ (ns : List Int) (p : Int), ts = [Sc ns, .int p] ∧ (ns.length ≤ 63 ∧ 0 ≤ p ∧ p ≤ 100) ∧ (∀ (a f k : Int), (0 ≤ k ∧ k ≤ 17 * p) → Q (L [.int a, .int f, .int k]) [Sc ns, .int p])
theorem cSource_m  : MonoC (cSource) := fun ts Q Q' X X' hq hx ⟨ns, p, e, h, q⟩ => ⟨ns, p, e, h, fun a f k hh => hq _ _ (q a f k hh)⟩
theorem cSource_i {ns : List Int} {p : Int}  {Q : T → List T → Prop} {X : Addr → T → List T → Prop} (h : ns.length ≤ 63 ∧ 0 ≤ p ∧ p ≤ 100) (q : (∀ (a f k : Int), (0 ≤ k ∧ k ≤ 17 * p) → Q (L [.int a, .int f, .int k]) [Sc ns, .int p])) : cSource [Sc ns, .int p] Q X := ⟨ns, p, rfl, h, q⟩
local macro_rules | `(tactic| walk_at "ca") => `(tactic| first | ((with_reducible refine cCellAt_i ?_ ?_); walk_at "sd") | ((with_reducible refine cSource_i ?_ ?_); walk_at "sd"; intro _ _ _ _))
theorem ok_law_source (C_law_cell_at : CalE P w K mg base 1 "_law_cell_at" ["script", "place"] cCellAt)
    (h : Has K mg "_law_source" s_law_source ["script", "place"]) : CalE P w K mg base 2 "_law_source" ["script", "place"] cSource := by
  obtain ⟨f, fd, F, g, b⟩ := h
  have nd : N_law_source.Nodup := sc_law_source.nd
  have hm : MonoC cSource := cSource_m
  suffices hF : FnOk P w K mg base (L2.CX P w) 2 f fd ["script", "place"] (spX K cSource) from ⟨⟨f, fd, hF, g, F.kp, b⟩, hm⟩
  refine okF [false, false] 1 _ F sc_law_source rfl rfl ?hts (fun cdv A outer s H E hr tk po => ⟨_, _, (pss_cons (qset 2 (ecl C_law_cell_at tk hr (by omega) (by rfl) (pa_cons (pv 0) (pa_cons (pv 1) pa_nil))) nd)
      (pss_cons (ps_if (pt_cmpR op_ge (pv 2) (pe_op op_pow pe_int pe_int) (nomark _)) (pss_one (ps_ret (pe_lst (pa_cons (pe_op op_sub (pv 2) (pe_op op_pow pe_int pe_int)) (pa_cons pe_int (pa_cons pe_int pa_nil)))))) pss_nil)
      (pss_one (ps_ret (pe_lst (pa_cons (pv 2) (pa_cons pe_int (pa_cons (pe_op op_mulX pe_int (pv 1)) pa_nil)))))))),
      (ss_seq (ss_asg (se_call (bs := [false, false]) C_law_cell_at.mono (sa_cons (se_var (i := 0) (by decide)) (sa_cons (se_var (i := 1) (by decide)) sa_nil))) (sg_name (i := 2) (by decide)))
      (ss_seq (ss_if (st_test (se_op p2_bool0 (se_var (i := 2) (by decide)) (se_op p2_int se_int se_int))) (ss_ret0 (se_lst (sa_cons (se_op p2_int0 (se_var (i := 2) (by decide)) (se_op p2_int se_int se_int)) (sa_cons se_int (sa_cons se_int sa_nil))))) ss_next)
      (ss_ret0 (se_lst (sa_cons (se_var (i := 2) (by decide)) (sa_cons se_int (sa_cons (se_op p2_mul se_int (se_var (i := 1) (by decide))) sa_nil))))))), ?hb⟩)
  case hts => rintro ts Q X ⟨ns, p, rfl, _⟩; rfl
  case hb =>
    rintro ts Q X ⟨ns, p, rfl, h, hq⟩
    have big : TV.CMulB 17 p := TV.big_mul (a := 5) (b := 7) (by decide) (by omega) (by decide) (by decide) (by decide)
    walk_at "go"
    refine brC_dec (fun hb => ?_) (fun hb => ?_)
    · walk_at "go"
      exact hq _ _ _ (by omega)
    · walk_at "go"
      exact hq _ _ _ (by omega)
def cDraw : Con' := fun ts Q X => ∃ (a f k m : Int), ts = [L [.int a, .int f, .int k], .int m] ∧ (0 < m ∧ m < 2 ^ 150 ∧ 0 ≤ k ∧ k ≤ 1000000) ∧ (∀ (r a2 k2 : Int), (0 ≤ r ∧ r < m ∧ 0 ≤ k2 ∧ k2 ≤ k + 1) → Q (.int r) [L [.int a2, .int f, .int k2], .int m])
theorem cDraw_m  : MonoC (cDraw) := fun ts Q Q' X X' hq hx ⟨a, f, k, m, e, h, q⟩ => ⟨a, f, k, m, e, h, fun r a2 k2 hh => hq _ _ (q r a2 k2 hh)⟩
theorem cDraw_i {a f k m : Int}  {Q : T → List T → Prop} {X : Addr → T → List T → Prop} (h : 0 < m ∧ m < 2 ^ 150 ∧ 0 ≤ k ∧ k ≤ 1000000) (q : (∀ (r a2 k2 : Int), (0 ≤ r ∧ r < m ∧ 0 ≤ k2 ∧ k2 ≤ k + 1) → Q (.int r) [L [.int a2, .int f, .int k2], .int m])) : cDraw [L [.int a, .int f, .int k], .int m] Q X := ⟨a, f, k, m, rfl, h, q⟩
local macro_rules | `(tactic| walk_at "ca") => `(tactic| first | ((with_reducible refine cCellAt_i ?_ ?_); walk_at "sd") | ((with_reducible refine cSource_i ?_ ?_); walk_at "sd"; intro _ _ _ _) | ((with_reducible refine cDraw_i ?_ ?_); walk_at "sd"; intro _ _ _ _))
theorem ok_law_draw (m_int : mg "int" = none)
    (h : Has K mg "_law_draw" s_law_draw ["source", "many"]) : CalE P w K mg base 1 "_law_draw" ["source", "many"] cDraw := by
  obtain ⟨f, fd, F, g, b⟩ := h
  have nd : N_law_draw.Nodup := sc_law_draw.nd
  have hm : MonoC cDraw := cDraw_m
  suffices hF : FnOk P w K mg base (L2.CX P w) 1 f fd ["source", "many"] (spX K cDraw) from ⟨⟨f, fd, hF, g, F.kp, b⟩, hm⟩
  refine okF [true, false] 3 _ F sc_law_draw rfl rfl ?hts (fun cdv A outer s H E hr tk po => ⟨_, _, (pss_cons (qset 2 (pe_ix (kix K) (pv 0) pe_int (fun _ _ => rfl)) nd)
      (pss_cons (ps_if (pt_cmpR (keq K hr.units) (pe_ix (kix K) (pv 0) pe_int (fun _ _ => rfl)) pe_int (nomark _)) (pss_cons (ps_asg (pe_op op_fdivW (pv 2) (pv 1)) (pg_sub (pv 0) pe_int set_list))
      (pss_one (ps_ret (pe_op op_mod (pe_callTy call_int1 (by rfl) m_int (by decide +kernel) (pa_cons (pv 2) pa_nil)) (pv 1))))) pss_nil)
      (pss_cons (qset 3 (pe_op op_addX (pe_ix (kix K) (pv 0) pe_int (fun _ _ => rfl)) pe_int) nd)
      (pss_cons (ps_asg (pv 3) (pg_sub (pv 0) pe_int set_list))
      (pss_cons (qset 4 (pe_op op_mulX (pe_op op_addX (pe_op op_mod (pe_callTy call_int1 (by rfl) m_int (by decide +kernel) (pa_cons (pv 2) pa_nil)) (pe_op op_addX (pe_op op_pow pe_int pe_int) pe_int)) (pe_op op_mulX pe_int (pv 3))) (pe_op op_addX (pe_op op_mulX pe_int (pv 3)) pe_int)) nd)
      (pss_cons (qset 4 (pe_op op_mod (pe_callTy call_int1 (by rfl) m_int (by decide +kernel) (pa_cons (pe_op op_mulX (pv 4) (pv 4)) pa_nil)) (pe_op op_addX (pe_op op_pow pe_int pe_int) pe_int)) nd)
      (pss_cons (qset 4 (pe_op op_mod (pe_callTy call_int1 (by rfl) m_int (by decide +kernel) (pa_cons (pe_op op_mulX (pe_op op_addX (pv 4) (pv 3)) (pe_op op_addX (pe_op op_fdivW (pv 4) pe_int) pe_int)) pa_nil)) (pe_op op_addX (pe_op op_pow pe_int pe_int) pe_int)) nd)
      (pss_one (ps_ret (pe_op op_mod (pe_callTy call_int1 (by rfl) m_int (by decide +kernel) (pa_cons (pe_op op_fdivW (pv 4) pe_int) pa_nil)) (pv 1))))))))))),
      (ss_seq (ss_asg (se_op p2_ix (se_var (i := 0) (by decide)) se_int) (sg_name (i := 2) (by decide)))
      (ss_seq (ss_if (st_test (se_op p2_eq (se_op p2_ix (se_var (i := 0) (by decide)) se_int) se_int)) (ss_seq (ss_setI (se_op p2_int (se_var (i := 2) (by decide)) (se_var (i := 1) (by decide))) (se_var (i := 0) (by decide)) se_int)
      (ss_ret (se_op p2_int (se_cb pb_int (sa_cons (se_var (i := 2) (by decide)) sa_nil)) (se_var (i := 1) (by decide))))) ss_next)
      (ss_seq (ss_asg (se_op p2_add (se_op p2_ix (se_var (i := 0) (by decide)) se_int) se_int) (sg_name (i := 3) (by decide)))
      (ss_seq (ss_setI (se_var (i := 3) (by decide)) (se_var (i := 0) (by decide)) se_int)
      (ss_seq (ss_asg (se_op p2_mul (se_op p2_add (se_op p2_int (se_cb pb_int (sa_cons (se_var (i := 2) (by decide)) sa_nil)) (se_op p2_add (se_op p2_int se_int se_int) se_int)) (se_op p2_mul se_int (se_var (i := 3) (by decide)))) (se_op p2_add (se_op p2_mul se_int (se_var (i := 3) (by decide))) se_int)) (sg_name (i := 4) (by decide)))
      (ss_seq (ss_asg (se_op p2_int (se_cb pb_int (sa_cons (se_op p2_mul (se_var (i := 4) (by decide)) (se_var (i := 4) (by decide))) sa_nil)) (se_op p2_add (se_op p2_int se_int se_int) se_int)) (sg_name (i := 4) (by decide)))
      (ss_seq (ss_asg (se_op p2_int (se_cb pb_int (sa_cons (se_op p2_mul (se_op p2_add (se_var (i := 4) (by decide)) (se_var (i := 3) (by decide))) (se_op p2_add (se_op p2_int (se_var (i := 4) (by decide)) se_int) se_int)) sa_nil)) (se_op p2_add (se_op p2_int se_int se_int) se_int)) (sg_name (i := 4) (by decide)))
      (ss_ret (se_op p2_int (se_cb pb_int (sa_cons (se_op p2_int (se_var (i := 4) (by decide)) se_int) sa_nil)) (se_var (i := 1) (by decide))))))))))), ?hb⟩)
  case hts => rintro ts Q X ⟨a, f, k, m, rfl, _⟩; rfl
  case hb =>
    rintro ts Q X ⟨a, f, k, m, rfl, h, hq⟩
    have hm := bits99 (x := m) (by omega)
    walk_at "go"
    refine brC_dec (fun hb => ?_) (fun hb => ?_)
    · walk_at "go"
      exact hq _ _ _ ⟨Int.emod_nonneg _ (by omega), Int.emod_lt_of_pos _ (by omega), by omega, by omega⟩
    · have u0 : 0 ≤ a % (10 ^ 18 + 9) := Int.emod_nonneg _ (by decide)
      have u1 : a % (10 ^ 18 + 9) < 10 ^ 18 + 9 := Int.emod_lt_of_pos _ (by decide)
      walk_at "go"
      generalize hx : (a % (10 ^ 18 + 9) + 5003 * (k + 1)) * (611953 * (k + 1) + 15485863) = x
      have e1 : x.natAbs < 2 ^ (80 + 80) := by rw [← hx]; exact mulB 80 80 (by omega) (by omega)
      generalize hy : x * x % (10 ^ 39 + 7) = y
      have e2 : 0 ≤ y := by rw [← hy]; exact Int.emod_nonneg _ (by decide)
      have e3 : y < 10 ^ 39 + 7 := by rw [← hy]; exact Int.emod_lt_of_pos _ (by decide)
      have e4 : (y / 7).natAbs < 2 ^ 130 := by omega
      refine ⟨TV.big_mul (a := 20) (b := 40) (by decide) (by omega) (by decide) (by decide) (by decide), TV.big_mul (a := 20) (b := 40) (by decide) (by omega) (by decide) (by decide) (by decide), TV.big_mul (a := 80) (b := 80) (by omega) (by omega) (by decide) (by decide) (by decide), TV.big_mul (a := 160) (b := 160) e1 e1 (by decide) (by decide) (by decide), ⟨by decide, by decide, by decide⟩, by decide, ?_⟩
      refine ⟨⟨by decide, by decide⟩, TV.big_mul (a := 140) (b := 140) (by omega) (by omega) (by decide) (by decide) (by decide), ⟨by decide, by decide, by decide⟩, by decide, ⟨by decide, by decide⟩, h.1, ?_⟩
      exact hq _ _ _ ⟨Int.emod_nonneg _ (by omega), Int.emod_lt_of_pos _ (by omega), by omega, by omega⟩
def cCards : Con' := fun ts Q X => ∃ (ns : List Int) (a f k : Int) (n : Int), ts = [Sc ns, L [.int a, .int f, .int k], .int n] ∧ (ns.length ≤ 63 ∧ 0 ≤ n ∧ n ≤ 1000 ∧ 0 ≤ k ∧ k ≤ 900000) ∧ (∀ (cs : List Int) (a2 k2 : Int), (cs.length ≤ n ∧ 0 ≤ k2 ∧ k2 ≤ k + n + 3) → Q (Li cs) [Sc ns, L [.int a2, .int f, .int k2], .int n])
theorem cCards_m  : MonoC (cCards) := fun ts Q Q' X X' hq hx ⟨ns, a, f, k, n, e, h, q⟩ => ⟨ns, a, f, k, n, e, h, fun cs a2 k2 hh => hq _ _ (q cs a2 k2 hh)⟩
theorem cCards_i {ns : List Int} {a f k : Int} {n : Int}  {Q : T → List T → Prop} {X : Addr → T → List T → Prop} (h : ns.length ≤ 63 ∧ 0 ≤ n ∧ n ≤ 1000 ∧ 0 ≤ k ∧ k ≤ 900000) (q : (∀ (cs : List Int) (a2 k2 : Int), (cs.length ≤ n ∧ 0 ≤ k2 ∧ k2 ≤ k + n + 3) → Q (Li cs) [Sc ns, L [.int a2, .int f, .int k2], .int n])) : cCards [Sc ns, L [.int a, .int f, .int k], .int n] Q X := ⟨ns, a, f, k, n, rfl, h, q⟩
local macro_rules | `(tactic| walk_at "ca") => `(tactic| first | ((with_reducible refine cCellAt_i ?_ ?_); walk_at "sd") | ((with_reducible refine cSource_i ?_ ?_); walk_at "sd"; intro _ _ _ _) | ((with_reducible refine cDraw_i ?_ ?_); walk_at "sd"; intro _ _ _ _) | ((with_reducible refine cCards_i ?_ ?_); walk_at "sd"; intro _ _ _ _))

def cSameP (Pd : T → Prop) : Con' := fun ts Q X => ∃ (a : T), ts = [a, a] ∧ (Pd a) ∧ Q (.bl true) [a, a]
theorem cSameP_m {Pd : T → Prop} : MonoC (cSameP Pd) := fun ts Q Q' X X' hq hx ⟨a, e, h, q⟩ => ⟨a, e, h, hq _ _ q⟩
theorem cSameP_i {a : T} {Pd : T → Prop} {Q : T → List T → Prop} {X : Addr → T → List T → Prop} (h : Pd a) (q : Q (.bl true) [a, a]) : cSameP Pd [a, a] Q X := ⟨a, rfl, h, q⟩
local macro_rules | `(tactic| walk_at "ca") => `(tactic| first | ((with_reducible refine cCellAt_i ?_ ?_); walk_at "sd") | ((with_reducible refine cSource_i ?_ ?_); walk_at "sd"; intro _ _ _ _) | ((with_reducible refine cDraw_i ?_ ?_); walk_at "sd"; intro _ _ _ _) | ((with_reducible refine cCards_i ?_ ?_); walk_at "sd"; intro _ _ _ _) | ((with_reducible refine cSameP_i ?_ ?_); walk_at "sd"))
def cSame (n : Nat) : Con' := cSameP (LikeOk n)
theorem cSame_i {n : Nat} {a : T} {Q : T → List T → Prop} {X : Addr → T → List T → Prop} (h : LikeOk n a) (q : Q (.bl true) [a, a]) : cSame n [a, a] Q X := cSameP_i h q
theorem same_step {k : Nat} {Pd : T → Prop} (hpl : ∀ t, Pd t → isF t = true ∧ fz t = t)
    (m_isinstance : mg "isinstance" = none)
    (m_str : mg "str" = none)
    (m_int : mg "int" = none)
    (m_bool : mg "bool" = none)
    (m_tuple : mg "tuple" = none)
    (m_list : mg "list" = none)
    (m_all : mg "all" = none)
    (m_zip : mg "zip" = none)
    (m_len : mg "len" = none)
    (C_law_same : CalE P w K mg base k "_law_same" ["found", "due"] (cSameP Pd))
    (h : Has K mg "_law_same" s_law_same ["found", "due"]) : CalE P w K mg base (k + 1) "_law_same" ["found", "due"] (cSameP (LikeStep Pd)) := by
  obtain ⟨f, fd, F, g, b⟩ := h
  have nd : N_law_same.Nodup := sc_law_same.nd
  have hm : MonoC (cSameP (LikeStep Pd)) := cSameP_m
  suffices hF : FnOk P w K mg base (L2.CX P w) (k + 1) f fd ["found", "due"] (spX K (cSameP (LikeStep Pd))) from ⟨⟨f, fd, hF, g, F.kp, b⟩, hm⟩
  refine okF [false, false] 2 _ F sc_law_same rfl rfl ?hts (fun cdv A outer s H E hr tk po => ⟨_, _, (pss_cons (ps_if (ktruth K (pe_callB (kcisiT K) (by rfl) m_isinstance (by decide +kernel) (pa_cons (pv 1) (pa_cons (pe_tup (pa_cons (pe_bltn (v := .ty "list") (by rfl) m_list (by decide +kernel) rfl) (pa_cons (pe_bltn (v := .ty "tuple") (by rfl) m_tuple (by decide +kernel) rfl) pa_nil))) pa_nil)))) (pss_cons (ps_if (PW.pt (pw_and (ktruth K (pe_callB (kcisi K) (by rfl) m_isinstance (by decide +kernel) (pa_cons (pv 1) (pa_cons (pe_bltn (v := .ty "list") (by rfl) m_list (by decide +kernel) rfl) pa_nil)))) (pw_and1 (pt_not (ktruth K (pe_callB (kcisi K) (by rfl) m_isinstance (by decide +kernel) (pa_cons (pv 0) (pa_cons (pe_bltn (v := .ty "list") (by rfl) m_list (by decide +kernel) rfl) pa_nil)))))))) (pss_one (ps_ret pe_bl)) pss_nil)
      (pss_cons (ps_if (PW.pt (pw_and (ktruth K (pe_callB (kcisi K) (by rfl) m_isinstance (by decide +kernel) (pa_cons (pv 1) (pa_cons (pe_bltn (v := .ty "tuple") (by rfl) m_tuple (by decide +kernel) rfl) pa_nil)))) (pw_and1 (pt_not (ktruth K (pe_callB (kcisi K) (by rfl) m_isinstance (by decide +kernel) (pa_cons (pv 0) (pa_cons (pe_bltn (v := .ty "tuple") (by rfl) m_tuple (by decide +kernel) rfl) pa_nil)))))))) (pss_one (ps_ret pe_bl)) pss_nil)
      (pss_cons (ps_if (pt_cmpR (kne K hr.units) (pe_callB (kclenX K) (by rfl) m_len (by decide +kernel) (pa_cons (pv 0) pa_nil)) (pe_callB (kclenX K) (by rfl) m_len (by decide +kernel) (pa_cons (pv 1) pa_nil)) (nomark _)) (pss_one (ps_ret pe_bl)) pss_nil)
      (pss_one (ps_ret (pe_callB (kcall K) (by rfl) m_all (by decide +kernel) (pa_cons (pe_lc (own := [("one", 2), ("other", 3)]) (g := (gTup K 2 (gCons (gName 2) (gCons (gName 3) gNil)))) (tt := tYes) rfl nd (kpi_zipA K (by rfl) m_zip (pa_cons (pv 0) (pa_cons (pv 1) pa_nil))) (blkOk_by (own := [("one", 2), ("other", 3)]) (N := N_law_same) (sc := defScope s_law_same) (by decide +kernel)) (fun _ _ _ _ _ => (kpg_tup (n := 2) K rfl (pgs_cons (gnm 2 nd) (pgs_cons (gnm 3 nd) pgs_nil)))) (fun _ _ _ _ _ => pts_nil) (fun _ _ _ _ _ => (ecl C_law_same takes0 hr (by omega) (by rfl) (pa_cons (pv 2) (pa_cons (pv 3) pa_nil))))) pa_nil))))))) pss_nil)
      (pss_cons (ps_if (pt_cmp (pc_isN (pv 1))) (pss_one (ps_ret (pe_cmp (pc_isN (pv 0))))) pss_nil)
      (pss_cons (ps_if (PW.pt (pw_or (ktruth K (pe_callB (kcisi K) (by rfl) m_isinstance (by decide +kernel) (pa_cons (pv 1) (pa_cons (pe_bltn (v := .ty "bool") (by rfl) m_bool (by decide +kernel) rfl) pa_nil)))) (pw_or1 (ktruth K (pe_callB (kcisi K) (by rfl) m_isinstance (by decide +kernel) (pa_cons (pv 0) (pa_cons (pe_bltn (v := .ty "bool") (by rfl) m_bool (by decide +kernel) rfl) pa_nil))))))) (pss_one (ps_ret (kand K (pe_callB (kcisi K) (by rfl) m_isinstance (by decide +kernel) (pa_cons (pv 1) (pa_cons (pe_bltn (v := .ty "bool") (by rfl) m_bool (by decide +kernel) rfl) pa_nil))) (kand K (pe_callB (kcisi K) (by rfl) m_isinstance (by decide +kernel) (pa_cons (pv 0) (pa_cons (pe_bltn (v := .ty "bool") (by rfl) m_bool (by decide +kernel) rfl) pa_nil))) (pe_one (pe_cmpR (keq K hr.units) (pv 0) (pv 1) (nomark _))))))) pss_nil)
      (pss_cons (ps_if (ktruth K (pe_callB (kcisi K) (by rfl) m_isinstance (by decide +kernel) (pa_cons (pv 1) (pa_cons (pe_bltn (v := .ty "int") (by rfl) m_int (by decide +kernel) rfl) pa_nil)))) (pss_one (ps_ret (kand K (pe_callB (kcisi K) (by rfl) m_isinstance (by decide +kernel) (pa_cons (pv 0) (pa_cons (pe_bltn (v := .ty "int") (by rfl) m_int (by decide +kernel) rfl) pa_nil))) (pe_one (pe_cmpR (keq K hr.units) (pv 0) (pv 1) (nomark _)))))) pss_nil)
      (pss_one (ps_ret (kand K (pe_callB (kcisi K) (by rfl) m_isinstance (by decide +kernel) (pa_cons (pv 0) (pa_cons (pe_bltn (v := .ty "str") (by rfl) m_str (by decide +kernel) rfl) pa_nil))) (pe_one (pe_cmpR (keq K hr.units) (pv 0) (pv 1) (nomark _)))))))))),
      (ss_seq (ss_if (st_tru (se_isiT (se_var (i := 1) (by decide)))) (ss_seq (ss_if (st_and (st_tru (se_cb pb_isi (sa_cons (se_var (i := 1) (by decide)) (sa_cons se_ty sa_nil)))) (st_not (st_tru (se_cb pb_isi (sa_cons (se_var (i := 0) (by decide)) (sa_cons se_ty sa_nil)))))) (ss_ret se_bl) ss_next)
      (ss_seq (ss_if (st_and (st_tru (se_cb pb_isi (sa_cons (se_var (i := 1) (by decide)) (sa_cons se_ty sa_nil)))) (st_not (st_tru (se_cb pb_isi (sa_cons (se_var (i := 0) (by decide)) (sa_cons se_ty sa_nil)))))) (ss_ret se_bl) ss_next)
      (ss_seq (ss_if (st_test (se_op p2_ne (se_cb pb_len (sa_cons (se_var (i := 0) (by decide)) sa_nil)) (se_cb pb_len (sa_cons (se_var (i := 1) (by decide)) sa_nil)))) (ss_ret se_bl) ss_next)
      (ss_ret (se_cb pb_all (sa_cons (se_lc (by decide) (si_zipT (sa_cons (se_var (i := 0) (by decide)) (sa_cons (se_var (i := 1) (by decide)) sa_nil))) (sg_tup (k := 2) (sgs_cons (sg_name (i := 2) (by decide)) (sgs_cons (sg_name (i := 3) (by decide)) sgs_nil))) st_yes (se_call (bs := [false, false]) C_law_same.mono (sa_cons (se_var (i := 2) (by decide)) (sa_cons (se_var (i := 3) (by decide)) sa_nil)))) sa_nil)))))) ss_next)
      (ss_seq (ss_if (st_B (se_isN (se_var (i := 1) (by decide)))) (ss_ret (se_isN (se_var (i := 0) (by decide)))) ss_next)
      (ss_seq (ss_if (st_or (st_tru (se_cb pb_isi (sa_cons (se_var (i := 1) (by decide)) (sa_cons se_ty sa_nil)))) (st_tru (se_cb pb_isi (sa_cons (se_var (i := 0) (by decide)) (sa_cons se_ty sa_nil))))) (ss_ret (se_and (se_cb pb_isi (sa_cons (se_var (i := 1) (by decide)) (sa_cons se_ty sa_nil))) (se_and (se_cb pb_isi (sa_cons (se_var (i := 0) (by decide)) (sa_cons se_ty sa_nil))) (se_op p2_eq (se_var (i := 0) (by decide)) (se_var (i := 1) (by decide)))))) ss_next)
      (ss_seq (ss_if (st_tru (se_cb pb_isi (sa_cons (se_var (i := 1) (by decide)) (sa_cons se_ty sa_nil)))) (ss_ret (se_and (se_cb pb_isi (sa_cons (se_var (i := 0) (by decide)) (sa_cons se_ty sa_nil))) (se_op p2_eq (se_var (i := 0) (by decide)) (se_var (i := 1) (by decide))))) ss_next)
      (ss_ret (se_and (se_cb pb_isi (sa_cons (se_var (i := 0) (by decide)) (sa_cons se_ty sa_nil))) (se_op p2_eq (se_var (i := 0) (by decide)) (se_var (i := 1) (by decide))))))))), ?hb⟩)
  case hts => rintro ts Q X ⟨a, rfl, h1, _⟩; exact okA_ff h1.pl h1.pl
  case hb =>
    rintro ts Q X ⟨a, rfl, ha, hq⟩
    have hao := ha.or
    clear ha
    generalize hsel : wSeq _ _ = ww
    rcases hao with rfl | ⟨a, rfl⟩ | ⟨a, rfl⟩ | ⟨xs, rfl, hxs, hxp⟩ | ⟨xs, rfl, hxs, hxp⟩
    all_goals subst hsel
    all_goals walk_at "go"
    all_goals try (with_reducible exact hq)
    all_goals
      have hA : xs.all isF = true := List.all_eq_true.mpr fun t ht => (hpl t (hxp t ht)).1
      walk_at "xg1"
      refine lc_stP (f := fun t => T.nd .tup false [t, t]) (l := xs) (fun _ => true) (fun _ => T.bl true) rfl (fun acc q hq => by first | (simp at hq; done) | (simp only [List.mem_cons, List.not_mem_nil, or_false] at hq; (first | subst hq | (rcases hq with hq | hq <;> subst hq)) <;> rfl)) (fun i x hx acc ha k hk => ?_) ?_ (by simp)
      · have px := hxp x (List.mem_of_getElem? hx)
        obtain ⟨f1, f2⟩ := hpl x px
        have hi := (List.getElem?_eq_some_iff.mp hx).1
        walk_at "xg2"
        exact hk
      · have e : List.map (fun _ : T => T.bl true) xs = (xs.map fun _ => true).map T.bl := by rw [List.map_map]; rfl
        have e2 : (xs.map fun _ : T => true).all id = true := by simp
        walk_at "xg3"
        exact hq
theorem ok_law_same (m_all : mg "all" = none) (m_zip : mg "zip" = none) (m_len : mg "len" = none) (m_isinstance : mg "isinstance" = none) (m_tuple : mg "tuple" = none) (m_list : mg "list" = none) (m_int : mg "int" = none) (m_bool : mg "bool" = none) (m_str : mg "str" = none)
    (h : Has K mg "_law_same" s_law_same ["found", "due"]) : ∀ n : Nat, CalE P w K mg base (n + 1) "_law_same" ["found", "due"] (cSame n)
  | 0 => same_step (Pd := fun _ => False) (fun _ z => z.elim) m_isinstance m_str m_int m_bool m_tuple m_list m_all m_zip m_len (by
      obtain ⟨f, fd, F, g, b⟩ := h
      exact ⟨⟨f, fd, noneE fun ts Q X ⟨_, _, z, _⟩ => z, g, F.kp, b⟩, cSameP_m⟩) h
  | n + 1 => same_step (Pd := LikeOk n) (fun t ht => ⟨ht.pl, ht.fz⟩) m_isinstance m_str m_int m_bool m_tuple m_list m_all m_zip m_len (ok_law_same m_all m_zip m_len m_isinstance m_tuple m_list m_int m_bool m_str h n) h
local macro_rules | `(tactic| walk_at "ca") => `(tactic| first | ((with_reducible refine cSame_i ?_ ?_); walk_at "sd") | ((with_reducible refine cCellAt_i ?_ ?_); walk_at "sd") | ((with_reducible refine cSource_i ?_ ?_); walk_at "sd"; intro _ _ _ _) | ((with_reducible refine cDraw_i ?_ ?_); walk_at "sd"; intro _ _ _ _) | ((with_reducible refine cCards_i ?_ ?_); walk_at "sd"; intro _ _ _ _) | ((with_reducible refine cSameP_i ?_ ?_); walk_at "sd"))


def cCheckW : Con' := fun ts Q X => ∃ (w : Nat), ts = [.int (w : Nat)] ∧ (2 ≤ w) ∧ Q .non [.int (w : Nat)]
theorem cCheckW_m  : MonoC (cCheckW) := fun ts Q Q' X X' hq hx ⟨w, e, h, q⟩ => ⟨w, e, h, hq _ _ q⟩
theorem cCheckW_i {w : Nat}  {Q : T → List T → Prop} {X : Addr → T → List T → Prop} (h : 2 ≤ w) (q : Q .non [.int (w : Nat)]) : cCheckW [.int (w : Nat)] Q X := ⟨w, rfl, h, q⟩
local macro_rules | `(tactic| walk_at "ca") => `(tactic| first | ((with_reducible refine cSame_i ?_ ?_); walk_at "sd") | ((with_reducible refine cCellAt_i ?_ ?_); walk_at "sd") | ((with_reducible refine cSource_i ?_ ?_); walk_at "sd"; intro _ _ _ _) | ((with_reducible refine cDraw_i ?_ ?_); walk_at "sd"; intro _ _ _ _) | ((with_reducible refine cCards_i ?_ ?_); walk_at "sd"; intro _ _ _ _) | ((with_reducible refine cSameP_i ?_ ?_); walk_at "sd") | ((with_reducible refine cCheckW_i ?_ ?_); walk_at "sd"))
theorem ok_check_ways (h : Has K mg "check_ways" s_check_ways ["ways"]) : CalE P w K mg base 1 "check_ways" ["ways"] cCheckW := by
  obtain ⟨f, fd, F, g, b⟩ := h
  have nd : N_check_ways.Nodup := sc_check_ways.nd
  have hm : MonoC cCheckW := cCheckW_m
  suffices hF : FnOk P w K mg base (L2.CX P w) 1 f fd ["ways"] (spX K cCheckW) from ⟨⟨f, fd, hF, g, F.kp, b⟩, hm⟩
  refine okF [false] 0 _ F sc_check_ways rfl rfl ?hts (fun cdv A outer s H E hr tk po => ⟨_, _, (pss_one (ps_if (pt_cmpR op_lt (pv 0) pe_int (nomark _)) (pss_one ps_never) pss_nil)),
      (ss_if (st_test (se_op p2_bool0 (se_var (i := 0) (by decide)) se_int)) ss_never ss_next), ?hb⟩)
  case hts => rintro ts Q X ⟨w, rfl, _⟩; rfl
  case hb =>
    rintro ts Q X ⟨w, rfl, h, hq⟩
    walk_at "go"
    refine brC_dec (fun hb => absurd hb (by omega)) (fun hb => ?_)
    walk_at "go"
    exact hq
def cDepth : Con' := fun ts Q X => ∃ (n w : Nat), ts = [.int (n : Nat), .int (w : Nat)] ∧ (2 ≤ w ∧ n < 2 ^ 140 ∧ w < 2 ^ 140) ∧ (∀ (d : Nat), (DepOk n w d) → Q (.int (d : Nat)) [.int (n : Nat), .int (w : Nat)])
theorem cDepth_m  : MonoC (cDepth) := fun ts Q Q' X X' hq hx ⟨n, w, e, h, q⟩ => ⟨n, w, e, h, fun d hh => hq _ _ (q d hh)⟩
theorem cDepth_i {n w : Nat}  {Q : T → List T → Prop} {X : Addr → T → List T → Prop} (h : 2 ≤ w ∧ n < 2 ^ 140 ∧ w < 2 ^ 140) (q : (∀ (d : Nat), (DepOk n w d) → Q (.int (d : Nat)) [.int (n : Nat), .int (w : Nat)])) : cDepth [.int (n : Nat), .int (w : Nat)] Q X := ⟨n, w, rfl, h, q⟩
local macro_rules | `(tactic| walk_at "ca") => `(tactic| first | ((with_reducible refine cSame_i ?_ ?_); walk_at "sd") | ((with_reducible refine cCellAt_i ?_ ?_); walk_at "sd") | ((with_reducible refine cSource_i ?_ ?_); walk_at "sd"; intro _ _ _ _) | ((with_reducible refine cDraw_i ?_ ?_); walk_at "sd"; intro _ _ _ _) | ((with_reducible refine cCards_i ?_ ?_); walk_at "sd"; intro _ _ _ _) | ((with_reducible refine cSameP_i ?_ ?_); walk_at "sd") | ((with_reducible refine cCheckW_i ?_ ?_); walk_at "sd") | ((with_reducible refine cDepth_i ?_ ?_); walk_at "sd"; intro _ _))
theorem ok_depth (C_check_ways : CalE P w K mg base 1 "check_ways" ["ways"] cCheckW)
    (h : Has K mg "depth" s_depth ["number", "ways"]) : CalE P w K mg base 2 "depth" ["number", "ways"] cDepth ∧ CalEK P w K mg base 2 "depth" ["number", "ways"] ["ways", "number"] (TV.gK 2 [1, 0]) cDepth := by
  obtain ⟨f, fd, F, g, b⟩ := h
  have nd : N_depth.Nodup := sc_depth.nd
  have hm : MonoC cDepth := cDepth_m
  suffices hF : FnOk P w K mg base (L2.CX P w) 2 f fd ["number", "ways"] (spX K cDepth) from ⟨⟨⟨f, fd, hF, g, F.kp, b⟩, hm⟩, ⟨⟨f, fd, _, hF, g, F.kp, TV.kb_of F (by decide) fun _ _ _ _ _ _ ws hl => match ws, hl with | [_, _], _ => rfl⟩, hm⟩⟩
  refine okF [false, false] 2 _ F sc_depth rfl rfl ?hts (fun cdv A outer s H E hr tk po => ⟨_, _, (pss_cons (ps_if (pt_cmpR op_lt (pv 0) pe_int (nomark _)) (pss_one ps_never) pss_nil)
      (pss_cons (ps_expr (ecl C_check_ways tk hr (by omega) (by rfl) (pa_cons (pv 1) pa_nil)))
      (pss_cons (qset 2 pe_int nd)
      (pss_cons (qset 3 pe_int nd)
      (pss_cons (ps_while po (pt_cmpR op_lt (pv 3) (pv 0) (nomark _)) (pss_cons (ps_aug (i := 3) nd rfl (.inl rfl) (pv 1) TV.ip_mulB)
      (pss_one (ps_aug (i := 2) nd rfl (.inl rfl) pe_int ip_add))))
      (pss_one (ps_ret (pv 2)))))))),
      (ss_seq (ss_if (st_test (se_op p2_bool0 (se_var (i := 0) (by decide)) se_int)) ss_never ss_next)
      (ss_seq (ss_drop (se_call (bs := [false]) C_check_ways.mono (sa_cons (se_var (i := 1) (by decide)) sa_nil)))
      (ss_seq (ss_asg se_int (sg_name (i := 2) (by decide)))
      (ss_seq (ss_asg se_int (sg_name (i := 3) (by decide)))
      (ss_seq (ss_while (st_test (se_op p2_bool0 (se_var (i := 3) (by decide)) (se_var (i := 0) (by decide)))) (ss_fg [false, false, true, true] (ss_seq (ss_augC (by decide) (se_var (i := 1) (by decide)))
      (ss_aug (by decide) se_int))))
      (ss_ret (se_var (i := 2) (by decide)))))))), ?hb⟩)
  case hts => rintro ts Q X ⟨n, w, rfl, _⟩; rfl
  case hb =>
    rintro ts Q X ⟨n, w, rfl, ⟨hw, hn, hwb⟩, hq⟩
    walk_at "go"
    refine brC_dec (fun hb => absurd hb (by omega)) (fun hb => ?_)
    walk_at "go"
    refine wWhile_of (fun δ => ∃ (d : Nat), (d = 0 ∨ w ^ (d - 1) < n) ∧ δ = [some (.t (.int (n : Nat))), some (.t (.int (w : Nat))), some (.t (.int (d : Nat))), some (.t (.int ((w ^ d : Nat) : Int)))]) (fun δ => match δ with
      | [_, _, _, some (.t (.int s))] => n - s.toNat
      | _ => 0) ⟨0, .inl rfl, by walk_at "zz"⟩ (fun δ ⟨d, hf, hd⟩ k9 hk9 => ?_)
    subst hd
    walk_at "go"
    refine brC_dec (fun hc => ?_) (fun hc => ?_)
    · have hwp : 0 < w ^ d := Nat.pow_pos (by omega)
      have hcm : TV.CMulB ((w ^ d : Nat) : Int) (w : Int) := TV.big_mul (a := 140) (b := 140) (by omega) (by omega) (by decide) (by decide) (by decide)
      have e1 : ((w ^ d : Nat) : Int) * (w : Int) = ((w ^ (d + 1) : Nat) : Int) := by rw [Nat.pow_succ]; push_cast; rfl
      walk_at "xg4"
      refine hk9 _ ⟨d + 1, .inr (by rw [Nat.add_sub_cancel]; omega), by walk_at "zz"⟩ ?_
      show n - ((w ^ (d + 1) : Nat) : Int).toNat < n - ((w ^ d : Nat) : Int).toNat
      rw [Int.toNat_natCast, Int.toNat_natCast, Nat.pow_succ]
      have : w ^ d * 2 ≤ w ^ d * w := Nat.mul_le_mul_left _ hw
      omega
    · walk_at "go"
      exact hq _ ⟨by omega, hf⟩
def cWaysU : Con' := fun ts Q X => ∃ (a f k : Int), ts = [L [.int a, .int f, .int k]] ∧ (0 ≤ k ∧ k ≤ 900000) ∧ (∀ (w : Nat) (a2 k2 : Int), (2 ≤ w ∧ w < 10 ^ 40 ∧ 0 ≤ k2 ∧ k2 ≤ k + 2) → Q (.int (w : Nat)) [L [.int a2, .int f, .int k2]])
theorem cWaysU_m  : MonoC (cWaysU) := fun ts Q Q' X X' hq hx ⟨a, f, k, e, h, q⟩ => ⟨a, f, k, e, h, fun w a2 k2 hh => hq _ _ (q w a2 k2 hh)⟩
theorem cWaysU_i {a f k : Int}  {Q : T → List T → Prop} {X : Addr → T → List T → Prop} (h : 0 ≤ k ∧ k ≤ 900000) (q : (∀ (w : Nat) (a2 k2 : Int), (2 ≤ w ∧ w < 10 ^ 40 ∧ 0 ≤ k2 ∧ k2 ≤ k + 2) → Q (.int (w : Nat)) [L [.int a2, .int f, .int k2]])) : cWaysU [L [.int a, .int f, .int k]] Q X := ⟨a, f, k, rfl, h, q⟩
local macro_rules | `(tactic| walk_at "ca") => `(tactic| first | ((with_reducible refine cSame_i ?_ ?_); walk_at "sd") | ((with_reducible refine cCellAt_i ?_ ?_); walk_at "sd") | ((with_reducible refine cSource_i ?_ ?_); walk_at "sd"; intro _ _ _ _) | ((with_reducible refine cDraw_i ?_ ?_); walk_at "sd"; intro _ _ _ _) | ((with_reducible refine cCards_i ?_ ?_); walk_at "sd"; intro _ _ _ _) | ((with_reducible refine cSameP_i ?_ ?_); walk_at "sd") | ((with_reducible refine cCheckW_i ?_ ?_); walk_at "sd") | ((with_reducible refine cDepth_i ?_ ?_); walk_at "sd"; intro _ _) | ((with_reducible refine cWaysU_i ?_ ?_); walk_at "sd"; intro _ _ _ _))
theorem ok_law_ways (C_law_draw : CalE P w K mg base 1 "_law_draw" ["source", "many"] cDraw)
    (h : Has K mg "_law_ways" s_law_ways ["source"]) : CalE P w K mg base 2 "_law_ways" ["source"] cWaysU := by
  obtain ⟨f, fd, F, g, b⟩ := h
  have nd : N_law_ways.Nodup := sc_law_ways.nd
  have hm : MonoC cWaysU := cWaysU_m
  suffices hF : FnOk P w K mg base (L2.CX P w) 2 f fd ["source"] (spX K cWaysU) from ⟨⟨f, fd, hF, g, F.kp, b⟩, hm⟩
  refine okF [true] 0 _ F sc_law_ways rfl rfl ?hts (fun cdv A outer s H E hr tk po => ⟨_, _, (pss_cons (ps_if (pt_cmpR (keq K hr.units) (ecl C_law_draw tk hr (by omega) (by rfl) (pa_cons (pv 0) (pa_cons pe_int pa_nil))) pe_int (nomark _)) (pss_one (ps_ret (pe_op op_addX pe_int (ecl C_law_draw tk hr (by omega) (by rfl) (pa_cons (pv 0) (pa_cons (pe_op op_sub (pe_op op_pow pe_int pe_int) pe_int) pa_nil)))))) pss_nil)
      (pss_one (ps_ret (pe_op op_addX pe_int (ecl C_law_draw tk hr (by omega) (by rfl) (pa_cons (pv 0) (pa_cons pe_int pa_nil))))))),
      (ss_seq (ss_if (st_test (se_op p2_eq (se_call (bs := [true, false]) C_law_draw.mono (sa_cons (se_var (i := 0) (by decide)) (sa_cons se_int sa_nil))) se_int)) (ss_ret (se_op p2_add se_int (se_call (bs := [true, false]) C_law_draw.mono (sa_cons (se_var (i := 0) (by decide)) (sa_cons (se_op p2_int0 (se_op p2_int se_int se_int) se_int) sa_nil))))) ss_next)
      (ss_ret (se_op p2_add se_int (se_call (bs := [true, false]) C_law_draw.mono (sa_cons (se_var (i := 0) (by decide)) (sa_cons se_int sa_nil)))))), ?hb⟩)
  case hts => rintro ts Q X ⟨a, f, k, rfl, _⟩; rfl
  case hb =>
    rintro ts Q X ⟨a, f, k, rfl, h, hq⟩
    walk_at "go"
    rename_i r1 a1 k1 h1
    refine brC_dec (fun hb => ?_) (fun hb => ?_)
    · walk_at "go"
      rename_i r2 a2 k2 h2
      obtain ⟨n, rfl⟩ : ∃ n : Nat, r2 = n := ⟨r2.toNat, by omega⟩
      have e1 : (2 : Int) + n = ((2 + n : Nat) : Int) := by push_cast; rfl
      walk_at "xg4"
      exact hq (2 + n) _ _ ⟨by omega, by omega, by omega, by omega⟩
    · walk_at "go"
      rename_i r2 a2 k2 h2
      obtain ⟨n, rfl⟩ : ∃ n : Nat, r2 = n := ⟨r2.toNat, by omega⟩
      have e1 : (2 : Int) + n = ((2 + n : Nat) : Int) := by push_cast; rfl
      walk_at "xg4"
      exact hq (2 + n) _ _ ⟨by omega, by omega, by omega, by omega⟩
def cDivs : Con' := fun ts Q X => ∃ (n w : Nat), ts = [.int (n : Nat), .int (w : Nat)] ∧ (2 ≤ w ∧ n < 2 ^ 140 ∧ w < 2 ^ 140) ∧ (∀ (d : Nat), (DepOk n w d) → Q (.int (d : Nat)) [.int (n : Nat), .int (w : Nat)])
theorem cDivs_m  : MonoC (cDivs) := fun ts Q Q' X X' hq hx ⟨n, w, e, h, q⟩ => ⟨n, w, e, h, fun d hh => hq _ _ (q d hh)⟩
theorem cDivs_i {n w : Nat}  {Q : T → List T → Prop} {X : Addr → T → List T → Prop} (h : 2 ≤ w ∧ n < 2 ^ 140 ∧ w < 2 ^ 140) (q : (∀ (d : Nat), (DepOk n w d) → Q (.int (d : Nat)) [.int (n : Nat), .int (w : Nat)])) : cDivs [.int (n : Nat), .int (w : Nat)] Q X := ⟨n, w, rfl, h, q⟩
local macro_rules | `(tactic| walk_at "ca") => `(tactic| first | ((with_reducible refine cSame_i ?_ ?_); walk_at "sd") | ((with_reducible refine cCellAt_i ?_ ?_); walk_at "sd") | ((with_reducible refine cSource_i ?_ ?_); walk_at "sd"; intro _ _ _ _) | ((with_reducible refine cDraw_i ?_ ?_); walk_at "sd"; intro _ _ _ _) | ((with_reducible refine cCards_i ?_ ?_); walk_at "sd"; intro _ _ _ _) | ((with_reducible refine cSameP_i ?_ ?_); walk_at "sd") | ((with_reducible refine cCheckW_i ?_ ?_); walk_at "sd") | ((with_reducible refine cDepth_i ?_ ?_); walk_at "sd"; intro _ _) | ((with_reducible refine cWaysU_i ?_ ?_); walk_at "sd"; intro _ _ _ _) | ((with_reducible refine cDivs_i ?_ ?_); walk_at "sd"; intro _ _))
theorem ok_law_divisions (m_range : mg "range" = none)
    (h : Has K mg "_law_divisions" s_law_divisions ["many", "at_once"]) : CalE P w K mg base 1 "_law_divisions" ["many", "at_once"] cDivs := by
  obtain ⟨f, fd, F, g, b⟩ := h
  have nd : N_law_divisions.Nodup := sc_law_divisions.nd
  have hm : MonoC cDivs := cDivs_m
  suffices hF : FnOk P w K mg base (L2.CX P w) 1 f fd ["many", "at_once"] (spX K cDivs) from ⟨⟨f, fd, hF, g, F.kp, b⟩, hm⟩
  refine okF [false, false] 3 _ F sc_law_divisions rfl rfl ?hts (fun cdv A outer s H E hr tk po => ⟨_, _, (pss_cons (qset 2 pe_int nd)
      (pss_cons (qset 3 (pv 0) nd)
      (pss_cons (ps_for po rfl (pi_range1 (by rfl) m_range (pa_cons pe_int pa_nil)) (gnm 4 nd) (pss_one (ps_if (pt_cmpR op_gt (pv 3) pe_int (nomark _)) (pss_cons (qset 3 (pe_op op_fdivW (pe_op op_sub (pe_op op_addX (pv 3) (pv 1)) pe_int) (pv 1)) nd)
      (pss_one (qset 2 (pe_op op_addX (pv 2) pe_int) nd))) pss_nil)))
      (pss_one (ps_ret (pv 2)))))),
      (ss_seq (ss_asg se_int (sg_name (i := 2) (by decide)))
      (ss_seq (ss_asg (se_var (i := 0) (by decide)) (sg_name (i := 3) (by decide)))
      (ss_seq (ss_for (si_rng1 (sa_cons se_int sa_nil)) (sg_name (i := 4) (by decide)) (ss_fg [false, false, true, true, true] (ss_if (st_test (se_op p2_bool0 (se_var (i := 3) (by decide)) se_int)) (ss_seq (ss_asg (se_op p2_int (se_op p2_int0 (se_op p2_add (se_var (i := 3) (by decide)) (se_var (i := 1) (by decide))) se_int) (se_var (i := 1) (by decide))) (sg_name (i := 3) (by decide)))
      (ss_asg (se_op p2_add (se_var (i := 2) (by decide)) se_int) (sg_name (i := 2) (by decide)))) ss_next)))
      (ss_ret (se_var (i := 2) (by decide)))))), ?hb⟩)
  case hts => rintro ts Q X ⟨n, w, rfl, _⟩; rfl
  case hb =>
    rintro ts Q X ⟨n, w, rfl, ⟨hw, hn, hwb⟩, hq⟩
    walk_at "go"
    refine loop_rng (fun i δ => ∃ (d : Nat) (l : Int), (DInv n w d l ∧ (1 < l → d = i)) ∧ ∃ z4 : Option T, δ = [some (.t (.int (n : Nat))), some (.t (.int (w : Nat))), some (.t (.int (d : Nat))), some (.t (.int l)), oT z4]) ⟨0, n, ⟨dinv0 n w, fun _ => rfl⟩, by walk_at "zz"⟩  (fun i δ hi ⟨d, l, hf, z4, hd⟩ k hk => ?_) (fun δ ⟨d, l, hf, z4, hd⟩ => ?_) 
    · subst hd
      obtain ⟨g1, g2⟩ := hf
      have hbd := g1.bd (by omega)
      walk_at "go"
      refine brC_dec (fun hc => ?_) (fun hc => ?_)
      · have g3 := g1.step hw hc
        have e1 : (d : Int) + 1 = ((d + 1 : Nat) : Int) := by push_cast; rfl
        walk_at "xg4"
        refine ⟨⟨by omega, bits99 (by omega)⟩, ?_⟩
        exact hk _ ⟨d + 1, (l + (w : Int) - 1) / (w : Int), ⟨g3, fun _ => by rw [g2 hc]⟩, by walk_at "zz"⟩
      · walk_at "go"
        exact hk _ ⟨d, l, ⟨g1, fun z => absurd z hc⟩, by walk_at "zz"⟩
    · subst hd
      obtain ⟨g1, g2⟩ := hf
      have hl : l ≤ 1 := by
        refine Classical.byContradiction fun z => ?_
        have h1 := g1.lt hw (by omega) hn
        have h2 := g2 (by omega)
        omega
      walk_at "go"
      exact hq _ (g1.done hl)
def cMany : Con' := fun ts Q X => ∃ (a f k : Int) (w : Nat), ts = [L [.int a, .int f, .int k], .int (w : Nat)] ∧ (2 ≤ w ∧ w < 10 ^ 40 ∧ 0 ≤ k ∧ k ≤ 900000) ∧ (∀ (n : Nat) (a2 k2 : Int), (n < 2 ^ 140 ∧ 0 ≤ k2 ∧ k2 ≤ k + 5) → Q (.int (n : Nat)) [L [.int a2, .int f, .int k2], .int (w : Nat)])
theorem cMany_m  : MonoC (cMany) := fun ts Q Q' X X' hq hx ⟨a, f, k, w, e, h, q⟩ => ⟨a, f, k, w, e, h, fun n a2 k2 hh => hq _ _ (q n a2 k2 hh)⟩
theorem cMany_i {a f k : Int} {w : Nat}  {Q : T → List T → Prop} {X : Addr → T → List T → Prop} (h : 2 ≤ w ∧ w < 10 ^ 40 ∧ 0 ≤ k ∧ k ≤ 900000) (q : (∀ (n : Nat) (a2 k2 : Int), (n < 2 ^ 140 ∧ 0 ≤ k2 ∧ k2 ≤ k + 5) → Q (.int (n : Nat)) [L [.int a2, .int f, .int k2], .int (w : Nat)])) : cMany [L [.int a, .int f, .int k], .int (w : Nat)] Q X := ⟨a, f, k, w, rfl, h, q⟩
local macro_rules | `(tactic| walk_at "ca") => `(tactic| first | ((with_reducible refine cSame_i ?_ ?_); walk_at "sd") | ((with_reducible refine cCellAt_i ?_ ?_); walk_at "sd") | ((with_reducible refine cSource_i ?_ ?_); walk_at "sd"; intro _ _ _ _) | ((with_reducible refine cDraw_i ?_ ?_); walk_at "sd"; intro _ _ _ _) | ((with_reducible refine cCards_i ?_ ?_); walk_at "sd"; intro _ _ _ _) | ((with_reducible refine cSameP_i ?_ ?_); walk_at "sd") | ((with_reducible refine cCheckW_i ?_ ?_); walk_at "sd") | ((with_reducible refine cDepth_i ?_ ?_); walk_at "sd"; intro _ _) | ((with_reducible refine cWaysU_i ?_ ?_); walk_at "sd"; intro _ _ _ _) | ((with_reducible refine cDivs_i ?_ ?_); walk_at "sd"; intro _ _) | ((with_reducible refine cMany_i ?_ ?_); walk_at "sd"; intro _ _ _ _))
theorem ok_law_many (m_range : mg "range" = none)
    (C_law_draw : CalE P w K mg base 1 "_law_draw" ["source", "many"] cDraw)
    (h : Has K mg "_law_many" s_law_many ["source", "at_once"]) : CalE P w K mg base 2 "_law_many" ["source", "at_once"] cMany := by
  obtain ⟨f, fd, F, g, b⟩ := h
  have nd : N_law_many.Nodup := sc_law_many.nd
  have hm : MonoC cMany := cMany_m
  suffices hF : FnOk P w K mg base (L2.CX P w) 2 f fd ["source", "at_once"] (spX K cMany) from ⟨⟨f, fd, hF, g, F.kp, b⟩, hm⟩
  refine okF [true, false] 3 _ F sc_law_many rfl rfl ?hts (fun cdv A outer s H E hr tk po => ⟨_, _, (pss_cons (qset 2 (ecl C_law_draw tk hr (by omega) (by rfl) (pa_cons (pv 0) (pa_cons pe_int pa_nil))) nd)
      (pss_cons (ps_if (pt_cmpR op_lt (pv 2) pe_int (nomark _)) (pss_one (ps_ret (ecl C_law_draw tk hr (by omega) (by rfl) (pa_cons (pv 0) (pa_cons (pe_ix (kix K) (pe_lst (pa_cons pe_int (pa_cons pe_int (pa_cons (pe_op op_pow pe_int pe_int) pa_nil)))) (pv 2) (fun _ _ => rfl)) pa_nil))))) pss_nil)
      (pss_cons (qset 3 pe_int nd)
      (pss_cons (ps_for po rfl (pi_range1 (by rfl) m_range (pa_cons (ecl C_law_draw tk hr (by omega) (by rfl) (pa_cons (pv 0) (pa_cons pe_int pa_nil))) pa_nil)) (gnm 4 nd) (pss_one (ps_if (pt_cmpR op_lt (pe_op op_mulX (pv 3) (pv 1)) (pe_op op_sub (pe_op op_pow pe_int pe_int) pe_int) (nomark _)) (pss_one (qset 3 (pe_op op_mulX (pv 3) (pv 1)) nd)) pss_nil)))
      (pss_one (ps_ret (pe_op op_sub (pe_op op_addX (pv 3) (ecl C_law_draw tk hr (by omega) (by rfl) (pa_cons (pv 0) (pa_cons pe_int pa_nil)))) pe_int))))))),
      (ss_seq (ss_asg (se_call (bs := [true, false]) C_law_draw.mono (sa_cons (se_var (i := 0) (by decide)) (sa_cons se_int sa_nil))) (sg_name (i := 2) (by decide)))
      (ss_seq (ss_if (st_test (se_op p2_bool0 (se_var (i := 2) (by decide)) se_int)) (ss_ret (se_call (bs := [true, false]) C_law_draw.mono (sa_cons (se_var (i := 0) (by decide)) (sa_cons (se_op p2_ix (se_lst (sa_cons se_int (sa_cons se_int (sa_cons (se_op p2_int se_int se_int) sa_nil)))) (se_var (i := 2) (by decide))) sa_nil)))) ss_next)
      (ss_seq (ss_asg se_int (sg_name (i := 3) (by decide)))
      (ss_seq (ss_for (si_rng1 (sa_cons (se_call (bs := [true, false]) C_law_draw.mono (sa_cons (se_var (i := 0) (by decide)) (sa_cons se_int sa_nil))) sa_nil)) (sg_name (i := 4) (by decide)) (ss_fg [false, false, true, true, true] (ss_if (st_test (se_op p2_bool0 (se_op p2_mul (se_var (i := 3) (by decide)) (se_var (i := 1) (by decide))) (se_op p2_int0 (se_op p2_int se_int se_int) se_int))) (ss_asg (se_op p2_mul (se_var (i := 3) (by decide)) (se_var (i := 1) (by decide))) (sg_name (i := 3) (by decide))) ss_next)))
      (ss_ret (se_op p2_int0 (se_op p2_add (se_var (i := 3) (by decide)) (se_call (bs := [true, false]) C_law_draw.mono (sa_cons (se_var (i := 0) (by decide)) (sa_cons se_int sa_nil)))) se_int)))))), ?hb⟩)
  case hts => rintro ts Q X ⟨a, f, k, w, rfl, _⟩; rfl
  case hb =>
    rintro ts Q X ⟨a, f, k, w, rfl, h, hq⟩
    walk_at "go"
    rename_i r1 a1 k1 h1
    refine brC_dec (fun hb => ?_) (fun hb => ?_)
    · obtain ⟨mo, hmo, e1⟩ := pickI (l := [7, 201, 10 ^ 40]) (i := r1) (by omega) (by simp; omega)
      have e1 : [T.int 7, T.int 201, T.int (10 ^ 40)][r1.toNat]? = some (.int mo) := e1
      have hmo : 0 < mo ∧ mo ≤ 10 ^ 40 := by
        simp only [List.mem_cons, List.not_mem_nil, or_false] at hmo
        omega
      walk_at "xg4"
      rename_i r2 a2 k2 h2
      obtain ⟨n, rfl⟩ : ∃ n : Nat, r2 = n := ⟨r2.toNat, by omega⟩
      walk_at "go"
      exact hq n _ _ ⟨by omega, by omega, by omega⟩
    · walk_at "go"
      rename_i r3 a3 k3 h3
      refine loop_rng (fun i δ => ∃ (pw : Int), (0 < pw ∧ pw < 10 ^ 40) ∧ ∃ z4 : Option T, δ = [some (.al 5 []), some (.t (.int (w : Nat))), some (.t (.int r1)), some (.t (.int pw)), oT z4, some (.t (L [.int a3, .int f, .int k3]))]) ⟨1, by decide, by walk_at "zz"⟩  (fun i δ hi ⟨pw, hf, z4, hd⟩ k hk => ?_) (fun δ ⟨pw, hf, z4, hd⟩ => ?_) 
      · subst hd
        have hcm : TV.CMulB pw (w : Int) := TV.big_mul (a := 140) (b := 140) (by omega) (by omega) (by decide) (by decide) (by decide)
        have hpos : 0 < pw * (w : Int) := Int.mul_pos hf.1 (by omega)
        walk_at "go"
        refine brC_dec (fun hc => ?_) (fun hc => ?_)
        · walk_at "go"
          exact hk _ ⟨pw * (w : Int), ⟨hpos, by omega⟩, by walk_at "zz"⟩
        · walk_at "go"
          exact hk _ ⟨pw, hf, by walk_at "zz"⟩
      · subst hd
        walk_at "go"
        rename_i r4 a4 k4 h4
        obtain ⟨n, hn⟩ : ∃ n : Nat, pw + r4 - 1 = n := ⟨(pw + r4 - 1).toNat, by omega⟩
        walk_at "xg5"
        exact hq n _ _ ⟨by omega, by omega, by omega⟩


abbrev LLN := List (List Nat)
theorem pop_map (l : List Nat) (i : Nat) : (l.map tN).eraseIdx i = (l.eraseIdx i).map tN := by
  induction l generalizing i with
  | nil => rfl
  | cons x r ih =>
    cases i with
    | zero => rfl
    | succ i => simp only [List.map_cons, List.eraseIdx_cons_succ, ih]
abbrev Lln (ms : LLN) : T := .nd .lst true (ms.map Ln)
def cMerges : Con' := fun ts Q X => ∃ (a f k : Int) (n w : Nat), ts = [L [.int a, .int f, .int k], .int (n : Nat), .int (w : Nat)] ∧ (2 ≤ w ∧ w < 10 ^ 40 ∧ n ≤ 20 ∧ 0 ≤ k ∧ k ≤ 900000) ∧ (∀ (ms : LLN) (a2 k2 : Int), ((∃ i th, MInv n w i ms th ∧ th.length ≤ 1 ∧ i ≤ 20) ∧ 0 ≤ k2 ∧ k2 ≤ k + 22 * 21) → Q (Lln ms) [L [.int a2, .int f, .int k2], .int (n : Nat), .int (w : Nat)])
theorem cMerges_m  : MonoC (cMerges) := fun ts Q Q' X X' hq hx ⟨a, f, k, n, w, e, h, q⟩ => ⟨a, f, k, n, w, e, h, fun ms a2 k2 hh => hq _ _ (q ms a2 k2 hh)⟩
theorem cMerges_i {a f k : Int} {n w : Nat}  {Q : T → List T → Prop} {X : Addr → T → List T → Prop} (h : 2 ≤ w ∧ w < 10 ^ 40 ∧ n ≤ 20 ∧ 0 ≤ k ∧ k ≤ 900000) (q : (∀ (ms : LLN) (a2 k2 : Int), ((∃ i th, MInv n w i ms th ∧ th.length ≤ 1 ∧ i ≤ 20) ∧ 0 ≤ k2 ∧ k2 ≤ k + 22 * 21) → Q (Lln ms) [L [.int a2, .int f, .int k2], .int (n : Nat), .int (w : Nat)])) : cMerges [L [.int a, .int f, .int k], .int (n : Nat), .int (w : Nat)] Q X := ⟨a, f, k, n, w, rfl, h, q⟩
local macro_rules | `(tactic| walk_at "ca") => `(tactic| first | ((with_reducible refine cSame_i ?_ ?_); walk_at "sd") | ((with_reducible refine cCellAt_i ?_ ?_); walk_at "sd") | ((with_reducible refine cSource_i ?_ ?_); walk_at "sd"; intro _ _ _ _) | ((with_reducible refine cDraw_i ?_ ?_); walk_at "sd"; intro _ _ _ _) | ((with_reducible refine cCards_i ?_ ?_); walk_at "sd"; intro _ _ _ _) | ((with_reducible refine cSameP_i ?_ ?_); walk_at "sd") | ((with_reducible refine cCheckW_i ?_ ?_); walk_at "sd") | ((with_reducible refine cDepth_i ?_ ?_); walk_at "sd"; intro _ _) | ((with_reducible refine cWaysU_i ?_ ?_); walk_at "sd"; intro _ _ _ _) | ((with_reducible refine cDivs_i ?_ ?_); walk_at "sd"; intro _ _) | ((with_reducible refine cMany_i ?_ ?_); walk_at "sd"; intro _ _ _ _) | ((with_reducible refine cMerges_i ?_ ?_); walk_at "sd"; intro _ _ _ _))
theorem ok_law_merges (m_range : mg "range" = none)
    (m_min : mg "min" = none)
    (m_len : mg "len" = none)
    (m_list : mg "list" = none)
    (C_law_draw : CalE P w K mg base 1 "_law_draw" ["source", "many"] cDraw)
    (h : Has K mg "_law_merges" s_law_merges ["source", "many", "at_once"]) : CalE P w K mg base 2 "_law_merges" ["source", "many", "at_once"] cMerges := by
  obtain ⟨f, fd, F, g, b⟩ := h
  have nd : N_law_merges.Nodup := sc_law_merges.nd
  have hm : MonoC cMerges := cMerges_m
  suffices hF : FnOk P w K mg base (L2.CX P w) 2 f fd ["source", "many", "at_once"] (spX K cMerges) from ⟨⟨f, fd, hF, g, F.kp, b⟩, hm⟩
  refine okF [true, false, false] 5 _ F sc_law_merges rfl rfl ?hts (fun cdv A outer s H E hr tk po => ⟨_, _, (pss_cons (qset 3 (pe_listRg rfl (by rfl) m_list (prg_1 (by rfl) m_range (pv 1))) nd)
      (pss_cons (qset 4 (pe_lst pa_nil) nd)
      (pss_cons (ps_for po rfl (pi_range1 (by rfl) m_range (pa_cons (pv 1) pa_nil)) (gnm 5 nd) (pss_cons (ps_if (pt_cmpR op_lt (pe_callB (kclenX K) (by rfl) m_len (by decide +kernel) (pa_cons (pv 3) pa_nil)) pe_int (nomark _)) (pss_one ps_break) pss_nil)
      (pss_cons (qset 6 (pe_lst pa_nil) nd)
      (pss_cons (ps_for po rfl (pi_range1 (by rfl) m_range (pa_cons (pe_op op_addX pe_int (ecl C_law_draw tk hr (by omega) (by rfl) (pa_cons (pv 0) (pa_cons (pe_op op_sub (pe_callB (call_min2 rfl) (by rfl) m_min (by decide +kernel) (pa_cons (pv 2) (pa_cons (pe_callB (kclenX K) (by rfl) m_len (by decide +kernel) (pa_cons (pv 3) pa_nil)) pa_nil))) pe_int) pa_nil)))) pa_nil)) (gnm 7 nd) (pss_one (ps_expr (kbm K PySem.F.plainAttrs_list PySem.F.slot_list_append PySem.F.type_list_append mt_append (pv 6) (pa_cons (kbm K PySem.F.plainAttrs_list PySem.F.slot_list_pop PySem.F.type_list_pop mt_popAt (pv 3) (pa_cons (ecl C_law_draw tk hr (by omega) (by rfl) (pa_cons (pv 0) (pa_cons (pe_callB (kclenX K) (by rfl) m_len (by decide +kernel) (pa_cons (pv 3) pa_nil)) pa_nil))) pa_nil)) pa_nil)))))
      (pss_cons (ps_expr (kbm K PySem.F.plainAttrs_list PySem.F.slot_list_append PySem.F.type_list_append mt_append (pv 4) (pa_cons (pv 6) pa_nil)))
      (pss_one (ps_expr (kbm K PySem.F.plainAttrs_list PySem.F.slot_list_append PySem.F.type_list_append mt_append (pv 3) (pa_cons (pe_op op_addX (pv 1) (pv 5)) pa_nil)))))))))
      (pss_one (ps_ret (pv 4)))))),
      (ss_seq (ss_asg (se_listRg1 (se_var (i := 1) (by decide))) (sg_name (i := 3) (by decide)))
      (ss_seq (ss_asg (se_lst sa_nil) (sg_name (i := 4) (by decide)))
      (ss_seqC (ss_for (si_rng1 (sa_cons (se_var (i := 1) (by decide)) sa_nil)) (sg_name (i := 5) (by decide)) (ss_fg [false, false, false, true, true, true, true, true] (ss_seq (ss_if (st_test (se_op p2_bool0 (se_cb pb_len (sa_cons (se_var (i := 3) (by decide)) sa_nil)) se_int)) ss_break ss_next)
      (ss_seq (ss_asg (se_lst sa_nil) (sg_name (i := 6) (by decide)))
      (ss_seq (ss_for (si_rng1 (sa_cons (se_op p2_add se_int (se_call (bs := [true, false]) C_law_draw.mono (sa_cons (se_var (i := 0) (by decide)) (sa_cons (se_op p2_int0 (se_cb pb_min2 (sa_cons (se_var (i := 2) (by decide)) (sa_cons (se_cb pb_len (sa_cons (se_var (i := 3) (by decide)) sa_nil)) sa_nil))) se_int) sa_nil)))) sa_nil)) (sg_name (i := 7) (by decide)) (ss_fg [false, false, false, true, true, true, true, true] (ss_drop (se_m pm_append (se_var (i := 6) (by decide)) (sa_cons (se_m pm_popAt (se_var (i := 3) (by decide)) (sa_cons (se_call (bs := [true, false]) C_law_draw.mono (sa_cons (se_var (i := 0) (by decide)) (sa_cons (se_cb pb_len (sa_cons (se_var (i := 3) (by decide)) sa_nil)) sa_nil))) sa_nil)) sa_nil)))))
      (ss_seq (ss_drop (se_mov (se_m pm_append (se_var (i := 4) (by decide)) (sa_cons (se_var (i := 6) (by decide)) sa_nil))))
      (ss_drop (se_m pm_append (se_var (i := 3) (by decide)) (sa_cons (se_op p2_add (se_var (i := 1) (by decide)) (se_var (i := 5) (by decide))) sa_nil)))))))))
      (ss_ret (se_var (i := 4) (by decide)))))), ?hb⟩)
  case hts => rintro ts Q X ⟨a, f, k, n, w, rfl, _⟩; rfl
  case hb =>
    rintro ts Q X ⟨a, f, k, n, w, rfl, h, hq⟩
    have e0 : rngT 0 n = (List.range n).map tN := rngT_tN n
    walk_at "xg6"
    refine cutC (fun δ => ∃ (ms : LLN) (th : List Nat) (i : Nat) (a2 k2 : Int), (MInv n w i ms th ∧ th.length ≤ 1 ∧ i ≤ 20 ∧ 0 ≤ k2 ∧ k2 ≤ k + 22 * 21) ∧ ∃ z5 z6 z7 : Option T, δ = [some (.al 8 []), some (.t (.int (n : Nat))), some (.t (.int (w : Nat))), some (.t (Ln th)), some (.t (Lln ms)), oT z5, oT z6, oT z7, some (.t (L [.int a2, .int f, .int k2]))]) (fun kC hkC => ?_) (fun δ ⟨ms, th, i, a2, k2, hf, z5, z6, z7, hd⟩ => ?_)
    · walk_at "go"
      refine loop_rng (fun i δ => ∃ (ms : LLN) (th : List Nat) (a2 k2 : Int), (MInv n w i ms th ∧ th.length + i ≤ n ∧ 0 ≤ k2 ∧ k2 ≤ k + 22 * i) ∧ ∃ z5 z6 z7 : Option T, δ = [some (.al 8 []), some (.t (.int (n : Nat))), some (.t (.int (w : Nat))), some (.t (Ln th)), some (.t (Lln ms)), oT z5, oT z6, oT z7, some (.t (L [.int a2, .int f, .int k2]))]) ⟨[], List.range n, a, k, ⟨minv0 n w, by simp, by omega, by omega⟩, by walk_at "zz"⟩  (fun i δ hi ⟨ms, th, a2, k2, hf, z5, z6, z7, hd⟩ k hk => ?_) (fun δ ⟨ms, th, a2, k2, hf, z5, z6, z7, hd⟩ => ?_) 
      · subst hd
        obtain ⟨g1, g2, g3, g4⟩ := hf
        walk_at "go"
        refine brC_dec (fun hc => ?_) (fun hc => ?_)
        · walk_at "go"
          exact hkC _ ⟨ms, th, i, a2, k2, ⟨g1, by omega, by omega, by omega, by omega⟩, by walk_at "zz"⟩
        · walk_at "go"
          rename_i r a3 k3 h3
          refine loop_rng (fun j δ => ∃ (tks tht : List Nat) (a4 k4 : Int), (tks.length = j ∧ tks.length + tht.length = th.length ∧ (∀ x ∈ tks, x ∈ th) ∧ (∀ x ∈ tht, x ∈ th) ∧ pot w (deepV n ms) tks + pot w (deepV n ms) tht = pot w (deepV n ms) th ∧ 0 ≤ k4 ∧ k4 ≤ k3 + j) ∧ ∃ z7 : Option T, δ = [some (.al 8 []), some (.t (.int (n : Nat))), some (.t (.int (w : Nat))), some (.t (Ln tht)), some (.t (Lln ms)), some (.t (.int (i : Nat))), some (.t (Ln tks)), oT z7, some (.t (L [.int a4, .int f, .int k4]))]) ⟨[], th, a3, k3, ⟨rfl, by simp, fun x hx => by simp at hx, fun x hx => hx, by simp [pot], by omega, by omega⟩, by walk_at "zz"⟩  (fun j δ hxj ⟨tks, tht, a4, k4, hf, z7, hd⟩ kj hkj => ?_) (fun δ ⟨tks, tht, a4, k4, hf, z7, hd⟩ => ?_) 
          · subst hd
            obtain ⟨q1, q2, q3, q4, q5, q6, q7⟩ := hf
            walk_at "go"
            rename_i r5 a5 k5 h5
            obtain ⟨x, hx⟩ : ∃ x, tht[r5.toNat]? = some x := ⟨_, List.getElem?_eq_getElem (by omega)⟩
            have hg : (tht.map tN)[r5.toNat]? = some (tN x) := by rw [List.getElem?_map, hx]; rfl
            have hp5 := pot_erase w (deepV n ms) tht r5.toNat x hx
            have hlt : r5.toNat < tht.length := (List.getElem?_eq_some_iff.mp hx).1
            have hxm := q4 x (List.mem_of_getElem? hx)
            have e4 : tks.map tN ++ [T.int (x : Int)] = (tks ++ [x]).map tN := by rw [List.map_append]; rfl
            walk_at "xg7"
            refine hkj _ ⟨tks ++ [x], tht.eraseIdx r5.toNat, a5, k5, ⟨by rw [List.length_append, List.length_singleton, q1], by rw [List.length_append, List.length_singleton, List.length_eraseIdx_of_lt hlt]; omega, fun y hy => ?_, fun y hy => q4 y (List.eraseIdx_subset hy), ?_, by omega, by omega⟩, by walk_at "zz"⟩
            · rcases List.mem_append.mp hy with z | z
              · exact q3 y z
              · rw [List.mem_singleton.mp z]; exact hxm
            · rw [pot_app, pot, pot]
              omega
          · subst hd
            obtain ⟨q1, q2, q3, q4, q5, q6, q7⟩ := hf
            have e4 : ms.map Ln ++ [T.nd .lst true (tks.map tN)] = (ms ++ [tks]).map Ln := by rw [List.map_append]; rfl
            have e5 : tht.map tN ++ [T.int ((n : Int) + (i : Int))] = (tht ++ [n + i]).map tN := by rw [List.map_append]; simp [tN]
            walk_at "xg8"
            have g0 := g1.len
            walk_at "xg8"
            exact hk _ ⟨ms ++ [tks], tht ++ [n + i], a4, k4, ⟨g1.step h.1 (fun z => by rw [z] at q1; simp at q1; omega) (by omega) (by omega) q3 q4 q5, by rw [List.length_append, List.length_singleton]; omega, by omega, by omega⟩, by walk_at "zz"⟩
      · subst hd
        walk_at "go"
        exact hkC _ ⟨ms, th, n, a2, k2, ⟨hf.1, by omega, by omega, by omega, by omega⟩, by walk_at "zz"⟩
    · subst hd
      walk_at "go"
      exact hq _ _ _ ⟨⟨i, th, hf.1, hf.2.1, hf.2.2.1⟩, hf.2.2.2⟩


theorem rep0 : ∀ n : Nat, (List.replicate n [T.int 0]).flatten = (List.replicate n 0).map tN
  | 0 => rfl
  | n + 1 => by rw [List.replicate_succ, List.flatten_cons, List.replicate_succ, List.map_cons, rep0 n]; rfl
theorem mx_isMax {l : List Nat} {v : Int} (h : IsMax (nI l) v) : v = (mx l : Nat) := by
  obtain ⟨hm, hu⟩ := h
  obtain ⟨y, hy, rfl⟩ := List.mem_map.mp hm
  have h1 := mx_ge hy
  rcases mx_mem (l := l) with z | z
  · omega
  · have := hu _ (List.mem_map_of_mem z)
    omega
def cDeepest : Con' := fun ts Q X => ∃ (n : Nat) (ms : LLN), ts = [.int (n : Nat), .nd .lst false (ms.map Fn)] ∧ (n ≤ 20 ∧ (∃ w i th, MInv n w i ms th ∧ i ≤ 20)) ∧ Q (.int (mx (deepV n ms) : Nat)) [.int (n : Nat), .nd .lst false (ms.map Fn)]
theorem cDeepest_m  : MonoC (cDeepest) := fun ts Q Q' X X' hq hx ⟨n, ms, e, h, q⟩ => ⟨n, ms, e, h, hq _ _ q⟩
theorem cDeepest_i {n : Nat} {ms : LLN}  {Q : T → List T → Prop} {X : Addr → T → List T → Prop} (h : n ≤ 20 ∧ (∃ w i th, MInv n w i ms th ∧ i ≤ 20)) (q : Q (.int (mx (deepV n ms) : Nat)) [.int (n : Nat), .nd .lst false (ms.map Fn)]) : cDeepest [.int (n : Nat), .nd .lst false (ms.map Fn)] Q X := ⟨n, ms, rfl, h, q⟩
local macro_rules | `(tactic| walk_at "ca") => `(tactic| first | ((with_reducible refine cSame_i ?_ ?_); walk_at "sd") | ((with_reducible refine cCellAt_i ?_ ?_); walk_at "sd") | ((with_reducible refine cSource_i ?_ ?_); walk_at "sd"; intro _ _ _ _) | ((with_reducible refine cDraw_i ?_ ?_); walk_at "sd"; intro _ _ _ _) | ((with_reducible refine cCards_i ?_ ?_); walk_at "sd"; intro _ _ _ _) | ((with_reducible refine cSameP_i ?_ ?_); walk_at "sd") | ((with_reducible refine cCheckW_i ?_ ?_); walk_at "sd") | ((with_reducible refine cDepth_i ?_ ?_); walk_at "sd"; intro _ _) | ((with_reducible refine cWaysU_i ?_ ?_); walk_at "sd"; intro _ _ _ _) | ((with_reducible refine cDivs_i ?_ ?_); walk_at "sd"; intro _ _) | ((with_reducible refine cMany_i ?_ ?_); walk_at "sd"; intro _ _ _ _) | ((with_reducible refine cMerges_i ?_ ?_); walk_at "sd"; intro _ _ _ _) | ((with_reducible refine cDeepest_i ?_ ?_); walk_at "sd"))
theorem ok_law_deepest (m_max : mg "max" = none)
    (h : Has K mg "_law_deepest" s_law_deepest ["many", "merges"]) : CalE P w K mg base 1 "_law_deepest" ["many", "merges"] cDeepest := by
  obtain ⟨f, fd, F, g, b⟩ := h
  have nd : N_law_deepest.Nodup := sc_law_deepest.nd
  have hm : MonoC cDeepest := cDeepest_m
  suffices hF : FnOk P w K mg base (L2.CX P w) 1 f fd ["many", "merges"] (spX K cDeepest) from ⟨⟨f, fd, hF, g, F.kp, b⟩, hm⟩
  refine okF [false, false] 3 _ F sc_law_deepest rfl rfl ?hts (fun cdv A outer s H E hr tk po => ⟨_, _, (pss_cons (qset 2 (pe_op op_mulX (pe_lst (pa_cons pe_int pa_nil)) (pv 0)) nd)
      (pss_cons (ps_for po rfl (kpi_list K (pv 1)) (gnm 3 nd) (pss_one (ps_expr (kbm K PySem.F.plainAttrs_list PySem.F.slot_list_append PySem.F.type_list_append mt_append (pv 2) (pa_cons (pe_op op_addX pe_int (pe_callB (kcmax K hr.units) (by rfl) m_max (by decide +kernel) (pa_cons (pe_lc (own := [("number0", 4)]) (g := (gName 4)) (tt := tYes) rfl nd (kpi_list K (pv 3)) (blkOk_by (own := [("number0", 4)]) (N := N_law_deepest) (sc := defScope s_law_deepest) (by decide +kernel)) (fun _ _ _ _ _ => (gnm 4 nd)) (fun _ _ _ _ _ => pts_nil) (fun _ _ _ _ _ => (pe_ix (kix K) (pv 2) (pv 4) (fun _ _ => rfl)))) pa_nil))) pa_nil)))))
      (pss_one (ps_ret (pe_callBK (TV.kmaxD K hr.units) (by rfl) m_max (by decide +kernel) (pa_cons (pv 2) pa_nil) (pk_cons pe_int pk_nil)))))),
      (ss_seq (ss_asg (se_op p2_mul (se_lst (sa_cons se_int sa_nil)) (se_var (i := 0) (by decide))) (sg_name (i := 2) (by decide)))
      (ss_seq (ss_for (si_list (se_var (i := 1) (by decide))) (sg_name (i := 3) (by decide)) (ss_fg [false, false, true, true, true] (ss_drop (se_m pm_append (se_var (i := 2) (by decide)) (sa_cons (se_op p2_add se_int (se_cb pb_max (sa_cons (se_lc (by decide) (si_list (se_var (i := 3) (by decide))) (sg_name (i := 4) (by decide)) st_yes (se_op p2_ix (se_var (i := 2) (by decide)) (se_var (i := 4) (by decide)))) sa_nil))) sa_nil)))))
      (ss_ret (se_maxD (se_var (i := 2) (by decide)) se_int)))), ?hb⟩)
  case hts => rintro ts Q X ⟨n, ms, rfl, _⟩; rfl
  case hb =>
    rintro ts Q X ⟨n, ms, rfl, ⟨h1, w, i0, th, v, h2⟩, hq⟩
    have e0 : (List.replicate n [T.int 0]).flatten = (deepV n []).map tN := by
      exact rep0 n
    walk_at "xg6"
    refine loop_map (f := Fn) (l := ms) (srcs := []) (fun i δ => ∃ z3 z4 : Option T, δ = [some (.t (.int (n : Nat))), some (.t (.nd .lst false (ms.map Fn))), some (.t (Ln (deepV n (ms.take i)))), oT z3, oT z4]) (by walk_at "zz") (fun i δ ⟨z3, z4, hd⟩ q hq => by subst hd; first | (simp at hq; done) | (simp only [List.mem_cons, List.mem_singleton, List.not_mem_nil, or_false] at hq; (first | subst hq | (rcases hq with hq | hq <;> subst hq)) <;> first | rfl | (simp [argT, look, sub, tree, T.at]; done))) (fun i δ x hx ⟨z3, z4, hd⟩ k hk => ?_) (fun δ ⟨z3, z4, hd⟩ => ?_) 
    · subst hd
      have hil := (List.getElem?_eq_some_iff.mp hx).1
      have hml := v.len
      have hok := v.mok i x hx
      have htk : ms.take (i + 1) = ms.take i ++ [x] := by rw [List.take_add_one, hx]; rfl
      rw [htk, deepV_snoc] at hk
      have hdl := deepV_len n (ms.take i)
      rw [List.length_take] at hdl
      generalize deepV n (ms.take i) = dv at hk hdl ⊢
      walk_at "xg9"
      refine lc_stP (f := tN) (l := x) (srcs := []) (fun _ => true) (fun q => T.int ((dAt dv q : Nat) : Int)) rfl (fun acc q hq => by simp at hq) (fun j y hy acc ha k hk => ?_) ?_ rfl
      · have hym := hok.2.2 y (List.mem_of_getElem? hy)
        have hjl := (List.getElem?_eq_some_iff.mp hy).1
        have hg : (dv.map tN)[y]? = some (.int ((dAt dv y : Nat) : Int)) := by
          rw [List.getElem?_map]
          simp [dAt, List.getElem?_eq_getElem (show y < dv.length by omega), tN]
        walk_at "xg10"
        exact hk
      · have e1 : x.map (fun q => T.int ((dAt dv q : Nat) : Int)) = (nI (x.map (dAt dv))).map T.int := by rw [List.map_map, List.map_map]; rfl
        walk_at "xg4"
        refine ⟨fun z => hok.1 (by simpa using z), fun v hv => ?_⟩
        rw [mx_isMax hv]
        have e2 : dv.map tN ++ [T.int (1 + ((mx (x.map (dAt dv)) : Nat) : Int))] = (dv ++ [1 + mx (x.map (dAt dv))]).map tN := by rw [List.map_append]; simp [tN]
        walk_at "xg11"
        exact hk _ (by walk_at "zz")
    · subst hd
      rw [List.take_length]
      have e1 : (deepV n ms).map tN = (nI (deepV n ms)).map T.int := by rw [List.map_map]; rfl
      walk_at "xg4"
      intro v hv
      by_cases hz : nI (deepV n ms) = []
      · have e2 : deepV n ms = [] := by simpa using hz
        rw [hv.1 hz]
        rw [e2] at hq
        exact hq
      · rw [mx_isMax (hv.2 hz)]
        exact hq


def cLaw : Con' := fun ts Q X => ∃ (ns : List Int), ts = [scrT ns] ∧ (ns.length ≤ 63 ∧ ∀ z ∈ ns, z.natAbs.log2 < 2000000) ∧ Q (.bl true) [scrT ns]
theorem cLaw_m  : MonoC (cLaw) := fun ts Q Q' X X' hq hx ⟨ns, e, h, q⟩ => ⟨ns, e, h, hq _ _ q⟩
theorem cLaw_i {ns : List Int}  {Q : T → List T → Prop} {X : Addr → T → List T → Prop} (h : ns.length ≤ 63 ∧ ∀ z ∈ ns, z.natAbs.log2 < 2000000) (q : Q (.bl true) [scrT ns]) : cLaw [scrT ns] Q X := ⟨ns, rfl, h, q⟩
local macro_rules | `(tactic| walk_at "ca") => `(tactic| first | ((with_reducible refine cSame_i ?_ ?_); walk_at "sd") | ((with_reducible refine cCellAt_i ?_ ?_); walk_at "sd") | ((with_reducible refine cSource_i ?_ ?_); walk_at "sd"; intro _ _ _ _) | ((with_reducible refine cDraw_i ?_ ?_); walk_at "sd"; intro _ _ _ _) | ((with_reducible refine cCards_i ?_ ?_); walk_at "sd"; intro _ _ _ _) | ((with_reducible refine cSameP_i ?_ ?_); walk_at "sd") | ((with_reducible refine cCheckW_i ?_ ?_); walk_at "sd") | ((with_reducible refine cDepth_i ?_ ?_); walk_at "sd"; intro _ _) | ((with_reducible refine cWaysU_i ?_ ?_); walk_at "sd"; intro _ _ _ _) | ((with_reducible refine cDivs_i ?_ ?_); walk_at "sd"; intro _ _) | ((with_reducible refine cMany_i ?_ ?_); walk_at "sd"; intro _ _ _ _) | ((with_reducible refine cMerges_i ?_ ?_); walk_at "sd"; intro _ _ _ _) | ((with_reducible refine cDeepest_i ?_ ?_); walk_at "sd") | ((with_reducible refine cLaw_i ?_ ?_); walk_at "sd"))
theorem ok_law (m_min : mg "min" = none)
    (m_len : mg "len" = none)
    (m_range : mg "range" = none)
    (C_law_same : CalE P w K mg base 4 "_law_same" ["found", "due"] (cSame 3))
    (C_depth : CalE P w K mg base 2 "depth" ["number", "ways"] cDepth)
    (C_law_deepest : CalE P w K mg base 1 "_law_deepest" ["many", "merges"] cDeepest)
    (C_law_merges : CalE P w K mg base 2 "_law_merges" ["source", "many", "at_once"] cMerges)
    (C_law_draw : CalE P w K mg base 1 "_law_draw" ["source", "many"] cDraw)
    (C_law_divisions : CalE P w K mg base 1 "_law_divisions" ["many", "at_once"] cDivs)
    (C_law_many : CalE P w K mg base 2 "_law_many" ["source", "at_once"] cMany)
    (C_law_ways : CalE P w K mg base 2 "_law_ways" ["source"] cWaysU)
    (C_law_source : CalE P w K mg base 2 "_law_source" ["script", "place"] cSource)
    (CK_depth_ways_number : CalEK P w K mg base 2 "depth" ["number", "ways"] ["ways", "number"] (TV.gK 2 [1, 0]) cDepth)
    {f : Addr} {fd : FuncData} (F : Fun K "law" "law" s_law f fd) : FnOk P w K mg base (L2.CX P w) 5 f fd ["script"] (spX K cLaw) := by
  have nd : N_law.Nodup := sc_law.nd
  refine okF [false] 7 _ F sc_law rfl rfl ?hts (fun cdv A outer s H E hr tk po => ⟨_, _, (pss_cons (ps_for po rfl (pi_range1 (by rfl) m_range (pa_cons (pe_op op_addX pe_int (pe_callB (call_min2 rfl) (by rfl) m_min (by decide +kernel) (pa_cons (pe_callB (kclenX K) (by rfl) m_len (by decide +kernel) (pa_cons (pv 0) pa_nil)) (pa_cons pe_int pa_nil)))) pa_nil)) (gnm 1 nd) (pss_cons (qset 2 (ecl C_law_source tk hr (by omega) (by rfl) (pa_cons (pv 0) (pa_cons (pv 1) pa_nil))) nd)
      (pss_cons (qset 3 (ecl C_law_ways tk hr (by omega) (by rfl) (pa_cons (pv 2) pa_nil)) nd)
      (pss_cons (qset 4 (ecl C_law_many tk hr (by omega) (by rfl) (pa_cons (pv 2) (pa_cons (pv 3) pa_nil))) nd)
      (pss_cons (qset 5 (ecl C_law_divisions tk hr (by omega) (by rfl) (pa_cons (pv 4) (pa_cons (pv 3) pa_nil))) nd)
      (pss_cons (ps_if (pt_not (ktruth K (ecl C_law_same tk hr (by omega) (by rfl) (pa_cons (ecl C_depth tk hr (by omega) (by rfl) (pa_cons (pv 4) (pa_cons (pv 3) pa_nil))) (pa_cons (pv 5) pa_nil))))) (pss_one (ps_ret pe_bl)) pss_nil)
      (pss_cons (qset 6 (ecl C_law_draw tk hr (by omega) (by rfl) (pa_cons (pv 2) (pa_cons pe_int pa_nil))) nd)
      (pss_cons (qset 7 (ecl C_law_merges tk hr (by omega) (by rfl) (pa_cons (pv 2) (pa_cons (pv 6) (pa_cons (pv 3) pa_nil)))) nd)
      (pss_cons (ps_if (pt_cmpR op_gt (ecl C_depth tk hr (by omega) (by rfl) (pa_cons (pv 6) (pa_cons (pv 3) pa_nil))) (ecl C_law_deepest tk hr (by omega) (by rfl) (pa_cons (pv 6) (pa_cons (pv 7) pa_nil))) (nomark _)) (pss_one (ps_ret pe_bl)) pss_nil)
      (pss_one (ps_if (pt_not (ktruth K (ecl C_law_same tk hr (by omega) (by rfl) (pa_cons (eclK CK_depth_ways_number tk hr (by omega) (by rfl) (pk_cons (pv 3) (pk_cons (pv 4) pk_nil))) (pa_cons (pv 5) pa_nil))))) (pss_one (ps_ret pe_bl)) pss_nil)))))))))))
      (pss_one (ps_ret (kand K (ecl C_law_same tk hr (by omega) (by rfl) (pa_cons (ecl C_depth tk hr (by omega) (by rfl) (pa_cons pe_int (pa_cons pe_int pa_nil))) (pa_cons pe_int pa_nil))) (pe_one (ecl C_law_same tk hr (by omega) (by rfl) (pa_cons (ecl C_depth tk hr (by omega) (by rfl) (pa_cons pe_int (pa_cons pe_int pa_nil))) (pa_cons pe_int pa_nil)))))))),
      (ss_seq (ss_for (si_rng1 (sa_cons (se_op p2_add se_int (se_cb pb_min2 (sa_cons (se_cb pb_len (sa_cons (se_var (i := 0) (by decide)) sa_nil)) (sa_cons se_int sa_nil)))) sa_nil)) (sg_name (i := 1) (by decide)) (ss_fg [false, true, true, true, true, true, true, true] (ss_seq (ss_asg (se_call (bs := [false, false]) C_law_source.mono (sa_cons (se_var (i := 0) (by decide)) (sa_cons (se_var (i := 1) (by decide)) sa_nil))) (sg_name (i := 2) (by decide)))
      (ss_seq (ss_asg (se_call (bs := [true]) C_law_ways.mono (sa_cons (se_var (i := 2) (by decide)) sa_nil)) (sg_name (i := 3) (by decide)))
      (ss_seq (ss_asg (se_call (bs := [true, false]) C_law_many.mono (sa_cons (se_var (i := 2) (by decide)) (sa_cons (se_var (i := 3) (by decide)) sa_nil))) (sg_name (i := 4) (by decide)))
      (ss_seq (ss_asg (se_call (bs := [false, false]) C_law_divisions.mono (sa_cons (se_var (i := 4) (by decide)) (sa_cons (se_var (i := 3) (by decide)) sa_nil))) (sg_name (i := 5) (by decide)))
      (ss_seq (ss_if (st_not (st_tru (se_call (bs := [false, false]) C_law_same.mono (sa_cons (se_call (bs := [false, false]) C_depth.mono (sa_cons (se_var (i := 4) (by decide)) (sa_cons (se_var (i := 3) (by decide)) sa_nil))) (sa_cons (se_var (i := 5) (by decide)) sa_nil))))) (ss_ret se_bl) ss_next)
      (ss_seq (ss_asg (se_call (bs := [true, false]) C_law_draw.mono (sa_cons (se_var (i := 2) (by decide)) (sa_cons se_int sa_nil))) (sg_name (i := 6) (by decide)))
      (ss_seq (ss_asg (se_call (bs := [true, false, false]) C_law_merges.mono (sa_cons (se_var (i := 2) (by decide)) (sa_cons (se_var (i := 6) (by decide)) (sa_cons (se_var (i := 3) (by decide)) sa_nil)))) (sg_name (i := 7) (by decide)))
      (ss_seq (ss_if (st_test (se_op p2_bool0 (se_call (bs := [false, false]) C_depth.mono (sa_cons (se_var (i := 6) (by decide)) (sa_cons (se_var (i := 3) (by decide)) sa_nil))) (se_call (bs := [false, false]) C_law_deepest.mono (sa_cons (se_var (i := 6) (by decide)) (sa_cons (se_var (i := 7) (by decide)) sa_nil))))) (ss_ret se_bl) ss_next)
      (ss_if (st_not (st_tru (se_call (bs := [false, false]) C_law_same.mono (sa_cons (se_callK (bs := [false, false]) CK_depth_ways_number.mono (sa_cons (se_var (i := 3) (by decide)) (sa_cons (se_var (i := 4) (by decide)) sa_nil))) (sa_cons (se_var (i := 5) (by decide)) sa_nil))))) (ss_ret se_bl) ss_next)))))))))))
      (ss_ret (se_and (se_call (bs := [false, false]) C_law_same.mono (sa_cons (se_call (bs := [false, false]) C_depth.mono (sa_cons se_int (sa_cons se_int sa_nil))) (sa_cons se_int sa_nil))) (se_call (bs := [false, false]) C_law_same.mono (sa_cons (se_call (bs := [false, false]) C_depth.mono (sa_cons se_int (sa_cons se_int sa_nil))) (sa_cons se_int sa_nil)))))), ?hb⟩)
  case hts => rintro ts Q X ⟨ns, rfl, _⟩; rfl
  case hb =>
    rintro ts Q X ⟨ns, rfl, h, hq⟩
    have hsn : scrT ns = Sc ns := rfl
    walk_at "go"
    refine loop_rng (fun i δ => ∃ z1 z2 z3 z4 z5 z6 z7 : Option T, δ = [some (.t (scrT ns)), oT z1, oT z2, oT z3, oT z4, oT z5, oT z6, oT z7]) (by walk_at "zz")  (fun i δ hi ⟨z1, z2, z3, z4, z5, z6, z7, hd⟩ k hk => ?_) (fun δ ⟨z1, z2, z3, z4, z5, z6, z7, hd⟩ => ?_) 
    · subst hd
      have hi4 : i < 4 := by omega
      walk_at "go"
      rename_i a0 f0 k0 h0 w a1 k1 h1 n a2 k2 h2 d1 hd1 d2 hd2
      have hw := h1.1
      have e := hd2.one hw hd1
      subst e
      walk_at "xg9"
      rename_i r a3 k3 h3
      obtain ⟨m, rfl⟩ : ∃ m : Nat, r = m := ⟨r.toNat, by omega⟩
      walk_at "xg12"
      rename_i ms a4 k4 h4 d4 hd4
      obtain ⟨⟨i0, th, v, hth, hi0⟩, h4⟩ := h4
      have hDp : m ≤ 20 ∧ ∃ w i th, MInv m w i ms th ∧ i ≤ 20 := ⟨by omega, w, i0, th, v, hi0⟩
      have hle := hd4.le hw (v.deep hw hth)
      walk_at "xg12"
      refine brC_dec (fun hc => absurd hc (by omega)) (fun hc => ?_)
      walk_at "xg12"
      rename_i d5 hd5
      have e := hd5.one hw hd1
      subst e
      walk_at "xg12"
      exact hk _ (by walk_at "zz")
    · subst hd
      have z1 : DepOk 0 2 0 := ⟨by decide, .inl rfl⟩
      have z2 : DepOk 1 2 0 := ⟨by decide, .inl rfl⟩
      walk_at "go"
      refine cDepth_i (n := 0) (w := 2) ⟨by decide, by decide, by decide⟩ (fun d hd => ?_)
      have e := hd.one (by decide) z1
      subst e
      walk_at "xg9"
      refine cDepth_i (n := 1) (w := 2) ⟨by decide, by decide, by decide⟩ (fun d hd => ?_)
      have e := hd.one (by decide) z2
      subst e
      walk_at "xg9"
      exact hq


end
theorem all_mk {l : PySem.W.OpenLaw} {w : World} {K : PySem.W.Frag} {h : Heap} {mg : Str → Option Value} {fa f0 f1 f2 f3 f4 f5 f6 f7 f8 f9 f10 f11 : Addr} (X : K.In h) (G : h.Ns mainGlobals mg) (hfa : mg "law" = some (.ref fa))
    {od0 an0 od1 an1 od2 an2 od3 an3 od4 an4 od5 an5 od6 an6 od7 an7 od8 an8 od9 an9 od10 an10 od11 an11 : Option Addr} {sl0 sl1 sl2 sl3 sl4 sl5 sl6 sl7 sl8 sl9 sl10 sl11 : Array (Option Value)}
    {oc0 kV0 dc0 pm0 cd0 ct0 oc1 kV1 dc1 pm1 cd1 ct1 oc2 kV2 dc2 pm2 cd2 ct2 oc3 kV3 dc3 pm3 cd3 ct3 oc4 kV4 dc4 pm4 cd4 ct4 oc5 kV5 dc5 pm5 cd5 ct5 oc6 kV6 dc6 pm6 cd6 ct6 oc7 kV7 dc7 pm7 cd7 ct7 oc8 kV8 dc8 pm8 cd8 ct8 oc9 kV9 dc9 pm9 cd9 ct9 oc10 kV10 dc10 pm10 cd10 ct10 oc11 kV11 dc11 pm11 cd11 ct11 : Value}
    (a0 : PySem.W.nsIn K mainGlobals "check_ways" = some (some (.ref f0))) (l0 : K.lookup f0 = some ⟨oc0, od0, .func (PySem.W.fnOf "check_ways" "check_ways" (defArgs s_check_ways) (defBody s_check_ways) (defScope s_check_ways) .none kV0 dc0 pm0 an0 cd0 ct0), sl0⟩) (c0 : PySem.W.codeIn K cd0 "check_ways" = true) (k0 : PySem.W.keepIn K (.ref f0) = true)
    (a1 : PySem.W.nsIn K mainGlobals "depth" = some (some (.ref f1))) (l1 : K.lookup f1 = some ⟨oc1, od1, .func (PySem.W.fnOf "depth" "depth" (defArgs s_depth) (defBody s_depth) (defScope s_depth) .none kV1 dc1 pm1 an1 cd1 ct1), sl1⟩) (c1 : PySem.W.codeIn K cd1 "depth" = true) (k1 : PySem.W.keepIn K (.ref f1) = true)
    (a2 : PySem.W.nsIn K mainGlobals "_law_cell_at" = some (some (.ref f2))) (l2 : K.lookup f2 = some ⟨oc2, od2, .func (PySem.W.fnOf "_law_cell_at" "_law_cell_at" (defArgs s_law_cell_at) (defBody s_law_cell_at) (defScope s_law_cell_at) .none kV2 dc2 pm2 an2 cd2 ct2), sl2⟩) (c2 : PySem.W.codeIn K cd2 "_law_cell_at" = true) (k2 : PySem.W.keepIn K (.ref f2) = true)
    (a3 : PySem.W.nsIn K mainGlobals "_law_source" = some (some (.ref f3))) (l3 : K.lookup f3 = some ⟨oc3, od3, .func (PySem.W.fnOf "_law_source" "_law_source" (defArgs s_law_source) (defBody s_law_source) (defScope s_law_source) .none kV3 dc3 pm3 an3 cd3 ct3), sl3⟩) (c3 : PySem.W.codeIn K cd3 "_law_source" = true) (k3 : PySem.W.keepIn K (.ref f3) = true)
    (a4 : PySem.W.nsIn K mainGlobals "_law_draw" = some (some (.ref f4))) (l4 : K.lookup f4 = some ⟨oc4, od4, .func (PySem.W.fnOf "_law_draw" "_law_draw" (defArgs s_law_draw) (defBody s_law_draw) (defScope s_law_draw) .none kV4 dc4 pm4 an4 cd4 ct4), sl4⟩) (c4 : PySem.W.codeIn K cd4 "_law_draw" = true) (k4 : PySem.W.keepIn K (.ref f4) = true)
    (a5 : PySem.W.nsIn K mainGlobals "_law_same" = some (some (.ref f5))) (l5 : K.lookup f5 = some ⟨oc5, od5, .func (PySem.W.fnOf "_law_same" "_law_same" (defArgs s_law_same) (defBody s_law_same) (defScope s_law_same) .none kV5 dc5 pm5 an5 cd5 ct5), sl5⟩) (c5 : PySem.W.codeIn K cd5 "_law_same" = true) (k5 : PySem.W.keepIn K (.ref f5) = true)
    (a6 : PySem.W.nsIn K mainGlobals "_law_ways" = some (some (.ref f6))) (l6 : K.lookup f6 = some ⟨oc6, od6, .func (PySem.W.fnOf "_law_ways" "_law_ways" (defArgs s_law_ways) (defBody s_law_ways) (defScope s_law_ways) .none kV6 dc6 pm6 an6 cd6 ct6), sl6⟩) (c6 : PySem.W.codeIn K cd6 "_law_ways" = true) (k6 : PySem.W.keepIn K (.ref f6) = true)
    (a7 : PySem.W.nsIn K mainGlobals "_law_merges" = some (some (.ref f7))) (l7 : K.lookup f7 = some ⟨oc7, od7, .func (PySem.W.fnOf "_law_merges" "_law_merges" (defArgs s_law_merges) (defBody s_law_merges) (defScope s_law_merges) .none kV7 dc7 pm7 an7 cd7 ct7), sl7⟩) (c7 : PySem.W.codeIn K cd7 "_law_merges" = true) (k7 : PySem.W.keepIn K (.ref f7) = true)
    (a8 : PySem.W.nsIn K mainGlobals "_law_divisions" = some (some (.ref f8))) (l8 : K.lookup f8 = some ⟨oc8, od8, .func (PySem.W.fnOf "_law_divisions" "_law_divisions" (defArgs s_law_divisions) (defBody s_law_divisions) (defScope s_law_divisions) .none kV8 dc8 pm8 an8 cd8 ct8), sl8⟩) (c8 : PySem.W.codeIn K cd8 "_law_divisions" = true) (k8 : PySem.W.keepIn K (.ref f8) = true)
    (a9 : PySem.W.nsIn K mainGlobals "_law_many" = some (some (.ref f9))) (l9 : K.lookup f9 = some ⟨oc9, od9, .func (PySem.W.fnOf "_law_many" "_law_many" (defArgs s_law_many) (defBody s_law_many) (defScope s_law_many) .none kV9 dc9 pm9 an9 cd9 ct9), sl9⟩) (c9 : PySem.W.codeIn K cd9 "_law_many" = true) (k9 : PySem.W.keepIn K (.ref f9) = true)
    (a10 : PySem.W.nsIn K mainGlobals "_law_deepest" = some (some (.ref f10))) (l10 : K.lookup f10 = some ⟨oc10, od10, .func (PySem.W.fnOf "_law_deepest" "_law_deepest" (defArgs s_law_deepest) (defBody s_law_deepest) (defScope s_law_deepest) .none kV10 dc10 pm10 an10 cd10 ct10), sl10⟩) (c10 : PySem.W.codeIn K cd10 "_law_deepest" = true) (k10 : PySem.W.keepIn K (.ref f10) = true)
    (a11 : PySem.W.nsIn K mainGlobals "law" = some (some (.ref f11))) (l11 : K.lookup f11 = some ⟨oc11, od11, .func (PySem.W.fnOf "law" "law" (defArgs s_law) (defBody s_law) (defScope s_law) .none kV11 dc11 pm11 an11 cd11 ct11), sl11⟩) (c11 : PySem.W.codeIn K cd11 "law" = true) (k11 : PySem.W.keepIn K (.ref f11) = true)
    (m_all : PySem.W.nsIn K mainGlobals "all" = some none)
    (m_bool : PySem.W.nsIn K mainGlobals "bool" = some none)
    (m_int : PySem.W.nsIn K mainGlobals "int" = some none)
    (m_isinstance : PySem.W.nsIn K mainGlobals "isinstance" = some none)
    (m_len : PySem.W.nsIn K mainGlobals "len" = some none)
    (m_list : PySem.W.nsIn K mainGlobals "list" = some none)
    (m_max : PySem.W.nsIn K mainGlobals "max" = some none)
    (m_min : PySem.W.nsIn K mainGlobals "min" = some none)
    (m_range : PySem.W.nsIn K mainGlobals "range" = some none)
    (m_str : PySem.W.nsIn K mainGlobals "str" = some none)
    (m_tuple : PySem.W.nsIn K mainGlobals "tuple" = some none)
    (m_zip : PySem.W.nsIn K mainGlobals "zip" = some none)
    : ∃ fd : FuncData, (∀ (s : Shared) (v : Value), BindsTo s fd ⟨[v], []⟩ [("script", v)]) ∧ ∀ base : Heap, K.In base → base.Ns mainGlobals mg → FnOk l.prog w K mg base (L2.CX l.prog w) 5 fa fd ["script"] (spX K cLaw) := by
  have e := hfa.symm.trans (PySem.W.mg_of X G a11)
  cases e
  have h_check_ways : Has K mg "check_ways" s_check_ways ["ways"] := ⟨f0, _, fun_mk (st := s_check_ways) l0 c0 k0, PySem.W.mg_of X G a0, (fun_mk (st := s_check_ways) l0 c0 k0).binds fun _ _ _ _ _ _ us hl => match us, hl with | [_], _ => rfl⟩
  have h_depth : Has K mg "depth" s_depth ["number", "ways"] := ⟨f1, _, fun_mk (st := s_depth) l1 c1 k1, PySem.W.mg_of X G a1, (fun_mk (st := s_depth) l1 c1 k1).binds fun _ _ _ _ _ _ us hl => match us, hl with | [_, _], _ => rfl⟩
  have h_law_cell_at : Has K mg "_law_cell_at" s_law_cell_at ["script", "place"] := ⟨f2, _, fun_mk (st := s_law_cell_at) l2 c2 k2, PySem.W.mg_of X G a2, (fun_mk (st := s_law_cell_at) l2 c2 k2).binds fun _ _ _ _ _ _ us hl => match us, hl with | [_, _], _ => rfl⟩
  have h_law_source : Has K mg "_law_source" s_law_source ["script", "place"] := ⟨f3, _, fun_mk (st := s_law_source) l3 c3 k3, PySem.W.mg_of X G a3, (fun_mk (st := s_law_source) l3 c3 k3).binds fun _ _ _ _ _ _ us hl => match us, hl with | [_, _], _ => rfl⟩
  have h_law_draw : Has K mg "_law_draw" s_law_draw ["source", "many"] := ⟨f4, _, fun_mk (st := s_law_draw) l4 c4 k4, PySem.W.mg_of X G a4, (fun_mk (st := s_law_draw) l4 c4 k4).binds fun _ _ _ _ _ _ us hl => match us, hl with | [_, _], _ => rfl⟩
  have h_law_same : Has K mg "_law_same" s_law_same ["found", "due"] := ⟨f5, _, fun_mk (st := s_law_same) l5 c5 k5, PySem.W.mg_of X G a5, (fun_mk (st := s_law_same) l5 c5 k5).binds fun _ _ _ _ _ _ us hl => match us, hl with | [_, _], _ => rfl⟩
  have h_law_ways : Has K mg "_law_ways" s_law_ways ["source"] := ⟨f6, _, fun_mk (st := s_law_ways) l6 c6 k6, PySem.W.mg_of X G a6, (fun_mk (st := s_law_ways) l6 c6 k6).binds fun _ _ _ _ _ _ us hl => match us, hl with | [_], _ => rfl⟩
  have h_law_merges : Has K mg "_law_merges" s_law_merges ["source", "many", "at_once"] := ⟨f7, _, fun_mk (st := s_law_merges) l7 c7 k7, PySem.W.mg_of X G a7, (fun_mk (st := s_law_merges) l7 c7 k7).binds fun _ _ _ _ _ _ us hl => match us, hl with | [_, _, _], _ => rfl⟩
  have h_law_divisions : Has K mg "_law_divisions" s_law_divisions ["many", "at_once"] := ⟨f8, _, fun_mk (st := s_law_divisions) l8 c8 k8, PySem.W.mg_of X G a8, (fun_mk (st := s_law_divisions) l8 c8 k8).binds fun _ _ _ _ _ _ us hl => match us, hl with | [_, _], _ => rfl⟩
  have h_law_many : Has K mg "_law_many" s_law_many ["source", "at_once"] := ⟨f9, _, fun_mk (st := s_law_many) l9 c9 k9, PySem.W.mg_of X G a9, (fun_mk (st := s_law_many) l9 c9 k9).binds fun _ _ _ _ _ _ us hl => match us, hl with | [_, _], _ => rfl⟩
  have h_law_deepest : Has K mg "_law_deepest" s_law_deepest ["many", "merges"] := ⟨f10, _, fun_mk (st := s_law_deepest) l10 c10 k10, PySem.W.mg_of X G a10, (fun_mk (st := s_law_deepest) l10 c10 k10).binds fun _ _ _ _ _ _ us hl => match us, hl with | [_, _], _ => rfl⟩
  replace m_all := PySem.W.mg_none_of X G m_all
  replace m_bool := PySem.W.mg_none_of X G m_bool
  replace m_int := PySem.W.mg_none_of X G m_int
  replace m_isinstance := PySem.W.mg_none_of X G m_isinstance
  replace m_len := PySem.W.mg_none_of X G m_len
  replace m_list := PySem.W.mg_none_of X G m_list
  replace m_max := PySem.W.mg_none_of X G m_max
  replace m_min := PySem.W.mg_none_of X G m_min
  replace m_range := PySem.W.mg_none_of X G m_range
  replace m_str := PySem.W.mg_none_of X G m_str
  replace m_tuple := PySem.W.mg_none_of X G m_tuple
  replace m_zip := PySem.W.mg_none_of X G m_zip
  have F_law := fun_mk (st := s_law) l11 c11 k11
  refine ⟨PySem.W.fnOf "law" "law" (defArgs s_law) (defBody s_law) (defScope s_law) .none kV11 dc11 pm11 an11 cd11 ct11, fun s v => .of_eq rfl, fun base _ _ => ?_⟩
  have C_law_cell_at := ok_law_cell_at (P := l.prog) (w := w) (base := base) m_len h_law_cell_at
  have C_law_source := ok_law_source (P := l.prog) (w := w) (base := base) C_law_cell_at h_law_source
  have C_law_draw := ok_law_draw (P := l.prog) (w := w) (base := base) m_int h_law_draw
  have C_law_same := ok_law_same (P := l.prog) (w := w) (base := base) m_all m_zip m_len m_isinstance m_tuple m_list m_int m_bool m_str h_law_same 3
  have C_check_ways := ok_check_ways (P := l.prog) (w := w) (base := base)  h_check_ways
  obtain ⟨C_depth, CK_depth_ways_number⟩ := ok_depth (P := l.prog) (w := w) (base := base) C_check_ways h_depth
  have C_law_ways := ok_law_ways (P := l.prog) (w := w) (base := base) C_law_draw h_law_ways
  have C_law_divisions := ok_law_divisions (P := l.prog) (w := w) (base := base) m_range h_law_divisions
  have C_law_many := ok_law_many (P := l.prog) (w := w) (base := base) m_range C_law_draw h_law_many
  have C_law_merges := ok_law_merges (P := l.prog) (w := w) (base := base) m_range m_min m_len m_list C_law_draw h_law_merges
  have C_law_deepest := ok_law_deepest (P := l.prog) (w := w) (base := base) m_max h_law_deepest
  exact ok_law (P := l.prog) (w := w) (base := base) m_min m_len m_range C_law_same C_depth C_law_deepest C_law_merges C_law_draw C_law_divisions C_law_many C_law_ways C_law_source CK_depth_ways_number F_law
end W2
open PySem PySem.W PyProof.Rows
set_option maxHeartbeats 0 in
theorem PySem.Challenge.cw_handpiles_k65_depths_of_merges_holds : PySem.Challenge.rw_handpiles_k65_depths_of_merges.Holds := by
  w_on; o_law; k_head; (case hw => w_witness2)
  k_fill
  refine L2.walk_ofB (l := PySem.Challenge.rw_handpiles_k65_depths_of_merges) (n := 63) (k := 5) (x := "script") (CX := fun w => L2.CX (PySem.Challenge.rw_handpiles_k65_depths_of_merges).prog w) (sp := fun w => EV.spX _ W2.cLaw) rfl (by decide) rfl ⟨rfl, by decide, by decide⟩ (fun w h Y => PySem.W.kIn_of Y) ?F (fun _ _ a ns hl hb _ hS => EV.law_sp hS fun Q X q => ⟨ns, rfl, ⟨hl, fun z hz => TV.bits_log (hb z hz)⟩, q⟩) (fun _ _ _ _ _ ⟨_, _, _, _, _, _, _, _, _, _, _, _, q⟩ => q)
  case F =>
    intro w mg fa h KX G hmg
    refine' W2.all_mk KX G hmg ?a0 ?l0 ?c0 ?k0 ?a1 ?l1 ?c1 ?k1 ?a2 ?l2 ?c2 ?k2 ?a3 ?l3 ?c3 ?k3 ?a4 ?l4 ?c4 ?k4 ?a5 ?l5 ?c5 ?k5 ?a6 ?l6 ?c6 ?k6 ?a7 ?l7 ?c7 ?k7 ?a8 ?l8 ?c8 ?k8 ?a9 ?l9 ?c9 ?k9 ?a10 ?l10 ?c10 ?k10 ?a11 ?l11 ?c11 ?k11 ?m_all ?m_bool ?m_int ?m_isinstance ?m_len ?m_list ?m_max ?m_min ?m_range ?m_str ?m_tuple ?m_zip
    (case a0 => k_is); (case l0 => k_is); (case c0 => k_is); (case k0 => k_is); (case a1 => k_is); (case l1 => k_is); (case c1 => k_is); (case k1 => k_is); (case a2 => k_is); (case l2 => k_is); (case c2 => k_is); (case k2 => k_is); (case a3 => k_is); (case l3 => k_is); (case c3 => k_is); (case k3 => k_is); (case a4 => k_is); (case l4 => k_is); (case c4 => k_is); (case k4 => k_is); (case a5 => k_is); (case l5 => k_is); (case c5 => k_is); (case k5 => k_is); (case a6 => k_is); (case l6 => k_is); (case c6 => k_is); (case k6 => k_is); (case a7 => k_is); (case l7 => k_is); (case c7 => k_is); (case k7 => k_is); (case a8 => k_is); (case l8 => k_is); (case c8 => k_is); (case k8 => k_is); (case a9 => k_is); (case l9 => k_is); (case c9 => k_is); (case k9 => k_is); (case a10 => k_is); (case l10 => k_is); (case c10 => k_is); (case k10 => k_is); (case a11 => k_is); (case l11 => k_is); (case c11 => k_is); (case k11 => k_is); (case m_all => k_is); (case m_bool => k_is); (case m_int => k_is); (case m_isinstance => k_is); (case m_len => k_is); (case m_list => k_is); (case m_max => k_is); (case m_min => k_is); (case m_range => k_is); (case m_str => k_is); (case m_tuple => k_is); (case m_zip => k_is)
