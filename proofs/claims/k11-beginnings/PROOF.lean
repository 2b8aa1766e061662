import PyProof.Rows.All
import Wide.All
import OpenK.AllK
import Wide.FinOn
import HandS.ForMost
import HandS.Flow
import HandS.Wide
import HandS.Conv
import HandS.SetFor
import HandS.SortInts
import HandS.More
import HandS.Zip
import HandS.IsInst
import KE.DataMinMax
import KE.DataEq
import KE.SortData
import HandS.SortKw
import HandS.EndBits
import KE.LtData
import HandS.Dict
import HandS.Iter
import PySem.Challenge.RW_handpiles_k11_beginnings
set_option Elab.async false
set_option linter.all false
set_option maxRecDepth 100000
set_option maxHeartbeats 4000000
/-! Trees over the hand layer's readings: what a reading evaluates to, with the heap out of sight. -/
namespace TV
open PySem PySem.Spec PyProof.Rows L2
/-- data that stand still -/
inductive D where
  | non | bl (b : Bool) | int (i : Int) | str (x : Str) | ty (n : String) | tup (ds : List D) | lst (ds : List D) | scr (ds : List D)
mutual
def Rp (K : PySem.W.Frag) (M : Hp) : D → V → Prop
  | .non, v => v = .non
  | .bl b, v => v = .bl b
  | .int i, v => v = .int i
  | .str x, v => v = .str x
  | .ty n, v => v = .ty n
  | .tup ds, v => ∃ a vs, v = .ref a ∧ SqT K M a vs ∧ RpL K M ds vs
  | .lst ds, v => ∃ a vs, v = .ref a ∧ M a = some (.lst vs) ∧ RpL K M ds vs
  | .scr ds, v => ∃ a vs, v = .ref a ∧ SqL K M a vs ∧ RpL K M ds vs
def RpL (K : PySem.W.Frag) (M : Hp) : List D → List V → Prop
  | [], vs => vs = []
  | d :: ds, vs => ∃ v r, vs = v :: r ∧ Rp K M d v ∧ RpL K M ds r
end
/-- what a slot holds: data, or an owned list, an owned list of owned lists, an owned dict -/
inductive T where
  | d (x : D) | ls (ds : List D) | ll (dss : List (List D)) | dk (kvs : List (Key × D)) | dt (kvs : List (List Key × D)) | pr (a b : T)
def LL (K : PySem.W.Frag) (M H : Hp) : List (List D) → List Addr → Prop
  | [], as => as = []
  | ds :: r, as => ∃ a q vs, as = a :: q ∧ H a = some (.lst vs) ∧ RpL K M ds vs ∧ LL K M H r q
def KR (K : PySem.W.Frag) (M : Hp) {κ : Type} : List (κ × D) → List (κ × V) → Prop
  | [], kv => kv = []
  | p :: r, kv => ∃ v q, kv = (p.1, v) :: q ∧ Rp K M p.2 v ∧ KR K M r q
def Own (K : PySem.W.Frag) (M H : Hp) : (Addr → Prop) → T → V → Prop
  | _, .d x, v => Rp K M x v
  | P, .ls ds, v => ∃ a vs, v = .ref a ∧ P a ∧ H a = some (.lst vs) ∧ RpL K M ds vs
  | P, .ll dss, v => ∃ a as, v = .ref a ∧ P a ∧ (∀ b, b ∈ as → P b) ∧ (a :: as).Nodup ∧ H a = some (.lst (as.map V.ref)) ∧ LL K M H dss as
  | P, .dk kvs, v => ∃ a kv, v = .ref a ∧ P a ∧ H a = some (.dK kv) ∧ KR K M kvs kv
  | P, .dt kvs, v => ∃ a kv, v = .ref a ∧ P a ∧ H a = some (.dT kv) ∧ KR K M kvs kv
  | P, .pr s t, v => ∃ a x y P1 P2, v = .ref a ∧ H a = some (.tup [x, y]) ∧ (∀ b, P1 b → P b) ∧ (∀ b, P2 b → P b) ∧ (∀ b, P1 b → P2 b → False) ∧ Own K M H P1 s x ∧ Own K M H P2 t y
abbrev Env := List (Option T)
structure R (K : PySem.W.Frag) (M : Hp) (σ : L2.St) (H : Hp) (δ : Env) : Prop where
  ex : Same M H
  ln : σ.length = δ.length
  own : ∃ ω : Nat → Addr → Prop, (∀ i j a, ω i a → ω j a → i = j) ∧ (∀ i a, ω i a → M a = none ∧ Mut (H a)) ∧ ∀ i t, δ[i]? = some (some t) → ∃ v, σ[i]? = some (some v) ∧ Own K M H (ω i) t v

/-! ### monotony -/
section
variable {K : PySem.W.Frag} {M M' H H' : Hp}
theorem Same.rd {a : Addr} {u : HO} (e : Same M M') (h : Rd M a u) : Rd M' a u := by
  rcases h with h | ⟨o, h⟩
  · exact .inl (e _ _ h)
  · exact .inr ⟨o, e _ _ h⟩
theorem Same.sqT {a : Addr} {xs : List V} (e : Same M M') (h : SqT K M a xs) : SqT K M' a xs := h.imp (Same.rd e) id
theorem Same.sqL {a : Addr} {xs : List V} (e : Same M M') (h : SqL K M a xs) : SqL K M' a xs := h.imp (Same.rd e) id
mutual
theorem Rp.mono (e : Same M M') : ∀ {d : D} {v : V}, Rp K M d v → Rp K M' d v
  | .non, _, h => h
  | .bl _, _, h => h
  | .int _, _, h => h
  | .str _, _, h => h
  | .ty _, _, h => h
  | .tup _, _, ⟨a, vs, h1, h2, h3⟩ => ⟨a, vs, h1, Same.sqT e h2, RpL.mono e h3⟩
  | .lst _, _, ⟨a, vs, h1, h2, h3⟩ => ⟨a, vs, h1, e _ _ h2, RpL.mono e h3⟩
  | .scr _, _, ⟨a, vs, h1, h2, h3⟩ => ⟨a, vs, h1, Same.sqL e h2, RpL.mono e h3⟩
theorem RpL.mono (e : Same M M') : ∀ {ds : List D} {vs : List V}, RpL K M ds vs → RpL K M' ds vs
  | [], _, h => h
  | _ :: _, _, ⟨v, r, h1, h2, h3⟩ => ⟨v, r, h1, Rp.mono e h2, RpL.mono e h3⟩
end
theorem RpL.length : ∀ {ds : List D} {vs : List V}, RpL K M ds vs → ds.length = vs.length
  | [], _, h => by cases h; rfl
  | _ :: _, _, ⟨v, r, h1, h2, h3⟩ => by subst h1; simp [RpL.length h3]
theorem RpL.append : ∀ {ds es : List D} {vs ws : List V}, RpL K M ds vs → RpL K M es ws → RpL K M (ds ++ es) (vs ++ ws)
  | [], _, _, _, h, g => by cases h; exact g
  | _ :: _, _, _, _, ⟨v, r, h1, h2, h3⟩, g => by subst h1; exact ⟨v, _, rfl, h2, RpL.append h3 g⟩
theorem RpL.get : ∀ {ds : List D} {vs : List V} {i : Nat} {d : D}, RpL K M ds vs → ds[i]? = some d → ∃ v, vs[i]? = some v ∧ Rp K M d v
  | [], _, i, _, _, h => by simp at h
  | x :: r, _, 0, d, ⟨v, q, h1, h2, h3⟩, h => by subst h1; simp at h; subst h; exact ⟨v, rfl, h2⟩
  | x :: r, _, i + 1, d, ⟨v, q, h1, h2, h3⟩, h => by subst h1; simpa using RpL.get h3 (by simpa using h)
theorem RpL.get' {ds : List D} {vs : List V} {i : Nat} {v : V} (h : RpL K M ds vs) (g : vs[i]? = some v) : ∃ d, ds[i]? = some d ∧ Rp K M d v := by
  obtain ⟨hi, _⟩ := List.getElem?_eq_some_iff.mp g
  have hl := h.length
  obtain ⟨w, hw, r⟩ := h.get (i := i) (List.getElem?_eq_getElem (by omega : i < ds.length))
  rw [g] at hw
  cases hw
  exact ⟨_, List.getElem?_eq_getElem (by omega), r⟩
theorem RpL.set : ∀ {ds : List D} {vs : List V} {d : D} {v : V} (i : Nat), Rp K M d v → RpL K M ds vs → RpL K M (ds.set i d) (vs.set i v)
  | [], _, _, _, _, _, h => by cases h; exact rfl
  | _ :: _, _, _, _, 0, g, ⟨v, r, h1, h2, h3⟩ => by subst h1; exact ⟨_, _, rfl, g, h3⟩
  | _ :: _, _, _, _, i + 1, g, ⟨v, r, h1, h2, h3⟩ => by subst h1; exact ⟨_, _, rfl, h2, RpL.set i g h3⟩
theorem RpL.eraseIdx : ∀ {ds : List D} {vs : List V} (i : Nat), RpL K M ds vs → RpL K M (ds.eraseIdx i) (vs.eraseIdx i)
  | [], _, _, h => by cases h; exact rfl
  | _ :: _, _, 0, ⟨v, r, h1, h2, h3⟩ => by subst h1; exact h3
  | _ :: _, _, i + 1, ⟨v, r, h1, h2, h3⟩ => by subst h1; exact ⟨_, _, rfl, h2, RpL.eraseIdx i h3⟩
theorem RpL.take : ∀ {ds : List D} {vs : List V} (n : Nat), RpL K M ds vs → RpL K M (ds.take n) (vs.take n)
  | _, _, 0, _ => by simp [RpL]
  | [], _, n + 1, h => by cases h; simp [RpL]
  | _ :: _, _, n + 1, ⟨v, r, h1, h2, h3⟩ => by subst h1; exact ⟨_, _, rfl, h2, RpL.take n h3⟩
theorem RpL.drop : ∀ {ds : List D} {vs : List V} (n : Nat), RpL K M ds vs → RpL K M (ds.drop n) (vs.drop n)
  | _, _, 0, h => by simpa using h
  | [], _, n + 1, h => by cases h; simp [RpL]
  | _ :: _, _, n + 1, ⟨v, r, h1, h2, h3⟩ => by subst h1; simpa using RpL.drop n h3
theorem RpL.dropLast : ∀ {ds : List D} {vs : List V}, RpL K M ds vs → RpL K M ds.dropLast vs.dropLast := fun {ds vs} h => by
  rw [List.dropLast_eq_take, List.dropLast_eq_take, h.length]; exact h.take _
theorem RpL.reverse : ∀ {ds : List D} {vs : List V}, RpL K M ds vs → RpL K M ds.reverse vs.reverse
  | [], _, h => by cases h; exact rfl
  | _ :: _, _, ⟨v, r, h1, h2, h3⟩ => by
    subst h1
    rw [List.reverse_cons, List.reverse_cons]
    exact RpL.append (RpL.reverse h3) ⟨v, [], rfl, h2, rfl⟩
theorem RpL.ints : ∀ (ns : List Int), RpL K M (ns.map D.int) (ns.map V.int)
  | [] => rfl
  | n :: r => ⟨_, _, rfl, rfl, RpL.ints r⟩
theorem RpL.ints_of : ∀ {ns : List Int} {vs : List V}, RpL K M (ns.map D.int) vs → vs = ns.map V.int
  | [], _, h => h
  | n :: r, _, ⟨v, q, h1, h2, h3⟩ => by
    cases h2
    rw [h1, RpL.ints_of h3]
    rfl
theorem RpL.bls_of : ∀ {ns : List Bool} {vs : List V}, RpL K M (ns.map D.bl) vs → vs = ns.map V.bl
  | [], _, h => h
  | n :: r, _, ⟨v, q, h1, h2, h3⟩ => by
    cases h2
    rw [h1, RpL.bls_of h3]
    rfl
theorem LL.mono (e : Same M M') (k : ∀ b, b ∈ as → H' b = H b) : ∀ {dss : List (List D)}, LL K M H dss as → LL K M' H' dss as
  | [], h => h
  | _ :: _, ⟨a, q, vs, h1, h2, h3, h4⟩ => by
    subst h1
    exact ⟨a, q, vs, rfl, (k a (by simp)).trans h2, h3.mono e, LL.mono e (fun b hb => k b (by simp [hb])) h4⟩
theorem LL.length : ∀ {dss : List (List D)} {as : List Addr}, LL K M H dss as → dss.length = as.length
  | [], _, h => by cases h; rfl
  | _ :: _, _, ⟨a, q, vs, h1, h2, h3, h4⟩ => by subst h1; simp [LL.length h4]
theorem LL.get : ∀ {dss : List (List D)} {as : List Addr} {i : Nat} {ds : List D}, LL K M H dss as → dss[i]? = some ds → ∃ a vs, as[i]? = some a ∧ H a = some (.lst vs) ∧ RpL K M ds vs
  | [], _, i, _, _, h => by simp at h
  | x :: r, _, 0, d, ⟨a, q, vs, h1, h2, h3, h4⟩, h => by subst h1; simp at h; subst h; exact ⟨a, vs, rfl, h2, h3⟩
  | x :: r, _, i + 1, d, ⟨a, q, vs, h1, h2, h3, h4⟩, h => by subst h1; simpa using LL.get h4 (by simpa using h)
theorem LL.append : ∀ {ds es : List (List D)} {vs ws : List Addr}, LL K M H ds vs → LL K M H es ws → LL K M H (ds ++ es) (vs ++ ws)
  | [], _, _, _, h, g => by cases h; exact g
  | _ :: _, _, _, _, ⟨a, q, vs, h1, h2, h3, h4⟩, g => by subst h1; exact ⟨a, _, vs, rfl, h2, h3, LL.append h4 g⟩
theorem LL.set : ∀ {dss : List (List D)} {as : List Addr} {i : Nat} {ds : List D} {a : Addr} {vs : List V}, LL K M H dss as → as.Nodup → as[i]? = some a → RpL K M ds vs → LL K M (upd H a (.lst vs)) (dss.set i ds) as
  | [], _, _, _, _, _, h, _, g, _ => by cases h; simp at g
  | _ :: _, _, 0, _, _, _, ⟨a, q, vs, h1, h2, h3, h4⟩, nd, g, r => by
    subst h1
    simp at g
    subst g
    refine ⟨a, q, _, rfl, upd_same, r, h4.mono (Same.refl _) fun b hb => upd_ne ?_⟩
    rintro rfl
    exact (List.nodup_cons.mp nd).1 hb
  | _ :: _, _, i + 1, _, b, _, ⟨a, q, vs, h1, h2, h3, h4⟩, nd, g, r => by
    subst h1
    have g' : q[i]? = some b := by simpa using g
    have hb : b ∈ q := List.mem_of_getElem? g'
    refine ⟨a, q, vs, rfl, ?_, h3, LL.set h4 (List.nodup_cons.mp nd).2 g' r⟩
    rw [upd_ne]
    · exact h2
    · rintro rfl
      exact (List.nodup_cons.mp nd).1 hb
theorem LL.freeze : ∀ {dss : List (List D)} {as : List Addr}, LL K M H dss as → Same M M' → (∀ a u, a ∈ as → H a = some u → M' a = some u) → RpL K M' (dss.map D.lst) (as.map V.ref)
  | [], _, h, _, _ => by cases h; rfl
  | _ :: _, _, ⟨a, q, vs, h1, h2, h3, h4⟩, e, k => by
    subst h1
    exact ⟨_, _, rfl, ⟨a, vs, rfl, k a _ (by simp) h2, h3.mono e⟩, LL.freeze h4 e fun b u hb => k b u (by simp [hb])⟩
theorem KR.mono (e : Same M M') {κ : Type} : ∀ {kvs : List (κ × D)} {kv : List (κ × V)}, KR K M kvs kv → KR K M' kvs kv
  | [], _, h => h
  | _ :: _, _, ⟨v, q, h1, h2, h3⟩ => ⟨v, q, h1, h2.mono e, KR.mono e h3⟩
/-- what is owned stands as long as its own objects do -/
theorem Own.mono (e : Same M M') : ∀ {t : T} {P P' : Addr → Prop} {v : V}, (∀ b, P b → P' b) → (∀ b, P b → H' b = H b) → (∀ b xs, H b = some (.tup xs) → H' b = some (.tup xs)) → Own K M H P t v → Own K M' H' P' t v
  | .d _, _, _, _, _, _, _, h => Rp.mono e h
  | .ls _, _, _, _, p, k, _, ⟨a, vs, h1, h2, h3, h4⟩ => ⟨a, vs, h1, p a h2, (k a h2).trans h3, h4.mono e⟩
  | .ll _, _, _, _, p, k, _, ⟨a, as, h1, h2, h3, h4, h5, h6⟩ => ⟨a, as, h1, p a h2, fun b hb => p b (h3 b hb), h4, (k a h2).trans h5, h6.mono e fun b hb => k b (h3 b hb)⟩
  | .dk _, _, _, _, p, k, _, ⟨a, kv, h1, h2, h3, h4⟩ => ⟨a, kv, h1, p a h2, (k a h2).trans h3, h4.mono e⟩
  | .dt _, _, _, _, p, k, _, ⟨a, kv, h1, h2, h3, h4⟩ => ⟨a, kv, h1, p a h2, (k a h2).trans h3, h4.mono e⟩
  | .pr _ _, _, _, _, p, k, tk, ⟨a, x, y, P1, P2, h1, h2, h3, h4, h5, h6, h7⟩ =>
    ⟨a, x, y, P1, P2, h1, tk _ _ h2, fun b q => p b (h3 b q), fun b q => p b (h4 b q), h5, Own.mono e (fun _ q => q) (fun b q => k b (h3 b q)) tk h6, Own.mono e (fun _ q => q) (fun b q => k b (h4 b q)) tk h7⟩
/-- .. only lists and dicts are owned -/
theorem Own.narrow : ∀ {t : T} {P P' : Addr → Prop} {v : V}, (∀ b u, P b → H b = some u → Mut (some u) → P' b) → Own K M H P t v → ∃ P1 : Addr → Prop, (∀ b, P1 b → P b ∧ P' b) ∧ Own K M H P1 t v
  | .d _, P, P', _, _, h => ⟨fun b => P b ∧ P' b, fun _ q => q, h⟩
  | .ls _, P, P', _, k, ⟨a, vs, h1, h2, h3, h4⟩ => ⟨fun b => P b ∧ P' b, fun _ q => q, a, vs, h1, ⟨h2, k a _ h2 h3 trivial⟩, h3, h4⟩
  | .ll _, P, P', _, k, ⟨a, as, h1, h2, h3, h4, h5, h6⟩ => ⟨fun b => P b ∧ P' b, fun _ q => q, a, as, h1, ⟨h2, k a _ h2 h5 trivial⟩, fun b hb => by
      obtain ⟨i, hi, e⟩ := List.getElem_of_mem hb
      have hl := h6.length
      obtain ⟨c, vs, g1, g2, _⟩ := h6.get (i := i) (List.getElem?_eq_getElem (by omega))
      rw [List.getElem?_eq_getElem hi, e] at g1
      cases g1
      exact ⟨h3 b hb, k b _ (h3 b hb) g2 trivial⟩, h4, h5, h6⟩
  | .dk _, P, P', _, k, ⟨a, kv, h1, h2, h3, h4⟩ => ⟨fun b => P b ∧ P' b, fun _ q => q, a, kv, h1, ⟨h2, k a _ h2 h3 trivial⟩, h3, h4⟩
  | .dt _, P, P', _, k, ⟨a, kv, h1, h2, h3, h4⟩ => ⟨fun b => P b ∧ P' b, fun _ q => q, a, kv, h1, ⟨h2, k a _ h2 h3 trivial⟩, h3, h4⟩
  | .pr _ _, P, P', _, k, ⟨a, x, y, P1, P2, h1, h2, h3, h4, h5, h6, h7⟩ => by
    obtain ⟨Q1, q1, g1⟩ := Own.narrow (P' := P') (fun b u hb => k b u (h3 b hb)) h6
    obtain ⟨Q2, q2, g2⟩ := Own.narrow (P' := P') (fun b u hb => k b u (h4 b hb)) h7
    exact ⟨fun b => P b ∧ P' b, fun _ q => q, a, x, y, Q1, Q2, h1, h2, fun b q => ⟨h3 b (q1 b q).1, (q1 b q).2⟩, fun b q => ⟨h4 b (q2 b q).1, (q2 b q).2⟩, fun b r1 r2 => h5 b (q1 b r1).1 (q2 b r2).1, g1, g2⟩
end
end TV

namespace TV
open PySem PySem.Spec PyProof.Rows L2
section
variable {K : PySem.W.Frag} {M M' H H' : Hp} {σ : L2.St} {δ : Env}
theorem mut_some {H : Hp} {a : Addr} (h : Mut (H a)) : ∃ o, H a = some o := by
  cases e : H a with
  | none => rw [e] at h; exact h.elim
  | some o => exact ⟨o, rfl⟩
theorem mut_ntup {H : Hp} {a : Addr} {xs : List V} (h : Mut (H a)) (e : H a = some (.tup xs)) : False := by rw [e] at h; exact h
theorem same_upd {H : Hp} {p : Addr} {o : HO} (h : H p = none) : Same H (upd H p o) := fun b x e => by
  rw [upd_ne (ne_of_none e h)]
  exact e
/-- the heap has grown -/
theorem R.grow (r : R K M σ H δ) (e : Same H H') : R K M σ H' δ := by
  obtain ⟨ex, ln, ω, w1, w2, w3⟩ := r
  refine ⟨ex.trans e, ln, ω, w1, fun i a h => ⟨(w2 i a h).1, ?_⟩, fun i t ht => ?_⟩
  · obtain ⟨o, ho⟩ := mut_some (w2 i a h).2
    rw [e a o ho, ← ho]
    exact (w2 i a h).2
  · obtain ⟨v, hv, ow⟩ := w3 i t ht
    refine ⟨v, hv, ow.mono (Same.refl M) (fun _ q => q) (fun b hb => ?_) fun b xs q => e b _ q⟩
    obtain ⟨o, ho⟩ := mut_some (w2 i b hb).2
    rw [e b o ho, ho]
/-- more stands still -/
theorem R.still (r : R K M σ H δ) (e : Same M M') (e' : Same M' H) (n : ∀ b, M b = none → Mut (H b) → M' b = none) : R K M' σ H δ := by
  obtain ⟨ex, ln, ω, w1, w2, w3⟩ := r
  refine ⟨e', ln, ω, w1, fun i a h => ⟨n a (w2 i a h).1 (w2 i a h).2, (w2 i a h).2⟩, fun i t ht => ?_⟩
  obtain ⟨v, hv, ow⟩ := w3 i t ht
  exact ⟨v, hv, ow.mono e (fun _ q => q) (fun _ _ => rfl) fun _ _ q => q⟩
/-- a new object that stands still -/
theorem R.laid (r : R K M σ H δ) {p : Addr} {o : HO} (hp : H p = none) : Same M (upd M p o) ∧ R K (upd M p o) σ (upd H p o) δ := by
  have mp : M p = none := by
    cases e : M p with
    | none => rfl
    | some u => rw [r.ex p u e] at hp; cases hp
  have s1 : Same M (upd M p o) := same_upd mp
  have r1 := r.grow (same_upd (o := o) hp)
  refine ⟨s1, ?_⟩
  obtain ⟨ex, ln, ω, w1, w2, w3⟩ := r
  have r1 : R K M σ (upd H p o) δ := R.grow ⟨ex, ln, ω, w1, w2, w3⟩ (same_upd hp)
  refine ⟨fun b u h => ?_, ln, ω, w1, fun i a h => ?_, fun i t ht => ?_⟩
  · by_cases hb : b = p
    · subst hb
      rw [upd_same] at h ⊢
      exact h
    · rw [upd_ne hb] at h ⊢
      exact ex b u h
  · have na : a ≠ p := by
      rintro rfl
      obtain ⟨u, hu⟩ := mut_some (w2 i a h).2
      rw [hp] at hu
      cases hu
    rw [upd_ne na, upd_ne na]
    exact w2 i a h
  · obtain ⟨v, hv, ow⟩ := w3 i t ht
    refine ⟨v, hv, ow.mono s1 (fun _ q => q) (fun b hb => upd_ne ?_) fun b xs q => same_upd hp b _ q⟩
    rintro rfl
    obtain ⟨u, hu⟩ := mut_some (w2 i b hb).2
    rw [hp] at hu
    cases hu
theorem get_push {α : Type} {l : List α} {x y : α} {i : Nat} (h : (l ++ [x])[i]? = some y) : l[i]? = some y ∨ (i = l.length ∧ x = y) := by
  by_cases hi : i < l.length
  · rw [List.getElem?_append_left hi] at h
    exact .inl h
  · rw [List.getElem?_append_right (by omega)] at h
    by_cases e : i - l.length = 0
    · rw [e] at h
      exact .inr ⟨by omega, by simpa using h⟩
    · rw [List.getElem?_eq_none (by simp; omega)] at h
      cases h
theorem get_left {α : Type} {l : List α} {x y : α} {i : Nat} (h : l[i]? = some y) : (l ++ [x])[i]? = some y := by
  rw [List.getElem?_append_left (List.getElem?_eq_some_iff.mp h).1]
  exact h
theorem get_top {α : Type} {l : List α} {x : α} : (l ++ [x])[l.length]? = some x := by simp
theorem R.pushD (r : R K M σ H δ) {x : D} {v : V} (h : Rp K M x v) : R K M (σ ++ [some v]) H (δ ++ [some (.d x)]) := by
  obtain ⟨ex, ln, ω, w1, w2, w3⟩ := r
  refine ⟨ex, by simp [ln], ω, w1, w2, fun i t ht => ?_⟩
  rcases get_push ht with h1 | ⟨h1, h2⟩
  · obtain ⟨u, hu, ow⟩ := w3 i t h1
    exact ⟨u, get_left hu, ow⟩
  · cases h2
    subst h1
    exact ⟨v, by rw [← ln]; exact get_top, h⟩
/-- a new object, owned, on top -/
theorem R.pushNew (r : R K M σ H δ) {p : Addr} {o : HO} {τ : T} (hp : H p = none) (mu : Mut (some o)) (h : ∀ P : Addr → Prop, P p → Own K M (upd H p o) P τ (.ref p)) : R K M (σ ++ [some (.ref p)]) (upd H p o) (δ ++ [some τ]) := by
  have r1 := r.grow (same_upd (o := o) hp)
  have mp : M p = none := by
    cases e : M p with
    | none => rfl
    | some u => rw [r.ex p u e] at hp; cases hp
  obtain ⟨ex0, _, ω0, _, w20, w30⟩ := id r
  obtain ⟨ex, ln, _⟩ := r1
  have no : ∀ i a, ω0 i a → a ≠ p := fun i a h z => by
    obtain ⟨u, hu⟩ := mut_some (w20 i a h).2
    rw [z, hp] at hu
    cases hu
  obtain ⟨_, _, ω, w1, w2, w3⟩ := r
  have no : ∀ i a, ω i a → a ≠ p := fun i a h z => by
    obtain ⟨u, hu⟩ := mut_some (w2 i a h).2
    rw [z, hp] at hu
    cases hu
  refine ⟨ex, by simp [ln], fun i a => (i < δ.length ∧ ω i a) ∨ (i = δ.length ∧ a = p), fun i j a h1 h2 => ?_, fun i a h1 => ?_, fun i t ht => ?_⟩
  · rcases h1 with ⟨l1, h1⟩ | ⟨l1, h1⟩ <;> rcases h2 with ⟨l2, h2⟩ | ⟨l2, h2⟩
    · exact w1 i j a h1 h2
    · exact (no i a h1 h2).elim
    · exact (no j a h2 h1).elim
    · omega
  · rcases h1 with ⟨l1, h1⟩ | ⟨l1, h1⟩
    · rw [upd_ne (no i a h1)]
      exact w2 i a h1
    · subst h1
      rw [upd_same]
      exact ⟨mp, mu⟩
  · rcases get_push ht with h1 | ⟨h1, h2⟩
    · obtain ⟨u, hu, ow⟩ := w3 i t h1
      have li := (List.getElem?_eq_some_iff.mp h1).1
      exact ⟨u, get_left hu, ow.mono (Same.refl M) (fun b q => .inl ⟨li, q⟩) (fun b hb => upd_ne (no i b hb)) fun b xs q => same_upd hp b _ q⟩
    · cases h2
      subst h1
      exact ⟨.ref p, by rw [← ln]; exact get_top, h _ (.inr ⟨rfl, rfl⟩)⟩
/-- a top value goes -/
theorem R.pop {x : Option V} {y : Option T} (r : R K M (σ ++ [x]) H (δ ++ [y])) : R K M σ H δ := by
  obtain ⟨ex, ln, ω, w1, w2, w3⟩ := r
  have ln : σ.length = δ.length := by simpa using ln
  refine ⟨ex, ln, ω, w1, w2, fun i t ht => ?_⟩
  obtain ⟨v, hv, ow⟩ := w3 i t (get_left ht)
  rcases get_push hv with h1 | ⟨h1, h2⟩
  · exact ⟨v, h1, ow⟩
  · have := (List.getElem?_eq_some_iff.mp ht).1
    omega
/-- a top value is stored -/
theorem R.set {v : V} {τ : T} (i : Nat) (r : R K M (σ ++ [some v]) H (δ ++ [some τ])) : R K M (σ.set i (some v)) H (δ.set i (some τ)) := by
  obtain ⟨ex, ln, ω, w1, w2, w3⟩ := r
  have ln : σ.length = δ.length := by simpa using ln
  refine ⟨ex, by simp [ln], fun j a => if j = i then ω δ.length a else if j < δ.length then ω j a else False, fun j k a h1 h2 => ?_, fun j a h1 => ?_, fun j t ht => ?_⟩
  · by_cases hj : j = i <;> by_cases hk : k = i <;> simp only [hj, hk, if_true, if_false] at h1 h2
    · rw [hj, hk]
    · split at h2
      · have := w1 _ _ _ h1 h2
        omega
      · exact h2.elim
    · split at h1
      · have := w1 _ _ _ h1 h2
        omega
      · exact h1.elim
    · split at h1
      · split at h2
        · exact w1 _ _ _ h1 h2
        · exact h2.elim
      · exact h1.elim
  · by_cases hj : j = i <;> simp only [hj, if_true, if_false] at h1
    · exact w2 _ _ h1
    · split at h1
      · exact w2 _ _ h1
      · exact h1.elim
  · by_cases hj : j = i
    · subst hj
      have hl : j < δ.length := by
        have := (List.getElem?_eq_some_iff.mp ht).1
        simpa using this
      rw [List.getElem?_set_self hl] at ht
      cases ht
      obtain ⟨u, hu, ow⟩ := w3 δ.length τ get_top
      rw [← ln] at hu
      rw [get_top] at hu
      cases hu
      refine ⟨v, by rw [List.getElem?_set_self (by omega)], ?_⟩
      simp only [if_true]
      exact ow
    · rw [List.getElem?_set_ne (Ne.symm hj)] at ht
      obtain ⟨u, hu, ow⟩ := w3 j t (get_left ht)
      have hl := (List.getElem?_eq_some_iff.mp ht).1
      rcases get_push hu with h1 | ⟨h1, _⟩
      · refine ⟨u, by rw [List.getElem?_set_ne (Ne.symm hj)]; exact h1, ?_⟩
        simp only [hj, if_false, hl, if_true]
        exact ow
      · omega
/-- slots forgotten: δ' tells no more than δ -/
def Less (δ' δ : Env) : Prop := δ'.length = δ.length ∧ ∀ (i : Nat) (t : T), δ'[i]? = some (some t) → δ[i]? = some (some t)
theorem R.less {δ' : Env} (r : R K M σ H δ) (l : Less δ' δ) : R K M σ H δ' :=
  ⟨r.ex, r.ln.trans l.1.symm, let ⟨ω, w1, w2, w3⟩ := r.own; ⟨ω, w1, w2, fun i t ht => w3 i t (l.2 i t ht)⟩⟩
theorem R.at (r : R K M σ H δ) {i : Nat} {t : T} (h : δ[i]? = some (some t)) : ∃ v, σ[i]? = some (some v) ∧ ∃ P, Own K M H P t v ∧ ∀ a, P a → M a = none ∧ Mut (H a) := by
  obtain ⟨ω, w1, w2, w3⟩ := r.own
  obtain ⟨v, hv, ow⟩ := w3 i t h
  exact ⟨v, hv, _, ow, w2 i⟩
theorem R.atD (r : R K M σ H δ) {i : Nat} {x : D} (h : δ[i]? = some (some (.d x))) : ∃ v, σ[i]? = some (some v) ∧ Rp K M x v := by
  obtain ⟨v, hv, P, ow, _⟩ := r.at h
  exact ⟨v, hv, ow⟩
/-- an owned object of a slot is changed -/
theorem R.write (r : R K M σ H δ) {i : Nat} {t t' : T} {a : Addr} {o : HO} {v : V} (h : δ[i]? = some (some t)) (hv : σ[i]? = some (some v)) (mu : Mut (some o))
    (w : ∀ P : Addr → Prop, Own K M H P t v → P a ∧ Own K M (upd H a o) P t' v) : R K M σ (upd H a o) (δ.set i (some t')) := by
  obtain ⟨ex, ln, ω, w1, w2, w3⟩ := r
  obtain ⟨u, hu, ow⟩ := w3 i t h
  rw [hv] at hu
  cases hu
  obtain ⟨pa, ow'⟩ := w _ ow
  obtain ⟨ma, mua⟩ := w2 i a pa
  have hl := (List.getElem?_eq_some_iff.mp h).1
  refine ⟨fun b u e => ?_, by simp [ln], ω, w1, fun j b hb => ⟨(w2 j b hb).1, ?_⟩, fun j s hs => ?_⟩
  · rw [upd_ne]
    · exact ex b u e
    · rintro rfl
      rw [ma] at e
      cases e
  · by_cases e : b = a
    · rw [e, upd_same]
      exact mu
    · rw [upd_ne e]
      exact (w2 j b hb).2
  · by_cases hj : j = i
    · subst hj
      rw [List.getElem?_set_self hl] at hs
      cases hs
      exact ⟨v, hv, ow'⟩
    · rw [List.getElem?_set_ne (Ne.symm hj)] at hs
      obtain ⟨u, hu, os⟩ := w3 j s hs
      refine ⟨u, hu, os.mono (Same.refl M) (fun _ q => q) (fun b hb => upd_ne ?_) fun b xs q => ?_⟩
      · rintro rfl
        exact hj (w1 _ _ _ hb pa)
      · rw [upd_ne]
        · exact q
        · rintro rfl
          exact mut_ntup mua q
/-! ### standing still -/
def fz : T → Option D
  | .d x => some x
  | .ls ds => some (.lst ds)
  | .ll dss => some (.lst (dss.map D.lst))
  | .pr a b => match fz a, fz b with
    | some x, some y => some (.tup [x, y])
    | _, _ => none
  | _ => none
theorem Own.freeze (e : Same M M') : ∀ {t : T} {P : Addr → Prop} {v : V} {x : D}, (∀ b u, P b → H b = some u → M' b = some u) → (∀ b xs, H b = some (.tup xs) → M' b = some (.tup xs)) → Own K M H P t v → fz t = some x → Rp K M' x v
  | .d _, _, _, _, _, _, h, z => by cases z; exact Rp.mono e h
  | .ls _, _, _, _, k, _, ⟨a, vs, h1, h2, h3, h4⟩, z => by cases z; exact ⟨a, vs, h1, k a _ h2 h3, h4.mono e⟩
  | .ll _, _, _, _, k, _, ⟨a, as, h1, h2, h3, h4, h5, h6⟩, z => by
    cases z
    exact ⟨a, _, h1, k a _ h2 h5, h6.freeze e fun b u hb hu => k b u (h3 b hb) hu⟩
  | .dk _, _, _, _, _, _, _, z => by cases z
  | .dt _, _, _, _, _, _, _, z => by cases z
  | .pr s t, _, _, _, k, tk, ⟨a, x, y, P1, P2, h1, h2, h3, h4, h5, h6, h7⟩, z => by
    unfold fz at z
    split at z
    · rename_i x' y' e1 e2
      cases z
      exact ⟨a, _, h1, .inl (.inl (tk _ _ h2)), _, _, rfl, Own.freeze e (fun b u hb => k b u (h3 b hb)) tk h6 e1, _, _, rfl, Own.freeze e (fun b u hb => k b u (h4 b hb)) tk h7 e2, rfl⟩
    · cases z
open Classical in
/-- slot i stands still from now on -/
theorem R.freeze (r : R K M σ H δ) {i : Nat} {t : T} {x : D} (h : δ[i]? = some (some t)) (hz : fz t = some x) : ∃ M', Same M M' ∧ R K M' σ H (δ.set i (some (.d x))) ∧ ∀ v, σ[i]? = some (some v) → Rp K M' x v := by
  obtain ⟨ex, ln, ω, w1, w2, w3⟩ := r
  obtain ⟨v, hv, ow⟩ := w3 i t h
  have hl := (List.getElem?_eq_some_iff.mp h).1
  let M' : Hp := fun b => if ω i b then H b else match H b with
    | some (.tup xs) => some (.tup xs)
    | _ => M b
  have e1 : Same M M' := fun b u q => by
    have q' := ex b u q
    show (if ω i b then H b else _) = some u
    split
    · exact q'
    · rw [q']
      cases u <;> first | exact q | rfl
  have e2 : Same M' H := fun b u q => by
    have q : (if ω i b then H b else match H b with
      | some (.tup xs) => some (.tup xs)
      | _ => M b) = some u := q
    split at q
    · exact q
    · split at q
      · rename_i xs e
        cases q
        exact e
      · exact ex b u q
  have tk : ∀ b xs, H b = some (.tup xs) → M' b = some (.tup xs) := fun b xs q => by
    show (if ω i b then H b else match H b with
      | some (.tup xs) => some (.tup xs)
      | _ => M b) = _
    split
    · exact q
    · rw [q]
  have fr : Rp K M' x v := ow.freeze e1 (fun b u hb hu => by
    show (if ω i b then H b else _) = some u
    rw [if_pos hb]
    exact hu) tk hz
  refine ⟨M', e1, ⟨e2, by simp [ln], fun j a => j ≠ i ∧ ω j a, fun j k a h1 h2 => w1 j k a h1.2 h2.2, fun j a h1 => ⟨?_, (w2 j a h1.2).2⟩, fun j s hs => ?_⟩, fun u hu => ?_⟩
  · show (if ω i a then H a else match H a with
      | some (.tup xs) => some (.tup xs)
      | _ => M a) = none
    rw [if_neg fun z => h1.1 (w1 _ _ _ h1.2 z)]
    split
    · rename_i xs e
      exact (mut_ntup (w2 j a h1.2).2 e).elim
    · exact (w2 j a h1.2).1
  · by_cases hj : j = i
    · subst hj
      rw [List.getElem?_set_self hl] at hs
      cases hs
      exact ⟨v, hv, fr⟩
    · rw [List.getElem?_set_ne (Ne.symm hj)] at hs
      obtain ⟨u, hu, os⟩ := w3 j s hs
      exact ⟨u, hu, os.mono e1 (fun b q => ⟨hj, q⟩) (fun _ _ => rfl) fun _ _ q => q⟩
  · rw [hv] at hu
    cases hu
    exact fr
/-- .. a top value -/
theorem R.freezeTop {v : V} {t : T} {x : D} (r : R K M (σ ++ [some v]) H (δ ++ [some t])) (hz : fz t = some x) : ∃ M', Same M M' ∧ R K M' σ H δ ∧ Rp K M' x v := by
  have hln : σ.length = δ.length := by simpa using r.ln
  obtain ⟨M', e, r', f⟩ := r.freeze (i := δ.length) get_top hz
  refine ⟨M', e, ?_, f v (by rw [← hln]; exact get_top)⟩
  have e2 : (δ ++ [some t]).set δ.length (some (.d x)) = δ ++ [some (.d x)] := by
    rw [List.set_append_right _ _ (Nat.le_refl _)]
    simp
  rw [e2] at r'
  exact r'.pop
end

/-! ### with a reserve: things that stand beside the slots -/
structure Z where
  s : L2.St
  e : Env
structure RR (K : PySem.W.Frag) (z : Z) (M : Hp) (σ : L2.St) (H : Hp) (δ : Env) : Prop where
  r : R K M (σ ++ z.s) H (δ ++ z.e)
  ln : σ.length = δ.length
def RT (K : PySem.W.Frag) (z : Z) (M : Hp) (σ : L2.St) (H : Hp) (δ : Env) (τ : T) (v : V) : Prop := R K M ((σ ++ z.s) ++ [some v]) H ((δ ++ z.e) ++ [some τ]) ∧ σ.length = δ.length
theorem get_leftL {α : Type} {l m : List α} {y : α} {i : Nat} (h : l[i]? = some y) : (l ++ m)[i]? = some y := by
  rw [List.getElem?_append_left (List.getElem?_eq_some_iff.mp h).1]
  exact h
theorem get_ofL {α : Type} {l m : List α} {y : α} {i : Nat} (hi : i < l.length) (h : (l ++ m)[i]? = some y) : l[i]? = some y := by
  rw [List.getElem?_append_left hi] at h
  exact h
section
variable {K : PySem.W.Frag} {z : Z} {M M' H H' : Hp} {σ : L2.St} {δ : Env}
theorem RR.ex (r : RR K z M σ H δ) : Same M H := r.r.ex
theorem RR.grow (r : RR K z M σ H δ) (e : Same H H') : RR K z M σ H' δ := ⟨r.r.grow e, r.ln⟩
theorem RR.laid (r : RR K z M σ H δ) {p : Addr} {o : HO} (hp : H p = none) : Same M (upd M p o) ∧ RR K z (upd M p o) σ (upd H p o) δ := ⟨(r.r.laid hp).1, (r.r.laid hp).2, r.ln⟩
theorem RR.pushD (r : RR K z M σ H δ) {x : D} {v : V} (h : Rp K M x v) : RT K z M σ H δ (.d x) v := ⟨r.r.pushD h, r.ln⟩
theorem RR.pushNew (r : RR K z M σ H δ) {p : Addr} {o : HO} {τ : T} (hp : H p = none) (mu : Mut (some o)) (h : ∀ P : Addr → Prop, P p → Own K M (upd H p o) P τ (.ref p)) : RT K z M σ (upd H p o) δ τ (.ref p) := ⟨r.r.pushNew hp mu h, r.ln⟩
theorem RT.pop {τ : T} {v : V} (r : RT K z M σ H δ τ v) : RR K z M σ H δ := ⟨r.1.pop, r.2⟩
theorem set_append {α : Type} {l m : List α} {i : Nat} {x : α} (h : i < l.length) : (l ++ m).set i x = l.set i x ++ m := List.set_append_left _ _ h
theorem RT.set {τ : T} {v : V} (i : Nat) (r : RT K z M σ H δ τ v) : RR K z M (σ.set i (some v)) H (δ.set i (some τ)) := by
  by_cases hi : i < δ.length
  · have h := r.1.set i
    rw [set_append hi, set_append (by rw [r.2]; exact hi)] at h
    exact ⟨h, by simp [r.2]⟩
  · have e := r.2
    rw [List.set_eq_of_length_le (by omega : σ.length ≤ i), List.set_eq_of_length_le (by omega : δ.length ≤ i)]
    exact r.pop
theorem RR.less {δ' : Env} (r : RR K z M σ H δ) (l : Less δ' δ) : RR K z M σ H δ' := by
  refine ⟨r.r.less ⟨by simp [l.1], fun i t h => ?_⟩, r.ln.trans l.1.symm⟩
  by_cases hi : i < δ'.length
  · exact get_leftL (l.2 i t (get_ofL hi h))
  · have hl := l.1
    rw [List.getElem?_append_right (by omega)] at h
    rw [List.getElem?_append_right (by omega), ← hl]
    exact h
theorem RR.at (r : RR K z M σ H δ) {i : Nat} {t : T} (h : δ[i]? = some (some t)) : ∃ v, σ[i]? = some (some v) ∧ ∃ P, Own K M H P t v ∧ ∀ a, P a → M a = none ∧ Mut (H a) := by
  obtain ⟨v, hv, q⟩ := r.r.at (get_leftL h)
  exact ⟨v, get_ofL (by rw [r.ln]; exact (List.getElem?_eq_some_iff.mp h).1) hv, q⟩
theorem RR.atD (r : RR K z M σ H δ) {i : Nat} {x : D} (h : δ[i]? = some (some (.d x))) : ∃ v, σ[i]? = some (some v) ∧ Rp K M x v := by
  obtain ⟨v, hv, P, ow, _⟩ := r.at h
  exact ⟨v, hv, ow⟩
theorem RR.write (r : RR K z M σ H δ) {i : Nat} {t t' : T} {a : Addr} {o : HO} {v : V} (h : δ[i]? = some (some t)) (hv : σ[i]? = some (some v)) (mu : Mut (some o))
    (w : ∀ P : Addr → Prop, Own K M H P t v → P a ∧ Own K M (upd H a o) P t' v) : RR K z M σ (upd H a o) (δ.set i (some t')) := by
  have q := r.r.write (get_leftL h) (get_leftL hv) mu w
  rw [set_append (List.getElem?_eq_some_iff.mp h).1] at q
  exact ⟨q, by simp [r.ln]⟩
theorem RR.freeze (r : RR K z M σ H δ) {i : Nat} {t : T} {x : D} (h : δ[i]? = some (some t)) (hz : fz t = some x) : ∃ M', Same M M' ∧ RR K z M' σ H (δ.set i (some (.d x))) := by
  obtain ⟨M', e, q, _⟩ := r.r.freeze (get_leftL h) hz
  rw [set_append (List.getElem?_eq_some_iff.mp h).1] at q
  exact ⟨M', e, q, by simp [r.ln]⟩
theorem RT.freeze {v : V} {t : T} {x : D} (r : RT K z M σ H δ t v) (hz : fz t = some x) : ∃ M', Same M M' ∧ RR K z M' σ H δ ∧ Rp K M' x v := by
  obtain ⟨M', e, q, p⟩ := r.1.freezeTop hz
  exact ⟨M', e, ⟨q, r.2⟩, p⟩
end
/-! ### what evaluates to what -/
inductive Arg where
  | d (x : D) | sl (i : Nat)
def ArgOk (K : PySem.W.Frag) (M : Hp) (σ : L2.St) : Arg → V → Prop
  | .d x, v => Rp K M x v
  | .sl i, v => σ[i]? = some (some v)
theorem ArgOk.mono {K : PySem.W.Frag} {M M' : Hp} {σ : L2.St} (e : Same M M') : ∀ {r : Arg} {v : V}, ArgOk K M σ r v → ArgOk K M' σ r v
  | .d _, _, h => Rp.mono e h
  | .sl _, _, h => h
def ArgsOk (K : PySem.W.Frag) (M : Hp) (σ : L2.St) : List Arg → List V → Prop
  | [], vs => vs = []
  | r :: rs, vs => ∃ v q, vs = v :: q ∧ ArgOk K M σ r v ∧ ArgsOk K M σ rs q
def Rd (K : PySem.W.Frag) (t : TE) (δ : Env) (r : Arg) (δ' : Env) : Prop := ∀ z M σ H, RR K z M σ H δ → ∀ Q : VK, (∀ M' v H', Same M M' → RR K z M' σ H' δ' → ArgOk K M' σ r v → Q v H') → t σ H Q
def Ro (K : PySem.W.Frag) (t : TE) (δ : Env) (τ : T) (δ' : Env) : Prop := ∀ z M σ H, RR K z M σ H δ → ∀ Q : VK, (∀ M' v H', Same M M' → RT K z M' σ H' δ' τ v → Q v H') → t σ H Q
def Ra (K : PySem.W.Frag) (t : TA) (δ : Env) (rs : List Arg) (δ' : Env) : Prop := ∀ z M σ H, RR K z M σ H δ → ∀ Q : List V → Hp → Prop, (∀ M' vs H', Same M M' → RR K z M' σ H' δ' → ArgsOk K M' σ rs vs → Q vs H') → t σ H Q
def Rt (K : PySem.W.Frag) (t : TT) (δ : Env) (b : Bool) (δ' : Env) : Prop := ∀ z M σ H, RR K z M σ H δ → ∀ Q : Bool → Hp → Prop, (∀ M' H', Same M M' → RR K z M' σ H' δ' → Q b H') → t σ H Q
def Rn (K : PySem.W.Frag) (t : TO) (δ : Env) (b : Option Int) (δ' : Env) : Prop := ∀ z M σ H, RR K z M σ H δ → ∀ Q : Option Int → Hp → Prop, (∀ M' H', Same M M' → RR K z M' σ H' δ' → Q b H') → t σ H Q
section
variable {K : PySem.W.Frag} {δ δ1 δ2 δ3 : Env} {ta tb te : TE} {tt tu : TT}
theorem rd_var {i : Nat} {x : D} (h : δ[i]? = some (some (.d x))) : Rd K (tVar i) δ (.d x) δ := fun z M σ H r Q q => by
  obtain ⟨v, hv, rp⟩ := r.atD h
  exact ⟨v, hv, q M v H (Same.refl M) r rp⟩
theorem rd_slot {i : Nat} {t : T} (h : δ[i]? = some (some t)) : Rd K (tVar i) δ (.sl i) δ := fun z M σ H r Q q => by
  obtain ⟨v, hv, _⟩ := r.at h
  exact ⟨v, hv, q M v H (Same.refl M) r hv⟩
theorem rd_c {v : V} {x : D} (h : ∀ K M, Rp K M x v) : Rd K (tC v) δ (.d x) δ := fun z M σ H r Q q => q M v H (Same.refl M) r (h K M)
theorem rd_int {i : Int} : Rd K (tC (.int i)) δ (.d (.int i)) δ := rd_c fun _ _ => rfl
theorem rd_bl {i : Bool} : Rd K (tC (.bl i)) δ (.d (.bl i)) δ := rd_c fun _ _ => rfl
theorem rd_str {i : Str} : Rd K (tC (.str i)) δ (.d (.str i)) δ := rd_c fun _ _ => rfl
theorem rd_non : Rd K (tC .non) δ (.d .non) δ := rd_c fun _ _ => rfl
theorem rd_ty {n : String} : Rd K (tC (.ty n)) δ (.d (.ty n)) δ := rd_c fun _ _ => rfl
theorem Rd.is {r r' : Arg} (h : Rd K te δ r δ1) (e : r = r') : Rd K te δ r' δ1 := e ▸ h
theorem Ro.is {r r' : T} (h : Ro K te δ r δ1) (e : r = r') : Ro K te δ r' δ1 := e ▸ h
theorem Rt.is {r r' : Bool} (h : Rt K tt δ r δ1) (e : r = r') : Rt K tt δ r' δ1 := e ▸ h
theorem Rd.own {x : D} (h : Rd K te δ (.d x) δ1) : Ro K te δ (.d x) δ1 := fun z M σ H r Q q => h z M σ H r Q fun M' v H' e r' rp => q M' v H' e (r'.pushD rp)
theorem Ro.frz {τ : T} {x : D} (h : Ro K te δ τ δ1) (hz : fz τ = some x) : Rd K te δ (.d x) δ1 := fun z M σ H r Q q => h z M σ H r Q fun M' v H' e r' => by
  obtain ⟨M2, e2, r2, rp⟩ := r'.freeze hz
  exact q M2 v H' (e.trans e2) r2 rp
/-- two whole numbers -/
theorem rd_op2 {r : R2} {x y : D} {z : D} (ha : Rd K ta δ (.d x) δ1) (hb : Rd K tb δ1 (.d y) δ2)
    (hr : ∀ M v w H, Rp K M x v → Rp K M y w → ∀ Q : VK, (∀ u, Rp K M z u → Q u H) → r v w H Q) : Rd K (tOp r ta tb) δ (.d z) δ2 := fun z M σ H r0 Q q =>
  ha z M σ H r0 _ fun M1 v H1 e1 r1 p1 => hb z M1 σ H1 r1 _ fun M2 w H2 e2 r2 p2 => hr M2 v w H2 (p1.mono e2) p2 Q fun u pu => q M2 u H2 (e1.trans e2) r2 pu
theorem rd_opI {f : Int → Int → Int} {i j : Int} (ha : Rd K ta δ (.d (.int i)) δ1) (hb : Rd K tb δ1 (.d (.int j)) δ2) : Rd K (tOp (rI0 fun i j => .int (f i j)) ta tb) δ (.d (.int (f i j))) δ2 :=
  rd_op2 ha hb fun M v w H h1 h2 Q q => ⟨i, j, h1, h2, q _ rfl⟩
theorem rd_opB {f : Int → Int → Bool} {i j : Int} (ha : Rd K ta δ (.d (.int i)) δ1) (hb : Rd K tb δ1 (.d (.int j)) δ2) : Rd K (tOp (rI0 fun i j => .bl (f i j)) ta tb) δ (.d (.bl (f i j))) δ2 :=
  rd_op2 ha hb fun M v w H h1 h2 Q q => ⟨i, j, h1, h2, q _ rfl⟩
theorem rd_opC {C : Int → Int → Prop} {f : Int → Int → Int} {i j : Int} (ha : Rd K ta δ (.d (.int i)) δ1) (hb : Rd K tb δ1 (.d (.int j)) δ2) (hc : C i j) : Rd K (tOp (rI C fun i j => .int (f i j)) ta tb) δ (.d (.int (f i j))) δ2 :=
  rd_op2 ha hb fun M v w H h1 h2 Q q => ⟨i, j, h1, h2, hc, q _ rfl⟩
theorem rd_un {f : Int → Int} {i : Int} (ha : Rd K ta δ (.d (.int i)) δ1) : Rd K (tUn (rU fun i => .int (f i)) ta) δ (.d (.int (f i))) δ1 := fun z M σ H r0 Q q =>
  ha z M σ H r0 _ fun M1 v H1 e1 r1 p1 => ⟨i, p1, q M1 _ H1 e1 r1 rfl⟩
theorem rd_eqI {i j : Int} (ha : Rd K ta δ (.d (.int i)) δ1) (hb : Rd K tb δ1 (.d (.int j)) δ2) : Rd K (tOp rEq ta tb) δ (.d (.bl (decide (i = j)))) δ2 :=
  rd_op2 ha hb fun M v w H h1 h2 Q q => by cases h1; cases h2; exact ⟨rfl, q _ (by simp [Rp])⟩
theorem rd_neI {i j : Int} (ha : Rd K ta δ (.d (.int i)) δ1) (hb : Rd K tb δ1 (.d (.int j)) δ2) : Rd K (tOp rNe ta tb) δ (.d (.bl (!decide (i = j)))) δ2 :=
  rd_op2 ha hb fun M v w H h1 h2 Q q => by cases h1; cases h2; exact ⟨rfl, q _ (by simp [Rp])⟩
theorem rd_eqB {i j : Bool} (ha : Rd K ta δ (.d (.bl i)) δ1) (hb : Rd K tb δ1 (.d (.bl j)) δ2) : Rd K (tOp rEq ta tb) δ (.d (.bl (decide (i = j)))) δ2 :=
  rd_op2 ha hb fun M v w H h1 h2 Q q => by cases h1; cases h2; exact ⟨rfl, q _ (by simp [Rp])⟩
theorem rd_neB {i j : Bool} (ha : Rd K ta δ (.d (.bl i)) δ1) (hb : Rd K tb δ1 (.d (.bl j)) δ2) : Rd K (tOp rNe ta tb) δ (.d (.bl (!decide (i = j)))) δ2 :=
  rd_op2 ha hb fun M v w H h1 h2 Q q => by cases h1; cases h2; exact ⟨rfl, q _ (by simp [Rp])⟩
theorem rd_eqS {i j : Str} (ha : Rd K ta δ (.d (.str i)) δ1) (hb : Rd K tb δ1 (.d (.str j)) δ2) : Rd K (tOp rEq ta tb) δ (.d (.bl (decide (i = j)))) δ2 :=
  rd_op2 ha hb fun M v w H h1 h2 Q q => by cases h1; cases h2; exact ⟨rfl, q _ (by simp [Rp])⟩
theorem rd_neS {i j : Str} (ha : Rd K ta δ (.d (.str i)) δ1) (hb : Rd K tb δ1 (.d (.str j)) δ2) : Rd K (tOp rNe ta tb) δ (.d (.bl (!decide (i = j)))) δ2 :=
  rd_op2 ha hb fun M v w H h1 h2 Q q => by cases h1; cases h2; exact ⟨rfl, q _ (by simp [Rp])⟩
/-! tests -/
theorem rt_test {b : Bool} (h : Rd K te δ (.d (.bl b)) δ1) : Rt K (tTest te) δ b δ1 := fun z M σ H r Q q => h z M σ H r _ fun M' v H' e r' p => ⟨b, p, q M' H' e r'⟩
theorem rt_B {b : Bool} (h : Rd K te δ (.d (.bl b)) δ1) : Rt K (tB te) δ b δ1 := fun z M σ H r Q q => h z M σ H r _ fun M' v H' e r' p => ⟨b, p, q M' H' e r'⟩
theorem rt_not {b : Bool} (h : Rt K tt δ b δ1) : Rt K (tNot tt) δ (!b) δ1 := fun z M σ H r Q q => h z M σ H r _ q
theorem rt_and {a b : Bool} (h : Rt K tt δ a δ1) (g : a = true → Rt K tu δ1 b δ1) : Rt K (tAnd tt tu) δ (a && b) δ1 := fun z M σ H r Q q => h z M σ H r _ fun M' H' e r' => by
  cases a with
  | true => exact g rfl z M' σ H' r' Q fun M2 H2 e2 r2 => q M2 H2 (e.trans e2) r2
  | false => exact q M' H' e r'
theorem rt_or {a b : Bool} (h : Rt K tt δ a δ1) (g : a = false → Rt K tu δ1 b δ1) : Rt K (tOr tt tu) δ (a || b) δ1 := fun z M σ H r Q q => h z M σ H r _ fun M' H' e r' => by
  cases a with
  | false => exact g rfl z M' σ H' r' Q fun M2 H2 e2 r2 => q M2 H2 (e.trans e2) r2
  | true => exact q M' H' e r'
theorem rt_andE {a b : Bool} (h : Rt K tt δ a δ1) (g : a = true → Rt K tu δ1 b δ2) (d3 : δ3 = if a = true then δ2 else δ1) : Rt K (tAnd tt tu) δ (a && b) δ3 := fun z M σ H r Q q => h z M σ H r _ fun M' H' e r' => by
  cases a with
  | true => exact g rfl z M' σ H' r' Q fun M2 H2 e2 r2 => q M2 H2 (e.trans e2) (by rw [d3]; exact r2)
  | false => exact q M' H' e (by rw [d3]; exact r')
theorem rt_orE {a b : Bool} (h : Rt K tt δ a δ1) (g : a = false → Rt K tu δ1 b δ2) (d3 : δ3 = if a = true then δ1 else δ2) : Rt K (tOr tt tu) δ (a || b) δ3 := fun z M σ H r Q q => h z M σ H r _ fun M' H' e r' => by
  cases a with
  | false => exact g rfl z M' σ H' r' Q fun M2 H2 e2 r2 => q M2 H2 (e.trans e2) (by rw [d3]; exact r2)
  | true => exact q M' H' e (by rw [d3]; exact r')
theorem rd_andV {a b : Bool} (h : Rd K ta δ (.d (.bl a)) δ1) (g : a = true → Rd K tb δ1 (.d (.bl b)) δ1) : Rd K (tAndV ta tb) δ (.d (.bl (a && b))) δ1 := fun z M σ H r Q q => h z M σ H r _ fun M' v H' e r' p => ⟨a, p, by
  cases a with
  | true => exact g rfl z M' σ H' r' Q fun M2 w H2 e2 r2 => q M2 w H2 (e.trans e2) r2
  | false => exact q M' _ H' e r' rfl⟩
theorem rd_orV {a b : Bool} (h : Rd K ta δ (.d (.bl a)) δ1) (g : a = false → Rd K tb δ1 (.d (.bl b)) δ1) : Rd K (tOrV ta tb) δ (.d (.bl (a || b))) δ1 := fun z M σ H r Q q => h z M σ H r _ fun M' v H' e r' p => ⟨a, p, by
  cases a with
  | false => exact g rfl z M' σ H' r' Q fun M2 w H2 e2 r2 => q M2 w H2 (e.trans e2) r2
  | true => exact q M' _ H' e r' rfl⟩
theorem rd_andVE {a b : Bool} (h : Rd K ta δ (.d (.bl a)) δ1) (g : a = true → Rd K tb δ1 (.d (.bl b)) δ2) (d3 : δ3 = if a = true then δ2 else δ1) : Rd K (tAndV ta tb) δ (.d (.bl (a && b))) δ3 := fun z M σ H r Q q => h z M σ H r _ fun M' v H' e r' p => ⟨a, p, by
  cases a with
  | true => exact g rfl z M' σ H' r' Q fun M2 w H2 e2 r2 => q M2 w H2 (e.trans e2) (by rw [d3]; exact r2)
  | false => exact q M' _ H' e (by rw [d3]; exact r') rfl⟩
theorem rd_notV {a : Bool} (h : Rd K ta δ (.d (.bl a)) δ1) : Rd K (tNotV ta) δ (.d (.bl (!a))) δ1 := fun z M σ H r Q q => h z M σ H r _ fun M' v H' e r' p => ⟨a, p, q M' _ H' e r' rfl⟩
theorem rd_if {b : Bool} {r : Arg} (h : Rt K tt δ b δ1) (h1 : b = true → Rd K ta δ1 r δ2) (h2 : b = false → Rd K tb δ1 r δ2) : Rd K (tIf tt ta tb) δ r δ2 := fun z M σ H r Q q => h z M σ H r _ fun M' H' e r' => by
  cases b with
  | true => exact h1 rfl z M' σ H' r' Q fun M2 w H2 e2 r2 => q M2 w H2 (e.trans e2) r2
  | false => exact h2 rfl z M' σ H' r' Q fun M2 w H2 e2 r2 => q M2 w H2 (e.trans e2) r2
/-! arguments -/
theorem ra_nil : Ra K tNil δ [] δ := fun z M σ H r Q q => q M [] H (Same.refl M) r rfl
theorem ra_cons {tr : TA} {r : Arg} {rs : List Arg} (h : Rd K ta δ r δ1) (g : Ra K tr δ1 rs δ2) : Ra K (tCons ta tr) δ (r :: rs) δ2 := fun z M σ H r0 Q q =>
  h z M σ H r0 _ fun M1 v H1 e1 r1 p1 => g z M1 σ H1 r1 _ fun M2 vs H2 e2 r2 p2 => q M2 (v :: vs) H2 (e1.trans e2) r2 ⟨v, vs, rfl, p1.mono e2, p2⟩
def argD : List D → List Arg := List.map Arg.d
theorem ArgsOk.rpL {M : Hp} {σ : L2.St} : ∀ {ds : List D} {vs : List V}, ArgsOk K M σ (ds.map Arg.d) vs → RpL K M ds vs
  | [], _, h => h
  | _ :: _, _, ⟨v, q, h1, h2, h3⟩ => ⟨v, q, h1, h2, ArgsOk.rpL h3⟩
theorem rd_tup {t : TA} {rs : List Arg} {ds : List D} (h : Ra K t δ rs δ1) (e : rs = ds.map Arg.d) (hl : ds.length ≤ 1000) : Rd K (tTup t) δ (.d (.tup ds)) δ1 := fun z M σ H r Q q =>
  h z M σ H r _ fun M1 vs H1 e1 r1 p1 => by
    rw [e] at p1
    have p := p1.rpL
    refine ⟨Nat.le_of_lt (small1000 (by rw [← p.length]; exact hl)), fun a ha => ?_⟩
    obtain ⟨s1, r2⟩ := r1.laid (o := .tup vs) ha
    exact q _ _ _ (e1.trans s1) r2 ⟨a, vs, rfl, .inl (.inl upd_same), p.mono s1⟩
theorem ro_lst {t : TA} {rs : List Arg} {ds : List D} (h : Ra K t δ rs δ1) (e : rs = ds.map Arg.d) (hl : ds.length ≤ 1000) : Ro K (tLst t) δ (.ls ds) δ1 := fun z M σ H r Q q =>
  h z M σ H r _ fun M1 vs H1 e1 r1 p1 => by
    rw [e] at p1
    have p := p1.rpL
    refine ⟨Nat.le_of_lt (small1000 (by rw [← p.length]; exact hl)), fun a ha => ?_⟩
    exact q _ _ _ e1 (r1.pushNew ha (by trivial) fun P hp => ⟨a, vs, rfl, hp, upd_same, p⟩)
theorem ro_nilL : Ro K (tLst tNil) δ (.ll []) δ := fun z M σ H r Q q => ⟨Nat.zero_le _, fun a ha => q _ _ _ (Same.refl M) (r.pushNew ha trivial fun P hp => ⟨a, [], rfl, hp, fun _ z => by simp at z, by simp, upd_same, rfl⟩)⟩
/-! lists read -/
def viewL (δ : Env) : Arg → Option (List D)
  | .d (.lst ds) => some ds
  | .d (.scr ds) => some ds
  | .sl i => match δ[i]? with
    | some (some (.ls ds)) => some ds
    | _ => none
  | _ => none
theorem RR.view {z : Z} {M H : Hp} {σ : L2.St} (r : RR K z M σ H δ) {x : Arg} {ds : List D} {v : V} (h : viewL δ x = some ds) (ok : ArgOk K M σ x v) : ∃ a vs, v = .ref a ∧ SqL K H a vs ∧ RpL K M ds vs := by
  unfold viewL at h
  split at h
  · cases h
    obtain ⟨a, vs, h1, h2, h3⟩ := ok
    exact ⟨a, vs, h1, .inl (.inl (r.ex _ _ h2)), h3⟩
  · cases h
    obtain ⟨a, vs, h1, h2, h3⟩ := ok
    exact ⟨a, vs, h1, Same.sqL r.ex h2, h3⟩
  · split at h
    · rename_i i _ ds' e
      cases h
      obtain ⟨u, hu, P, ow, _⟩ := r.at e
      obtain ⟨a, vs, h1, h2, h3, h4⟩ := ow
      have : v = u := by
        have ok : σ[i]? = some (some v) := ok
        rw [ok] at hu
        cases hu
        rfl
      exact ⟨a, vs, this.trans h1, .inl (.inl h3), h4⟩
    · cases h
  · cases h
theorem atI_rp {M : Hp} {ds : List D} {vs : List V} {k : Int} {x : D} (p : RpL K M ds vs) (h : atI ds k = some x) : ∃ v, atI vs k = some v ∧ Rp K M x v := by
  unfold atI at h ⊢
  rw [← p.length]
  cases e : ixN ds.length k with
  | none => rw [e] at h; cases h
  | some j =>
    rw [e] at h
    exact p.get h
theorem rd_ix {r : Arg} {ds : List D} {k : Int} {x : D} (ha : Rd K ta δ r δ1) (hb : Rd K tb δ1 (.d (.int k)) δ2) (hv : viewL δ2 r = some ds) (hx : atI ds k = some x) : Rd K (tOp (rIxL K) ta tb) δ (.d x) δ2 := fun z M σ H r0 Q q =>
  ha z M σ H r0 _ fun M1 v H1 e1 r1 p1 => hb z M1 σ H1 r1 _ fun M2 w H2 e2 r2 p2 => by
    obtain ⟨a, vs, h1, h2, h3⟩ := r2.view hv (p1.mono e2)
    obtain ⟨z, hz, rz⟩ := atI_rp h3 hx
    exact ⟨a, vs, k, z, h1, p2, h2, hz, q M2 z H2 (e1.trans e2) r2 rz⟩
theorem rd_ixT {ds : List D} {k : Int} {x : D} (ha : Rd K ta δ (.d (.tup ds)) δ1) (hb : Rd K tb δ1 (.d (.int k)) δ2) (hx : atI ds k = some x) : Rd K (tOp (rIxT K) ta tb) δ (.d x) δ2 := fun z M σ H r0 Q q =>
  ha z M σ H r0 _ fun M1 v H1 e1 r1 p1 => hb z M1 σ H1 r1 _ fun M2 w H2 e2 r2 p2 => by
    obtain ⟨a, vs, h1, h2, h3⟩ := p1.mono e2
    obtain ⟨z, hz, rz⟩ := atI_rp h3 hx
    exact ⟨a, vs, k, z, h1, p2, Same.sqT r2.ex h2, hz, q M2 z H2 (e1.trans e2) r2 rz⟩
/-- len of a list -/
def lenA (δ : Env) : Arg → Option Nat
  | .d (.lst ds) => some ds.length
  | .d (.scr ds) => some ds.length
  | .d (.tup ds) => some ds.length
  | .sl i => match δ[i]? with
    | some (some (.ls ds)) => some ds.length
    | some (some (.ll ds)) => some ds.length
    | _ => none
  | _ => none
theorem rd_len {r : Arg} {n : Nat} (ha : Rd K ta δ r δ1) (h : lenA δ1 r = some n) :
    Rd K (tCB (fun xs H Q => ∃ p ys, xs = [V.ref p] ∧ (SqL K H p ys ∨ SqT K H p ys) ∧ Q (.int ys.length) H) (tCons ta tNil)) δ (.d (.int n)) δ1 := fun z M σ H r0 Q q =>
  ha z M σ H r0 _ fun M1 v H1 e1 r1 p1 => by
    unfold lenA at h
    split at h
    · cases h
      obtain ⟨a, vs, h1, h2, h3⟩ := p1
      subst h1
      exact ⟨a, vs, rfl, .inl (.inl (.inl (r1.ex _ _ h2))), q M1 _ H1 e1 r1 (by rw [h3.length]; rfl)⟩
    · cases h
      obtain ⟨a, vs, h1, h2, h3⟩ := p1
      subst h1
      exact ⟨a, vs, rfl, .inl (Same.sqL r1.ex h2), q M1 _ H1 e1 r1 (by rw [h3.length]; rfl)⟩
    · cases h
      obtain ⟨a, vs, h1, h2, h3⟩ := p1
      subst h1
      exact ⟨a, vs, rfl, .inr (Same.sqT r1.ex h2), q M1 _ H1 e1 r1 (by rw [h3.length]; rfl)⟩
    · split at h
      · rename_i i _ ds e
        cases h
        obtain ⟨u, hu, P, ow, _⟩ := r1.at e
        obtain ⟨a, vs, h1, h2, h3, h4⟩ := ow
        have p1 : σ[i]? = some (some v) := p1
        rw [p1] at hu
        cases hu
        subst h1
        exact ⟨a, vs, rfl, .inl (.inl (.inl h3)), q M1 _ H1 e1 r1 (by rw [h4.length]; rfl)⟩
      · rename_i i _ ds e
        cases h
        obtain ⟨u, hu, P, ow, _⟩ := r1.at e
        obtain ⟨a, as, h1, h2, h3, h4, h5, h6⟩ := ow
        have p1 : σ[i]? = some (some v) := p1
        rw [p1] at hu
        cases hu
        subst h1
        exact ⟨a, _, rfl, .inl (.inl (.inl h5)), q M1 _ H1 e1 r1 (by rw [h6.length, List.length_map]; rfl)⟩
      · cases h
    · cases h
end
end TV

namespace TV
open PySem PySem.Spec PyProof.Rows L2
theorem refs_inj : ∀ {as bs : List Addr}, as.map V.ref = bs.map V.ref → as = bs
  | [], [], _ => rfl
  | [], _ :: _, h => nomatch h
  | _ :: _, [], h => nomatch h
  | a :: r, b :: q, h => by
    injection h with h1 h2
    rw [V.ref.inj h1, refs_inj h2]
theorem RpL.one {K : PySem.W.Frag} {M : Hp} {d : TV.D} {v : V} (h : Rp K M d v) : RpL K M [d] [v] := ⟨v, [], rfl, h, rfl⟩
/-! ### statements -/
structure EndT where
  nx : Env → Prop
  rt : T → Env → Prop
  bk : Env → Prop := fun _ => False
  ct : Env → Prop := fun _ => False
def Keep (ps : List Nat) (σ σ' : L2.St) : Prop := ∀ i, i ∈ ps → σ'[i]? = σ[i]?
theorem Keep.refl {ps : List Nat} {σ : L2.St} : Keep ps σ σ := fun _ _ => rfl
theorem Keep.trans {ps : List Nat} {σ σ1 σ2 : L2.St} (a : Keep ps σ σ1) (b : Keep ps σ1 σ2) : Keep ps σ σ2 := fun i h => (b i h).trans (a i h)
theorem Keep.sub {ps qs : List Nat} {σ σ' : L2.St} (a : Keep ps σ σ') (h : ∀ i, i ∈ qs → i ∈ ps) : Keep qs σ σ' := fun i hi => a i (h i hi)
theorem Keep.set {ps : List Nat} {σ : L2.St} {i : Nat} {v : Option V} (h : i ∉ ps) : Keep ps σ (σ.set i v) := fun j hj => by
  rw [List.getElem?_set_ne]
  rintro rfl
  exact h hj
structure LiftE (K : PySem.W.Frag) (ps : List Nat) (z : Z) (σ : L2.St) (M : Hp) (D : EndT) (E : Ends) : Prop where
  nx : ∀ M' σ' H δ, Same M M' → RR K z M' σ' H δ → Keep ps σ σ' → D.nx δ → E.nx σ' H
  rt : ∀ M' σ' v H δ τ, Same M M' → RT K z M' σ' H δ τ v → Keep ps σ σ' → D.rt τ δ → E.rt v H
  bk : ∀ M' σ' H δ, Same M M' → RR K z M' σ' H δ → Keep ps σ σ' → D.bk δ → E.bk σ' H
  ct : ∀ M' σ' H δ, Same M M' → RR K z M' σ' H δ → Keep ps σ σ' → D.ct δ → E.ct σ' H
theorem LiftE.on {K : PySem.W.Frag} {ps : List Nat} {z : Z} {σ σ' : L2.St} {M M' : Hp} {D : EndT} {E : Ends} (l : LiftE K ps z σ M D E) (e : Same M M') (k : Keep ps σ σ') : LiftE K ps z σ' M' D E :=
  ⟨fun M2 σ2 H δ e2 r k2 => l.nx M2 σ2 H δ (e.trans e2) r (k.trans k2), fun M2 σ2 v H δ τ e2 r k2 => l.rt M2 σ2 v H δ τ (e.trans e2) r (k.trans k2),
   fun M2 σ2 H δ e2 r k2 => l.bk M2 σ2 H δ (e.trans e2) r (k.trans k2), fun M2 σ2 H δ e2 r k2 => l.ct M2 σ2 H δ (e.trans e2) r (k.trans k2)⟩
def Sd (K : PySem.W.Frag) (ps : List Nat) (t : TS) (δ : Env) (D : EndT) : Prop := ∀ z M σ H, RR K z M σ H δ → ∀ E, LiftE K ps z σ M D E → t E σ H
def Gd (K : PySem.W.Frag) (ps : List Nat) (g : TG) (x : D) (δ δ' : Env) : Prop := ∀ z M σ H v, RR K z M σ H δ → Rp K M x v → ∀ Q : L2.St → Hp → Prop, (∀ σ', RR K z M σ' H δ' → Keep ps σ σ' → Q σ' H) → g v σ H Q
def Gds (K : PySem.W.Frag) (ps : List Nat) (g : TGs) (xs : List D) (δ δ' : Env) : Prop := ∀ z M σ H vs, RR K z M σ H δ → RpL K M xs vs → ∀ Q : L2.St → Hp → Prop, (∀ σ', RR K z M σ' H δ' → Keep ps σ σ' → Q σ' H) → g vs σ H Q
section
variable {K : PySem.W.Frag} {ps : List Nat} {δ δ1 δ2 δ3 : Env} {ta tb te : TE} {tt tu : TT} {t u : TS} {D : EndT}
theorem sd_less {δ' : Env} (h : Sd K ps t δ' D) (l : Less δ' δ) : Sd K ps t δ D := fun z M σ H r E hE => h z M σ H (r.less l) E hE
theorem sd_frz {i : Nat} {τ : T} {x : TV.D} (hi : δ[i]? = some (some τ)) (hz : fz τ = some x) (h : Sd K ps t (δ.set i (some (.d x))) D) : Sd K ps t δ D := fun z M σ H r E hE => by
  obtain ⟨M', e, r'⟩ := r.freeze hi hz
  exact h z M' σ H r' E (hE.on e Keep.refl)
theorem sd_seq (h : Sd K ps t δ { D with nx := fun δ' => Sd K ps u δ' D }) : Sd K ps (tSeq t u) δ D := fun z M σ H r E hE =>
  h z M σ H r { E with nx := u E } ⟨fun M' σ' H' δ' e r' k q => q z M' σ' H' r' E (hE.on e k), hE.rt, hE.bk, hE.ct⟩
theorem sd_next (h : D.nx δ) : Sd K ps tNext δ D := fun z M σ H r E hE => hE.nx M σ H δ (Same.refl M) r Keep.refl h
theorem sd_break (h : D.bk δ) : Sd K ps tBreak δ D := fun z M σ H r E hE => hE.bk M σ H δ (Same.refl M) r Keep.refl h
theorem sd_cont (h : D.ct δ) : Sd K ps tCont δ D := fun z M σ H r E hE => hE.ct M σ H δ (Same.refl M) r Keep.refl h
theorem sd_if {b : Bool} (h : Rt K tt δ b δ1) (h1 : b = true → Sd K ps t δ1 D) (h2 : b = false → Sd K ps u δ1 D) : Sd K ps (tIfS tt t u) δ D := fun z M σ H r E hE =>
  h z M σ H r _ fun M' H' e r' => by
    cases b with
    | true => exact h1 rfl z M' σ H' r' E (hE.on e Keep.refl)
    | false => exact h2 rfl z M' σ H' r' E (hE.on e Keep.refl)
theorem gd_name {i : Nat} {x : TV.D} (hi : i ∉ ps) : Gd K ps (gName i) x δ (δ.set i (some (.d x))) := fun z M σ H v r rp Q q => q _ ((r.pushD rp).set i) (Keep.set hi)
theorem gds_nil : Gds K ps gNil [] δ δ := fun z M σ H vs r rp Q q => ⟨rp, q σ r Keep.refl⟩
theorem gds_cons {g : TG} {gs : TGs} {x : TV.D} {xs : List TV.D} (h : Gd K ps g x δ δ1) (hs : Gds K ps gs xs δ1 δ2) : Gds K ps (gCons g gs) (x :: xs) δ δ2 := fun z M σ H vs r rp Q q => by
  obtain ⟨v, w, h1, h2, h3⟩ := rp
  exact ⟨v, w, h1, h z M σ H v r h2 _ fun σ' r' k => hs z M σ' H w r' h3 Q fun σ2 r2 k2 => q σ2 r2 (k.trans k2)⟩
theorem gd_tup {gs : TGs} {xs : List TV.D} {n : Nat} (hs : Gds K ps gs xs δ δ1) (hn : xs.length = n) : Gd K ps (gTup K n gs) (.tup xs) δ δ1 := fun z M σ H v r rp Q q => by
  obtain ⟨a, vs, h1, h2, h3⟩ := rp
  exact ⟨a, vs, h1, Same.sqT r.ex h2, h3.length.symm.trans hn, hs z M σ H vs r h3 Q q⟩
theorem sd_asgG {g : TG} {x : TV.D} (h : Rd K te δ (.d x) δ1) (hg : Gd K ps g x δ1 δ2) (hn : D.nx δ2) : Sd K ps (tAsg te g) δ D := fun z M σ H r E hE =>
  h z M σ H r _ fun M' v H' e r' rp => hg z M' σ H' v r' rp _ fun σ' r2 k => hE.nx M' σ' H' δ2 e r2 k hn
theorem sd_asg {i : Nat} {x : TV.D} (h : Rd K te δ (.d x) δ1) (hi : i ∉ ps) (hn : D.nx (δ1.set i (some (.d x)))) : Sd K ps (tAsg te (gName i)) δ D := sd_asgG h (gd_name hi) hn
theorem sd_asgO {i : Nat} {τ : T} (h : Ro K te δ τ δ1) (hi : i ∉ ps) (hn : D.nx (δ1.set i (some τ))) : Sd K ps (tAsg te (gName i)) δ D := fun z M σ H r E hE =>
  h z M σ H r _ fun M' v H' e r' => hE.nx M' _ H' _ e (r'.set i) (Keep.set hi) hn
theorem sd_aug {i : Nat} {f : Int → Int → Int} {a b : Int} (h : Rd K te δ (.d (.int b)) δ1) (h0 : δ[i]? = some (some (.d (.int a)))) (hi : i ∉ ps) (hn : D.nx (δ1.set i (some (.d (.int (f a b)))))) : Sd K ps (tAug i te (ipI f)) δ D := fun z M σ H r E hE => by
  obtain ⟨v, hv, rp⟩ := r.atD h0
  refine ⟨v, hv, h z M σ H r _ fun M' w H' e r' rw => ⟨a, b, rp, rw, ?_⟩⟩
  exact hE.nx M' _ H' _ e ((r'.pushD (x := .int (f a b)) rfl).set i) (Keep.set hi) hn
theorem sd_drop {r : Arg} (h : Rd K te δ r δ1) (hn : D.nx δ1) : Sd K ps (tDrop te) δ D := fun z M σ H r0 E hE => h z M σ H r0 _ fun M' v H' e r' _ => hE.nx M' σ H' δ1 e r' Keep.refl hn
theorem sd_ret {τ : T} (h : Ro K te δ τ δ1) (hn : D.rt τ δ1) : Sd K ps (tRet te) δ D := fun z M σ H r E hE => h z M σ H r _ fun M' v H' e r' => hE.rt M' σ v H' δ1 τ e r' Keep.refl hn
theorem sd_retD {x : TV.D} (h : Rd K te δ (.d x) δ1) (hn : D.rt (.d x) δ1) : Sd K ps (tRet te) δ D := sd_ret h.own hn
theorem sd_retN (hn : D.rt (.d .non) δ) : Sd K ps tRetN δ D := fun z M σ H r E hE => hE.rt M σ .non H δ (.d .non) (Same.refl M) (r.pushD rfl) Keep.refl hn
theorem less_none {i : Nat} : Less (δ.set i none) δ := by
  refine ⟨by simp, fun j s hs => ?_⟩
  by_cases hj : j = i
  · subst hj
    by_cases hl : j < δ.length
    · rw [List.getElem?_set_self hl] at hs
      cases hs
    · rw [List.getElem?_eq_none (by simp; omega)] at hs
      cases hs
  · rw [List.getElem?_set_ne (Ne.symm hj)] at hs
    exact hs
/-- a slot's own thing is handed on -/
theorem R.move {M H : Hp} {σ : L2.St} {δ : Env} (r : R K M σ H δ) {i : Nat} {τ : T} {v : V} (h : δ[i]? = some (some τ)) (hv : σ[i]? = some (some v)) : R K M (σ ++ [some v]) H (δ.set i none ++ [some τ]) := by
  obtain ⟨ex, ln, ω, w1, w2, w3⟩ := r
  have hl := (List.getElem?_eq_some_iff.mp h).1
  refine ⟨ex, by simp [ln], fun j a => if j = δ.length then ω i a else if j = i then False else ω j a, fun j k a h1 h2 => ?_, fun j a h1 => ?_, fun j s hs => ?_⟩
  · by_cases hj : j = δ.length
    · by_cases hk : k = δ.length
      · omega
      · by_cases hk2 : k = i
        · simp only [hk, hk2, if_false, if_true] at h2
          rw [if_neg (by omega)] at h2
          exact h2.elim
        · simp only [hk, hk2, if_false] at h2
          simp only [hj, if_true] at h1
          exact absurd (w1 _ _ _ h2 h1) hk2
    · by_cases hj2 : j = i
      · rw [hj2, if_neg (by omega), if_pos rfl] at h1
        exact h1.elim
      · simp only [hj, hj2, if_false] at h1
        by_cases hk : k = δ.length
        · simp only [hk, if_true] at h2
          exact absurd (w1 _ _ _ h1 h2) hj2
        · by_cases hk2 : k = i
          · rw [hk2, if_neg (by omega), if_pos rfl] at h2
            exact h2.elim
          · simp only [hk, hk2, if_false] at h2
            exact w1 _ _ _ h1 h2
  · by_cases hj : j = δ.length
    · simp only [hj, if_true] at h1
      exact w2 _ _ h1
    · by_cases hj2 : j = i
      · rw [hj2, if_neg (by omega), if_pos rfl] at h1
        exact h1.elim
      · simp only [hj, hj2, if_false] at h1
        exact w2 _ _ h1
  · rcases get_push hs with h1 | ⟨h1, h2⟩
    · by_cases hj : j = i
      · subst hj
        rw [List.getElem?_set_self hl] at h1
        cases h1
      · rw [List.getElem?_set_ne (Ne.symm hj)] at h1
        obtain ⟨w, hw, ow⟩ := w3 j s h1
        have hjl := (List.getElem?_eq_some_iff.mp h1).1
        refine ⟨w, get_left hw, ?_⟩
        have e1 : j ≠ δ.length := by omega
        simp only [e1, hj, if_false]
        exact ow
    · cases h2
      have h1 : j = δ.length := by simpa using h1
      obtain ⟨w, hw, ow⟩ := w3 i τ h
      rw [hv] at hw
      cases hw
      refine ⟨v, by rw [h1, ← ln]; exact get_top, ?_⟩
      simp only [h1, if_true]
      exact ow
theorem RR.move {z : Z} {M H : Hp} {σ : L2.St} {δ : Env} (r : RR K z M σ H δ) {i : Nat} {τ : T} {v : V} (h : δ[i]? = some (some τ)) (hv : σ[i]? = some (some v)) : RT K z M σ H (δ.set i none) τ v := by
  have q := r.r.move (get_leftL h) (get_leftL hv)
  rw [set_append (List.getElem?_eq_some_iff.mp h).1] at q
  exact ⟨q, by simp [r.ln]⟩
theorem ro_move {i : Nat} {τ : T} (h : δ[i]? = some (some τ)) : Ro K (tVar i) δ τ (δ.set i none) := fun z M σ H r Q q => by
  obtain ⟨v, hv, _⟩ := r.at h
  exact ⟨v, hv, q M v H (Same.refl M) (r.move h hv)⟩

/-! ### an owned list changed -/
def isLs (δ : Env) (i : Nat) : Bool := match δ[i]? with
  | some (some (.ls _)) => true
  | some (some (.ll _)) => true
  | _ => false
theorem RR.lsAt {z : Z} {M H : Hp} {σ : L2.St} (r : RR K z M σ H δ) {i : Nat} {ds : List TV.D} (h : δ[i]? = some (some (.ls ds))) :
    ∃ a vs, σ[i]? = some (some (.ref a)) ∧ H a = some (.lst vs) ∧ RpL K M ds vs ∧ ∀ ds' vs', RpL K M ds' vs' → RR K z M σ (upd H a (.lst vs')) (δ.set i (some (.ls ds'))) := by
  obtain ⟨v, hv, P, ow, _⟩ := r.at h
  obtain ⟨a, vs, rfl, h2, h3, h4⟩ := ow
  refine ⟨a, vs, hv, h3, h4, fun ds' vs' hr => r.write h hv trivial fun P' ow' => ?_⟩
  obtain ⟨a', vs2, e, p2, _, _⟩ := ow'
  cases e
  exact ⟨p2, a, vs', rfl, p2, upd_same, hr⟩
theorem RR.llAt {z : Z} {M H : Hp} {σ : L2.St} (r : RR K z M σ H δ) {i : Nat} {dss : List (List TV.D)} (h : δ[i]? = some (some (.ll dss))) :
    ∃ a as, σ[i]? = some (some (.ref a)) ∧ H a = some (.lst (as.map V.ref)) ∧ (a :: as).Nodup ∧ LL K M H dss as := by
  obtain ⟨v, hv, P, ow, _⟩ := r.at h
  obtain ⟨a, as, rfl, h2, h3, h4, h5, h6⟩ := ow
  exact ⟨a, as, hv, h5, h4, h6⟩
theorem tyV_l {z : Z} {M H : Hp} {σ : L2.St} (r : RR K z M σ H δ) {i : Nat} (h : isLs δ i = true) : ∃ a, σ[i]? = some (some (.ref a)) ∧ tyV K "list" (.ref a) H := by
  unfold isLs at h
  split at h
  · rename_i ds e
    obtain ⟨a, vs, h1, h2, _⟩ := r.lsAt e
    exact ⟨a, h1, .inl ⟨rfl, _, .inl (.inl h2)⟩⟩
  · rename_i ds e
    obtain ⟨a, as, h1, h2, _⟩ := r.llAt e
    exact ⟨a, h1, .inl ⟨rfl, _, .inl (.inl h2)⟩⟩
  · cases h
theorem len_ok {n : Nat} (h : n < 100000) : n < sizeLine := Nat.lt_trans h (by decide)
/-- x.append(e) -/
theorem sd_append {i : Nat} {x : TV.D} {ds : List TV.D} (h0 : isLs δ i = true) (h : Rd K te δ (.d x) δ1) (h1 : δ1[i]? = some (some (.ls ds))) (hl : ds.length < 100000) (hn : D.nx (δ1.set i (some (.ls (ds ++ [x]))))) :
    Sd K ps (tDrop (tBM K "list" rAppend (tVar i) (tCons te tNil))) δ D := fun z M σ H r E hE => by
  obtain ⟨a, ha, ty⟩ := tyV_l r h0
  refine ⟨.ref a, ha, ty, h z M σ H r _ fun M' v H' e r' rp => ?_⟩
  obtain ⟨b, vs, hb, hH, hr, w⟩ := r'.lsAt h1
  rw [ha] at hb
  cases hb
  exact ⟨a, vs, v, rfl, rfl, hH, by rw [← hr.length]; exact len_ok hl, hE.nx M' σ _ _ e (w _ _ (hr.append (RpL.one rp))) Keep.refl hn⟩
/-- a new list goes into an owned list of lists -/
theorem R.adopt {M H : Hp} {σ : L2.St} {δ : Env} {i : Nat} {ys : List TV.D} {dss : List (List TV.D)} {a : Addr} {u : V} (r : R K M (σ ++ [some u]) H (δ ++ [some (.ls ys)])) (h1 : δ[i]? = some (some (.ll dss))) (ha : σ[i]? = some (some (.ref a))) :
    ∃ (as : List Addr) (b : Addr), u = .ref b ∧ H a = some (.lst (as.map V.ref)) ∧ as.length = dss.length ∧ R K M σ (upd H a (.lst (as.map V.ref ++ [u]))) (δ.set i (some (.ll (dss ++ [ys])))) := by
  obtain ⟨ex, ln, ω, w1, w2, w3⟩ := r
  have ln : σ.length = δ.length := by simpa using ln
  have hl1 := (List.getElem?_eq_some_iff.mp h1).1
  obtain ⟨u0, hu, a', as, rfl, p1, p2, nd, g1, g2⟩ := w3 i _ (get_left h1)
  obtain ⟨u', hu', b, vs, rfl, p3, g3, g4⟩ := w3 δ.length _ get_top
  rw [get_left ha] at hu
  cases hu
  rw [← ln, get_top] at hu'
  cases hu'
  have nb : ∀ c, c ∈ a :: as → c ≠ b := fun c hc z => by
    have : ω i c := by
      rcases List.mem_cons.mp hc with q | q
      · rw [q]; exact p1
      · exact p2 c q
    have := w1 _ _ _ this (z ▸ p3)
    omega
  refine ⟨as, b, rfl, g1, g2.length.symm, fun c o q => ?_, by simpa using ln, fun j c => if j = i then ω i c ∨ ω δ.length c else j < δ.length ∧ ω j c, fun j k c q1 q2 => ?_, fun j c q1 => ?_, fun j s hs => ?_⟩
  · rw [upd_ne]
    · exact ex c o q
    · rintro rfl
      rw [(w2 _ _ p1).1] at q
      cases q
  · by_cases hj : j = i <;> by_cases hk : k = i <;> simp only [hj, hk, if_true, if_false] at q1 q2
    · rw [hj, hk]
    · rcases q1 with q1 | q1
      · exact absurd (w1 _ _ _ q1 q2.2) (by omega)
      · have := w1 _ _ _ q1 q2.2
        omega
    · rcases q2 with q2 | q2
      · exact absurd (w1 _ _ _ q1.2 q2) (by omega)
      · have := w1 _ _ _ q1.2 q2
        omega
    · exact w1 _ _ _ q1.2 q2.2
  · have q : ∃ j, ω j c := by
      by_cases hj : j = i <;> simp only [hj, if_true, if_false] at q1
      · rcases q1 with q1 | q1
        · exact ⟨_, q1⟩
        · exact ⟨_, q1⟩
      · exact ⟨_, q1.2⟩
    obtain ⟨j', q⟩ := q
    refine ⟨(w2 _ _ q).1, ?_⟩
    by_cases hc : c = a
    · rw [hc, upd_same]; trivial
    · rw [upd_ne hc]; exact (w2 _ _ q).2
  · by_cases hj : j = i
    · subst hj
      rw [List.getElem?_set_self hl1] at hs
      cases hs
      refine ⟨.ref a, ha, a, as ++ [b], rfl, ?_, fun c hc => ?_, ?_, ?_, ?_⟩
      · simp only [if_true]; exact .inl p1
      · simp only [if_true]
        rcases List.mem_append.mp hc with q | q
        · exact .inl (p2 c q)
        · rw [List.mem_singleton.mp q]; exact .inr p3
      · rw [← List.cons_append]
        refine List.nodup_append.mpr ⟨nd, by simp, fun c hc d hd => ?_⟩
        rw [List.mem_singleton.mp hd]
        exact nb c hc
      · rw [upd_same, List.map_append]; rfl
      · have na : a ∉ as := (List.nodup_cons.mp nd).1
        refine (g2.mono (Same.refl M) fun c hc => upd_ne ?_).append ⟨b, [], vs, rfl, ?_, g4, rfl⟩
        · rintro rfl; exact na hc
        · exact (upd_ne (nb a (by simp)).symm).trans g3
    · rw [List.getElem?_set_ne (Ne.symm hj)] at hs
      obtain ⟨u, hu, ow⟩ := w3 j s (get_left hs)
      have hjl := (List.getElem?_eq_some_iff.mp hs).1
      rcases get_push hu with q | ⟨q, _⟩
      · refine ⟨u, q, ow.mono (Same.refl M) (fun c hc => by simp only [hj, if_false]; exact ⟨hjl, hc⟩) (fun c hc => upd_ne ?_) fun c xs hc => ?_⟩
        · rintro rfl
          exact hj (w1 _ _ _ hc p1)
        · rw [upd_ne]
          · exact hc
          · rintro rfl
            rw [g1] at hc
            cases hc
      · omega
/-- .. a new list -/
theorem sd_appendL {i : Nat} {ys : List TV.D} {dss : List (List TV.D)} (h0 : isLs δ i = true) (h : Ro K te δ (.ls ys) δ1) (h1 : δ1[i]? = some (some (.ll dss))) (hl : dss.length < 100000) (hn : D.nx (δ1.set i (some (.ll (dss ++ [ys]))))) :
    Sd K ps (tDrop (tBM K "list" rAppend (tVar i) (tCons te tNil))) δ D := fun z M σ H r E hE => by
  obtain ⟨a, ha, ty⟩ := tyV_l r h0
  refine ⟨.ref a, ha, ty, h z M σ H r _ fun M' v H' e r' => ?_⟩
  obtain ⟨as, b, rfl, g1, gl, r2⟩ := r'.1.adopt (get_leftL h1) (get_leftL ha)
  rw [set_append (List.getElem?_eq_some_iff.mp h1).1] at r2
  exact ⟨a, as.map V.ref, .ref b, rfl, rfl, g1, by rw [List.length_map, gl]; exact len_ok hl, hE.nx M' σ _ _ e ⟨r2, by simp [r'.2]⟩ Keep.refl hn⟩
/-! pure readings: the heap only grows -/
def Pd (K : PySem.W.Frag) (t : TE) (δ : Env) (x : TV.D) : Prop := ∀ z M σ H, RR K z M σ H δ → ∀ Q : VK, (∀ M' v H', Same M M' → Same H H' → RR K z M' σ H' δ → Rp K M' x v → Q v H') → t σ H Q
theorem pd_var {i : Nat} {x : TV.D} (h : δ[i]? = some (some (.d x))) : Pd K (tVar i) δ x := fun z M σ H r Q q => by
  obtain ⟨v, hv, rp⟩ := r.atD h
  exact ⟨v, hv, q M v H (Same.refl M) (Same.refl H) r rp⟩
theorem pd_int {i : Int} : Pd K (tC (.int i)) δ (.int i) := fun z M σ H r Q q => q M _ H (Same.refl M) (Same.refl H) r rfl
theorem pd_opI {f : Int → Int → Int} {i j : Int} (ha : Pd K ta δ (.int i)) (hb : Pd K tb δ (.int j)) : Pd K (tOp (rI0 fun i j => .int (f i j)) ta tb) δ (.int (f i j)) := fun z M σ H r Q q =>
  ha z M σ H r _ fun M1 v H1 e1 s1 r1 p1 => hb z M1 σ H1 r1 _ fun M2 w H2 e2 s2 r2 p2 => ⟨i, j, p1, p2, q M2 _ H2 (e1.trans e2) (s1.trans s2) r2 rfl⟩
theorem pd_un {f : Int → Int} {i : Int} (ha : Pd K ta δ (.int i)) : Pd K (tUn (rU fun i => .int (f i)) ta) δ (.int (f i)) := fun z M σ H r Q q =>
  ha z M σ H r _ fun M1 v H1 e1 s1 r1 p1 => ⟨i, p1, q M1 _ H1 e1 s1 r1 rfl⟩
theorem pd_ix {ds : List TV.D} {k : Int} {x : TV.D} (ha : Pd K ta δ (.lst ds)) (hb : Pd K tb δ (.int k)) (hx : atI ds k = some x) : Pd K (tOp (rIxL K) ta tb) δ x := fun z M σ H r Q q =>
  ha z M σ H r _ fun M1 v H1 e1 s1 r1 p1 => hb z M1 σ H1 r1 _ fun M2 w H2 e2 s2 r2 p2 => by
    obtain ⟨a, vs, h1, h2, h3⟩ := p1.mono e2
    obtain ⟨z, hz, rz⟩ := atI_rp h3 hx
    exact ⟨a, vs, k, z, h1, p2, .inl (.inl (r2.ex _ _ h2)), hz, q M2 z H2 (e1.trans e2) (s1.trans s2) r2 rz⟩
theorem pd_ixS {i : Nat} {ds : List TV.D} {k : Int} {x : TV.D} (h : δ[i]? = some (some (.ls ds))) (hb : Pd K tb δ (.int k)) (hx : atI ds k = some x) : Pd K (tOp (rIxL K) (tVar i) tb) δ x := fun z M σ H r Q q => by
  obtain ⟨v, hv, _⟩ := r.at h
  refine ⟨v, hv, hb z M σ H r _ fun M2 w H2 e2 s2 r2 p2 => ?_⟩
  obtain ⟨a, vs, h1, h2, h3⟩ := r2.view (x := .sl i) (ds := ds) (by simp only [viewL, h]) hv
  obtain ⟨z, hz, rz⟩ := atI_rp h3 hx
  exact ⟨a, vs, k, z, h1, p2, h2, hz, q M2 z H2 e2 s2 r2 rz⟩
/-- xs[k].append(e) -/
theorem sd_append2 {i : Nat} {tk : TE} {k : Int} {j : Nat} {x : TV.D} {dss : List (List TV.D)} {ds : List TV.D} (h0 : δ[i]? = some (some (.ll dss))) (hk : Pd K tk δ (.int k)) (h : Pd K te δ x) (hj : ixN dss.length k = some j) (hd : dss[j]? = some ds) (hl : ds.length < 100000)
    (hn : D.nx (δ.set i (some (.ll (dss.set j (ds ++ [x])))))) : Sd K ps (tDrop (tBM K "list" rAppend (tOp (rIxL K) (tVar i) tk) (tCons te tNil))) δ D := fun z M σ H r E hE => by
  obtain ⟨a, as, hv0, g1, nd, g2⟩ := r.llAt h0
  refine ⟨.ref a, hv0, hk z M σ H r _ fun M1 w H1 e1 s1 r1 q1 => ?_⟩
  obtain ⟨b, vs, hb, hB, hr⟩ := g2.get hd
  have q1 : w = .int k := q1
  refine ⟨a, as.map V.ref, k, .ref b, rfl, q1, .inl (.inl (s1 _ _ g1)), ?_, .inl ⟨rfl, _, .inl (.inl (s1 _ _ hB))⟩, h z M1 σ H1 r1 _ fun M2 y H2 e2 s2 r2 py => ?_⟩
  · show (ixN (as.map V.ref).length k).bind _ = _
    rw [List.length_map, ← g2.length, hj]
    show (as.map V.ref)[j]? = _
    rw [List.getElem?_map, hb]
    rfl
  · refine ⟨b, vs, y, rfl, rfl, s2 _ _ (s1 _ _ hB), by rw [← hr.length]; exact len_ok hl, hE.nx M2 σ _ _ (e1.trans e2) (r2.write h0 hv0 trivial fun P ow => ?_) Keep.refl hn⟩
    obtain ⟨a', as', ea, p1, p2, nd', g1', g2'⟩ := ow
    cases ea
    have g1q := g1'
    rw [s2 _ _ (s1 _ _ g1)] at g1'
    have eas : as = as' := by
      have := HO.lst.inj (Option.some.inj g1')
      exact refs_inj this
    subst eas
    obtain ⟨b', vs', hb', hB', hr'⟩ := g2'.get hd
    rw [hb] at hb'
    cases hb'
    have hbm : b ∈ as := List.mem_of_getElem? hb
    have nab : a ≠ b := by
      rintro rfl
      exact (List.nodup_cons.mp nd).1 hbm
    refine ⟨p2 b hbm, a, as, rfl, p1, p2, nd, by rw [upd_ne nab]; exact g1q, g2'.set (List.nodup_cons.mp nd).2 hb (RpL.append ?_ (RpL.one py))⟩
    rw [s2 _ _ (s1 _ _ hB)] at hB'
    cases hB'
    exact hr'
/-- x[k] = e -/
theorem sd_setL {i : Nat} {tk : TE} {x : TV.D} {ds : List TV.D} {k : Int} {j : Nat} (h : Rd K te δ (.d x) δ1) (hk : Rd K tk δ1 (.d (.int k)) δ2) (h1 : δ1[i]? = some (some (.ls ds))) (h2 : δ2[i]? = some (some (.ls ds))) (hj : ixN ds.length k = some j)
    (hn : D.nx (δ2.set i (some (.ls (ds.set j x))))) : Sd K ps (tAsg te (gSub (tVar i) tk rSetL)) δ D := fun z M σ H r E hE =>
  h z M σ H r _ fun M1 v H1 e1 r1 p1 => by
    obtain ⟨a, vs, ha, _⟩ := r1.lsAt h1
    refine ⟨.ref a, ha, hk z M1 σ H1 r1 _ fun M2 w H2 e2 r2 p2 => ?_⟩
    obtain ⟨a', vs2, ha', hH, hr, wr⟩ := r2.lsAt h2
    rw [ha] at ha'
    cases ha'
    exact ⟨a, vs2, k, j, rfl, p2, hH, by rw [← hr.length]; exact hj, hE.nx M2 σ _ _ (e1.trans e2) (wr _ _ (hr.set j (p1.mono e2))) Keep.refl hn⟩
/-- x.remove(k) of whole numbers -/
theorem sd_remove {i : Nat} {ns : List Int} {k : Int} {j : Nat} (h0 : isLs δ i = true) (h : Rd K te δ (.d (.int k)) δ1) (h1 : δ1[i]? = some (some (.ls (ns.map TV.D.int)))) (hj : ns[j]? = some k) (hb : ∀ m : Nat, m < j → ns[m]? ≠ some k)
    (hn : D.nx (δ1.set i (some (.ls ((ns.eraseIdx j).map TV.D.int))))) : Sd K ps (tDrop (tBM K "list" rRemI (tVar i) (tCons te tNil))) δ D := fun z M σ H r E hE => by
  obtain ⟨a, ha, ty⟩ := tyV_l r h0
  refine ⟨.ref a, ha, ty, h z M σ H r _ fun M' v H' e r' rp => ?_⟩
  obtain ⟨b, vs, hb', hH, hr, w⟩ := r'.lsAt h1
  rw [ha] at hb'
  cases hb'
  have rp : v = .int k := rp
  subst rp
  rw [hr.ints_of] at hH
  exact ⟨a, ns, k, j, rfl, rfl, hH, hj, hb, hE.nx M' σ _ _ e (w _ _ (RpL.ints _)) Keep.refl hn⟩

/-! ### what is walked -/
def keepA : Arg → List Nat
  | .sl i => [i]
  | _ => []
abbrev Srcs := List (Arg × List TV.D)
def okS (δ : Env) (srcs : Srcs) : Prop := ∀ p, p ∈ srcs → viewL δ p.1 = some p.2
def keepS (srcs : Srcs) : List Nat := srcs.flatMap fun p => keepA p.1
def ItOk (K : PySem.W.Frag) (M : Hp) (σ : L2.St) (J : It) (items : List TV.D) (srcs : Srcs) : Prop :=
  ∀ (z : Z) (i : Nat) M2 σ2 H δ, Same M M2 → RR K z M2 σ2 H δ → Keep (keepS srcs) σ σ2 → okS δ srcs →
    (i < items.length → J.go i H ∧ ∀ x H', J.yld i H x H' → ∃ M3, Same M2 M3 ∧ RR K z M3 σ2 H' δ ∧ ∃ d, items[i]? = some d ∧ Rp K M3 d x) ∧ (items.length ≤ i → J.stop i H)
def Wk (K : PySem.W.Frag) (wi : TI) (δ : Env) (items : List TV.D) (srcs : Srcs) (δ1 : Env) : Prop :=
  ∀ z M σ H, RR K z M σ H δ → ∀ Rk : It → Hp → Prop, (∀ M' J H', Same M M' → RR K z M' σ H' δ1 → ItOk K M' σ J items srcs → Rk J H') → wi σ H Rk
/-- a source's list as it stands now -/
theorem src_at {z : Z} {M M2 H2 : Hp} {σ σ2 : L2.St} {x : Arg} {ds : List TV.D} {a : Addr} (ok : ArgOk K M σ x (.ref a)) (e : Same M M2) (r2 : RR K z M2 σ2 H2 δ2) (k : Keep (keepA x) σ σ2) (hv : viewL δ2 x = some ds) : ∃ vs, SqL K H2 a vs ∧ RpL K M2 ds vs := by
  have ok2 : ArgOk K M2 σ2 x (.ref a) := by
    cases x with
    | d y => exact Rp.mono e ok
    | sl i => exact (k i (by simp [keepA])).trans ok
  obtain ⟨b, vs, hb, h1, h2⟩ := r2.view hv ok2
  cases hb
  exact ⟨vs, h1, h2⟩
theorem wk_list {r : Arg} {ds : List TV.D} (h : Rd K ta δ r δ1) (hv : viewL δ1 r = some ds) : Wk K (iList K ta) δ ds [(r, ds)] δ1 := fun z M σ H r0 Rk q =>
  h z M σ H r0 _ fun M1 v H1 e1 r1 p1 => by
    obtain ⟨a, vs, rfl, h1, h2⟩ := r1.view hv p1
    refine ⟨a, rfl, ⟨vs, h1⟩, q M1 _ H1 e1 r1 fun z i M2 σ2 H2 δ' e2 r2 k ok => ?_⟩
    obtain ⟨vs2, g1, g2⟩ := src_at p1 e2 r2 (k.sub fun j hj => by simp [keepS, hj]) (ok (r, ds) (by simp))
    refine ⟨fun hi => ⟨⟨vs2, vs2[i]'(by rw [← g2.length]; exact hi), g1, by rw [List.getElem?_eq_getElem]⟩, fun x H' y => ?_⟩, fun hi => ⟨vs2, g1, by rw [← g2.length]; exact hi⟩⟩
    obtain ⟨rfl, y⟩ := y
    obtain ⟨d, hd, rd⟩ := g2.get' (y vs2 g1)
    exact ⟨M2, Same.refl M2, r2, d, hd, rd⟩
def rngD (lo : Int) (n : Nat) : List TV.D := (List.range n).map fun (i : Nat) => TV.D.int (lo + i)
theorem rngD_length (lo : Int) (n : Nat) : (rngD lo n).length = n := by simp [rngD]
theorem rngD_get {lo : Int} {n i : Nat} {x : TV.D} (h : (rngD lo n)[i]? = some x) : i < n ∧ x = .int (lo + i) := by
  unfold rngD at h
  rw [List.getElem?_map] at h
  cases e : (List.range n)[i]? with
  | none => rw [e] at h; cases h
  | some j =>
    rw [e] at h
    obtain ⟨h1, h2⟩ := List.getElem?_eq_some_iff.mp e
    have h3 : j = i := by simpa using h2.symm
    subst h3
    cases h
    exact ⟨by simpa using h1, rfl⟩
theorem itr_ok {M : Hp} {σ : L2.St} {lo : Int} {n : Nat} : ItOk K M σ (Itr lo n) (rngD lo n) [] := fun z i M2 σ2 H δ e r k ok => by
  rw [rngD_length]
  refine ⟨fun hi => ⟨hi, fun x H' y => ?_⟩, fun hi => hi⟩
  obtain ⟨rfl, rfl⟩ := y
  exact ⟨M2, Same.refl M2, r, .int (lo + i), by simp [rngD, hi], rfl⟩
theorem wk_range1 {t : TA} {n : Int} (h : Ra K t δ [.d (.int n)] δ1) (h1 : -(2 ^ 62) ≤ n) (h2 : n < 2 ^ 62) : Wk K (iRng1 t) δ (rngD 0 n.toNat) [] δ1 := fun z M σ H r0 Rk q =>
  h z M σ H r0 _ fun M1 vs H1 e1 r1 p1 => by
    obtain ⟨v, w, rfl, p, rfl⟩ := p1
    have p : v = .int n := p
    subst p
    exact ⟨n, rfl, h1, h2, q M1 _ H1 e1 r1 itr_ok⟩
theorem wk_range2 {t : TA} {m n : Int} (h : Ra K t δ [.d (.int m), .d (.int n)] δ1) (h1 : -(2 ^ 62) ≤ m ∧ m < 2 ^ 62 ∧ -(2 ^ 62) ≤ n ∧ n < 2 ^ 62) : Wk K (iRng2 t) δ (rngD m (n - m).toNat) [] δ1 := fun z M σ H r0 Rk q =>
  h z M σ H r0 _ fun M1 vs H1 e1 r1 p1 => by
    obtain ⟨v, w, rfl, p, v2, w2, rfl, p2, rfl⟩ := p1
    have p : v = .int m := p
    have p2 : v2 = .int n := p2
    subst p p2
    exact ⟨m, n, rfl, h1, q M1 _ H1 e1 r1 itr_ok⟩
def enumD (ds : List TV.D) : List TV.D := ds.zipIdx.map fun p => .tup [.int (p.2 : Nat), p.1]
theorem wk_enum {t : TA} {r : Arg} {ds : List TV.D} (h : Ra K t δ [r] δ1) (hv : viewL δ1 r = some ds) : Wk K (iEnum K t) δ (enumD ds) [(r, ds)] δ1 := fun z M σ H r0 Rk q =>
  h z M σ H r0 _ fun M1 vs H1 e1 r1 p1 => by
    obtain ⟨v, w, rfl, p, rfl⟩ := p1
    obtain ⟨a, us, rfl, h1, h2⟩ := r1.view hv p
    refine ⟨a, us, rfl, h1, q M1 _ H1 e1 r1 fun z i M2 σ2 H2 δ' e2 r2 k ok => ?_⟩
    obtain ⟨vs2, g1, g2⟩ := src_at p e2 r2 (k.sub fun j hj => by simp [keepS, hj]) (ok (r, ds) (by simp))
    have el : (enumD ds).length = ds.length := by simp [enumD]
    rw [el]
    refine ⟨fun hi => ⟨⟨vs2, vs2[i]'(by rw [← g2.length]; exact hi), g1, by rw [List.getElem?_eq_getElem]⟩, fun x H' y => ?_⟩, fun hi => ⟨vs2, g1, by rw [← g2.length]; exact hi⟩⟩
    obtain ⟨T, z, rfl, nT, rfl, f⟩ := y
    obtain ⟨d, hd, rd⟩ := g2.get' (f vs2 g1)
    obtain ⟨s3, r3⟩ := r2.laid (o := .tup [.int (i : Nat), z]) nT
    refine ⟨_, s3, r3, .tup [.int (i : Nat), d], ?_, T, _, rfl, .inl (.inl upd_same), _, _, rfl, rfl, _, _, rfl, rd.mono s3, rfl⟩
    unfold enumD
    rw [List.getElem?_map, List.getElem?_zipIdx, hd]
    simp
theorem wk_zip {t : TA} {r s : Arg} {ds es : List TV.D} (h : Ra K t δ [r, s] δ1) (hv : viewL δ1 r = some ds) (hw : viewL δ1 s = some es) : Wk K (iZip K t) δ ((ds.zip es).map fun p => .tup [p.1, p.2]) [(r, ds), (s, es)] δ1 := fun z M σ H r0 Rk q =>
  h z M σ H r0 _ fun M1 vs H1 e1 r1 p1 => by
    obtain ⟨v, w, rfl, p, v', w', rfl, p', rfl⟩ := p1
    obtain ⟨a, us, rfl, h1, h2⟩ := r1.view hv p
    obtain ⟨b, us', rfl, h1', h2'⟩ := r1.view hw p'
    refine ⟨a, b, us, us', rfl, h1, h1', q M1 _ H1 e1 r1 fun z i M2 σ2 H2 δ' e2 r2 k ok => ?_⟩
    obtain ⟨vs2, g1, g2⟩ := src_at p e2 r2 (k.sub fun j hj => by simp [keepS, hj]) (ok (r, ds) (by simp))
    obtain ⟨vs3, g1', g2'⟩ := src_at p' e2 r2 (k.sub fun j hj => by simp [keepS, hj]) (ok (s, es) (by simp))
    have l1 : ds.length = vs2.length := g2.length
    have l2 : es.length = vs3.length := g2'.length
    rw [List.length_map, List.length_zip]
    refine ⟨fun hi => ⟨⟨vs2, vs3, vs2[i]'(by omega), vs3[i]'(by omega), g1, g1', by rw [List.getElem?_eq_getElem], by rw [List.getElem?_eq_getElem]⟩, fun x H' y => ?_⟩, fun hi => ⟨vs2, vs3, g1, g1', by omega⟩⟩
    obtain ⟨T, x1, y1, rfl, nT, rfl, f, f'⟩ := y
    obtain ⟨d, hd, rd⟩ := g2.get' (f vs2 g1)
    obtain ⟨d', hd', rd'⟩ := g2'.get' (f' vs3 g1')
    have hd : ds[i]? = some d := hd
    have hd' : es[i]? = some d' := hd'
    obtain ⟨s3, r3⟩ := r2.laid (o := .tup [x1, y1]) nT
    refine ⟨_, s3, r3, .tup [d, d'], ?_, T, _, rfl, .inl (.inl upd_same), _, _, rfl, rd.mono s3, _, _, rfl, rd'.mono s3, rfl⟩
    rw [List.getElem?_map, (List.getElem?_zip_eq_some (z := (d, d'))).mpr ⟨hd, hd'⟩]
    rfl
/-! ### for -/
def Pn (P : Nat → Env → Prop) (j : Nat) : Env → Prop := fun δ' => ∃ δ'', Less δ'' δ' ∧ P j δ''
theorem Less.refl : Less δ δ := ⟨rfl, fun _ _ h => h⟩
theorem sd_for {wi : TI} {g : TG} {tb : TS} {items : List TV.D} {srcs : Srcs} (hw : Wk K wi δ items srcs δ1) (P : Nat → Env → Prop) (h0 : P 0 δ1) (ho : ∀ i δ, P i δ → okS δ srcs)
    (hs : ∀ i x δ, items[i]? = some x → P i δ → ∃ δx, Gd K (keepS srcs ++ ps) g x δ δx ∧ Sd K (keepS srcs ++ ps) tb δx { D with nx := Pn P (i + 1), ct := Pn P (i + 1), bk := D.nx })
    (hd : ∀ δ, P items.length δ → D.nx δ) : Sd K ps (tFor wi g tb) δ D := fun z M σ H r E hE =>
  hw z M σ H r _ fun M1 J H1 e1 r1 it => by
    refine ⟨fun i m σ2 H2 => m = items.length - i ∧ i ≤ items.length ∧ ∃ M2 δ2, Same M1 M2 ∧ RR K z M2 σ2 H2 δ2 ∧ Keep (keepS srcs ++ ps) σ σ2 ∧ P i δ2, ⟨items.length, by simp, Nat.zero_le _, M1, δ1, Same.refl M1, r1, Keep.refl, h0⟩, ?_⟩
    rintro i m σ2 H2 ⟨rfl, hi, M2, δ2, e2, r2, k2, p2⟩
    obtain ⟨go, stop⟩ := it z i M2 σ2 H2 δ2 e2 r2 (k2.sub fun j hj => by simp [hj]) (ho i δ2 p2)
    by_cases hlt : i < items.length
    · obtain ⟨g1, g2⟩ := go hlt
      refine .inr ⟨g1, fun σ3 H3 => ∃ M3 δ3, Same M1 M3 ∧ RR K z M3 σ3 H3 δ3 ∧ Keep (keepS srcs ++ ps) σ σ3 ∧ P (i + 1) δ3, fun σ3 H3 ⟨M3, δ3, e3, r3, k3, p3⟩ => ⟨items.length - (i + 1), by omega, rfl, hlt, M3, δ3, e3, r3, k3, p3⟩, fun x H' y => ?_⟩
      obtain ⟨M3, e3, r3, d, hd1, rd⟩ := g2 x H' y
      obtain ⟨δx, hg, hb⟩ := hs i d δ2 hd1 p2
      refine hg z M3 σ2 H' x r3 rd _ fun σ4 r4 k4 => hb z M3 σ4 H' r4 _ ?_
      have ee : Same M1 M3 := e2.trans e3
      refine ⟨fun M5 σ5 H5 δ5 e5 r5 k5 q5 => ?_, fun M5 σ5 v H5 δ5 τ e5 r5 k5 q5 => ?_, fun M5 σ5 H5 δ5 e5 r5 k5 q5 => ?_, fun M5 σ5 H5 δ5 e5 r5 k5 q5 => ?_⟩
      · obtain ⟨δ6, l6, p6⟩ := q5
        exact ⟨M5, δ6, ee.trans e5, r5.less l6, (k2.trans k4).trans k5, p6⟩
      · exact hE.rt M5 σ5 v H5 δ5 τ (e1.trans (ee.trans e5)) r5 (((k2.trans k4).trans k5).sub fun j hj => by simp [hj]) q5
      · exact hE.nx M5 σ5 H5 δ5 (e1.trans (ee.trans e5)) r5 (((k2.trans k4).trans k5).sub fun j hj => by simp [hj]) q5
      · obtain ⟨δ6, l6, p6⟩ := q5
        exact ⟨M5, δ6, ee.trans e5, r5.less l6, (k2.trans k4).trans k5, p6⟩
    · have hi2 : i = items.length := by omega
      subst hi2
      exact .inl ⟨stop (Nat.le_refl _), hE.nx M2 σ2 H2 δ2 (e1.trans e2) r2 (k2.sub fun j hj => by simp [hj]) (hd δ2 p2)⟩
/-- while: a word P with a measure -/
theorem sd_while {tb : TS} (P : Env → Prop) (μ : Env → Nat) (h0 : P δ)
    (hs : ∀ δ, P δ → ∃ b δ', Rt K tt δ b δ' ∧ (b = true → Sd K ps tb δ' { D with nx := fun δ2 => ∃ δ3, Less δ3 δ2 ∧ P δ3 ∧ μ δ3 < μ δ, ct := fun δ2 => ∃ δ3, Less δ3 δ2 ∧ P δ3 ∧ μ δ3 < μ δ, bk := D.nx }) ∧ (b = false → D.nx δ')) : Sd K ps (tWhile tt tb) δ D := fun z M σ H r E hE => by
  refine ⟨fun m σ2 H2 => ∃ M2 δ2, m = μ δ2 ∧ Same M M2 ∧ RR K z M2 σ2 H2 δ2 ∧ Keep ps σ σ2 ∧ P δ2, ⟨_, M, δ, rfl, Same.refl M, r, Keep.refl, h0⟩, ?_⟩
  rintro m σ2 H2 ⟨M2, δ2, rfl, e2, r2, k2, p2⟩
  obtain ⟨b, δ', ht, h1, h2⟩ := hs δ2 p2
  refine ht z M2 σ2 H2 r2 _ fun M3 H3 e3 r3 => ?_
  cases b with
  | false => exact hE.nx M3 σ2 H3 δ' (e2.trans e3) r3 k2 (h2 rfl)
  | true =>
    refine ⟨fun σ3 H3 => ∃ M4 δ4, Same M M4 ∧ RR K z M4 σ3 H3 δ4 ∧ Keep ps σ σ3 ∧ P δ4 ∧ μ δ4 < μ δ2, fun σ3 H3 ⟨M4, δ4, e4, r4, k4, p4, l4⟩ => ⟨μ δ4, l4, M4, δ4, rfl, e4, r4, k4, p4⟩, h1 rfl z M3 σ2 H3 r3 _ ?_⟩
    have ee := e2.trans e3
    refine ⟨fun M5 σ5 H5 δ5 e5 r5 k5 q5 => ?_, fun M5 σ5 v H5 δ5 τ e5 r5 k5 q5 => ?_, fun M5 σ5 H5 δ5 e5 r5 k5 q5 => ?_, fun M5 σ5 H5 δ5 e5 r5 k5 q5 => ?_⟩
    · obtain ⟨δ6, l6, p6, m6⟩ := q5
      exact ⟨M5, δ6, ee.trans e5, r5.less l6, k2.trans k5, p6, m6⟩
    · exact hE.rt M5 σ5 v H5 δ5 τ (ee.trans e5) r5 (k2.trans k5) q5
    · exact hE.nx M5 σ5 H5 δ5 (ee.trans e5) r5 (k2.trans k5) q5
    · obtain ⟨δ6, l6, p6, m6⟩ := q5
      exact ⟨M5, δ6, ee.trans e5, r5.less l6, k2.trans k5, p6, m6⟩
end
end TV

namespace TV
open PySem PySem.Spec PyProof.Rows L2
/-! ### defs: contracts over trees -/
abbrev Con := List T → (T → List T → Prop) → Prop
def spOf (K : PySem.W.Frag) (c : Con) : Sp := fun vs H Q _ => ∃ M ts, R K M (vs.map some) H (ts.map some) ∧ c ts fun r outs => outs.length = ts.length ∧ ∀ M' v H', Same M M' → R K M' (vs.map some ++ [some v]) H' (outs.map some ++ [some r]) → Q v H'
mutual
def flatD : D → Bool
  | .lst _ => false
  | .scr _ => false
  | .tup ds => flatDs ds
  | _ => true
def flatDs : List D → Bool
  | [] => true
  | d :: ds => flatD d && flatDs ds
end
theorem flatDs_all : ∀ ds : List D, flatDs ds = ds.all flatD
  | [] => rfl
  | d :: ds => by rw [flatDs, flatDs_all ds]; rfl
def flatT : T → Bool
  | .d x => flatD x
  | .ls ds => flatDs ds
  | .ll dss => dss.all flatDs
  | .dk kvs => kvs.all fun p => flatD p.2
  | .dt kvs => kvs.all fun p => flatD p.2
  | .pr a b => flatT a && flatT b
/-- what stands still, and every tuple -/
def isTp : Option HO → Bool
  | some (.tup _) => true
  | some (.frz _ (.tup _)) => true
  | _ => false
def tx (M H : Hp) : Hp := fun b => if isTp (H b) = true then H b else M b
section
variable {K : PySem.W.Frag} {M M' H H' : Hp}
theorem tx_same (h : Same M H) : Same M (tx M H) := fun b o e => by
  show (if isTp (H b) = true then H b else M b) = some o
  split
  · exact h b o e
  · exact e
theorem tx_sub (h : Same M H) : Same (tx M H) H := fun b o e => by
  have e : (if isTp (H b) = true then H b else M b) = some o := e
  split at e
  · exact e
  · exact h _ _ e
theorem tx_none {b : Addr} (hm : M b = none) (hu : Mut (H b)) : tx M H b = none := by
  show (if isTp (H b) = true then H b else M b) = none
  rw [if_neg, hm]
  intro z
  obtain ⟨o, ho⟩ := mut_some hu
  rw [ho] at z hu
  cases o <;> first | exact hu | cases z
theorem tx_tup {b : Addr} {o : HO} (h : H b = some o) (t : isTp (some o) = true) : tx M H b = some o := by
  show (if isTp (H b) = true then H b else M b) = some o
  rw [h, if_pos t]
theorem sqT_tx (h : Same M' H) {a : Addr} {xs : List V} (s : SqT K M' a xs) : SqT K (tx M H) a xs := by
  rcases s with (s | ⟨o, s⟩) | s
  · exact .inl (.inl (tx_tup (h _ _ s) rfl))
  · exact .inl (.inr ⟨o, tx_tup (h _ _ s) rfl⟩)
  · exact .inr s
mutual
theorem Rp.tx (h : Same M' H) : ∀ {d : D} {v : V}, flatD d = true → Rp K M' d v → Rp K (tx M H) d v
  | .non, _, _, r => r
  | .bl _, _, _, r => r
  | .int _, _, _, r => r
  | .str _, _, _, r => r
  | .ty _, _, _, r => r
  | .tup _, _, f, ⟨a, vs, h1, h2, h3⟩ => ⟨a, vs, h1, sqT_tx h h2, RpL.tx h f h3⟩
theorem RpL.tx (h : Same M' H) : ∀ {ds : List D} {vs : List V}, flatDs ds = true → RpL K M' ds vs → RpL K (tx M H) ds vs
  | [], _, _, r => r
  | _ :: _, _, f, ⟨v, q, h1, h2, h3⟩ => by
    unfold flatDs at f
    rw [Bool.and_eq_true] at f
    exact ⟨v, q, h1, Rp.tx h f.1 h2, RpL.tx h f.2 h3⟩
end
theorem LL.tx (h : Same M' H) : ∀ {dss : List (List D)} {as : List Addr}, dss.all flatDs = true → LL K M' H dss as → LL K (tx M H) H dss as
  | [], _, _, r => r
  | _ :: _, _, f, ⟨a, q, vs, h1, h2, h3, h4⟩ => by
    rw [List.all_cons, Bool.and_eq_true] at f
    exact ⟨a, q, vs, h1, h2, h3.tx h f.1, LL.tx h f.2 h4⟩
theorem KR.tx (h : Same M' H) {κ : Type} : ∀ {kvs : List (κ × D)} {kv : List (κ × V)}, (kvs.all fun p => flatD p.2) = true → KR K M' kvs kv → KR K (tx M H) kvs kv
  | [], _, _, r => r
  | _ :: _, _, f, ⟨v, q, h1, h2, h3⟩ => by
    rw [List.all_cons, Bool.and_eq_true] at f
    exact ⟨v, q, h1, h2.tx h f.1, KR.tx h f.2 h3⟩
theorem Own.tx (h : Same M' H) : ∀ {t : T} {P : Addr → Prop} {v : V}, flatT t = true → Own K M' H P t v → Own K (tx M H) H P t v
  | .d _, _, _, f, r => Rp.tx h f r
  | .ls _, _, _, f, ⟨a, vs, h1, h2, h3, h4⟩ => ⟨a, vs, h1, h2, h3, h4.tx h f⟩
  | .ll _, _, _, f, ⟨a, as, h1, h2, h3, h4, h5, h6⟩ => ⟨a, as, h1, h2, h3, h4, h5, h6.tx h f⟩
  | .dk _, _, _, f, ⟨a, kv, h1, h2, h3, h4⟩ => ⟨a, kv, h1, h2, h3, h4.tx h f⟩
  | .dt _, _, _, f, ⟨a, kv, h1, h2, h3, h4⟩ => ⟨a, kv, h1, h2, h3, h4.tx h f⟩
  | .pr _ _, _, _, f, ⟨a, x, y, P1, P2, h1, h2, h3, h4, h5, h6, h7⟩ => by
    unfold flatT at f
    rw [Bool.and_eq_true] at f
    exact ⟨a, x, y, P1, P2, h1, h2, h3, h4, h5, h6.tx h f.1, h7.tx h f.2⟩
/-- how an argument goes in: as it stands; the slot io (if any) with its own thing -/
def argT (δ : Env) (io : Option Nat) : Arg → Option T
  | .d x => some (.d x)
  | .sl j => match δ[j]? with
    | some (some t) => if io = some j then some t else (fz t).map T.d
    | _ => none
def argsT (δ : Env) (io : Option Nat) : List Arg → Option (List T)
  | [] => some []
  | r :: rs => match argT δ io r, argsT δ io rs with
    | some t, some ts => some (t :: ts)
    | _, _ => none
theorem argsT_get {δ : Env} {io : Option Nat} : ∀ {rs : List Arg} {ts : List T} {k : Nat} {t : T}, argsT δ io rs = some ts → ts[k]? = some t → ∃ r, rs[k]? = some r ∧ argT δ io r = some t
  | [], _, k, _, h, g => by cases h; simp at g
  | r :: rs, ts, k, t, h, g => by
    unfold argsT at h
    split at h
    · rename_i a b e1 e2
      cases h
      cases k with
      | zero => simp at g; subst g; exact ⟨r, rfl, e1⟩
      | succ k => simpa using argsT_get e2 (by simpa using g)
    · cases h
theorem argsT_len {δ : Env} {io : Option Nat} : ∀ {rs : List Arg} {ts : List T}, argsT δ io rs = some ts → ts.length = rs.length
  | [], _, h => by cases h; rfl
  | r :: rs, ts, h => by
    unfold argsT at h
    split at h
    · rename_i a b e1 e2
      cases h
      simp [argsT_len e2]
    · cases h
theorem ArgsOk.get {σ : L2.St} : ∀ {rs : List Arg} {vs : List V} {k : Nat} {r : Arg}, ArgsOk K M σ rs vs → rs[k]? = some r → ∃ v, vs[k]? = some v ∧ ArgOk K M σ r v
  | [], _, k, _, _, g => by simp at g
  | _ :: _, _, 0, _, ⟨v, q, h1, h2, h3⟩, g => by subst h1; simp at g; subst g; exact ⟨v, rfl, h2⟩
  | _ :: _, _, k + 1, _, ⟨v, q, h1, h2, h3⟩, g => by subst h1; simpa using ArgsOk.get h3 (by simpa using g)
theorem ArgsOk.length {σ : L2.St} : ∀ {rs : List Arg} {vs : List V}, ArgsOk K M σ rs vs → rs.length = vs.length
  | [], _, h => by cases h; rfl
  | _ :: _, _, ⟨v, q, h1, h2, h3⟩ => by subst h1; simp [ArgsOk.length h3]
def ioOk (io : Option Nat) (p : Nat) (rs : List Arg) : Prop := ∀ i, io = some i → ∀ k, rs[k]? = some (.sl i) → k = p
/-- behind a call: what came back, what the slot holds -/
def outsTo (δ : Env) (io : Option Nat) (p : Nat) (outs : List T) : Env := match io with
  | none => δ
  | some i => δ.set i outs[p]?
def ioB (ω : Nat → Addr → Prop) : Option Nat → Addr → Prop
  | some i, b => ω i b
  | none, _ => False
open Classical in
theorem R.call {σ : L2.St} {δ : Env} (r : R K M σ H δ) {rs : List Arg} {vs : List V} {ts : List T} {io : Option Nat} {p : Nat} (ok : ArgsOk K M σ rs vs) (ht : argsT δ io rs = some ts) (hp : ioOk io p rs) :
    ∃ Mc, R K Mc (vs.map some) H (ts.map some) ∧ ∀ M' v H' outs τ, Same Mc M' → R K M' (vs.map some ++ [some v]) H' (outs.map some ++ [some τ]) → outs.length = ts.length → flatT τ = true → (∀ i, io = some i → rs[p]? = some (.sl i) ∧ ∃ t, outs[p]? = some t ∧ flatT t = true) →
      Same M (tx M H') ∧ R K (tx M H') (σ ++ [some v]) H' (outsTo δ io p outs ++ [some τ]) := by
  obtain ⟨ex, ln, ω, w1, w2, w3⟩ := r
  generalize hB : ioB ω io = B
  have c1 : Same (fun b => if B b then none else H b) H := fun b o e => by
    have e : (if B b then none else H b) = some o := e
    split at e
    · cases e
    · exact e
  have c0 : ∀ b o, H b = some o → ¬ B b → (fun b => if B b then none else H b) b = some o := fun b o e nb => by
    show (if B b then none else H b) = some o
    rw [if_neg nb]
    exact e
  have cb : ∀ b, B b → (fun b => if B b then none else H b) b = none := fun b hb => by
    show (if B b then none else H b) = none
    rw [if_pos hb]
  generalize hMc : (fun b => if B b then none else H b) = Mc at c1 c0 cb
  have bi : ∀ b, B b → ∃ i, io = some i ∧ ω i b := fun b hb => by
    rw [← hB] at hb
    cases io with
    | none => exact hb.elim
    | some i => exact ⟨i, rfl, hb⟩
  have ib : ∀ i b, io = some i → ω i b → B b := fun i b e h => by
    rw [← hB, e]
    exact h
  have bm : ∀ b, B b → M b = none ∧ Mut (H b) := fun b hb => by
    obtain ⟨i, _, h⟩ := bi b hb
    exact w2 i b h
  have c2 : Same M Mc := fun b o e => c0 b o (ex b o e) fun hb => by
    rw [(bm b hb).1] at e
    cases e
  have ctup : ∀ b xs, H b = some (.tup xs) → Mc b = some (.tup xs) := fun b xs e => c0 b _ e fun hb => mut_ntup (bm b hb).2 e
  refine ⟨Mc, ⟨c1, ?_, fun k a => k = p ∧ B a, fun i j a h1 h2 => h1.1.trans h2.1.symm, fun i a h => ⟨cb a h.2, (bm a h.2).2⟩, fun k t hk => ?_⟩, fun M' v H' outs τ s1 r1 hlen hf hio => ?_⟩
  · rw [List.length_map, List.length_map, argsT_len ht, ok.length]
  · rw [List.getElem?_map] at hk
    cases e : ts[k]? with
    | none => rw [e] at hk; cases hk
    | some t' =>
      rw [e] at hk
      cases hk
      obtain ⟨r, hr, ha⟩ := argsT_get ht e
      obtain ⟨v, hv, okv⟩ := ok.get hr
      refine ⟨v, by rw [List.getElem?_map, hv]; rfl, ?_⟩
      cases r with
      | d x =>
        cases ha
        exact Rp.mono c2 okv
      | sl j =>
        simp only [argT] at ha
        split at ha
        · rename_i t0 e0
          obtain ⟨u, hu, ow⟩ := w3 j t0 e0
          have okv : σ[j]? = some (some v) := okv
          rw [okv] at hu
          cases hu
          split at ha
          · rename_i hij
            cases ha
            have hk := hp j hij k hr
            exact ow.mono c2 (fun b hb => ⟨hk, ib j b hij hb⟩) (fun _ _ => rfl) fun _ _ q => q
          · rename_i hij
            cases ez : fz t0 with
            | none => rw [ez] at ha; cases ha
            | some x =>
              rw [ez] at ha
              cases ha
              exact ow.freeze c2 (fun b u hb hu => c0 b u hu fun hB' => by
                obtain ⟨i, hi, hw⟩ := bi b hB'
                exact hij (by rw [hi, w1 i j b hw hb])) ctup ez
        · cases ha
  · obtain ⟨ex', ln', ω', w1', w2', w3'⟩ := r1
    have lvo : vs.length = outs.length := by simpa using ln'
    have sMH : Same M H' := c2.trans (s1.trans ex')
    refine ⟨tx_same sMH, tx_sub sMH, ?_, fun k a => if k = δ.length then ω' outs.length a else if io = some k then ω' p a else k < δ.length ∧ ω k a, fun j k a h1 h2 => ?_, fun j a h1 => ?_, fun j t hj => ?_⟩
    · have : (outsTo δ io p outs).length = δ.length := by
        cases io with
        | none => rfl
        | some i => simp [outsTo]
      simp [ln, this]
    · have old : ∀ j k a, ¬ io = some j → ω j a → ω' k a → False := fun j k a hij h h' => by
        obtain ⟨o, ho⟩ := mut_some (w2 j a h).2
        have q := s1 a o (c0 a o ho fun hB' => by
          obtain ⟨i, hi, hw⟩ := bi a hB'
          exact hij (by rw [hi, w1 i j a hw h]))
        rw [(w2' k a h').1] at q
        cases q
      have pl : ∀ i, io = some i → p < outs.length := fun i hi => by
        obtain ⟨_, t, ht, _⟩ := hio i hi
        exact (List.getElem?_eq_some_iff.mp ht).1
      by_cases hj : j = δ.length <;> by_cases hk : k = δ.length <;> simp only [hj, hk, if_true, if_false] at h1 h2
      · omega
      · split at h2
        · rename_i hik
          have := pl _ hik
          have := w1' _ _ _ h1 h2
          omega
        · rename_i hik
          exact (old k _ a hik h2.2 h1).elim
      · split at h1
        · rename_i hik
          have := pl _ hik
          have := w1' _ _ _ h1 h2
          omega
        · rename_i hik
          exact (old j _ a hik h1.2 h2).elim
      · split at h1 <;> split at h2
        · rename_i e1 e2
          rw [e1] at e2
          exact Option.some.inj e2
        · rename_i e1 e2
          exact (old k _ a e2 h2.2 h1).elim
        · rename_i e1 e2
          exact (old j _ a e1 h1.2 h2).elim
        · exact w1 _ _ _ h1.2 h2.2
    · have new : ∀ k, ω' k a → tx M H' a = none ∧ Mut (H' a) := fun k h' => by
        refine ⟨tx_none ?_ (w2' k a h').2, (w2' k a h').2⟩
        cases e : M a with
        | none => rfl
        | some o =>
          have q := (c2.trans s1) a o e
          rw [(w2' k a h').1] at q
          cases q
      by_cases hj : j = δ.length
      · simp only [hj, if_true] at h1
        exact new _ h1
      · simp only [hj, if_false] at h1
        split at h1
        · exact new _ h1
        · rename_i hij
          obtain ⟨hl, hw⟩ := h1
          obtain ⟨o, ho⟩ := mut_some (w2 j a hw).2
          have q := ex' a o (s1 a o (c0 a o ho fun hB' => by
            obtain ⟨i, hi, hw'⟩ := bi a hB'
            exact hij (by rw [hi, w1 i j a hw' hw])))
          have mu : Mut (H' a) := by
            rw [q, ← ho]
            exact (w2 j a hw).2
          exact ⟨tx_none (w2 j a hw).1 mu, mu⟩
    · have lo : (outsTo δ io p outs).length = δ.length := by
        cases io with
        | none => rfl
        | some i => simp [outsTo]
      rcases get_push hj with h1 | ⟨h1, h2⟩
      · have hjl := (List.getElem?_eq_some_iff.mp h1).1
        have e1 : j ≠ δ.length := by omega
        simp only [e1, if_false]
        by_cases hij : io = some j
        · obtain ⟨hr, t', ht', hft⟩ := hio j hij
          rw [hij] at h1
          have h1 : (δ.set j outs[p]?)[j]? = some (some t) := h1
          rw [List.getElem?_set_self (by omega), ht'] at h1
          cases h1
          have e2 : (outs.map some ++ [some τ])[p]? = some (some t) := get_left (by rw [List.getElem?_map, ht']; rfl)
          obtain ⟨u, hu, ow⟩ := w3' p t e2
          obtain ⟨v', hv', okv⟩ := ok.get hr
          have okv : σ[j]? = some (some v') := okv
          rw [get_left (show (vs.map some)[p]? = some (some v') by rw [List.getElem?_map, hv']; rfl)] at hu
          cases hu
          refine ⟨u, get_left okv, ?_⟩
          simp only [hij, if_true]
          exact ow.tx ex' hft
        · have h1' : δ[j]? = some (some t) := by
            cases hio' : io with
            | none => rw [hio'] at h1; exact h1
            | some i =>
              rw [hio'] at h1
              have h1 : (δ.set i outs[p]?)[j]? = some (some t) := h1
              rw [List.getElem?_set_ne] at h1
              · exact h1
              · rintro rfl
                exact hij hio'
          obtain ⟨u, hu, ow⟩ := w3 j t h1'
          refine ⟨u, get_left hu, ?_⟩
          simp only [hij, if_false]
          have kp : ∀ b o, H b = some o → ¬ B b → H' b = some o := fun b o q nb => ex' b o (s1 b o (c0 b o q nb))
          refine ow.mono (tx_same sMH) (fun b hb => ⟨by omega, hb⟩) (fun b hb => ?_) fun b xs q => ex' b _ (s1 b _ (ctup b xs q))
          obtain ⟨o, ho⟩ := mut_some (w2 j b hb).2
          rw [ho]
          exact kp b o ho fun hB' => by
            obtain ⟨i, hi, hw'⟩ := bi b hB'
            exact hij (by rw [hi, w1 i j b hw' hb])
      · cases h2
        rw [lo] at h1
        have e2 : (outs.map some ++ [some τ])[outs.length]? = some (some τ) := by
          have := get_top (l := outs.map some) (x := some τ)
          rwa [List.length_map] at this
        obtain ⟨u, hu, ow⟩ := w3' outs.length τ e2
        have e3 : (vs.map some ++ [some v])[outs.length]? = some (some v) := by
          have := get_top (l := vs.map some) (x := some v)
          rwa [List.length_map, lvo] at this
        rw [e3] at hu
        cases hu
        refine ⟨v, by rw [h1, ← ln]; exact get_top, ?_⟩
        simp only [h1, if_true]
        exact ow.tx ex' hf
end
theorem argsT_left {δ η : Env} {io : Option Nat} : ∀ {rs : List Arg} {ts : List T}, argsT δ io rs = some ts → argsT (δ ++ η) io rs = some ts
  | [], _, h => h
  | r :: rs, ts, h => by
    unfold argsT at h ⊢
    split at h
    · rename_i a b e1 e2
      rw [argsT_left e2]
      have e3 : argT (δ ++ η) io r = some a := by
        cases r with
        | d x => exact e1
        | sl j =>
          simp only [argT] at e1 ⊢
          split at e1
          · rename_i t0 e0
            rw [get_leftL e0]
            exact e1
          · cases e1
      rw [e3]
      exact h
    · cases h
theorem ArgsOk.left {K : PySem.W.Frag} {M : Hp} {σ ρ : L2.St} : ∀ {rs : List Arg} {vs : List V}, ArgsOk K M σ rs vs → ArgsOk K M (σ ++ ρ) rs vs
  | [], _, h => h
  | .d _ :: _, _, ⟨v, q, h1, h2, h3⟩ => ⟨v, q, h1, h2, h3.left⟩
  | .sl i :: _, _, ⟨v, q, h1, h2, h3⟩ => ⟨v, q, h1, get_leftL (show σ[i]? = some (some v) from h2), h3.left⟩
section
variable {K : PySem.W.Frag} {δ δ1 δ2 : Env}
/-- a call: nothing that goes in is changed -/
theorem ro_call {c : Con} {E : XK} {ta : TA} {rs : List Arg} {ts outs : List T} {τ : T} (ha : Ra K ta δ rs δ1) (ht : argsT δ1 none rs = some ts) (h : ∀ Q : T → List T → Prop, Q τ outs → c ts Q) (hl : outs.length = ts.length := by rfl) (hf : flatT τ = true := by rfl) :
    Ro K (tCall (spOf K c) [] E ta) δ τ δ1 := fun z M σ H r Q q =>
  ha z M σ H r _ fun M1 vs H1 e1 r1 p1 => by
    obtain ⟨Mc, rc, fin⟩ := r1.r.call (p := 0) p1.left (argsT_left ht) (fun i z => nomatch z)
    show spOf K c (vs ++ []) H1 Q E
    rw [List.append_nil]
    refine ⟨Mc, ts, rc, h _ ⟨hl, fun M' v H' s r' => ?_⟩⟩
    obtain ⟨s2, r2⟩ := fin M' v H' outs τ s r' hl hf (fun i z => nomatch z)
    exact q _ v H' (e1.trans s2) ⟨r2, r1.ln⟩
theorem rd_call {c : Con} {E : XK} {ta : TA} {rs : List Arg} {ts outs : List T} {x : D} (ha : Ra K ta δ rs δ1) (ht : argsT δ1 none rs = some ts) (h : ∀ Q : T → List T → Prop, Q (.d x) outs → c ts Q) (hl : outs.length = ts.length := by rfl) (hf : flatD x = true := by rfl) :
    Rd K (tCall (spOf K c) [] E ta) δ (.d x) δ1 := (ro_call ha ht h hl hf).frz rfl
/-- a call that changes what slot i holds, its p-th argument -/
theorem ro_callW {c : Con} {E : XK} {ta : TA} {rs : List Arg} {ts outs : List T} {τ t : T} (i p : Nat) (ha : Ra K ta δ rs δ1) (ht : argsT δ1 (some i) rs = some ts) (hp : rs[p]? = some (.sl i)) (hq : ∀ k, rs[k]? = some (.sl i) → k = p) (h : ∀ Q : T → List T → Prop, Q τ outs → c ts Q) (ho : outs[p]? = some t)
    (hl : outs.length = ts.length := by rfl) (hf : flatT τ = true := by rfl) (hg : flatT t = true := by rfl) : Ro K (tCall (spOf K c) [] E ta) δ τ (δ1.set i (some t)) := fun z M σ H r Q q =>
  ha z M σ H r _ fun M1 vs H1 e1 r1 p1 => by
    obtain ⟨Mc, rc, fin⟩ := r1.r.call (p := p) p1.left (argsT_left ht) (fun i' z k hk => by cases z; exact hq k hk)
    show spOf K c (vs ++ []) H1 Q E
    rw [List.append_nil]
    refine ⟨Mc, ts, rc, h _ ⟨hl, fun M' v H' s r' => ?_⟩⟩
    obtain ⟨s2, r2⟩ := fin M' v H' outs τ s r' hl hf (fun i' z => by cases z; exact ⟨hp, t, ho, hg⟩)
    have e : outsTo (δ1 ++ z.e) (some i) p outs = δ1.set i (some t) ++ z.e := by
      show (δ1 ++ z.e).set i outs[p]? = _
      have hi : i < δ1.length := by
        obtain ⟨w, hw, okw⟩ := p1.get hp
        have okw : σ[i]? = some (some w) := okw
        rw [← r1.ln]
        exact (List.getElem?_eq_some_iff.mp okw).1
      rw [ho, set_append hi]
    rw [e] at r2
    exact q _ v H' (e1.trans s2) ⟨r2, by simp [r1.ln]⟩
theorem rd_callW {c : Con} {E : XK} {ta : TA} {rs : List Arg} {ts outs : List T} {x : D} {t : T} (i p : Nat) (ha : Ra K ta δ rs δ1) (ht : argsT δ1 (some i) rs = some ts) (hp : rs[p]? = some (.sl i)) (hq : ∀ k, rs[k]? = some (.sl i) → k = p) (h : ∀ Q : T → List T → Prop, Q (.d x) outs → c ts Q) (ho : outs[p]? = some t)
    (hl : outs.length = ts.length := by rfl) (hf : flatD x = true := by rfl) (hg : flatT t = true := by rfl) : Rd K (tCall (spOf K c) [] E ta) δ (.d x) (δ1.set i (some t)) := (ro_callW i p ha ht hp hq h ho hl hf hg).frz rfl
/-! ### a def by its body -/
def outsOf (ow : List Nat) (ts : List T) (δ : Env) : List T := ts.mapIdx fun k t => if k ∈ ow then (match δ[k]? with
  | some (some s) => s
  | _ => t) else t
theorem start_eq {N : List Str} {vs : List V} : L2.start N vs = vs.map some ++ List.replicate (N.length - vs.length) none := rfl
theorem R.start {M H : Hp} {vs : List V} {ts : List T} (r : R K M (vs.map some) H (ts.map some)) (n : Nat) : R K M (vs.map some ++ List.replicate n none) H (ts.map some ++ List.replicate n none) := by
  obtain ⟨ex, ln, ω, w1, w2, w3⟩ := r
  refine ⟨ex, by simpa using ln, ω, w1, w2, fun i t ht => ?_⟩
  have hi : i < (ts.map some).length := by
    by_cases hi : i < (ts.map some).length
    · exact hi
    · rw [List.getElem?_append_right (by omega), List.getElem?_replicate] at ht
      split at ht <;> cases ht
  rw [List.getElem?_append_left hi] at ht
  obtain ⟨v, hv, ow⟩ := w3 i t ht
  exact ⟨v, by rw [List.getElem?_append_left (by rw [ln]; exact hi)]; exact hv, ow⟩
/-- the end of a def: what the slots of the parameters hold goes back -/
theorem R.finish {M M' H H' : Hp} {vs : List V} {ts : List T} {σ : L2.St} {δ : Env} {τ : T} {v : V} {ow : List Nat} {n : Nat} (r : R K M (vs.map some) H (ts.map some)) (e : Same M M') (r' : R K M' (σ ++ [some v]) H' (δ ++ [some τ])) (k : Keep ow (vs.map some ++ List.replicate n none) σ)
    (hd : ∀ k t, ts[k]? = some t → k ∉ ow → ∃ x, t = .d x) (hs : ∀ k, k ∈ ow → k < ts.length → ∃ s, δ[k]? = some (some s)) : R K M' (vs.map some ++ [some v]) H' ((outsOf ow ts δ).map some ++ [some τ]) := by
  have lvt : vs.length = ts.length := by simpa using r.ln
  obtain ⟨ex, ln, ω, w1, w2, w3⟩ := r'
  have ln : σ.length = δ.length := by simpa using ln
  have lo : (outsOf ow ts δ).length = ts.length := by simp [outsOf]
  refine ⟨ex, by simp [lo, lvt], fun j a => if j = ts.length then ω δ.length a else if j ∈ ow ∧ j < δ.length then ω j a else False, fun i j a h1 h2 => ?_, fun j a h1 => ?_, fun j t hj => ?_⟩
  · by_cases hi : i = ts.length <;> by_cases hj : j = ts.length <;> simp only [hi, hj, if_true, if_false] at h1 h2
    · omega
    · split at h2
      · have := w1 _ _ _ h1 h2
        omega
      · exact h2.elim
    · split at h1
      · have := w1 _ _ _ h1 h2
        omega
      · exact h1.elim
    · split at h1
      · split at h2
        · exact w1 _ _ _ h1 h2
        · exact h2.elim
      · exact h1.elim
  · by_cases hj : j = ts.length <;> simp only [hj, if_true, if_false] at h1
    · exact w2 _ _ h1
    · split at h1
      · exact w2 _ _ h1
      · exact h1.elim
  · rcases get_push hj with h1 | ⟨h1, h2⟩
    · rw [List.getElem?_map] at h1
      cases e1 : (outsOf ow ts δ)[j]? with
      | none => rw [e1] at h1; cases h1
      | some t' =>
        rw [e1] at h1
        cases h1
        have hjl := (List.getElem?_eq_some_iff.mp e1).1
        have hjt : j < ts.length := by omega
        have hjv : j < vs.length := by omega
        have hne : j ≠ ts.length := by omega
        have ev : (vs.map some)[j]? = some (some vs[j]) := by rw [List.getElem?_map, List.getElem?_eq_getElem hjv]; rfl
        refine ⟨vs[j], get_left ev, ?_⟩
        simp only [hne, if_false]
        have et : ts[j]? = some ts[j] := List.getElem?_eq_getElem hjt
        unfold outsOf at e1
        rw [List.getElem?_mapIdx, et] at e1
        simp only [Option.map_some, Option.some.injEq] at e1
        by_cases hjo : j ∈ ow
        · rw [if_pos hjo] at e1
          obtain ⟨s, hs'⟩ := hs j hjo hjt
          rw [hs'] at e1
          subst e1
          have hjd := (List.getElem?_eq_some_iff.mp hs').1
          obtain ⟨u, hu, ow'⟩ := w3 j s (get_left hs')
          rcases get_push hu with hu | ⟨hu, _⟩
          · rw [k j hjo, List.getElem?_append_left (by simpa using hjv), ev] at hu
            cases hu
            simp only [hjo, hjd, and_self, if_true]
            exact ow'
          · omega
        · rw [if_neg hjo] at e1
          subst e1
          obtain ⟨x, hx⟩ := hd j _ et hjo
          obtain ⟨ω0, _, _, w30⟩ := r.own
          obtain ⟨u, hu, ow0⟩ := w30 j ts[j] (by rw [List.getElem?_map, et]; rfl)
          rw [ev] at hu
          cases hu
          rw [hx] at ow0 ⊢
          exact Rp.mono e ow0
    · cases h2
      have h1 : j = ts.length := by rw [h1, List.length_map, lo]
      obtain ⟨u, hu, ow'⟩ := w3 δ.length τ get_top
      rw [← ln, get_top] at hu
      cases hu
      refine ⟨v, by rw [h1, ← lvt]; simpa using get_top (l := vs.map some) (x := some v), ?_⟩
      simp only [h1, if_true]
      exact ow'
theorem con_ok {P : Program} {w : World} {mg : Str → Option Value} {base : Heap} {x qual : Str} {st : Stmt} {f : Addr} {fd : FuncData} {N params : List Str} {k : Nat} {c : Con} (ow : List Nat) (n : Nat) (F : Fun K x qual st f fd) (S : FnScope N params (defScope st)) (hN : N.length = params.length + n)
    (hlen : ∀ ts Q, c ts Q → ts.length = params.length) (hd : ∀ ts Q, c ts Q → ∀ k t, ts[k]? = some t → k ∉ ow → ∃ x, t = .d x)
    (hbody : ∀ (cdv : Value) (A : Around) (outer : List PySem.Env) (s : Shared) (H : Hp) (E : XK), Room k (A.deeper (envOfC qual (defScope st) s.heap.objs.size f cdv)) →
      ∃ t, PSs (cxOf CX0 P w K mg base N qual (defScope st) f cdv A outer s H E).nox (defBody st) t ∧ ∀ ts (Q : T → List T → Prop), c ts Q → Sd K ow t (ts.map some ++ List.replicate n none) { nx := fun δ => (∀ k, k ∈ ow → k < ts.length → ∃ s, δ[k]? = some (some s)) ∧ Q (.d .non) (outsOf ow ts δ), rt := fun τ δ => (∀ k, k ∈ ow → k < ts.length → ∃ s, δ[k]? = some (some s)) ∧ Q τ (outsOf ow ts δ) }) :
    FnOk P w K mg base CX0 (k + 1) f fd params (spOf K c) := by
  refine F.ok S (fun vs H Q E h => ?_) (fun cdv A outer s H vs Q E hr h => ?_)
  · obtain ⟨M, ts, r, hc⟩ := h
    have := r.ln
    rw [List.length_map, List.length_map] at this
    rw [this, hlen ts _ hc]
  · obtain ⟨M, ts, r, hc⟩ := h
    obtain ⟨t, ht, hw⟩ := hbody cdv A outer s H E hr
    refine ⟨t, ht, ?_⟩
    have lv : vs.length = ts.length := by simpa using r.ln
    have e : N.length - vs.length = n := by rw [hN, lv, hlen ts _ hc]; omega
    rw [start_eq, e]
    refine hw ts _ hc ⟨[], []⟩ M _ H ⟨by simpa using r.start n, by simp [lv]⟩ _ ⟨fun M' σ' H' δ s1 r1 k1 q => ?_, fun M' σ' v H' δ τ s1 r1 k1 q => ?_, fun _ _ _ _ _ _ _ q => q.elim, fun _ _ _ _ _ _ _ q => q.elim⟩
    · obtain ⟨q0, q1, q2⟩ := q
      exact q2 M' _ H' s1 (r.finish s1 (by simpa [RT] using (r1.pushD (x := .non) (v := .non) rfl).1) k1 (hd ts _ hc) q0)
    · obtain ⟨q0, q1, q2⟩ := q
      exact q2 M' _ H' s1 (r.finish s1 (by simpa [RT] using r1.1) k1 (hd ts _ hc) q0)
end
end TV

namespace TV
open PySem PySem.Spec PyProof.Rows L2
section
variable {K : PySem.W.Frag} {ps : List Nat} {δ δ1 δ2 δ3 : Env} {ta tb te : TE} {tt tu : TT} {t u : TS} {D : EndT}
/-! ### comprehensions -/
def wipeE (δ : Env) : List Nat → Env
  | [] => δ
  | v :: vs => (wipeE δ vs).set v none
theorem wipeE_length : ∀ {vs : List Nat}, (wipeE δ vs).length = δ.length
  | [] => rfl
  | v :: vs => by unfold wipeE; rw [List.length_set, wipeE_length]
theorem wipeE_in {i : Nat} : ∀ {vs : List Nat}, i ∈ vs → ∀ t : T, (wipeE δ vs)[i]? ≠ some (some t)
  | v :: vs, h, t => by
    unfold wipeE
    by_cases hv : v = i
    · subst hv
      by_cases hl : v < (wipeE δ vs).length
      · rw [List.getElem?_set_self hl]; exact fun z => nomatch z
      · rw [List.getElem?_eq_none (by rw [List.length_set]; omega)]; exact fun z => nomatch z
    · rw [List.getElem?_set_ne hv]
      rcases List.mem_cons.mp h with q | q
      · exact absurd q.symm hv
      · exact wipeE_in q t
theorem wipeE_out {i : Nat} : ∀ {vs : List Nat}, i ∉ vs → (wipeE δ vs)[i]? = δ[i]?
  | [], _ => rfl
  | v :: vs, h => by
    unfold wipeE
    rw [List.getElem?_set_ne (fun z => h (by simp [z])), wipeE_out (fun z => h (by simp [z]))]
theorem wipe_out {σ : L2.St} {i : Nat} : ∀ {vs : List Nat}, i ∉ vs → (wipe σ vs)[i]? = σ[i]?
  | [], _ => rfl
  | v :: vs, h => by
    unfold wipe
    rw [List.getElem?_set_ne (fun z => h (by simp [z])), wipe_out (fun z => h (by simp [z]))]
/-- slots that the trees do not speak of may hold anything -/
theorem RR.other {z : Z} {M H : Hp} {σ σ' : L2.St} (r : RR K z M σ H δ) (hl : σ'.length = σ.length) (h : ∀ (i : Nat) (t : T), δ[i]? = some (some t) → σ'[i]? = σ[i]?) : RR K z M σ' H δ := by
  obtain ⟨⟨ex, ln, ω, w1, w2, w3⟩, l⟩ := r
  refine ⟨⟨ex, by simp only [List.length_append] at ln ⊢; omega, ω, w1, w2, fun i t ht => ?_⟩, hl.trans l⟩
  obtain ⟨v, hv, ow⟩ := w3 i t ht
  refine ⟨v, ?_, ow⟩
  by_cases hi : i < δ.length
  · have e := h i t (get_ofL hi ht)
    rw [List.getElem?_append_left (by omega)] at hv ⊢
    rw [e]
    exact hv
  · rw [List.getElem?_append_right (by omega)] at hv ⊢
    rw [hl]
    exact hv
theorem less_wipe {vs : List Nat} : Less (wipeE δ vs) δ := by
  refine ⟨wipeE_length, fun i t h => ?_⟩
  by_cases hi : i ∈ vs
  · exact absurd h (wipeE_in hi t)
  · rw [wipeE_out hi] at h
    exact h
def others (n : Nat) (vs : List Nat) : List Nat := (List.range n).filter fun i => !vs.contains i
theorem wipe_keep {n : Nat} {vs : List Nat} {σ σ' : L2.St} (k : Keep (others n vs) σ σ') (h1 : σ.length = n) (h2 : σ'.length = n) : wipe σ' vs = wipe σ vs := by
  apply List.ext_getElem?
  intro i
  by_cases hi : i ∈ vs
  · by_cases hn : i < n
    · have a : ∀ {τ : L2.St}, τ.length = n → (wipe τ vs)[i]? = some none := fun {τ} ht => by
        cases e : (wipe τ vs)[i]? with
        | none => 
          have := List.getElem?_eq_none_iff.mp e
          rw [wipe_length] at this
          omega
        | some x =>
          cases x with
          | none => rfl
          | some v => exact absurd hi (wipe_some e).2
      rw [a h1, a h2]
    · rw [List.getElem?_eq_none (by rw [wipe_length]; omega), List.getElem?_eq_none (by rw [wipe_length]; omega)]
  · rw [wipe_out hi, wipe_out hi]
    by_cases hn : i < n
    · exact k i (by simp [others, hn, hi])
    · rw [List.getElem?_eq_none (by omega), List.getElem?_eq_none (by omega)]
/-- what holds of the list so far and of the slots behind a turn -/
def Pc {α : Type} (vs : List Nat) (P : Nat → List α → Env → Prop) (i : Nat) (acc : List α) (δ : Env) : Prop := ∃ δ', Less δ' (wipeE δ vs) ∧ P i acc δ'
theorem lc_core {α : Type} {wi : TI} {g : TG} {vs : List Nat} {items : List TV.D} {srcs : Srcs} (mk : List α → T) (hw : Wk K wi δ items srcs δ1) (P : Nat → List α → Env → Prop) (h0 : P 0 [] δ1) (hn : wipeE δ1 vs = δ1) (hz : items.length ≤ 100000)
    (hmk0 : ∀ {M : Hp} {σ : L2.St} {H : Hp} {δ : Env} {Dl : Addr}, R K M σ H δ → H Dl = none → R K M (σ ++ [some (.ref Dl)]) (upd H Dl (.lst [])) (δ ++ [some (mk [])]))
    (hmk1 : ∀ {M : Hp} {σ : L2.St} {H : Hp} {δ : Env} {Dl : Addr} {acc : List α}, R K M (σ ++ [some (.ref Dl)]) H (δ ++ [some (mk acc)]) → ∃ av, H Dl = some (.lst av) ∧ av.length = acc.length)
    (Ry : TE → Env → α → Env → Prop)
    (hmk2 : ∀ {te : TE} {z : Z} {M : Hp} {σ2 : L2.St} {H : Hp} {δ2 δ3 : Env} {y : α} {Dl : Addr} {acc : List α}, Ry te δ2 y δ3 → RR K ⟨z.s ++ [some (.ref Dl)], z.e ++ [some (mk acc)]⟩ M σ2 H δ2 → ∀ Q : VK,
      (∀ M' v H', Same M M' → (∃ av, H' Dl = some (.lst av) ∧ av.length = acc.length ∧ RR K ⟨z.s ++ [some (.ref Dl)], z.e ++ [some (mk (acc ++ [y]))]⟩ M' σ2 (upd H' Dl (.lst (av ++ [v]))) δ3) → Q v H') → te σ2 H Q)
    (ho : ∀ i acc δ, P i acc δ → okS δ srcs ∧ wipeE δ vs = δ ∧ δ.length = δ1.length)
    (hs : ∀ i x acc δ, items[i]? = some x → P i acc δ → ∃ δx b δ2, Gd K (others δ1.length vs) g x δ δx ∧ δx.length = δ1.length ∧ Rt K tt δx b δ2 ∧ (b = true → ∃ y δ3, Ry te δ2 y δ3 ∧ Pc vs P (i + 1) (acc ++ [y]) δ3) ∧ (b = false → Pc vs P (i + 1) acc δ2)) {out : List α} {δo : Env}
    (hd : ∀ acc δ, P items.length acc δ → acc = out ∧ Less δo δ) : Ro K (tLc wi g tt te vs) δ (mk out) δo := fun z M σ H r Q q =>
  hw z M σ H r _ fun M1 J H1 e1 r1 it Dl hD => by
    have hln := r1.ln
    refine ⟨fun i m H2 => m = items.length - i ∧ i ≤ items.length ∧ ∃ M2 δ2 acc, Same M1 M2 ∧ RR K ⟨z.s ++ [some (.ref Dl)], z.e ++ [some (mk acc)]⟩ M2 σ H2 δ2 ∧ P i acc δ2 ∧ acc.length ≤ i,
      ⟨items.length, by simp, Nat.zero_le _, M1, δ1, [], Same.refl M1, ⟨?_, r1.ln⟩, h0, Nat.le_refl _⟩, ?_⟩
    · have := hmk0 r1.r hD
      simpa [List.append_assoc] using this
    · rintro i m H2 ⟨rfl, hi, M2, δ2, acc, e2, r2, p2, la⟩
      obtain ⟨ok2, wp2, ln2⟩ := ho i acc δ2 p2
      obtain ⟨go, stop⟩ := it _ i M2 σ H2 δ2 e2 r2 Keep.refl ok2
      have frame : ∀ {δ : Env} {σ' : L2.St} {z M H}, wipeE δ vs = δ → σ'.length = σ.length → (∀ i : Nat, i ∉ vs → σ'[i]? = σ[i]?) → RR K z M σ H δ → RR K z M σ' H δ := fun {δ σ' z M H} hwp hl hk r => r.other hl fun i t ht => hk i fun hi => by
        rw [← hwp] at ht
        exact wipeE_in hi t ht
      by_cases hlt : i < items.length
      · obtain ⟨g1, g2⟩ := go hlt
        refine .inr ⟨g1, fun H3 => ∃ M3 δ3 acc', Same M1 M3 ∧ RR K ⟨z.s ++ [some (.ref Dl)], z.e ++ [some (mk acc')]⟩ M3 σ H3 δ3 ∧ P (i + 1) acc' δ3 ∧ acc'.length ≤ i + 1, fun H3 h3 => ⟨items.length - (i + 1), by omega, rfl, hlt, h3⟩, fun x H' y => ?_⟩
        obtain ⟨M3, e3, r3, d, hd1, rd⟩ := g2 x H' y
        obtain ⟨δx, b, δ4, hg, hlx, ht, hy, hno⟩ := hs i d acc δ2 hd1 p2
        have r3' : RR K _ M3 (wipe σ vs) H' δ2 := frame wp2 (wipe_length σ vs) (fun j hj => wipe_out hj) r3
        refine hg _ M3 (wipe σ vs) H' x r3' rd _ fun σ4 r4 k4 => ⟨?_, ?_⟩
        · have h1 : (wipe σ vs).length = δ1.length := by rw [wipe_length, hln]
          have h2 : σ4.length = δ1.length := by rw [r4.ln, hlx]
          have ww : wipe (wipe σ vs) vs = wipe σ vs := by
            apply List.ext_getElem?
            intro j
            by_cases hj : j ∈ vs
            · by_cases hjn : j < σ.length
              · have a : ∀ {τ : L2.St}, j < τ.length → (wipe τ vs)[j]? = some none := fun {τ} ht => by
                  cases e : (wipe τ vs)[j]? with
                  | none =>
                    have := List.getElem?_eq_none_iff.mp e
                    rw [wipe_length] at this
                    omega
                  | some x =>
                    cases x with
                    | none => rfl
                    | some v => exact absurd hj (wipe_some e).2
                rw [a (by rw [wipe_length]; exact hjn), a hjn]
              · rw [List.getElem?_eq_none (by rw [wipe_length, wipe_length]; omega), List.getElem?_eq_none (by rw [wipe_length]; omega)]
            · rw [wipe_out hj]
          rw [wipe_keep k4 h1 h2, ww]
        · refine ht _ M3 σ4 H' r4 _ fun M5 H5 e5 r5 => ?_
          have back : ∀ {δ : Env} {z M H}, RR K z M σ4 H δ → RR K z M σ H (wipeE δ vs) := fun {δ z M H} r => by
            refine (r.less less_wipe).other ?_ fun j t hj => ?_
            · rw [hln, r4.ln, hlx]
            · by_cases hjv : j ∈ vs
              · exact absurd hj (wipeE_in hjv t)
              · by_cases hjn : j < δ1.length
                · have := k4 j (by simp [others, hjn, hjv])
                  rw [wipe_out hjv] at this
                  exact this.symm
                · rw [List.getElem?_eq_none (by omega), List.getElem?_eq_none (by rw [r4.ln, hlx]; omega)]
          cases b with
          | true =>
            obtain ⟨y, δ6, hy1, δ7, l7, p7⟩ := hy rfl
            refine hmk2 hy1 r5 _ fun M6 v H6 e6 ⟨av, h6, hal, r6⟩ => ⟨av, h6, by rw [hal]; exact len_ok (by omega), M6, δ7, acc ++ [y], e2.trans (e3.trans (e5.trans e6)), (back r6).less l7, p7, by simp; omega⟩
          | false =>
            obtain ⟨δ7, l7, p7⟩ := hno rfl
            exact ⟨M5, δ7, acc, e2.trans (e3.trans e5), (back r5).less l7, p7, by omega⟩
      · have hi2 : i = items.length := by omega
        subst hi2
        obtain ⟨rfl, lo⟩ := hd acc δ2 p2
        refine .inl ⟨stop (Nat.le_refl _), q M2 _ H2 (e1.trans e2) ⟨?_, (r2.less lo).ln⟩⟩
        have := (r2.less lo).r
        simpa [List.append_assoc] using this
/-- a comprehension whose items are data -/
theorem ro_lc {wi : TI} {g : TG} {vs : List Nat} {items : List TV.D} {srcs : Srcs} (hw : Wk K wi δ items srcs δ1) (P : Nat → List TV.D → Env → Prop) (h0 : P 0 [] δ1) (hn : wipeE δ1 vs = δ1) (hz : items.length ≤ 100000)
    (ho : ∀ i acc δ, P i acc δ → okS δ srcs ∧ wipeE δ vs = δ ∧ δ.length = δ1.length)
    (hs : ∀ i x acc δ, items[i]? = some x → P i acc δ → ∃ δx b δ2, Gd K (others δ1.length vs) g x δ δx ∧ δx.length = δ1.length ∧ Rt K tt δx b δ2 ∧ (b = true → ∃ y δ3, Rd K te δ2 (.d y) δ3 ∧ Pc vs P (i + 1) (acc ++ [y]) δ3) ∧ (b = false → Pc vs P (i + 1) acc δ2)) {out : List TV.D} {δo : Env}
    (hd : ∀ acc δ, P items.length acc δ → acc = out ∧ Less δo δ) : Ro K (tLc wi g tt te vs) δ (.ls out) δo := by
  have top : ∀ {M : Hp} {σ : L2.St} {H : Hp} {δ : Env} {Dl : Addr} {acc : List TV.D}, R K M (σ ++ [some (.ref Dl)]) H (δ ++ [some (.ls acc)]) → ∃ av, H Dl = some (.lst av) ∧ RpL K M acc av := fun {M σ H δ Dl acc} r => by
    obtain ⟨v, hv, P, ow, _⟩ := r.at get_top
    have ln : σ.length = δ.length := by simpa using r.ln
    rw [← ln, get_top] at hv
    cases hv
    obtain ⟨a, vs, e, _, h3, h4⟩ := ow
    cases e
    exact ⟨vs, h3, h4⟩
  refine lc_core (mk := T.ls) hw P h0 hn hz (fun r hD => r.pushNew hD trivial fun P hp => ⟨_, [], rfl, hp, upd_same, rfl⟩) (fun r => ?_) (fun te δ y δ' => Rd K te δ (.d y) δ') (fun {te z M σ2 H δ2 δ3 y Dl acc} hy r Q q => ?_) ho hs hd
  · obtain ⟨av, h1, h2⟩ := top r
    exact ⟨av, h1, h2.length.symm⟩
  · refine hy _ M σ2 H r Q fun M' v H' e r' rp => q M' v H' e ?_
    have rr := r'.r
    have rr : R K M' ((σ2 ++ z.s) ++ [some (.ref Dl)]) H' ((δ3 ++ z.e) ++ [some (.ls acc)]) := by simpa [List.append_assoc] using rr
    obtain ⟨av, h1, h2⟩ := top rr
    refine ⟨av, h1, h2.length.symm, ?_, r'.ln⟩
    have ln : (σ2 ++ z.s).length = (δ3 ++ z.e).length := by
      have := rr.ln
      simp only [List.length_append, List.length_singleton] at this ⊢
      omega
    have w := rr.write (i := (δ3 ++ z.e).length) (t := .ls acc) (t' := .ls (acc ++ [y])) (a := Dl) (o := .lst (av ++ [v])) (v := .ref Dl) get_top (by rw [← ln]; exact get_top) trivial fun P ow => by
      obtain ⟨a, vs, e, p, h3, h4⟩ := ow
      cases e
      rw [h1] at h3
      cases h3
      exact ⟨p, _, _, rfl, p, upd_same, h4.append (RpL.one rp)⟩
    have e5 : ((δ3 ++ z.e) ++ [some (T.ls acc)]).set (δ3 ++ z.e).length (some (.ls (acc ++ [y]))) = (δ3 ++ z.e) ++ [some (.ls (acc ++ [y]))] := by
      rw [List.set_append_right _ _ (Nat.le_refl _)]
      simp
    rw [e5] at w
    simpa [List.append_assoc] using w
/-- .. whose items are new lists -/
theorem ro_lcL {wi : TI} {g : TG} {vs : List Nat} {items : List TV.D} {srcs : Srcs} (hw : Wk K wi δ items srcs δ1) (P : Nat → List (List TV.D) → Env → Prop) (h0 : P 0 [] δ1) (hn : wipeE δ1 vs = δ1) (hz : items.length ≤ 100000)
    (ho : ∀ i acc δ, P i acc δ → okS δ srcs ∧ wipeE δ vs = δ ∧ δ.length = δ1.length)
    (hs : ∀ i x acc δ, items[i]? = some x → P i acc δ → ∃ δx b δ2, Gd K (others δ1.length vs) g x δ δx ∧ δx.length = δ1.length ∧ Rt K tt δx b δ2 ∧ (b = true → ∃ y δ3, Ro K te δ2 (.ls y) δ3 ∧ Pc vs P (i + 1) (acc ++ [y]) δ3) ∧ (b = false → Pc vs P (i + 1) acc δ2)) {out : List (List TV.D)} {δo : Env}
    (hd : ∀ acc δ, P items.length acc δ → acc = out ∧ Less δo δ) : Ro K (tLc wi g tt te vs) δ (.ll out) δo := by
  have top : ∀ {M : Hp} {σ : L2.St} {H : Hp} {δ : Env} {Dl : Addr} {acc : List (List TV.D)}, R K M (σ ++ [some (.ref Dl)]) H (δ ++ [some (.ll acc)]) → ∃ as : List Addr, H Dl = some (.lst (as.map V.ref)) ∧ as.length = acc.length := fun {M σ H δ Dl acc} r => by
    obtain ⟨v, hv, P, ow, _⟩ := r.at get_top
    have ln : σ.length = δ.length := by simpa using r.ln
    rw [← ln, get_top] at hv
    cases hv
    obtain ⟨a, as, e, _, _, _, h3, h4⟩ := ow
    cases e
    exact ⟨as, h3, h4.length.symm⟩
  refine lc_core (mk := T.ll) hw P h0 hn hz (fun r hD => r.pushNew hD trivial fun P hp => ⟨_, [], rfl, hp, fun _ z => by simp at z, by simp, upd_same, rfl⟩) (fun r => ?_) (fun te δ y δ' => Ro K te δ (.ls y) δ') (fun {te z M σ2 H δ2 δ3 y Dl acc} hy r Q q => ?_) ho hs hd
  · obtain ⟨as, h1, h2⟩ := top r
    exact ⟨_, h1, by rw [List.length_map, h2]⟩
  · refine hy _ M σ2 H r Q fun M' v H' e r' => q M' v H' e ?_
    have ln : (σ2 ++ z.s).length = (δ3 ++ z.e).length := by
      have := r'.1.ln
      simp only [List.length_append, List.length_singleton] at this ⊢
      omega
    have rr : R K M' (((σ2 ++ z.s) ++ [some (.ref Dl)]) ++ [some v]) H' (((δ3 ++ z.e) ++ [some (.ll acc)]) ++ [some (.ls y)]) := by simpa [RT, List.append_assoc] using r'.1
    obtain ⟨as, h1, h2⟩ := top rr.pop
    obtain ⟨as', b, rfl, h1', h2', w⟩ := rr.adopt (i := (δ3 ++ z.e).length) (a := Dl) get_top (by rw [← ln]; exact get_top)
    refine ⟨as'.map V.ref, h1', by rw [List.length_map, h2'], ?_, r'.2⟩
    have e5 : ((δ3 ++ z.e) ++ [some (T.ll acc)]).set (δ3 ++ z.e).length (some (.ll (acc ++ [y]))) = (δ3 ++ z.e) ++ [some (.ll (acc ++ [y]))] := by
      rw [List.set_append_right _ _ (Nat.le_refl _)]
      simp
    rw [e5] at w
    simpa [List.append_assoc] using w
theorem rt_yes : Rt K tYes δ true δ := fun z M σ H r Q q => q M H (Same.refl M) r
/-- a comprehension that changes nothing: what F says of each item -/
theorem ro_lcF {wi : TI} {g : TG} {vs : List Nat} {items : List TV.D} {srcs : Srcs} (F : TV.D → Option TV.D) (hw : Wk K wi δ items srcs δ1) (hk : okS δ1 srcs) (hn : wipeE δ1 vs = δ1) (hz : items.length ≤ 100000)
    (hs : ∀ (i : Nat) (x : TV.D), items[i]? = some x → ∃ δx, Gd K (others δ1.length vs) g x δ1 δx ∧ wipeE δx vs = δ1 ∧ δx.length = δ1.length ∧ Rt K tt δx (F x).isSome δx ∧ ∀ y, F x = some y → Rd K te δx (.d y) δx) : Ro K (tLc wi g tt te vs) δ (.ls (items.filterMap F)) δ1 := by
  refine ro_lc hw (fun i acc δ => δ = δ1 ∧ acc = (items.take i).filterMap F) ⟨rfl, rfl⟩ hn hz (fun i acc δ p => by rw [p.1]; exact ⟨hk, hn, rfl⟩) (fun i x acc δ hi p => ?_) (fun acc δ p => ?_)
  · obtain ⟨rfl, rfl⟩ := p
    obtain ⟨δx, h1, h2, h3, h4, h5⟩ := hs i x hi
    refine ⟨δx, _, δx, h1, h3, h4, fun hb => ?_, fun hb => ?_⟩
    · obtain ⟨y, hy⟩ := Option.isSome_iff_exists.mp hb
      refine ⟨y, δx, h5 y hy, δ, by rw [h2]; exact Less.refl, rfl, ?_⟩
      rw [List.take_add_one, hi, List.filterMap_append]
      simp [hy]
    · refine ⟨δ, by rw [h2]; exact Less.refl, rfl, ?_⟩
      rw [List.take_add_one, hi, List.filterMap_append]
      have : F x = none := by
        cases e : F x with
        | none => rfl
        | some y => rw [e] at hb; cases hb
      simp [this]
  · obtain ⟨rfl, rfl⟩ := p
    rw [List.take_length]
    exact ⟨rfl, Less.refl⟩
end
end TV

namespace TV
open PySem PySem.Spec PyProof.Rows L2
/-! ### data -/
mutual
def py : D → PyData
  | .non => .none
  | .bl b => .bool b
  | .int i => .int i
  | .str x => .str x
  | .ty _ => .none
  | .tup ds => .tuple (pyL ds)
  | .lst ds => .list (pyL ds)
  | .scr ds => .list (pyL ds)
def pyL : List D → List PyData
  | [] => []
  | d :: ds => py d :: pyL ds
end
theorem pyL_map : ∀ ds : List D, pyL ds = ds.map py
  | [] => rfl
  | d :: ds => by rw [pyL, pyL_map ds]; rfl
mutual
/-- data proper: no type, no script -/
def isDat : D → Bool
  | .ty _ => false
  | .scr _ => false
  | .tup ds => isDats ds
  | .lst ds => isDats ds
  | _ => true
def isDats : List D → Bool
  | [] => true
  | d :: ds => isDat d && isDats ds
end
theorem isDats_all : ∀ ds : List D, isDats ds = ds.all isDat
  | [] => rfl
  | d :: ds => by rw [isDats, isDats_all ds]; rfl
mutual
def noTy : D → Bool
  | .ty _ => false
  | .scr ds => noTys ds
  | .tup ds => noTys ds
  | .lst ds => noTys ds
  | _ => true
def noTys : List D → Bool
  | [] => true
  | d :: ds => noTy d && noTys ds
end
mutual
theorem py_inj : ∀ {d e : D}, isDat d = true → isDat e = true → py d = py e → d = e
  | .non, e, _, h2, h => by cases e <;> first | rfl | (simp [py] at h; done) | (simp [isDat] at h2)
  | .bl b, e, _, h2, h => by cases e <;> first | (simp [py] at h; rw [h]; done) | (simp [py] at h; done) | (simp [isDat] at h2)
  | .int b, e, _, h2, h => by cases e <;> first | (simp [py] at h; rw [h]; done) | (simp [py] at h; done) | (simp [isDat] at h2)
  | .str b, e, _, h2, h => by cases e <;> first | (simp [py] at h; rw [h]; done) | (simp [py] at h; done) | (simp [isDat] at h2)
  | .ty _, _, h1, _, _ => by simp [isDat] at h1
  | .scr _, _, h1, _, _ => by simp [isDat] at h1
  | .tup ds, e, h1, h2, h => by
    cases e with
    | tup es =>
      simp only [py, PyData.tuple.injEq] at h
      rw [pyL_inj h1 h2 h]
    | _ => first | (simp [py] at h; done) | (simp [isDat] at h2)
  | .lst ds, e, h1, h2, h => by
    cases e with
    | lst es =>
      simp only [py, PyData.list.injEq] at h
      rw [pyL_inj h1 h2 h]
    | _ => first | (simp [py] at h; done) | (simp [isDat] at h2)
theorem pyL_inj : ∀ {ds es : List D}, isDats ds = true → isDats es = true → pyL ds = pyL es → ds = es
  | [], [], _, _, _ => rfl
  | [], _ :: _, _, _, h => by simp [pyL] at h
  | _ :: _, [], _, _, h => by simp [pyL] at h
  | d :: ds, e :: es, h1, h2, h => by
    simp only [pyL, List.cons.injEq] at h
    simp only [isDats, Bool.and_eq_true] at h1 h2
    rw [py_inj h1.1 h2.1 h.1, pyL_inj h1.2 h2.2 h.2]
end
mutual
theorem py_plain : ∀ d : D, (py d).plain = true
  | .non => rfl
  | .bl _ => rfl
  | .int _ => rfl
  | .str _ => rfl
  | .ty _ => rfl
  | .tup ds => by simp only [py, PyData.plain]; exact pyL_plain ds
  | .lst ds => by simp only [py, PyData.plain]; exact pyL_plain ds
  | .scr ds => by simp only [py, PyData.plain]; exact pyL_plain ds
theorem pyL_plain : ∀ ds : List D, PyData.plainAll (pyL ds) = true
  | [] => rfl
  | d :: ds => by simp only [pyL, PyData.plainAll, py_plain d, pyL_plain ds, Bool.and_self]
end
section
variable {K : PySem.W.Frag} {M H : Hp}
mutual
theorem Rp.dp (e : Same M H) : ∀ {d : D} {v : V}, noTy d = true → Rp K M d v → Dp K H v (py d)
  | .non, _, _, h => by cases h; exact .non
  | .bl _, _, _, h => by cases h; exact .bl _
  | .int _, _, _, h => by cases h; exact .int _
  | .str _, _, _, h => by cases h; exact .str _
  | .ty _, _, n, _ => by simp [noTy] at n
  | .tup _, _, n, ⟨a, vs, h1, h2, h3⟩ => by subst h1; exact .tup (Same.sqT e h2) (RpL.dp e n h3)
  | .lst _, _, n, ⟨a, vs, h1, h2, h3⟩ => by subst h1; exact .lst (.inl (.inl (e _ _ h2))) (RpL.dp e n h3)
  | .scr _, _, n, ⟨a, vs, h1, h2, h3⟩ => by subst h1; exact .lst (Same.sqL e h2) (RpL.dp e n h3)
theorem RpL.dp (e : Same M H) : ∀ {ds : List D} {vs : List V}, noTys ds = true → RpL K M ds vs → DpAll K H vs (pyL ds)
  | [], _, _, h => by cases h; exact .nil
  | d :: ds, _, n, ⟨v, r, h1, h2, h3⟩ => by
    subst h1
    simp only [noTys, Bool.and_eq_true] at n
    exact .cons (Rp.dp e n.1 h2) (RpL.dp e n.2 h3)
end
end
mutual
theorem isDat_noTy : ∀ {d : D}, isDat d = true → noTy d = true
  | .non, _ => rfl
  | .bl _, _ => rfl
  | .int _, _ => rfl
  | .str _, _ => rfl
  | .ty _, h => by simp [isDat] at h
  | .scr _, h => by simp [isDat] at h
  | .tup _, h => isDats_noTys h
  | .lst _, h => isDats_noTys h
theorem isDats_noTys : ∀ {ds : List D}, isDats ds = true → noTys ds = true
  | [], _ => rfl
  | d :: ds, h => by
    simp only [isDats, Bool.and_eq_true] at h
    simp only [noTys, Bool.and_eq_true]
    exact ⟨isDat_noTy h.1, isDats_noTys h.2⟩
end
/-- data of depth n at most -/
def okD : Nat → D → Bool
  | _, .non => true
  | _, .bl _ => true
  | _, .int _ => true
  | _, .str _ => true
  | _, .ty _ => false
  | _, .scr _ => false
  | 0, .tup _ => false
  | 0, .lst _ => false
  | n + 1, .tup ds => ds.all (okD n)
  | n + 1, .lst ds => ds.all (okD n)
theorem okD_dat : ∀ {n : Nat} {d : D}, okD n d = true → isDat d = true
  | _, .non, _ => rfl
  | _, .bl _, _ => rfl
  | _, .int _, _ => rfl
  | _, .str _, _ => rfl
  | 0, .ty _, h => by simp [okD] at h
  | _ + 1, .ty _, h => by simp [okD] at h
  | 0, .scr _, h => by simp [okD] at h
  | _ + 1, .scr _, h => by simp [okD] at h
  | 0, .tup _, h => by simp [okD] at h
  | 0, .lst _, h => by simp [okD] at h
  | n + 1, .tup ds, h => by
    show isDats ds = true
    rw [isDats_all, List.all_eq_true]
    exact fun x hx => okD_dat (List.all_eq_true.mp h x hx)
  | n + 1, .lst ds, h => by
    show isDats ds = true
    rw [isDats_all, List.all_eq_true]
    exact fun x hx => okD_dat (List.all_eq_true.mp h x hx)
theorem depthAll_le : ∀ {ds : List D} {n : Nat}, (∀ d, d ∈ ds → (py d).depth ≤ n) → PyData.depthAll (pyL ds) ≤ n
  | [], _, _ => Nat.zero_le _
  | d :: ds, n, h => by
    simp only [pyL, PyData.depthAll]
    exact Nat.max_le.mpr ⟨h d (by simp), depthAll_le fun e he => h e (by simp [he])⟩
theorem okD_depth : ∀ {n : Nat} {d : D}, okD n d = true → (py d).depth ≤ n
  | _, .non, _ => Nat.zero_le _
  | _, .bl _, _ => Nat.zero_le _
  | _, .int _, _ => Nat.zero_le _
  | _, .str _, _ => Nat.zero_le _
  | 0, .ty _, h => by simp [okD] at h
  | _ + 1, .ty _, h => by simp [okD] at h
  | 0, .scr _, h => by simp [okD] at h
  | _ + 1, .scr _, h => by simp [okD] at h
  | 0, .tup _, h => by simp [okD] at h
  | 0, .lst _, h => by simp [okD] at h
  | n + 1, .tup ds, h => by
    simp only [py, PyData.depth]
    exact Nat.succ_le_succ (depthAll_le fun x hx => okD_depth (List.all_eq_true.mp h x hx))
  | n + 1, .lst ds, h => by
    simp only [py, PyData.depth]
    exact Nat.succ_le_succ (depthAll_le fun x hx => okD_depth (List.all_eq_true.mp h x hx))
theorem okD_py : ∀ {n : Nat} {d : D}, okD n d = true → noTy d = true := fun h => isDat_noTy (okD_dat h)
/-! rules of the hand layer over data -/
def rEqP (K : PySem.W.Frag) (u : Nat) : R2 := fun x y H Q => ∃ d e, Dp K H x d ∧ Dp K H y e ∧ d.plain = true ∧ e.plain = true ∧ d.depth ≤ 16 ∧ Q (.bl (PyData.eqv d e)) H
def rNeP (K : PySem.W.Frag) (u : Nat) : R2 := fun x y H Q => ∃ d e, Dp K H x d ∧ Dp K H y e ∧ d.plain = true ∧ e.plain = true ∧ d.depth ≤ 16 ∧ Q (.bl (!PyData.eqv d e)) H
def rInP (K : PySem.W.Frag) (neg : Bool) : R2 := fun x y H Q => ∃ d es, Dp K H x d ∧ (Dp K H y (.list es) ∨ Dp K H y (.tuple es)) ∧ d.plain = true ∧ PyData.plainAll es = true ∧ d.depth ≤ 16 ∧ Q (.bl (if neg then !es.any (fun y => PyData.eqv y d) else es.any fun y => PyData.eqv y d)) H
def rMinP (K : PySem.W.Frag) : List V → Hp → VK → Prop := fun vs H Q => ∃ a xs d ds, vs = [.ref a] ∧ SqL K H a xs ∧ DpAll K H xs (d :: ds) ∧ PySem.W.AlikeAll (d :: ds) ∧ PyData.plainAll (d :: ds) = true ∧ PyData.depthAll (d :: ds) ≤ 16 ∧ ∀ (i : Nat) v e, xs[i]? = some v → (d :: ds)[i]? = some e → e = PySem.W.minD d ds → Q v H
def rMaxP (K : PySem.W.Frag) : List V → Hp → VK → Prop := fun vs H Q => ∃ a xs d ds, vs = [.ref a] ∧ SqL K H a xs ∧ DpAll K H xs (d :: ds) ∧ PySem.W.AlikeAll (d :: ds) ∧ PyData.plainAll (d :: ds) = true ∧ PyData.depthAll (d :: ds) ≤ 16 ∧ ∀ (i : Nat) v e, xs[i]? = some v → (d :: ds)[i]? = some e → e = PySem.W.maxD d ds → Q v H
theorem dpAll_get {K : PySem.W.Frag} {H : Hp} : ∀ {xs : List V} {ds : List PyData} {i : Nat} {v : V}, DpAll K H xs ds → xs[i]? = some v → ∃ d, ds[i]? = some d ∧ Dp K H v d
  | _, _, i, _, .nil, h => by simp at h
  | _, _, 0, _, .cons a b, h => by simp at h; subst h; exact ⟨_, rfl, a⟩
  | _, _, i + 1, _, .cons a b, h => by simpa using dpAll_get b (by simpa using h)
theorem Vals.get2 : ∀ {xs : List V} {us : List Value} {i : Nat} {u : Value}, Vals xs us → us[i]? = some u → ∃ x, xs[i]? = some x ∧ RelV x u
  | _, _, _, _, .nil, e => by simp at e
  | _, _, 0, _, .cons r _, e => by simp at e; subst e; exact ⟨_, rfl, r⟩
  | _, _, i + 1, x, .cons _ t, e => by simpa using Vals.get2 t (by simpa using e)
theorem plainAll_get : ∀ {ds : List PyData} {i : Nat} {d : PyData}, PyData.plainAll ds = true → ds[i]? = some d → d.plain = true
  | [], i, _, _, h => by simp at h
  | x :: xs, 0, d, p, h => by simp [PyData.plainAll] at p; simp at h; subst h; exact p.1
  | x :: xs, i + 1, d, p, h => by simp [PyData.plainAll] at p; exact plainAll_get p.2 (by simpa using h)
section
variable {X : Cx}
theorem op_eqP (hu : X.A.units + 64 < cLine) : OpR X (compareOp .Eq) (rEqP X.K X.A.units) := by
  intro pins s σ H x y v u Q I rx ry h
  obtain ⟨d, e, hd, he, sd, se, hu, q⟩ := h
  obtain ⟨as, r1⟩ := Dp.reads I d x v hd rx
  obtain ⟨bs, r2⟩ := Dp.reads I e y u he ry
  exact SeqAt.eq_plain r1 r2 sd se (by have := Nat.min_le_left d.depth e.depth; omega) ⟨.bl _, H, I, rfl, q⟩
theorem op_neP (hu : X.A.units + 64 < cLine) : OpR X (compareOp .NotEq) (rNeP X.K X.A.units) := by
  intro pins s σ H x y v u Q I rx ry h
  obtain ⟨d, e, hd, he, sd, se, hu, q⟩ := h
  obtain ⟨as, r1⟩ := Dp.reads I d x v hd rx
  obtain ⟨bs, r2⟩ := Dp.reads I e y u he ry
  exact SeqAt.ne_plain r1 r2 sd se (by have := Nat.min_le_left d.depth e.depth; omega) ⟨.bl _, H, I, rfl, q⟩
theorem op_inP (hu : X.A.units + 64 < cLine) : OpR X (compareOp .In) (rInP X.K false) := by
  intro pins s σ H x y v u Q I rx ry h
  obtain ⟨d, es, hd, he, sd, se, hu, q⟩ := h
  obtain ⟨as, r1⟩ := Dp.reads I d x v hd rx
  rcases he with he | he
  · obtain ⟨bs, r2⟩ := Dp.reads I _ y u he ry
    exact SeqAt.in_list_data r2 r1 se sd (by have := Nat.min_le_right (PyData.depthAll es) d.depth; omega) ⟨.bl _, H, I, rfl, q⟩
  · obtain ⟨bs, r2⟩ := Dp.reads I _ y u he ry
    exact SeqAt.in_tuple_data r2 r1 se sd (by have := Nat.min_le_right (PyData.depthAll es) d.depth; omega) ⟨.bl _, H, I, rfl, q⟩
theorem op_notInP (hu : X.A.units + 64 < cLine) : OpR X (compareOp .NotIn) (rInP X.K true) := by
  intro pins s σ H x y v u Q I rx ry h
  obtain ⟨d, es, hd, he, sd, se, hu, q⟩ := h
  obtain ⟨as, r1⟩ := Dp.reads I d x v hd rx
  rcases he with he | he
  · obtain ⟨bs, r2⟩ := Dp.reads I _ y u he ry
    exact SeqAt.notIn_list_data r2 r1 se sd (by have := Nat.min_le_right (PyData.depthAll es) d.depth; omega) ⟨.bl _, H, I, rfl, q⟩
  · obtain ⟨bs, r2⟩ := Dp.reads I _ y u he ry
    exact SeqAt.notIn_tuple_data r2 r1 se sd (by have := Nat.min_le_right (PyData.depthAll es) d.depth; omega) ⟨.bl _, H, I, rfl, q⟩
theorem cr_minP (hc : X.calm = true) (hu : X.A.units + 64 < cLine) : CallR X (.builtin "min") (rMinP X.K) := by
  intro pins s σ H xs us Q I r h
  obtain ⟨a, ys, d, ds, rfl, hS, hd, al, pl, dp, q⟩ := h
  obtain ⟨u1, rfl, rx⟩ := vals1 r
  cases rx
  obtain ⟨its, rv, hl, _⟩ := I.list hS
  obtain ⟨as, rs⟩ := Dp.readsAll I _ _ _ hd rv
  refine PySem.W.min_list_data (I.ok.hd hc) hl.isList (by simpa using rs) al (by omega) fun i v h' tk bs hv hr hk => ?_
  obtain ⟨x, hx, rxv⟩ := Vals.get2 rv (by simpa using hv)
  obtain ⟨e, he, hde⟩ := dpAll_get hd hx
  have I' : Inv X pins σ H { s with heap := h', toks := tk } := I.kept hk
  obtain ⟨cs, r2⟩ := Dp.reads I' e x v hde rxv
  exact ⟨x, H, I', rxv, q i x e hx he (SeqAt.plain_unique e _ v _ _ (plainAll_get pl he) r2 hr)⟩
theorem cr_maxP (hc : X.calm = true) (hu : X.A.units + 64 < cLine) : CallR X (.builtin "max") (rMaxP X.K) := by
  intro pins s σ H xs us Q I r h
  obtain ⟨a, ys, d, ds, rfl, hS, hd, al, pl, dp, q⟩ := h
  obtain ⟨u1, rfl, rx⟩ := vals1 r
  cases rx
  obtain ⟨its, rv, hl, _⟩ := I.list hS
  obtain ⟨as, rs⟩ := Dp.readsAll I _ _ _ hd rv
  refine PySem.W.max_list_data (I.ok.hd hc) hl.isList (by simpa using rs) al (by omega) fun i v h' tk bs hv hr hk => ?_
  obtain ⟨x, hx, rxv⟩ := Vals.get2 rv (by simpa using hv)
  obtain ⟨e, he, hde⟩ := dpAll_get hd hx
  have I' : Inv X pins σ H { s with heap := h', toks := tk } := I.kept hk
  obtain ⟨cs, r2⟩ := Dp.reads I' e x v hde rxv
  exact ⟨x, H, I', rxv, q i x e hx he (SeqAt.plain_unique e _ v _ _ (plainAll_get pl he) r2 hr)⟩
end
/-! over trees -/
section
variable {K : PySem.W.Frag} {ps : List Nat} {δ δ1 δ2 δ3 : Env} {ta tb te : TE} {tt tu : TT} {t u : TS} {D : EndT}
/-- what an argument is, as data -/
def datA (δ : Env) : Arg → Option TV.D
  | .d x => some x
  | .sl i => match δ[i]? with
    | some (some t) => fz t
    | _ => none
theorem RR.datA {z : Z} {M H : Hp} {σ : L2.St} (r : RR K z M σ H δ) {x : Arg} {d : TV.D} {v : V} (h : TV.datA δ x = some d) (ok : ArgOk K M σ x v) : ∃ M', Same M M' ∧ Same M' H ∧ Rp K M' d v := by
  cases x with
  | d y => cases h; exact ⟨M, Same.refl M, r.ex, ok⟩
  | sl i =>
    simp only [TV.datA] at h
    split at h
    · rename_i t e
      obtain ⟨v', hv, P, ow, _⟩ := r.at e
      have ok : σ[i]? = some (some v) := ok
      rw [ok] at hv
      cases hv
      exact ⟨H, r.ex, Same.refl H, ow.freeze r.ex (fun _ _ _ q => q) (fun _ _ q => q) h⟩
    · cases h
theorem rd_eqP {u : Nat} {r s : Arg} {x y : TV.D} (ha : Rd K ta δ r δ1) (hb : Rd K tb δ1 s δ2) (hx : TV.datA δ2 r = some x) (hy : TV.datA δ2 s = some y) (ox : okD 16 x = true) (oy : noTy y = true) : Rd K (tOp (rEqP K u) ta tb) δ (.d (.bl (PyData.eqv (py x) (py y)))) δ2 := fun z M σ H r0 Q q =>
  ha z M σ H r0 _ fun M1 v H1 e1 r1 p1 => hb z M1 σ H1 r1 _ fun M2 w H2 e2 r2 p2 => by
    obtain ⟨Ma, ea, sa, pa⟩ := r2.datA hx (p1.mono e2)
    obtain ⟨Mb, eb, sb, pb⟩ := r2.datA hy p2
    exact ⟨py x, py y, pa.dp sa (okD_py ox), pb.dp sb oy, py_plain x, py_plain y, okD_depth ox, q M2 _ H2 (e1.trans e2) r2 rfl⟩
theorem rd_neP {u : Nat} {r s : Arg} {x y : TV.D} (ha : Rd K ta δ r δ1) (hb : Rd K tb δ1 s δ2) (hx : TV.datA δ2 r = some x) (hy : TV.datA δ2 s = some y) (ox : okD 16 x = true) (oy : noTy y = true) : Rd K (tOp (rNeP K u) ta tb) δ (.d (.bl (!PyData.eqv (py x) (py y)))) δ2 := fun z M σ H r0 Q q =>
  ha z M σ H r0 _ fun M1 v H1 e1 r1 p1 => hb z M1 σ H1 r1 _ fun M2 w H2 e2 r2 p2 => by
    obtain ⟨Ma, ea, sa, pa⟩ := r2.datA hx (p1.mono e2)
    obtain ⟨Mb, eb, sb, pb⟩ := r2.datA hy p2
    exact ⟨py x, py y, pa.dp sa (okD_py ox), pb.dp sb oy, py_plain x, py_plain y, okD_depth ox, q M2 _ H2 (e1.trans e2) r2 rfl⟩
/-- the first least of the items, by the order of data -/
def minDD (d : TV.D) (ds : List TV.D) : TV.D := ds.foldl (fun a y => if PySem.W.dataLt (py y) (py a) then y else a) d
theorem py_minDD : ∀ (ds : List TV.D) (d : TV.D), py (minDD d ds) = PySem.W.minD (py d) (pyL ds)
  | [], _ => rfl
  | e :: ds, d => by
    have := py_minDD ds (if PySem.W.dataLt (py e) (py d) then e else d)
    unfold minDD PySem.W.minD at this ⊢
    rw [List.foldl_cons, this, pyL, List.foldl_cons]
    split <;> rfl
theorem minDD_mem : ∀ (ds : List TV.D) (d : TV.D), minDD d ds ∈ d :: ds
  | [], d => by simp [minDD]
  | e :: ds, d => by
    have h := minDD_mem ds (if PySem.W.dataLt (py e) (py d) then e else d)
    have e1 : minDD d (e :: ds) = minDD (if PySem.W.dataLt (py e) (py d) then e else d) ds := rfl
    rw [e1]
    rcases List.mem_cons.mp h with h | h
    · rw [h]
      split <;> simp
    · simp [h]
def alikeB (ds : List TV.D) : Bool := ds.all fun x => ds.all fun y => PySem.W.alike (py x) (py y)
theorem alike_none {ds : List TV.D} (h : ds.all (fun x => match x with | .non => false | .ty _ => false | _ => true) = true) : ∀ x ∈ pyL ds, x ≠ .none := fun x hx => by
  rw [pyL_map] at hx
  obtain ⟨d, hd, rfl⟩ := List.mem_map.mp hx
  have := List.all_eq_true.mp h d hd
  cases d <;> simp [py] at this ⊢
theorem rd_minP {r : Arg} {d : TV.D} {ds : List TV.D} (ha : Rd K ta δ r δ1) (hv : viewL δ1 r = some (d :: ds)) (ok : (d :: ds).all (okD 15) = true) (al : ∀ x ∈ d :: ds, ∀ y ∈ d :: ds, PySem.W.alike (py x) (py y) = true) (nn : ∀ x ∈ d :: ds, py x ≠ .none) :
    Rd K (tCB (rMinP K) (tCons ta tNil)) δ (.d (minDD d ds)) δ1 := fun z M σ H r0 Q q =>
  ha z M σ H r0 _ fun M1 v H1 e1 r1 p1 => by
    obtain ⟨a, vs, rfl, h1, h2⟩ := r1.view hv p1
    have okm : ∀ x ∈ d :: ds, okD 15 x = true := fun x hx => List.all_eq_true.mp ok x hx
    have nt : noTys (d :: ds) = true := isDats_noTys (by rw [isDats_all, List.all_eq_true]; exact fun x hx => okD_dat (okm x hx))
    refine ⟨a, vs, py d, pyL ds, rfl, h1, h2.dp r1.ex nt, ⟨fun x hx y hy => ?_, fun x hx => ?_⟩, pyL_plain (d :: ds), Nat.le_trans (depthAll_le (ds := d :: ds) fun x hx => okD_depth (okm x hx)) (by decide), fun i v e hx he em => ?_⟩
    · have e0 : py d :: pyL ds = (d :: ds).map py := by rw [pyL_map]; rfl
      rw [e0] at hx hy
      obtain ⟨x', hx', rfl⟩ := List.mem_map.mp hx
      obtain ⟨y', hy', rfl⟩ := List.mem_map.mp hy
      exact al x' hx' y' hy'
    · have e0 : py d :: pyL ds = (d :: ds).map py := by rw [pyL_map]; rfl
      rw [e0] at hx
      obtain ⟨x', hx', rfl⟩ := List.mem_map.mp hx
      exact nn x' hx'
    · obtain ⟨x, hxx, rx⟩ := h2.get' hx
      have e0 : py d :: pyL ds = (d :: ds).map py := by rw [pyL_map]; rfl
      rw [e0, List.getElem?_map, hxx] at he
      cases he
      rw [← py_minDD] at em
      have hm : x ∈ d :: ds := List.mem_of_getElem? hxx
      have := py_inj (okD_dat (okm x hm)) (okD_dat (okm _ (minDD_mem ds d))) em
      subst this
      exact q M1 v H1 e1 r1 rx
end
end TV

namespace TV
open PySem PySem.Spec PyProof.Rows L2
section
variable {K : PySem.W.Frag} {ps : List Nat} {δ δ1 δ2 δ3 : Env} {ta tb te : TE} {tt tu : TT} {t u : TS} {D : EndT}
/-- a built-in's call that gives data -/
theorem rd_cb {r : List V → Hp → VK → Prop} {t : TA} {rs : List Arg} {x : TV.D} (ha : Ra K t δ rs δ1) (hr : ∀ (z : Z) M σ vs H, RR K z M σ H δ1 → ArgsOk K M σ rs vs → ∀ Q : VK, (∀ v, Rp K M x v → Q v H) → r vs H Q) : Rd K (tCB r t) δ (.d x) δ1 := fun z M σ H r0 Q q =>
  ha z M σ H r0 _ fun M1 vs H1 e1 r1 p1 => hr z M1 σ vs H1 r1 p1 Q fun v rv => q M1 v H1 e1 r1 rv
/-- .. that gives a new list -/
theorem ro_cb {r : List V → Hp → VK → Prop} {t : TA} {rs : List Arg} {ds : List TV.D} (ha : Ra K t δ rs δ1) (hr : ∀ (z : Z) M σ vs H, RR K z M σ H δ1 → ArgsOk K M σ rs vs → ∀ Q : VK, (∀ p us, H p = none → RpL K M ds us → Q (.ref p) (upd H p (.lst us))) → r vs H Q) : Ro K (tCB r t) δ (.ls ds) δ1 := fun z M σ H r0 Q q =>
  ha z M σ H r0 _ fun M1 vs H1 e1 r1 p1 => hr z M1 σ vs H1 r1 p1 Q fun p us np ru => q M1 _ _ e1 (r1.pushNew np trivial fun P hp => ⟨p, us, rfl, hp, upd_same, ru⟩)
theorem args1 {M : Hp} {σ : L2.St} {r : Arg} {vs : List V} (h : ArgsOk K M σ [r] vs) : ∃ v, vs = [v] ∧ ArgOk K M σ r v := by
  obtain ⟨v, q, rfl, h1, rfl⟩ := h
  exact ⟨v, rfl, h1⟩
theorem args2 {M : Hp} {σ : L2.St} {r s : Arg} {vs : List V} (h : ArgsOk K M σ [r, s] vs) : ∃ v w, vs = [v, w] ∧ ArgOk K M σ r v ∧ ArgOk K M σ s w := by
  obtain ⟨v, q, rfl, h1, w, q', rfl, h2, rfl⟩ := h
  exact ⟨v, w, rfl, h1, h2⟩
theorem rd_min2 {i j : Int} (ha : Rd K ta δ (.d (.int i)) δ1) (hb : Rd K tb δ1 (.d (.int j)) δ2) : Rd K (tCB (fun xs H Q => ∃ i j, xs = [V.int i, V.int j] ∧ Q (.int (if j < i then j else i)) H) (tCons ta (tCons tb tNil))) δ (.d (.int (min i j))) δ2 :=
  rd_cb (ra_cons ha (ra_cons hb ra_nil)) fun z M σ vs H r p Q q => by
    obtain ⟨v, w, rfl, h1, h2⟩ := args2 p
    cases (show v = .int i from h1)
    cases (show w = .int j from h2)
    exact ⟨i, j, rfl, q _ (by show _ = _; congr 1; split <;> omega)⟩
theorem rd_max2 {i j : Int} (ha : Rd K ta δ (.d (.int i)) δ1) (hb : Rd K tb δ1 (.d (.int j)) δ2) : Rd K (tCB (fun xs H Q => ∃ i j, xs = [V.int i, V.int j] ∧ Q (.int (if j > i then j else i)) H) (tCons ta (tCons tb tNil))) δ (.d (.int (max i j))) δ2 :=
  rd_cb (ra_cons ha (ra_cons hb ra_nil)) fun z M σ vs H r p Q q => by
    obtain ⟨v, w, rfl, h1, h2⟩ := args2 p
    cases (show v = .int i from h1)
    cases (show w = .int j from h2)
    exact ⟨i, j, rfl, q _ (by show _ = _; congr 1; split <;> omega)⟩
theorem rd_abs {i : Int} (ha : Rd K ta δ (.d (.int i)) δ1) : Rd K (tCB (fun xs H Q => ∃ i, xs = [V.int i] ∧ Q (.int (if i < 0 then -i else i)) H) (tCons ta tNil)) δ (.d (.int i.natAbs)) δ1 :=
  rd_cb (ra_cons ha ra_nil) fun z M σ vs H r p Q q => by
    obtain ⟨v, rfl, h1⟩ := args1 p
    cases (show v = .int i from h1)
    exact ⟨i, rfl, q _ (by show _ = _; congr 1; split <;> omega)⟩
/-- int(n), int(b) -/
theorem rd_intI {i : Int} (ha : Rd K ta δ (.d (.int i)) δ1) : Rd K (tCB (fun xs H Q => (∃ i, xs = [V.int i] ∧ Q (.int i) H) ∨ ∃ k, xs = [V.bl k] ∧ Q (.int (if k then 1 else 0)) H) (tCons ta tNil)) δ (.d (.int i)) δ1 :=
  rd_cb (ra_cons ha ra_nil) fun z M σ vs H r p Q q => by
    obtain ⟨v, rfl, h1⟩ := args1 p
    cases (show v = .int i from h1)
    exact .inl ⟨i, rfl, q _ rfl⟩
theorem rd_intB {b : Bool} (ha : Rd K ta δ (.d (.bl b)) δ1) : Rd K (tCB (fun xs H Q => (∃ i, xs = [V.int i] ∧ Q (.int i) H) ∨ ∃ k, xs = [V.bl k] ∧ Q (.int (if k then 1 else 0)) H) (tCons ta tNil)) δ (.d (.int (if b then 1 else 0))) δ1 :=
  rd_cb (ra_cons ha ra_nil) fun z M σ vs H r p Q q => by
    obtain ⟨v, rfl, h1⟩ := args1 p
    cases (show v = .bl b from h1)
    exact .inr ⟨b, rfl, q _ rfl⟩
/-- list(xs) -/
theorem ro_list {r : Arg} {ds : List TV.D} (ha : Rd K ta δ r δ1) (hv : viewL δ1 r = some ds) : Ro K (tCB (fun xs H Q => ∃ p ys, xs = [V.ref p] ∧ (SqL K H p ys ∨ SqT K H p ys) ∧ ∀ l, H l = none → Q (.ref l) (upd H l (.lst ys))) (tCons ta tNil)) δ (.ls ds) δ1 :=
  ro_cb (ra_cons ha ra_nil) fun z M σ vs H r p Q q => by
    obtain ⟨v, rfl, h1⟩ := args1 p
    obtain ⟨a, us, rfl, h2, h3⟩ := r.view hv h1
    exact ⟨a, us, rfl, .inl h2, fun l hl => q l us hl h3⟩
theorem ro_listT {ds : List TV.D} (ha : Rd K ta δ (.d (.tup ds)) δ1) : Ro K (tCB (fun xs H Q => ∃ p ys, xs = [V.ref p] ∧ (SqL K H p ys ∨ SqT K H p ys) ∧ ∀ l, H l = none → Q (.ref l) (upd H l (.lst ys))) (tCons ta tNil)) δ (.ls ds) δ1 :=
  ro_cb (ra_cons ha ra_nil) fun z M σ vs H r p Q q => by
    obtain ⟨v, rfl, h1⟩ := args1 p
    obtain ⟨a, us, rfl, h2, h3⟩ := h1
    exact ⟨a, us, rfl, .inr (Same.sqT r.ex h2), fun l hl => q l us hl h3⟩
theorem rgV_rp {M : Hp} (lo hi : Int) : RpL K M (rngD lo (hi - lo).toNat) (rgV lo hi) := by
  have e1 : rngD lo (hi - lo).toNat = ((List.range (hi - lo).toNat).map fun (i : Nat) => lo + (i : Int)).map TV.D.int := by simp [rngD]
  have e2 : rgV lo hi = ((List.range (hi - lo).toNat).map fun (i : Nat) => lo + (i : Int)).map V.int := by simp [rgV]
  rw [e1, e2]
  exact RpL.ints _
/-- list(range(n)), list(range(m, n)) -/
theorem ro_listRg1 {n : Int} (ha : Rd K ta δ (.d (.int n)) δ1) (h1 : -16777216 ≤ n) (h2 : n ≤ 16777216) : Ro K (tLstRg (tRg1 ta)) δ (.ls (rngD 0 n.toNat)) δ1 := fun z M σ H r Q q =>
  ha z M σ H r _ fun M1 v H1 e1 r1 p1 => by
    have e : (n - 0).toNat = n.toNat := by rw [Int.sub_zero]
    refine ⟨n, p1, ⟨by omega, by omega, by omega, by omega, by omega⟩, fun l hl => q M1 _ _ e1 (r1.pushNew hl trivial fun P hp => ⟨l, _, rfl, hp, upd_same, ?_⟩)⟩
    have := rgV_rp (K := K) (M := M1) 0 n
    rwa [e] at this
theorem ro_listRg2 {m n : Int} (ha : Rd K ta δ (.d (.int m)) δ1) (hb : Rd K tb δ1 (.d (.int n)) δ2) (h : -16777216 ≤ m ∧ m ≤ 16777216 ∧ -16777216 ≤ n ∧ n ≤ 16777216 ∧ n - m ≤ 16777216) : Ro K (tLstRg (tRg2 ta tb)) δ (.ls (rngD m (n - m).toNat)) δ2 := fun z M σ H r Q q =>
  ha z M σ H r _ fun M1 v H1 e1 r1 p1 => hb z M1 σ H1 r1 _ fun M2 w H2 e2 r2 p2 => ⟨m, n, p1, p2, ⟨by omega, by omega, by omega, by omega, by omega⟩, fun l hl =>
    q M2 _ _ (e1.trans e2) (r2.pushNew hl trivial fun P hp => ⟨l, _, rfl, hp, upd_same, rgV_rp m n⟩)⟩
/-- xs[a:b] -/
def cutL {α : Type} (xs : List α) (lo hi : Option Int) : List α := (xs.drop (HT.sIx xs.length 0 lo)).take (HT.sIx xs.length xs.length hi - HT.sIx xs.length 0 lo)
theorem rn_none : Rn K tNoPart δ none δ := fun z M σ H r Q q => q M H (Same.refl M) r
theorem rn_some {i : Int} (h : Rd K te δ (.d (.int i)) δ1) : Rn K (tPart te) δ (some i) δ1 := fun z M σ H r Q q => h z M σ H r _ fun M' v H' e r' p => ⟨i, p, q M' H' e r'⟩
theorem ro_slice {r : Arg} {ds : List TV.D} {lo hi : Option Int} {tl th : TO} (ha : Rd K te δ r δ1) (hl : Rn K tl δ1 lo δ2) (hh : Rn K th δ2 hi δ3) (hv : viewL δ3 r = some ds) : Ro K (tSl (rSlL K) te tl th) δ (.ls (cutL ds lo hi)) δ3 := fun z M σ H r0 Q q =>
  ha z M σ H r0 _ fun M1 v H1 e1 r1 p1 => hl z M1 σ H1 r1 _ fun M2 H2 e2 r2 => hh z M2 σ H2 r2 _ fun M3 H3 e3 r3 => by
    obtain ⟨a, vs, rfl, h1, h2⟩ := r3.view hv (p1.mono (e2.trans e3))
    refine ⟨a, vs, rfl, h1, fun p hp => q M3 _ _ (e1.trans (e2.trans e3)) (r3.pushNew hp trivial fun P pp => ⟨p, _, rfl, pp, upd_same, ?_⟩)⟩
    unfold cutL cutV
    rw [← h2.length]
    exact (h2.drop _).take _
/-- xs + ys -/
def dirL (δ : Env) : Arg → Option (List TV.D)
  | .d (.lst ds) => some ds
  | .sl i => match δ[i]? with
    | some (some (.ls ds)) => some ds
    | _ => none
  | _ => none
theorem RR.dir {z : Z} {M H : Hp} {σ : L2.St} (r : RR K z M σ H δ) {x : Arg} {ds : List TV.D} {v : V} (h : dirL δ x = some ds) (ok : ArgOk K M σ x v) : ∃ a vs, v = .ref a ∧ H a = some (.lst vs) ∧ RpL K M ds vs := by
  unfold dirL at h
  split at h
  · cases h
    obtain ⟨a, vs, h1, h2, h3⟩ := ok
    exact ⟨a, vs, h1, r.ex _ _ h2, h3⟩
  · split at h
    · rename_i i _ ds' e
      cases h
      obtain ⟨u, hu, P, ow, _⟩ := r.at e
      obtain ⟨a, vs, h1, h2, h3, h4⟩ := ow
      have ok : σ[i]? = some (some v) := ok
      rw [ok] at hu
      cases hu
      exact ⟨a, vs, h1, h3, h4⟩
    · cases h
  · cases h
theorem ro_cat {r s : Arg} {ds es : List TV.D} (ha : Rd K ta δ r δ1) (hb : Rd K tb δ1 s δ2) (hv : dirL δ2 r = some ds) (hw : dirL δ2 s = some es) (hl : ds.length + es.length ≤ 100000) : Ro K (tOp rCat ta tb) δ (.ls (ds ++ es)) δ2 := fun z M σ H r0 Q q =>
  ha z M σ H r0 _ fun M1 v H1 e1 r1 p1 => hb z M1 σ H1 r1 _ fun M2 w H2 e2 r2 p2 => by
    obtain ⟨a, vs, rfl, h1, h2⟩ := r2.dir hv (p1.mono e2)
    obtain ⟨b, ws, rfl, h3, h4⟩ := r2.dir hw p2
    exact ⟨a, b, vs, ws, rfl, rfl, h1, h3, by rw [← h2.length, ← h4.length]; exact Nat.le_trans hl (by decide), fun p hp => q M2 _ _ (e1.trans e2) (r2.pushNew hp trivial fun P pp => ⟨p, _, rfl, pp, upd_same, h2.append h4⟩)⟩
/-- sum(xs) of whole numbers -/
theorem rd_sum {r : Arg} {ns : List Int} (ha : Rd K ta δ r δ1) (hv : viewL δ1 r = some (ns.map TV.D.int)) : Rd K (tCB (rSum K) (tCons ta tNil)) δ (.d (.int ns.sum)) δ1 :=
  rd_cb (ra_cons ha ra_nil) fun z M σ vs H r p Q q => by
    obtain ⟨v, rfl, h1⟩ := args1 p
    obtain ⟨a, us, rfl, h2, h3⟩ := r.view hv h1
    rw [h3.ints_of] at h2
    exact ⟨a, ns, rfl, h2, q _ rfl⟩
theorem rd_all {r : Arg} {bs : List Bool} (ha : Rd K ta δ r δ1) (hv : viewL δ1 r = some (bs.map TV.D.bl)) : Rd K (tCB (rAll K) (tCons ta tNil)) δ (.d (.bl (bs.all id))) δ1 :=
  rd_cb (ra_cons ha ra_nil) fun z M σ vs H r p Q q => by
    obtain ⟨v, rfl, h1⟩ := args1 p
    obtain ⟨a, us, rfl, h2, h3⟩ := r.view hv h1
    rw [h3.bls_of] at h2
    exact ⟨a, bs, rfl, h2, q _ rfl⟩
theorem rd_any {r : Arg} {bs : List Bool} (ha : Rd K ta δ r δ1) (hv : viewL δ1 r = some (bs.map TV.D.bl)) : Rd K (tCB (rAny K) (tCons ta tNil)) δ (.d (.bl (bs.any id))) δ1 :=
  rd_cb (ra_cons ha ra_nil) fun z M σ vs H r p Q q => by
    obtain ⟨v, rfl, h1⟩ := args1 p
    obtain ⟨a, us, rfl, h2, h3⟩ := r.view hv h1
    rw [h3.bls_of] at h2
    exact ⟨a, bs, rfl, h2, q _ rfl⟩
/-- truth -/
def truA (δ : Env) : Arg → Option Bool
  | .d .non => some false
  | .d (.bl b) => some b
  | .d (.int i) => some (i != 0)
  | .d (.lst ds) => some (!ds.isEmpty)
  | .d (.scr ds) => some (!ds.isEmpty)
  | .d (.tup ds) => some (!ds.isEmpty)
  | .sl i => match δ[i]? with
    | some (some (.ls ds)) => some (!ds.isEmpty)
    | some (some (.ll ds)) => some (!ds.isEmpty)
    | _ => none
  | _ => none
theorem isEmpty_len {α β : Type} {xs : List α} {ys : List β} (h : xs.length = ys.length) : (!xs.isEmpty) = !ys.isEmpty := by
  cases xs <;> cases ys <;> first | rfl | cases h
theorem RR.tru {z : Z} {M H : Hp} {σ : L2.St} (r : RR K z M σ H δ) {x : Arg} {b : Bool} {v : V} (h : truA δ x = some b) (ok : ArgOk K M σ x v) : TruV K v H b := by
  unfold truA at h
  split at h
  · cases h; cases (show v = .non from ok); rfl
  · cases h; cases (show v = .bl _ from ok); rfl
  · cases h; cases (show v = .int _ from ok); rfl
  · cases h
    obtain ⟨a, vs, rfl, h2, h3⟩ := ok
    exact .inl ⟨vs, .inl (.inl (r.ex _ _ h2)), isEmpty_len h3.length⟩
  · cases h
    obtain ⟨a, vs, rfl, h2, h3⟩ := ok
    exact .inl ⟨vs, Same.sqL r.ex h2, isEmpty_len h3.length⟩
  · cases h
    obtain ⟨a, vs, rfl, h2, h3⟩ := ok
    exact .inr (.inl ⟨vs, Same.sqT r.ex h2, isEmpty_len h3.length⟩)
  · split at h
    · rename_i i _ ds e
      cases h
      obtain ⟨u, hu, P, ow, _⟩ := r.at e
      obtain ⟨a, vs, rfl, h2, h3, h4⟩ := ow
      have ok : σ[i]? = some (some v) := ok
      rw [ok] at hu
      cases hu
      exact .inl ⟨vs, .inl (.inl h3), isEmpty_len h4.length⟩
    · rename_i i _ ds e
      cases h
      obtain ⟨u, hu, P, ow, _⟩ := r.at e
      obtain ⟨a, as, rfl, h2, h3, h4, h5, h6⟩ := ow
      have ok : σ[i]? = some (some v) := ok
      rw [ok] at hu
      cases hu
      exact .inl ⟨_, .inl (.inl h5), isEmpty_len (by rw [h6.length, List.length_map])⟩
    · cases h
  · cases h
theorem rt_tru {r : Arg} {b : Bool} (ha : Rd K ta δ r δ1) (h : truA δ1 r = some b) : Rt K (fun σ H Q => ta σ H fun x H' => ∃ k, TruV K x H' k ∧ Q k H') δ b δ1 := fun z M σ H r0 Q q =>
  ha z M σ H r0 _ fun M1 v H1 e1 r1 p1 => ⟨b, r1.tru h p1, q M1 H1 e1 r1⟩
/-- is None -/
def isNonA : Arg → Bool
  | .d .non => true
  | _ => false
theorem nonA {M H : Hp} {σ : L2.St} {z : Z} (r : RR K z M σ H δ) {x : Arg} {v : V} (hx : ∀ i, x = .sl i → ∃ t, δ[i]? = some (some t) ∧ ∀ d, t ≠ .d d) (ok : ArgOk K M σ x v) : decide (v = .non) = isNonA x := by
  cases x with
  | d y =>
    cases y with
    | non => cases (show v = .non from ok); rfl
    | bl b => cases (show v = .bl b from ok); rfl
    | int b => cases (show v = .int b from ok); rfl
    | str b => cases (show v = .str b from ok); rfl
    | ty b => cases (show v = .ty b from ok); rfl
    | tup ds => obtain ⟨a, vs, rfl, _⟩ := ok; rfl
    | lst ds => obtain ⟨a, vs, rfl, _⟩ := ok; rfl
    | scr ds => obtain ⟨a, vs, rfl, _⟩ := ok; rfl
  | sl i =>
    obtain ⟨t, ht, nt⟩ := hx i rfl
    obtain ⟨u, hu, P, ow, _⟩ := r.at ht
    have ok : σ[i]? = some (some v) := ok
    rw [ok] at hu
    cases hu
    cases t with
    | d x => exact absurd rfl (nt x)
    | ls ds => obtain ⟨a, vs, rfl, _⟩ := ow; rfl
    | ll ds => obtain ⟨a, vs, rfl, _⟩ := ow; rfl
    | dk ds => obtain ⟨a, vs, rfl, _⟩ := ow; rfl
    | dt ds => obtain ⟨a, vs, rfl, _⟩ := ow; rfl
    | pr a b => obtain ⟨a, _, _, _, _, rfl, _⟩ := ow; rfl
theorem rd_isN {x : TV.D} (ha : Rd K ta δ (.d x) δ1) : Rd K (tIsN ta) δ (.d (.bl (isNonA (.d x)))) δ1 := fun z M σ H r Q q =>
  ha z M σ H r _ fun M1 v H1 e1 r1 p1 => q M1 _ H1 e1 r1 (by rw [nonA r1 (fun i h => by cases h) p1]; rfl)
theorem rd_notN {x : TV.D} (ha : Rd K ta δ (.d x) δ1) : Rd K (tNotN ta) δ (.d (.bl (!isNonA (.d x)))) δ1 := fun z M σ H r Q q =>
  ha z M σ H r _ fun M1 v H1 e1 r1 p1 => q M1 _ H1 e1 r1 (by rw [nonA r1 (fun i h => by cases h) p1]; rfl)
/-! isinstance -/
def tyA (δ : Env) : Arg → Option String
  | .d (.bl _) => some "bool"
  | .d (.int _) => some "int"
  | .d (.str _) => some "str"
  | .d (.lst _) => some "list"
  | .d (.tup _) => some "tuple"
  | .d .non => some "NoneType"
  | .sl i => match δ[i]? with
    | some (some (.ls _)) => some "list"
    | some (some (.ll _)) => some "list"
    | _ => none
  | _ => none
theorem RR.ty {z : Z} {M H : Hp} {σ : L2.St} (r : RR K z M σ H δ) {x : Arg} {n : String} {v : V} (h : tyA δ x = some n) (ok : ArgOk K M σ x v) : TyX K H v (.type n) := by
  unfold tyA at h
  split at h
  · cases h; cases (show v = .bl _ from ok); exact .base (.bl _)
  · cases h; cases (show v = .int _ from ok); exact .base (.int _)
  · cases h; cases (show v = .str _ from ok); exact .base (.str _)
  · cases h; obtain ⟨a, vs, rfl, h2, _⟩ := ok; exact .base (.lst (r.ex _ _ h2))
  · cases h
    obtain ⟨a, vs, rfl, h2, _⟩ := ok
    rcases Same.sqT r.ex h2 with (h2 | ⟨o, h2⟩) | ⟨o, its, m, h2, h3, _⟩
    · exact .base (.tup h2)
    · exact .fTuple h2
    · exact .kTuple h2 h3
  · cases h; cases (show v = .non from ok); exact .base .non
  · split at h
    · rename_i i _ ds e
      cases h
      obtain ⟨u, hu, P, ow, _⟩ := r.at e
      obtain ⟨a, vs, rfl, h2, h3, h4⟩ := ow
      have ok : σ[i]? = some (some v) := ok
      rw [ok] at hu
      cases hu
      exact .base (.lst h3)
    · rename_i i _ ds e
      cases h
      obtain ⟨u, hu, P, ow, _⟩ := r.at e
      obtain ⟨a, as, rfl, h2, h3, h4, h5, h6⟩ := ow
      have ok : σ[i]? = some (some v) := ok
      rw [ok] at hu
      cases hu
      exact .base (.lst h5)
    · cases h
  · cases h
theorem rd_isi {r : Arg} {n c : String} {b : Bool} (ha : Rd K ta δ r δ1) (h : tyA δ1 r = some n) (k : PySem.W.kitOne K (.type n) (.type c) = some b) : Rd K (tCB (rIsi K) (tCons ta (tCons (tC (.ty c)) tNil))) δ (.d (.bl b)) δ1 :=
  rd_cb (ra_cons ha (ra_cons rd_ty ra_nil)) fun z M σ vs H r p Q q => by
    obtain ⟨v, w, rfl, h1, h2⟩ := args2 p
    cases (show w = .ty c from h2)
    exact ⟨v, .ty c, .type n, .type c, b, rfl, .ty c, r.ty h h1, k, q _ rfl⟩
theorem rd_isiT2 {r : Arg} {n c1 c2 : String} {b : Bool} (ha : Rd K ta δ r δ1) (h : tyA δ1 r = some n) (k : PySem.W.kitAny K (.type n) [.type c1, .type c2] = some b) : Rd K (tCB (rIsiT K) (tCons ta (tCons (tTup (tCons (tC (.ty c1)) (tCons (tC (.ty c2)) tNil))) tNil))) δ (.d (.bl b)) δ1 := fun z M σ H r0 Q q =>
  ha z M σ H r0 _ fun M1 v H1 e1 r1 p1 => by
    refine ⟨by show 2 ≤ sizeLine; decide, fun p hp => ?_⟩
    obtain ⟨s2, r2⟩ := r1.laid (o := .tup [.ty c1, .ty c2]) hp
    exact ⟨v, p, [.ty c1, .ty c2], .type n, [.type c1, .type c2], b, rfl, upd_same, .cons (.ty c1) (.cons (.ty c2) .nil), r2.ty h (p1.mono s2), k, q _ _ _ (e1.trans s2) r2 rfl⟩
/-- sorted(xs) of whole numbers -/
def sortI (ns : List Int) : List Int := ns.mergeSort (fun a b => decide (a ≤ b))
theorem sortI_perm (ns : List Int) : (sortI ns).Perm ns := List.mergeSort_perm _ _
theorem sortI_sorted (ns : List Int) : (sortI ns).Pairwise (· ≤ ·) := by
  have h := List.pairwise_mergeSort (le := fun a b : Int => decide (a ≤ b)) (fun a b c h1 h2 => by simp at *; omega) (fun a b => by simp; omega) ns
  exact h.imp fun h => by simpa using h
theorem sorted_one {a b : List Int} (p : a.Perm b) (h1 : a.Pairwise (· ≤ ·)) (h2 : b.Pairwise (· ≤ ·)) : a = b :=
  List.Perm.eq_of_pairwise (le := (· ≤ ·)) (fun x y _ _ h1 h2 => Int.le_antisymm h1 h2) h1 h2 p
theorem ro_sorted {r : Arg} {ns : List Int} (ha : Rd K ta δ r δ1) (hv : viewL δ1 r = some (ns.map TV.D.int)) : Ro K (tCB (rSortedI K) (tCons ta tNil)) δ (.ls ((sortI ns).map TV.D.int)) δ1 :=
  ro_cb (ra_cons ha ra_nil) fun z M σ vs H r p Q q => by
    obtain ⟨v, rfl, h1⟩ := args1 p
    obtain ⟨a, us, rfl, h2, h3⟩ := r.view hv h1
    rw [h3.ints_of] at h2
    refine ⟨a, ns, rfl, h2, fun ns' p hp hs hn => q p _ hn ?_⟩
    rw [sorted_one (hp.trans (sortI_perm ns).symm) hs (sortI_sorted ns)]
    exact RpL.ints _
/-! a part of a pair that came back -/
theorem ro_fst {τ1 τ2 : T} (ha : Ro K ta δ (.pr τ1 τ2) δ1) : Ro K (tOp (rIxT K) ta (tC (.int 0))) δ τ1 δ1 := fun z M σ H r Q q =>
  ha z M σ H r _ fun M1 v H1 e1 r1 => by
    obtain ⟨⟨ex, ln, ω, w1, w2, w3⟩, l⟩ := r1
    obtain ⟨u, hu, a, x, y, P1, P2, h1, h2, h3, h4, h5, h6, h7⟩ := w3 _ _ get_top
    have ln' : (σ ++ z.s).length = (δ1 ++ z.e).length := by simp only [List.length_append, List.length_singleton] at ln ⊢; omega
    rw [← ln', get_top] at hu
    cases hu
    subst h1
    refine ⟨a, [x, y], 0, x, rfl, rfl, .inl (.inl h2), rfl, q M1 x H1 e1 ⟨⟨ex, by simp only [List.length_append, List.length_singleton] at ln' ⊢; omega, fun i b => if i = (δ1 ++ z.e).length then P1 b else ω i b, fun i j b g1 g2 => ?_, fun i b g1 => ?_, fun i t ht => ?_⟩, l⟩⟩
    · by_cases hi : i = (δ1 ++ z.e).length <;> by_cases hj : j = (δ1 ++ z.e).length <;> simp only [hi, hj, if_true, if_false] at g1 g2
      · omega
      · exact (hj (w1 _ _ _ g2 (h3 b g1))).elim
      · exact (hi (w1 _ _ _ g1 (h3 b g2))).elim
      · exact w1 _ _ _ g1 g2
    · by_cases hi : i = (δ1 ++ z.e).length <;> simp only [hi, if_true, if_false] at g1
      · exact w2 _ _ (h3 b g1)
      · exact w2 _ _ g1
    · rcases get_push ht with g | ⟨g, g'⟩
      · obtain ⟨u, hu, ow⟩ := w3 i t (get_left g)
        have hi := (List.getElem?_eq_some_iff.mp g).1
        rcases get_push hu with g2 | ⟨g2, _⟩
        · refine ⟨u, get_left g2, ?_⟩
          have hne : i ≠ (δ1 ++ z.e).length := by omega
          simp only [hne, if_false]
          exact ow
        · omega
      · cases g'
        subst g
        refine ⟨x, by rw [← ln']; exact get_top, ?_⟩
        simp only [if_true]
        exact h6
theorem ro_snd {τ1 τ2 : T} (ha : Ro K ta δ (.pr τ1 τ2) δ1) : Ro K (tOp (rIxT K) ta (tC (.int 1))) δ τ2 δ1 := fun z M σ H r Q q =>
  ha z M σ H r _ fun M1 v H1 e1 r1 => by
    obtain ⟨⟨ex, ln, ω, w1, w2, w3⟩, l⟩ := r1
    obtain ⟨u, hu, a, x, y, P1, P2, h1, h2, h3, h4, h5, h6, h7⟩ := w3 _ _ get_top
    have ln' : (σ ++ z.s).length = (δ1 ++ z.e).length := by simp only [List.length_append, List.length_singleton] at ln ⊢; omega
    rw [← ln', get_top] at hu
    cases hu
    subst h1
    refine ⟨a, [x, y], 1, y, rfl, rfl, .inl (.inl h2), rfl, q M1 y H1 e1 ⟨⟨ex, by simp only [List.length_append, List.length_singleton] at ln' ⊢; omega, fun i b => if i = (δ1 ++ z.e).length then P2 b else ω i b, fun i j b g1 g2 => ?_, fun i b g1 => ?_, fun i t ht => ?_⟩, l⟩⟩
    · by_cases hi : i = (δ1 ++ z.e).length <;> by_cases hj : j = (δ1 ++ z.e).length <;> simp only [hi, hj, if_true, if_false] at g1 g2
      · omega
      · exact (hj (w1 _ _ _ g2 (h4 b g1))).elim
      · exact (hi (w1 _ _ _ g1 (h4 b g2))).elim
      · exact w1 _ _ _ g1 g2
    · by_cases hi : i = (δ1 ++ z.e).length <;> simp only [hi, if_true, if_false] at g1
      · exact w2 _ _ (h4 b g1)
      · exact w2 _ _ g1
    · rcases get_push ht with g | ⟨g, g'⟩
      · obtain ⟨u, hu, ow⟩ := w3 i t (get_left g)
        have hi := (List.getElem?_eq_some_iff.mp g).1
        rcases get_push hu with g2 | ⟨g2, _⟩
        · refine ⟨u, get_left g2, ?_⟩
          have hne : i ≠ (δ1 ++ z.e).length := by omega
          simp only [hne, if_false]
          exact ow
        · omega
      · cases g'
        subst g
        refine ⟨y, by rw [← ln']; exact get_top, ?_⟩
        simp only [if_true]
        exact h7
/-- (a, b) of two slots' own things: both are handed on -/
theorem ro_pair {i j : Nat} {τ1 τ2 : T} (h1 : δ[i]? = some (some τ1)) (h2 : δ[j]? = some (some τ2)) (hij : i ≠ j) : Ro K (tTup (tCons (tVar i) (tCons (tVar j) tNil))) δ (.pr τ1 τ2) ((δ.set i none).set j none) := fun z M σ H r Q q => by
  obtain ⟨v, hv, _⟩ := r.at h1
  obtain ⟨w, hw, _⟩ := r.at h2
  refine ⟨v, hv, w, hw, by show 2 ≤ sizeLine; decide, fun p hp => ?_⟩
  obtain ⟨s1, r1⟩ := r.laid (o := .tup [v, w]) hp
  have r2 : R K M (σ ++ z.s) (upd H p (.tup [v, w])) (δ ++ z.e) := r.r.grow (same_upd hp)
  obtain ⟨ex, ln, ω, w1, w2, w3⟩ := r2
  have l1 := (List.getElem?_eq_some_iff.mp h1).1
  have l2 := (List.getElem?_eq_some_iff.mp h2).1
  obtain ⟨v', hv', o1⟩ := w3 i _ (get_leftL h1)
  obtain ⟨w', hw', o2⟩ := w3 j _ (get_leftL h2)
  rw [get_leftL hv] at hv'
  rw [get_leftL hw] at hw'
  cases hv'
  cases hw'
  have ee : (((δ.set i none).set j none) ++ z.e).length = (δ ++ z.e).length := by simp
  refine q M _ _ (Same.refl M) ⟨⟨ex, by simp only [List.length_append, List.length_singleton, List.length_set] at ln ⊢; omega, fun k b => if k = (δ ++ z.e).length then ω i b ∨ ω j b else if k = i ∨ k = j then False else ω k b, fun k m b g1 g2 => ?_, fun k b g1 => ?_, fun k t ht => ?_⟩, by simp [r.ln]⟩
  · have li : i ≠ (δ ++ z.e).length := by simp only [List.length_append]; omega
    have lj : j ≠ (δ ++ z.e).length := by simp only [List.length_append]; omega
    by_cases hk : k = (δ ++ z.e).length <;> by_cases hm : m = (δ ++ z.e).length <;> simp only [hk, hm, if_true, if_false] at g1 g2
    · omega
    · split at g2
      · exact g2.elim
      · rename_i hn
        rcases g1 with g1 | g1
        · exact absurd (.inl (w1 _ _ _ g2 g1)) hn
        · exact absurd (.inr (w1 _ _ _ g2 g1)) hn
    · split at g1
      · exact g1.elim
      · rename_i hn
        rcases g2 with g2 | g2
        · exact absurd (.inl (w1 _ _ _ g1 g2)) hn
        · exact absurd (.inr (w1 _ _ _ g1 g2)) hn
    · split at g1
      · exact g1.elim
      · split at g2
        · exact g2.elim
        · exact w1 _ _ _ g1 g2
  · by_cases hk : k = (δ ++ z.e).length <;> simp only [hk, if_true, if_false] at g1
    · rcases g1 with g1 | g1
      · exact w2 _ _ g1
      · exact w2 _ _ g1
    · split at g1
      · exact g1.elim
      · exact w2 _ _ g1
  · rcases get_push ht with g | ⟨g, g'⟩
    · have hkl := (List.getElem?_eq_some_iff.mp g).1
      rw [ee] at hkl
      have hki : k ≠ i ∧ k ≠ j := by
        constructor
        · rintro rfl
          rw [List.getElem?_append_left (by simpa using l1), List.getElem?_set_ne (Ne.symm hij), List.getElem?_set_self l1] at g
          cases g
        · rintro rfl
          rw [List.getElem?_append_left (by simpa using l2), List.getElem?_set_self (by simpa using l2)] at g
          cases g
      have g0 : (δ ++ z.e)[k]? = some (some t) := by
        by_cases hd : k < δ.length
        · rw [List.getElem?_append_left (by simpa using hd), List.getElem?_set_ne (Ne.symm hki.2), List.getElem?_set_ne (Ne.symm hki.1)] at g
          rw [List.getElem?_append_left hd]
          exact g
        · rw [List.getElem?_append_right (by simp; omega)] at g
          rw [List.getElem?_append_right (by omega)]
          simpa using g
      obtain ⟨u, hu, ow⟩ := w3 k t g0
      refine ⟨u, get_left hu, ?_⟩
      have hne : k ≠ (δ ++ z.e).length := by omega
      simp only [hne, hki.1, hki.2, if_false, or_self]
      exact ow
    · cases g'
      rw [ee] at g
      subst g
      have le : (σ ++ z.s).length = (δ ++ z.e).length := by simpa using ln
      refine ⟨.ref p, by rw [← le]; exact get_top, p, v, w, ω i, ω j, rfl, upd_same, fun b hb => ?_, fun b hb => ?_, fun b b1 b2 => hij (w1 _ _ _ b1 b2), o1, o2⟩
      · simp only [if_true]; exact .inl hb
      · simp only [if_true]; exact .inr hb
end
end TV

namespace TV
open PySem PySem.Spec PyProof.Rows L2
/-! ### rules that a printed term uses -/
def tOrE (t t' : TE) : TE := fun σ H Q => t σ H Q ∨ t' σ H Q
def rAddX : R2 := fun x y H Q => rI0 (fun i j => .int (i + j)) x y H Q ∨ rCat x y H Q ∨ ∃ i j, x = .str i ∧ y = .str j ∧ i.length + j.length ≤ sizeLine ∧ Q (.str (i ++ j)) H
/-- * of two factors of together less than a hundred million bits -/
def CMulB (i j : Int) : Prop := i.natAbs.log2 + j.natAbs.log2 < 100000000
theorem CMulB.ok {i j : Int} (h : CMulB i j) : IntMulOk i j := by
  have b : ∀ x : Int, Builtin.Int.intBits x ≤ x.natAbs.log2 + 1 := fun x => by
    unfold Builtin.Int.intBits
    split <;> omega
  have h1 := b i
  have h2 := b j
  have h3 : i.natAbs.log2 + j.natAbs.log2 < 100000000 := h
  have e : bitsLine = 134217728 := by decide
  unfold IntMulOk
  intro z
  rw [Bool.and_eq_true] at z
  have z2 := z.2
  unfold Builtin.Int.intTooBig at z2
  have z3 := of_decide_eq_true z2
  rw [e] at z3
  omega
theorem op_mulB {X : Cx} : OpR X (binaryOp .Mult) (rI CMulB fun i j => .int (i * j)) := opI fun _ _ _ _ _ _ _ hc q => mul_int q hc.ok
theorem big_mul {i j : Int} {a b : Nat} (ha : i.natAbs < 2 ^ a) (hb : j.natAbs < 2 ^ b) (h0 : 0 < a) (h1 : 0 < b) (h : a + b ≤ 10000000) : CMulB i j := by
  have x := PySem.Flt.log2_lt_of h0 ha
  have y := PySem.Flt.log2_lt_of h1 hb
  unfold CMulB
  omega
def rMulX : R2 := fun x y H Q => rI CMulB (fun i j => .int (i * j)) x y H Q ∨ rRep x y H Q
def rEqX (K : PySem.W.Frag) (u : Nat) : R2 := fun x y H Q => rEq x y H Q ∨ rEqP K u x y H Q
def rNeX (K : PySem.W.Frag) (u : Nat) : R2 := fun x y H Q => rNe x y H Q ∨ rNeP K u x y H Q
/-- a def that is called: its promise, its place, how its arguments bind -/
structure Cal (P : Program) (w : World) (K : PySem.W.Frag) (mg : Str → Option Value) (base : Heap) (k : Nat) (x : Str) (ps : List Str) (c : Con) : Prop where
  ex : ∃ f fd, FnOk P w K mg base CX0 k f fd ps (spOf K c) ∧ mg x = some (.ref f) ∧ PySem.W.keepIn K (.ref f) = true ∧ Binds K fd ps []
/-- .. by keywords alone -/
structure CalK (P : Program) (w : World) (K : PySem.W.Frag) (mg : Str → Option Value) (base : Heap) (k : Nat) (x : Str) (ps ks : List Str) (gV : List V → List V → List V) (c : Con) : Prop where
  ex : ∃ f fd g, FnOk P w K mg base CX0 k f fd ps (spOf K c) ∧ mg x = some (.ref f) ∧ PySem.W.keepIn K (.ref f) = true ∧ KBinds K fd ps ks g gV
section
variable {X : Cx} {e a b : Expr} {es : List Expr} {pos pos' : Pos} {t t' ta tb te : TE}
theorem pe_or (h : PE X e t) (h' : PE X e t') : PE X e (tOrE t t') := ⟨fun pins s σ H Q I q => q.elim (h.run pins s σ H Q I) (h'.run pins s σ H Q I)⟩
theorem op_addX : OpR X (binaryOp .Add) rAddX := op_add.or (op_cat.or op_add_str)
theorem op_mulX : OpR X (binaryOp .Mult) rMulX := op_mulB.or op_rep
theorem op_eqX (hu : X.A.units + 64 < cLine) : OpR X (compareOp .Eq) (rEqX X.K X.A.units) := op_eq.or (op_eqP hu)
theorem op_neX (hu : X.A.units + 64 < cLine) : OpR X (compareOp .NotEq) (rNeX X.K X.A.units) := op_ne.or (op_neP hu)
theorem pcall {k m : Nat} {x : Str} {ps : List Str} {c : Con} {p : Pos} {tx : TA} (C : Cal X.prog X.w X.K X.mg X.base k x ps c) (hr : Room m X.A) (hk : k ≤ m) (hg : Gl X x) (ha : PA X (e :: es) tx)
    (hdb : (x == ("__debug__" : Str)) = false := by decide) (he : starEach (e :: es) X.env = (false, eval e X.env) :: starEach es X.env := by rfl) (hpl : (backTo pos (starEach es X.env)).any (·.1) = false := by rfl) : PE X (.Call (.Name x p) (e :: es) [] pos) (tCall (spOf X.K c) [] E0 tx) := by
  obtain ⟨f, fd, F, hm, hkp, hb⟩ := C.ex
  exact pe_call F (hr.mono hk) hg hm hkp hb .nil pass0 ha hdb he hpl
def tCallK0 (sp : Sp) (gV : List V → List V → List V) (E : XK) (tk : TA) : TE := fun σ H Q => tk σ H fun zs H1 => sp (gV [] zs) H1 Q E
theorem pcallK {k m : Nat} {x : Str} {ps ks : List Str} {c : Con} {p : Pos} {tk : TA} {kws : List Keyword} {gV : List V → List V → List V} (C : CalK X.prog X.w X.K X.mg X.base k x ps ks gV c) (hr : Room m X.A) (hk : k ≤ m) (hg : Gl X x) (hkw : PK X kws tk)
    (hall : (backToKw pos (keywordEach kws X.env)).all (·.1.isSome) = true := by rfl) (hks : (backToKw pos (keywordEach kws X.env)).filterMap (·.1) = ks := by rfl)
    (hdb : (x == ("__debug__" : Str)) = false := by decide) (hpl : ((backTo pos (starEach [] X.env)).any (·.1) || (backToKw pos (keywordEach kws X.env)).any (·.1.isNone)) = false := by rfl) : PE X (.Call (.Name x p) [] kws pos) (tCallK0 (spOf X.K c) gV E0 tk) := by
  obtain ⟨f, fd, g, F, hm, hkp, hb⟩ := C.ex
  refine ⟨fun pins s σ H Q I h => ?_⟩
  refine wpAny_Call_Name_kw (ld_glob I hg hm ?_ hdb)
  refine PySem.W.callWith_KW0 (h₀ := X.base) I.ok.mod.kin hkp hall (thn (hkw.run pos pins s σ H _ I h) fun ws s2 ⟨zs, H2, I2, rz, q2⟩ => ⟨I2.kIn, ?_⟩) hpl
  rw [hks]
  exact run_fnk (F.mono hk) hr hb pass0 I2 .nil rz q2
/-- x = e, x a name of the def -/
theorem qset (i : Nat) {x : Str} {te : TE} (he : PE X e te) (nd : X.N.Nodup) (hi : X.N[i]? = some x := by rfl) (hx : Loc X.env.scope x := by first | exact .inl rfl | exact .inr rfl) (hs : swapsWith e (some (.Name x pos')) pos.line X.env = pure false := by rfl) (hf : X.fn x = true ∨ X.env.scope.names.lookup x = some .local := by first | exact .inl rfl | exact .inr rfl) :
    PS X (.Assign [.Name x pos'] e pos) (tAsg te (gName i)) := ps_set nd hi hx he hs hf
theorem gnm (i : Nat) {x : Str} (nd : X.N.Nodup) (hi : X.N[i]? = some x := by rfl) (hx : Loc X.env.scope x := by first | exact .inl rfl | exact .inr rfl) (hf : X.fn x = true ∨ X.env.scope.names.lookup x = some .local := by first | exact .inl rfl | exact .inr rfl) : PG X (.Name x pos) (gName i) := pg_name nd hi hx hf
end
/-! ### what they evaluate to -/
section
variable {K : PySem.W.Frag} {ps : List Nat} {δ δ1 δ2 δ3 : Env} {ta tb te te' : TE} {tt tu : TT} {t u : TS} {D : EndT}
theorem rd_orL {r : Arg} (h : Rd K ta δ r δ1) : Rd K (tOrE ta tb) δ r δ1 := fun z M σ H r Q q => .inl (h z M σ H r Q q)
theorem rd_orR {r : Arg} (h : Rd K tb δ r δ1) : Rd K (tOrE ta tb) δ r δ1 := fun z M σ H r Q q => .inr (h z M σ H r Q q)
theorem ro_orL {τ : T} (h : Ro K ta δ τ δ1) : Ro K (tOrE ta tb) δ τ δ1 := fun z M σ H r Q q => .inl (h z M σ H r Q q)
theorem ro_orR {τ : T} (h : Ro K tb δ τ δ1) : Ro K (tOrE ta tb) δ τ δ1 := fun z M σ H r Q q => .inr (h z M σ H r Q q)
theorem rd_addI {i j : Int} (ha : Rd K ta δ (.d (.int i)) δ1) (hb : Rd K tb δ1 (.d (.int j)) δ2) : Rd K (tOp rAddX ta tb) δ (.d (.int (i + j))) δ2 :=
  rd_op2 ha hb fun M v w H h1 h2 Q q => .inl ⟨i, j, h1, h2, q _ rfl⟩
theorem rd_subI {i j : Int} (ha : Rd K ta δ (.d (.int i)) δ1) (hb : Rd K tb δ1 (.d (.int j)) δ2) : Rd K (tOp (rI0 fun i j => .int (i - j)) ta tb) δ (.d (.int (i - j))) δ2 := rd_opI ha hb
theorem rd_mulI {i j : Int} (ha : Rd K ta δ (.d (.int i)) δ1) (hb : Rd K tb δ1 (.d (.int j)) δ2) (hc : CMulB i j) : Rd K (tOp rMulX ta tb) δ (.d (.int (i * j))) δ2 :=
  rd_op2 ha hb fun M v w H h1 h2 Q q => .inl ⟨i, j, h1, h2, hc, q _ rfl⟩
theorem rd_modI {i j : Int} (ha : Rd K ta δ (.d (.int i)) δ1) (hb : Rd K tb δ1 (.d (.int j)) δ2) (hc : 0 < j) : Rd K (tOp (rI (fun _ j => 0 < j) fun i j => .int (i % j)) ta tb) δ (.d (.int (i % j))) δ2 := rd_opC ha hb hc
theorem rd_divI {i j : Int} (ha : Rd K ta δ (.d (.int i)) δ1) (hb : Rd K tb δ1 (.d (.int j)) δ2) (hc : CDivW i j) : Rd K (tOp (rI CDivW fun i j => .int (i / j)) ta tb) δ (.d (.int (i / j))) δ2 := rd_opC ha hb hc
theorem rd_powI {i j : Int} (ha : Rd K ta δ (.d (.int i)) δ1) (hb : Rd K tb δ1 (.d (.int j)) δ2) (hc : CPow i j) : Rd K (tOp (rI CPow fun i j => .int (i ^ j.toNat)) ta tb) δ (.d (.int (i ^ j.toNat))) δ2 := rd_opC ha hb hc
theorem rd_addL {r s : Arg} {ds es : List TV.D} (ha : Rd K ta δ r δ1) (hb : Rd K tb δ1 s δ2) (hv : dirL δ2 r = some ds) (hw : dirL δ2 s = some es) (hl : ds.length + es.length ≤ 100000) : Ro K (tOp rAddX ta tb) δ (.ls (ds ++ es)) δ2 := fun z M σ H r0 Q q =>
  ha z M σ H r0 _ fun M1 v H1 e1 r1 p1 => hb z M1 σ H1 r1 _ fun M2 w H2 e2 r2 p2 => by
    obtain ⟨a, vs, rfl, h1, h2⟩ := r2.dir hv (p1.mono e2)
    obtain ⟨b, ws, rfl, h3, h4⟩ := r2.dir hw p2
    exact .inr (.inl ⟨a, b, vs, ws, rfl, rfl, h1, h3, by rw [← h2.length, ← h4.length]; exact Nat.le_trans hl (by decide), fun p hp => q M2 _ _ (e1.trans e2) (r2.pushNew hp trivial fun P pp => ⟨p, _, rfl, pp, upd_same, h2.append h4⟩)⟩)
theorem rd_eqXI {m : Nat} {i j : Int} (ha : Rd K ta δ (.d (.int i)) δ1) (hb : Rd K tb δ1 (.d (.int j)) δ2) : Rd K (tOp (rEqX K m) ta tb) δ (.d (.bl (decide (i = j)))) δ2 :=
  rd_op2 ha hb fun M v w H h1 h2 Q q => by cases h1; cases h2; exact .inl ⟨rfl, q _ (by simp [Rp])⟩
theorem rd_neXI {m : Nat} {i j : Int} (ha : Rd K ta δ (.d (.int i)) δ1) (hb : Rd K tb δ1 (.d (.int j)) δ2) : Rd K (tOp (rNeX K m) ta tb) δ (.d (.bl (!decide (i = j)))) δ2 :=
  rd_op2 ha hb fun M v w H h1 h2 Q q => by cases h1; cases h2; exact .inl ⟨rfl, q _ (by simp [Rp])⟩
theorem rd_eqXB {m : Nat} {i j : Bool} (ha : Rd K ta δ (.d (.bl i)) δ1) (hb : Rd K tb δ1 (.d (.bl j)) δ2) : Rd K (tOp (rEqX K m) ta tb) δ (.d (.bl (decide (i = j)))) δ2 :=
  rd_op2 ha hb fun M v w H h1 h2 Q q => by cases h1; cases h2; exact .inl ⟨rfl, q _ (by simp [Rp])⟩
theorem rd_neXB {m : Nat} {i j : Bool} (ha : Rd K ta δ (.d (.bl i)) δ1) (hb : Rd K tb δ1 (.d (.bl j)) δ2) : Rd K (tOp (rNeX K m) ta tb) δ (.d (.bl (!decide (i = j)))) δ2 :=
  rd_op2 ha hb fun M v w H h1 h2 Q q => by cases h1; cases h2; exact .inl ⟨rfl, q _ (by simp [Rp])⟩
theorem rd_eqXS {m : Nat} {i j : Str} (ha : Rd K ta δ (.d (.str i)) δ1) (hb : Rd K tb δ1 (.d (.str j)) δ2) : Rd K (tOp (rEqX K m) ta tb) δ (.d (.bl (decide (i = j)))) δ2 :=
  rd_op2 ha hb fun M v w H h1 h2 Q q => by cases h1; cases h2; exact .inl ⟨rfl, q _ (by simp [Rp])⟩
theorem rd_neXS {m : Nat} {i j : Str} (ha : Rd K ta δ (.d (.str i)) δ1) (hb : Rd K tb δ1 (.d (.str j)) δ2) : Rd K (tOp (rNeX K m) ta tb) δ (.d (.bl (!decide (i = j)))) δ2 :=
  rd_op2 ha hb fun M v w H h1 h2 Q q => by cases h1; cases h2; exact .inl ⟨rfl, q _ (by simp [Rp])⟩
theorem rd_eqXP {m : Nat} {r s : Arg} {x y : TV.D} (ha : Rd K ta δ r δ1) (hb : Rd K tb δ1 s δ2) (hx : TV.datA δ2 r = some x) (hy : TV.datA δ2 s = some y) (ox : okD 16 x = true) (oy : noTy y = true) : Rd K (tOp (rEqX K m) ta tb) δ (.d (.bl (PyData.eqv (py x) (py y)))) δ2 := fun z M σ H r0 Q q =>
  ha z M σ H r0 _ fun M1 v H1 e1 r1 p1 => hb z M1 σ H1 r1 _ fun M2 w H2 e2 r2 p2 => by
    obtain ⟨Ma, ea, sa, pa⟩ := r2.datA hx (p1.mono e2)
    obtain ⟨Mb, eb, sb, pb⟩ := r2.datA hy p2
    exact .inr ⟨py x, py y, pa.dp sa (okD_py ox), pb.dp sb oy, py_plain x, py_plain y, okD_depth ox, q M2 _ H2 (e1.trans e2) r2 rfl⟩
theorem rd_neXP {m : Nat} {r s : Arg} {x y : TV.D} (ha : Rd K ta δ r δ1) (hb : Rd K tb δ1 s δ2) (hx : TV.datA δ2 r = some x) (hy : TV.datA δ2 s = some y) (ox : okD 16 x = true) (oy : noTy y = true) : Rd K (tOp (rNeX K m) ta tb) δ (.d (.bl (!PyData.eqv (py x) (py y)))) δ2 := fun z M σ H r0 Q q =>
  ha z M σ H r0 _ fun M1 v H1 e1 r1 p1 => hb z M1 σ H1 r1 _ fun M2 w H2 e2 r2 p2 => by
    obtain ⟨Ma, ea, sa, pa⟩ := r2.datA hx (p1.mono e2)
    obtain ⟨Mb, eb, sb, pb⟩ := r2.datA hy p2
    exact .inr ⟨py x, py y, pa.dp sa (okD_py ox), pb.dp sb oy, py_plain x, py_plain y, okD_depth ox, q M2 _ H2 (e1.trans e2) r2 rfl⟩
theorem rd_ixX {r : Arg} {ds : List TV.D} {k : Int} {x : TV.D} (ha : Rd K ta δ r δ1) (hb : Rd K tb δ1 (.d (.int k)) δ2) (hv : viewL δ2 r = some ds) (hx : atI ds k = some x) : Rd K (tOp (rIx K) ta tb) δ (.d x) δ2 := fun z M σ H r0 Q q =>
  ha z M σ H r0 _ fun M1 v H1 e1 r1 p1 => hb z M1 σ H1 r1 _ fun M2 w H2 e2 r2 p2 => by
    obtain ⟨a, vs, h1, h2, h3⟩ := r2.view hv (p1.mono e2)
    obtain ⟨z, hz, rz⟩ := atI_rp h3 hx
    exact .inl ⟨a, vs, k, z, h1, p2, h2, hz, q M2 z H2 (e1.trans e2) r2 rz⟩
theorem rd_ixXT {ds : List TV.D} {k : Int} {x : TV.D} (ha : Rd K ta δ (.d (.tup ds)) δ1) (hb : Rd K tb δ1 (.d (.int k)) δ2) (hx : atI ds k = some x) : Rd K (tOp (rIx K) ta tb) δ (.d x) δ2 := fun z M σ H r0 Q q =>
  ha z M σ H r0 _ fun M1 v H1 e1 r1 p1 => hb z M1 σ H1 r1 _ fun M2 w H2 e2 r2 p2 => by
    obtain ⟨a, vs, h1, h2, h3⟩ := p1.mono e2
    obtain ⟨z, hz, rz⟩ := atI_rp h3 hx
    exact .inr (.inl ⟨a, vs, k, z, h1, p2, Same.sqT r2.ex h2, hz, q M2 z H2 (e1.trans e2) r2 rz⟩)
theorem rd_orT {r : Arg} {b : Bool} (ha : Rd K ta δ r δ1) (h : truA δ1 r = some b) {s : Arg} (h1 : b = true → r = s) (h2 : b = false → Rd K tb δ1 s δ1) : Rd K (tOrT K ta tb) δ s δ1 := fun z M σ H r0 Q q =>
  ha z M σ H r0 _ fun M1 v H1 e1 r1 p1 => ⟨b, r1.tru h p1, by
    cases b with
    | true => rw [if_pos rfl]; exact q M1 v H1 e1 r1 (h1 rfl ▸ p1)
    | false => rw [if_neg Bool.false_ne_true]; exact h2 rfl z M1 σ H1 r1 Q fun M2 w H2 e2 => q M2 w H2 (e1.trans e2)⟩
theorem rd_orTB {a b : Bool} (ha : Rd K ta δ (.d (.bl a)) δ1) (h2 : a = false → Rd K tb δ1 (.d (.bl b)) δ1) : Rd K (tOrT K ta tb) δ (.d (.bl (a || b))) δ1 := rd_orT ha rfl (fun h => by rw [h]; rfl) fun h => by rw [h]; exact h2 h
theorem rd_andTB {a b : Bool} (ha : Rd K ta δ (.d (.bl a)) δ1) (h2 : a = true → Rd K tb δ1 (.d (.bl b)) δ2) (d3 : δ3 = if a = true then δ2 else δ1) : Rd K (tAndT K ta tb) δ (.d (.bl (a && b))) δ3 := fun z M σ H r0 Q q =>
  ha z M σ H r0 _ fun M1 v H1 e1 r1 p1 => ⟨a, r1.tru rfl p1, by
    cases a with
    | false => rw [if_neg Bool.false_ne_true]; exact q M1 v H1 e1 (d3 ▸ r1) p1
    | true => rw [if_pos rfl]; exact h2 rfl z M1 σ H1 r1 Q fun M2 w H2 e2 r2 p2 => q M2 w H2 (e1.trans e2) (d3 ▸ r2) p2⟩
theorem rd_notT {r : Arg} {b : Bool} (ha : Rd K ta δ r δ1) (h : truA δ1 r = some b) : Rd K (tNotT K ta) δ (.d (.bl (!b))) δ1 := fun z M σ H r0 Q q =>
  ha z M σ H r0 _ fun M1 v H1 e1 r1 p1 => ⟨b, r1.tru h p1, q M1 _ H1 e1 r1 rfl⟩
/-- a call by keywords -/
theorem ro_callK {c : Con} {E : XK} {gV : List V → List V → List V} {tk : TA} {rs rs' : List Arg} {ts outs : List T} {τ : T} (ha : Ra K tk δ rs δ1) (hg : ∀ M σ vs, ArgsOk K M σ rs vs → ArgsOk K M σ rs' (gV [] vs)) (ht : argsT δ1 none rs' = some ts) (h : ∀ Q : T → List T → Prop, Q τ outs → c ts Q) (hl : outs.length = ts.length := by rfl) (hf : flatT τ = true := by rfl) :
    Ro K (tCallK0 (spOf K c) gV E tk) δ τ δ1 := fun z M σ H r Q q =>
  ha z M σ H r _ fun M1 vs H1 e1 r1 p1 => by
    obtain ⟨Mc, rc, fin⟩ := r1.r.call (p := 0) (hg _ _ _ p1).left (argsT_left ht) (fun i z => nomatch z)
    refine ⟨Mc, ts, rc, h _ ⟨hl, fun M' v H' s r' => ?_⟩⟩
    obtain ⟨s2, r2⟩ := fin M' v H' outs τ s r' hl hf (fun i z => nomatch z)
    exact q _ v H' (e1.trans s2) ⟨r2, r1.ln⟩
end
end TV

namespace TV
open PySem PySem.Spec PyProof.Rows L2
/-- a contract of a def that changes none of its arguments -/
def rdC (n : Nat) (f : List D → (T → Prop) → Prop) : Con := fun ts Q => ∃ ds : List D, ts = ds.map T.d ∧ ds.length = n ∧ f ds fun r => Q r ts
theorem Cal.mk' {P : Program} {w : World} {K : PySem.W.Frag} {mg : Str → Option Value} {base : Heap} {x qual : Str} {st : Stmt} {f : Addr} {fd : FuncData} {params : List Str} {k : Nat} {c : Con} (F : Fun K x qual st f fd) (g : mg x = some (.ref f)) (b : L2.Binds K fd params [])
    (h : FnOk P w K mg base CX0 k f fd params (spOf K c)) : Cal P w K mg base k x params c := ⟨f, fd, h, g, F.kp, b⟩
theorem Cal.mono {P : Program} {w : World} {K : PySem.W.Frag} {mg : Str → Option Value} {base : Heap} {x : Str} {params : List Str} {k m : Nat} {c : Con} (C : Cal P w K mg base k x params c) (h : k ≤ m) : Cal P w K mg base m x params c :=
  let ⟨f, fd, a, b, d, e⟩ := C.ex
  ⟨f, fd, a.mono h, b, d, e⟩
section
variable {P : Program} {w : World} {K : PySem.W.Frag} {mg : Str → Option Value} {base : Heap} {x qual : Str} {st : Stmt} {f : Addr} {fd : FuncData} {N params : List Str} {k : Nat}
theorem outsOf_nil {ts : List T} {δ : Env} : outsOf [] ts δ = ts := by
  unfold outsOf
  apply List.ext_getElem?
  intro i
  rw [List.getElem?_mapIdx]
  cases ts[i]? <;> simp
/-- a def that changes none of its arguments, by its body -/
theorem rd_ok (m n : Nat) (fc : List D → (T → Prop) → Prop) (F : Fun K x qual st f fd) (g : mg x = some (.ref f)) (b : L2.Binds K fd params []) (S : FnScope N params (defScope st)) (hm : params.length = m) (hN : N.length = m + n)
    (hbody : ∀ (cdv : Value) (A : Around) (outer : List PySem.Env) (s : Shared) (H : Hp) (E : XK), Room k (A.deeper (envOfC qual (defScope st) s.heap.objs.size f cdv)) →
      ∃ t, PSs (cxOf CX0 P w K mg base N qual (defScope st) f cdv A outer s H E).nox (defBody st) t ∧ ∀ (ds : List D) (Q : T → Prop), fc ds Q → ds.length = m → Sd K [] t (ds.map (fun d => some (T.d d)) ++ List.replicate n none) { nx := fun _ => Q (.d .non), rt := fun τ _ => Q τ }) :
    Cal P w K mg base (k + 1) x params (rdC m fc) := by
  refine Cal.mk' F g b (con_ok [] n F S (by rw [hN, hm]) (fun ts Q h => ?_) (fun ts Q h k t hk _ => ?_) fun cdv A outer s H E hr => ?_)
  · obtain ⟨ds, rfl, hl, _⟩ := h
    rw [List.length_map, hl, hm]
  · obtain ⟨ds, rfl, _⟩ := h
    rw [List.getElem?_map] at hk
    cases e : ds[k]? with
    | none => rw [e] at hk; cases hk
    | some x => rw [e] at hk; cases hk; exact ⟨x, rfl⟩
  · obtain ⟨t, ht, hb⟩ := hbody cdv A outer s H E hr
    refine ⟨t, ht, fun ts Q h => ?_⟩
    obtain ⟨ds, rfl, hl, hf⟩ := h
    have := hb ds _ hf hl
    rw [List.map_map]
    intro z M σ H r E hE
    refine this z M σ H r E ⟨fun M' σ' H δ a1 a2 a3 a4 => hE.nx M' σ' H δ a1 a2 a3 ⟨fun k hk => by simp at hk, by rw [outsOf_nil]; exact a4⟩, fun M' σ' v H δ τ a1 a2 a3 a4 => hE.rt M' σ' v H δ τ a1 a2 a3 ⟨fun k hk => by simp at hk, by rw [outsOf_nil]; exact a4⟩, fun _ _ _ _ _ _ _ q => q.elim, fun _ _ _ _ _ _ _ q => q.elim⟩
/-- a call of such a def -/
theorem ro_callR {K : PySem.W.Frag} {δ δ1 : Env} {E : XK} {ta : TA} {rs : List Arg} {ds : List D} {τ : T} {m : Nat} {fc : List D → (T → Prop) → Prop} (ha : Ra K ta δ rs δ1) (ht : argsT δ1 none rs = some (ds.map T.d)) (h : ∀ Q : T → Prop, Q τ → fc ds Q) (hl : ds.length = m := by rfl) (hf : flatT τ = true := by rfl) :
    Ro K (tCall (spOf K (rdC m fc)) [] E ta) δ τ δ1 := ro_call ha ht (fun Q q => ⟨ds, rfl, hl, h _ q⟩) rfl hf
theorem rd_callR {K : PySem.W.Frag} {δ δ1 : Env} {E : XK} {ta : TA} {rs : List Arg} {ds : List D} {x : D} {m : Nat} {fc : List D → (T → Prop) → Prop} (ha : Ra K ta δ rs δ1) (ht : argsT δ1 none rs = some (ds.map T.d)) (h : ∀ Q : T → Prop, Q (.d x) → fc ds Q) (hl : ds.length = m := by rfl) (hf : flatD x = true := by rfl) :
    Rd K (tCall (spOf K (rdC m fc)) [] E ta) δ (.d x) δ1 := rd_call ha ht (fun Q q => ⟨ds, rfl, hl, h _ q⟩) rfl hf
end
theorem cxK {CX : CXT} {P : Program} {w : World} {K : PySem.W.Frag} {mg : Str → Option Value} {base : Heap} {N : List Str} {q : Str} {sc : Scope} {f : Addr} {cd : Value} {A : Around} {o : List PySem.Env} {s : Shared} {H : Hp} {E : XK} : (cxOf CX P w K mg base N q sc f cd A o s H E).K = K := rfl
theorem cxKn {CX : CXT} {P : Program} {w : World} {K : PySem.W.Frag} {mg : Str → Option Value} {base : Heap} {N : List Str} {q : Str} {sc : Scope} {f : Addr} {cd : Value} {A : Around} {o : List PySem.Env} {s : Shared} {H : Hp} {E : XK} : (cxOf CX P w K mg base N q sc f cd A o s H E).nox.K = K := rfl
def toDs : List Arg → Option (List TV.D)
  | [] => some []
  | .d x :: r => (toDs r).map (x :: ·)
  | _ => none
theorem toDs_eq : ∀ {rs : List Arg} {ds : List TV.D}, toDs rs = some ds → rs = ds.map Arg.d
  | [], _, h => by cases h; rfl
  | .d x :: r, ds, h => by
    unfold toDs at h
    cases e : toDs r with
    | none => rw [e] at h; cases h
    | some es => rw [e] at h; cases h; rw [toDs_eq e]; rfl
  | .sl _ :: _, _, h => by cases h
theorem ro_lst' {K : PySem.W.Frag} {δ δ1 : Env} {t : TA} {rs : List Arg} {ds : List TV.D} (h : Ra K t δ rs δ1) (e : toDs rs = some ds) (hl : Nat.ble ds.length 1000 = true) : Ro K (tLst t) δ (.ls ds) δ1 := ro_lst h (toDs_eq e) (Nat.le_of_ble_eq_true hl)
theorem rd_tup' {K : PySem.W.Frag} {δ δ1 : Env} {t : TA} {rs : List Arg} {ds : List TV.D} (h : Ra K t δ rs δ1) (e : toDs rs = some ds) (hl : Nat.ble ds.length 1000 = true) : Rd K (tTup t) δ (.d (.tup ds)) δ1 := rd_tup h (toDs_eq e) (Nat.le_of_ble_eq_true hl)
/-! short words for readings -/
end TV

namespace TV
open PySem PySem.Spec PyProof.Rows L2
/-! the rules with the kept part named: a comprehension's own reading must not hang on its block -/
section
variable {X : Cx} (K : PySem.W.Frag)
theorem kix (hK : X.K = K := by rfl) : IxR X (rIx K) := hK ▸ ix_seq
theorem ksl (hK : X.K = K := by rfl) : SlR X (rSlL K) := hK ▸ sl_list
theorem kcsum (hc : X.calm = true := by rfl) (hK : X.K = K := by rfl) : CallR X (.builtin "sum") (rSum K) := hK ▸ cr_sum hc
theorem kcall (hc : X.calm = true := by rfl) (hK : X.K = K := by rfl) : CallR X (.builtin "all") (rAll K) := hK ▸ cr_all hc
theorem kcany (hc : X.calm = true := by rfl) (hK : X.K = K := by rfl) : CallR X (.builtin "any") (rAny K) := hK ▸ cr_any hc
theorem kcsorted (hK : X.K = K := by rfl) : CallR X (.builtin "sorted") (rSortedI K) := hK ▸ cr_sortedI
theorem kcisi (hK : X.K = K := by rfl) : CallR X (.builtin "isinstance") (rIsi K) := hK ▸ call_isi
theorem kcisiT (hK : X.K = K := by rfl) : CallR X (.builtin "isinstance") (rIsiT K) := hK ▸ call_isiT
theorem kclen (hK : X.K = K := by rfl) : CallR X (.builtin "len") fun xs H Q => ∃ p ys, xs = [V.ref p] ∧ (SqL K H p ys ∨ SqT K H p ys) ∧ Q (.int ys.length) H := by
  subst hK
  exact call_len_seq
theorem kclist (hK : X.K = K := by rfl) : CallR X (.type "list") fun xs H Q => ∃ p ys, xs = [V.ref p] ∧ (SqL K H p ys ∨ SqT K H p ys) ∧ ∀ l, H l = none → Q (.ref l) (upd H l (.lst ys)) := by
  subst hK
  exact call_list_of
theorem kcmin (hu : X.A.units + 64 < cLine) (hc : X.calm = true := by rfl) (hK : X.K = K := by rfl) : CallR X (.builtin "min") (rMinP K) := hK ▸ cr_minP hc hu
theorem kcmax (hu : X.A.units + 64 < cLine) (hc : X.calm = true := by rfl) (hK : X.K = K := by rfl) : CallR X (.builtin "max") (rMaxP K) := hK ▸ cr_maxP hc hu
theorem keq (hu : X.A.units + 64 < cLine) (hK : X.K = K := by rfl) : OpR X (compareOp .Eq) (rEqX K 0) := hK ▸ (op_eqX hu : OpR X (compareOp .Eq) (rEqX X.K 0))
theorem kne (hu : X.A.units + 64 < cLine) (hK : X.K = K := by rfl) : OpR X (compareOp .NotEq) (rNeX K 0) := hK ▸ (op_neX hu : OpR X (compareOp .NotEq) (rNeX X.K 0))
theorem kin (hu : X.A.units + 64 < cLine) (hK : X.K = K := by rfl) : OpR X (compareOp .In) (rInP K false) := hK ▸ op_inP hu
theorem knotIn (hu : X.A.units + 64 < cLine) (hK : X.K = K := by rfl) : OpR X (compareOp .NotIn) (rInP K true) := hK ▸ op_notInP hu
theorem kpi_list {tg l : Expr} {tl : TE} (h : PE X l tl) (hK : X.K = K := by rfl) : PI X tg l (iList K tl) := hK ▸ pi_list h
theorem kpi_enum {e : Expr} {ta : TA} {p pos tpos : Pos} {elts : List Expr} {kk : Nat} (h1 : Gl X "enumerate") (h2 : X.mg "enumerate" = none) (h3 : PA X [e] ta) (h4 : starEach [e] X.env = [(false, eval e X.env)] := by rfl) (hK : X.K = K := by rfl) :
    PI X (.Tuple elts kk tpos) (.Call (.Name "enumerate" p) [e] [] pos) (iEnum K ta) := hK ▸ pi_enum h1 h2 h3 h4
theorem kpi_zip {e e2 : Expr} {ta : TA} {p pos tpos : Pos} {elts : List Expr} {kk : Nat} (h1 : Gl X "zip") (h2 : X.mg "zip" = none) (h3 : PA X [e, e2] ta) (h4 : starEach [e, e2] X.env = (false, eval e X.env) :: starEach [e2] X.env := by rfl) (h5 : (backTo pos (starEach [e2] X.env)).any (·.1) = false := by rfl) (hK : X.K = K := by rfl) :
    PI X (.Tuple elts kk tpos) (.Call (.Name "zip" p) [e, e2] [] pos) (iZip K ta) := hK ▸ pi_zip h1 h2 h3 h4 h5
theorem kor {a b : Expr} {ta tb : TE} {rest : List Expr} {pos : Pos} (h : PE X a ta) (h2 : PE X (.BoolOp .Or (b :: rest) pos) tb) (hK : X.K = K := by rfl) : PE X (.BoolOp .Or (a :: b :: rest) pos) (tOrT K ta tb) := hK ▸ pe_orT h h2
theorem kand {a b : Expr} {ta tb : TE} {rest : List Expr} {pos : Pos} (h : PE X a ta) (h2 : PE X (.BoolOp .And (b :: rest) pos) tb) (hK : X.K = K := by rfl) : PE X (.BoolOp .And (a :: b :: rest) pos) (tAndT K ta tb) := hK ▸ pe_andT h h2
theorem knot {a : Expr} {ta : TE} {pos : Pos} (h : PE X a ta) (hK : X.K = K := by rfl) : PE X (.UnaryOp .Not a pos) (tNotT K ta) := hK ▸ pe_notT h
def tTru (K : PySem.W.Frag) (ta : TE) : TT := fun σ H Q => ta σ H fun x H' => ∃ k, TruV K x H' k ∧ Q k H'
theorem ktruth {a : Expr} {ta : TE} (h : PE X a ta) (h2 : ∀ whole : Sem Value, PySem.isTrue a X.env whole = (do let v ← whole; standAt a.pos; holding [v] (truthy v)) := by intro _; rfl) (hK : X.K = K := by rfl) : PT X a (tTru K ta) := hK ▸ pt_truth h h2
theorem kbm {o e : Expr} {es : List Expr} {to : TE} {t : TA} {name : Str} {apos cpos : Pos} {T id : String} {r : V → List V → Hp → VK → Prop} (h1 : PlainAttrs T) (h2 : Slot T name id) (h3 : typeOf (.builtin id) = pure (.type "method_descriptor")) (h4 : MtR X id r) (h5 : PE X o to) (h6 : PA X (e :: es) t)
    (h7 : attributeBase o name X.env (eval o X.env) = eval o X.env := by rfl) (h8 : ((backTo cpos (starEach (e :: es) X.env)).all (fun x => !x.1) && (backToKw cpos (keywordEach [] X.env)).all (fun x => x.1.isSome) && decide ((e :: es).length + ([] : List Keyword).length + (if ([] : List Keyword).isEmpty then 0 else 1) < 30)) = true := by rfl)
    (h9 : (apos.endLine == cpos.line) = true := by rfl) (h10 : starEach (e :: es) X.env = (false, eval e X.env) :: starEach es X.env := by rfl) (h11 : (backTo cpos (starEach es X.env)).any (·.1) = false := by rfl) (hK : X.K = K := by rfl) :
    PE X (.Call (.Attribute o name apos) (e :: es) [] cpos) (tBM K T r to t) := hK ▸ pe_bm h1 h2 h3 h4 h5 h6 h7 h8 h9 h10 h11
theorem kbm0 {o : Expr} {to : TE} {name : Str} {apos cpos : Pos} {T id : String} {r : V → List V → Hp → VK → Prop} (h1 : PlainAttrs T) (h2 : Slot T name id) (h3 : typeOf (.builtin id) = pure (.type "method_descriptor")) (h4 : MtR X id r) (h5 : PE X o to)
    (h6 : attributeBase o name X.env (eval o X.env) = eval o X.env := by rfl) (h7 : (apos.endLine == cpos.line) = true := by rfl) (hK : X.K = K := by rfl) :
    PE X (.Call (.Attribute o name apos) [] [] cpos) (tBM0 K T r to) := hK ▸ pe_bm0 h1 h2 h3 h4 h5 h6 h7
theorem kpg_tup {pos : Pos} {es : List Expr} {k : Nat} {t : TGs} {n : Nat} (hc : X.calm = true) (h : PGs X es t) (hn : (assignEach es X.env).length = n := by rfl) (hf : (assignEach es X.env).findIdx? (·.1) = none := by rfl) (hK : X.K = K := by rfl) : PG X (.Tuple es k pos) (gTup K n t) := hK ▸ pg_tup hc h hn hf
end
section
variable {X : Cx} {e : Expr} {es : List Expr} {pos : Pos} {P : Program} {w : World} {K : PySem.W.Frag} {mg : Str → Option Value} {base : Heap}
theorem kcl {k m : Nat} {x : Str} {ps : List Str} {c : Con} {p : Pos} {tx : TA} (C : Cal P w K mg base k x ps c) (hr : Room m X.A) (hk : k ≤ m) (hg : Gl X x) (ha : PA X (e :: es) tx)
    (hP : X.prog = P := by rfl) (hw : X.w = w := by rfl) (hK : X.K = K := by rfl) (hm : X.mg = mg := by rfl) (hb : X.base = base := by rfl)
    (hdb : (x == ("__debug__" : Str)) = false := by decide) (he : starEach (e :: es) X.env = (false, eval e X.env) :: starEach es X.env := by rfl) (hpl : (backTo pos (starEach es X.env)).any (·.1) = false := by rfl) : PE X (.Call (.Name x p) (e :: es) [] pos) (tCall (spOf K c) [] E0 tx) := by
  subst hP hw hK hm hb
  exact pcall C hr hk hg ha hdb he hpl
theorem kclK {k m : Nat} {x : Str} {ps ks : List Str} {c : Con} {p : Pos} {tk : TA} {kws : List Keyword} {gV : List V → List V → List V} (C : CalK P w K mg base k x ps ks gV c) (hr : Room m X.A) (hk : k ≤ m) (hg : Gl X x) (hkw : PK X kws tk)
    (hP : X.prog = P := by rfl) (hw : X.w = w := by rfl) (hK : X.K = K := by rfl) (hm : X.mg = mg := by rfl) (hb : X.base = base := by rfl)
    (hall : (backToKw pos (keywordEach kws X.env)).all (·.1.isSome) = true := by rfl) (hks : (backToKw pos (keywordEach kws X.env)).filterMap (·.1) = ks := by rfl)
    (hdb : (x == ("__debug__" : Str)) = false := by decide) (hpl : ((backTo pos (starEach [] X.env)).any (·.1) || (backToKw pos (keywordEach kws X.env)).any (·.1.isNone)) = false := by rfl) : PE X (.Call (.Name x p) [] kws pos) (tCallK0 (spOf K c) gV E0 tk) := by
  subst hP hw hK hm hb
  exact pcallK C hr hk hg hkw hall hks hdb hpl
end
section
variable {K : PySem.W.Frag} {δ δ1 : Env} {ta : TE}
theorem rt_truK {r : Arg} {b : Bool} (ha : Rd K ta δ r δ1) (h : truA δ1 r = some b) : Rt K (tTru K ta) δ b δ1 := rt_tru ha h
def onlyAt (rs : List Arg) (i p : Nat) : Bool := rs.zipIdx.all fun q => match q.1 with
  | .sl j => j != i || q.2 == p
  | _ => true
theorem onlyAt_of {rs : List Arg} {i p : Nat} (h : onlyAt rs i p = true) : ∀ k, rs[k]? = some (.sl i) → k = p := fun k hk => by
  have h1 := List.all_eq_true.mp h (.sl i, k) (by
    rw [List.mem_iff_getElem?]
    exact ⟨k, by rw [List.getElem?_zipIdx, hk]; simp⟩)
  simpa using h1
/-- a call that changes its p-th argument, an owned slot -/
theorem rd_cw (p : Nat) {i : Nat} {c : Con} {E : XK} {ta : TA} {rs : List Arg} {ts outs : List T} {x : TV.D} {t : T} (ha : Ra K ta δ rs δ1) (hp : rs[p]? = some (.sl i)) (ht : argsT δ1 (some i) rs = some ts) (hq : onlyAt rs i p = true) (h : ∀ Q : T → List T → Prop, Q (.d x) outs → c ts Q) (ho : outs[p]? = some t)
    (hl : outs.length = ts.length) (hf : flatD x = true) (hg : flatT t = true) : Rd K (tCall (spOf K c) [] E ta) δ (.d x) (δ1.set i (some t)) := rd_callW i p ha ht hp (onlyAt_of hq) h ho hl hf hg
theorem ro_cw (p : Nat) {i : Nat} {c : Con} {E : XK} {ta : TA} {rs : List Arg} {ts outs : List T} {τ : T} {t : T} (ha : Ra K ta δ rs δ1) (hp : rs[p]? = some (.sl i)) (ht : argsT δ1 (some i) rs = some ts) (hq : onlyAt rs i p = true) (h : ∀ Q : T → List T → Prop, Q τ outs → c ts Q) (ho : outs[p]? = some t)
    (hl : outs.length = ts.length) (hf : flatT τ = true) (hg : flatT t = true) : Ro K (tCall (spOf K c) [] E ta) δ τ (δ1.set i (some t)) := ro_callW i p ha ht hp (onlyAt_of hq) h ho hl hf hg
theorem flat_int : ∀ ns : List Int, flatDs (ns.map TV.D.int) = true
  | [] => rfl
  | _ :: r => flat_int r
end
end TV

namespace TV
open PySem PySem.Spec PyProof.Rows L2
theorem FnOk.none' {P : Program} {w : World} {K : PySem.W.Frag} {mg : Str → Option Value} {base : Heap} {k : Nat} {f : Addr} {fd : FuncData} {ps : List Str} {m : Nat} : FnOk P w K mg base CX0 k f fd ps (spOf K (rdC m fun _ _ => False)) :=
  ⟨fun vs H Q E h => by obtain ⟨_, _, _, _, _, _, h⟩ := h; exact h.elim, fun A outer s H args us vs Q E _ _ _ _ h => by obtain ⟨_, _, _, _, _, _, h⟩ := h; exact h.elim⟩
theorem kpi_zipA {X : Cx} (K : PySem.W.Frag) {e e2 : Expr} {ta : TA} {p pos tpos : Pos} {elts : List Expr} {kk : Nat} (h1 : Gl X "zip") (h2 : X.mg "zip" = none) (h3 : PA X [e, e2] ta) (h4 : starEach [e, e2] X.env = (false, eval e X.env) :: starEach [e2] X.env := by rfl) (h5 : (backTo pos (starEach [e2] X.env)).any (·.1) = false := by rfl) (hK : X.K = K := by rfl) :
    PI X (.Tuple elts kk tpos) (.Call (.Name "zip" p) [e, e2] [] pos) (RZ.iZipA K ta) := hK ▸ RZ.pi_zipA h1 h2 h3 h4 h5
section
variable {K : PySem.W.Frag} {δ δ1 : Env}
theorem wk_zipL {t : TA} {r s : Arg} {ds es : List TV.D} (h : Ra K t δ [r, s] δ1) (hv : viewL δ1 r = some ds) (hw : viewL δ1 s = some es) : Wk K (RZ.iZipA K t) δ ((ds.zip es).map fun p => .tup [p.1, p.2]) [(r, ds), (s, es)] δ1 := fun z M σ H r0 Rk q =>
  h z M σ H r0 _ fun M1 vs H1 e1 r1 p1 => by
    obtain ⟨v, w, rfl, p, v', w', rfl, p', rfl⟩ := p1
    obtain ⟨a, us, rfl, h1, h2⟩ := r1.view hv p
    obtain ⟨b, us', rfl, h1', h2'⟩ := r1.view hw p'
    refine ⟨a, b, us, us', rfl, .inl ⟨h1, h1', q M1 _ H1 e1 r1 fun z i M2 σ2 H2 δ' e2 r2 k ok => ?_⟩⟩
    obtain ⟨vs2, g1, g2⟩ := src_at p e2 r2 (k.sub fun j hj => by simp [keepS, hj]) (ok (r, ds) (by simp))
    obtain ⟨vs3, g1', g2'⟩ := src_at p' e2 r2 (k.sub fun j hj => by simp [keepS, hj]) (ok (s, es) (by simp))
    have l1 : ds.length = vs2.length := g2.length
    have l2 : es.length = vs3.length := g2'.length
    rw [List.length_map, List.length_zip]
    refine ⟨fun hi => ⟨⟨vs2, vs3, vs2[i]'(by omega), vs3[i]'(by omega), g1, g1', by rw [List.getElem?_eq_getElem], by rw [List.getElem?_eq_getElem]⟩, fun x H' y => ?_⟩, fun hi => ⟨vs2, vs3, g1, g1', by omega⟩⟩
    obtain ⟨T, x1, y1, rfl, nT, rfl, f, f'⟩ := y
    obtain ⟨d, hd, rd⟩ := g2.get' (f vs2 g1)
    obtain ⟨d', hd', rd'⟩ := g2'.get' (f' vs3 g1')
    have hd : ds[i]? = some d := hd
    have hd' : es[i]? = some d' := hd'
    obtain ⟨s3, r3⟩ := r2.laid (o := .tup [x1, y1]) nT
    refine ⟨_, s3, r3, .tup [d, d'], ?_, T, _, rfl, .inl (.inl upd_same), _, _, rfl, rd.mono s3, _, _, rfl, rd'.mono s3, rfl⟩
    rw [List.getElem?_map, (List.getElem?_zip_eq_some (z := (d, d'))).mpr ⟨hd, hd'⟩]
    rfl
theorem wk_zipT {t : TA} {ds es : List TV.D} (h : Ra K t δ [.d (.tup ds), .d (.tup es)] δ1) : Wk K (RZ.iZipA K t) δ ((ds.zip es).map fun p => .tup [p.1, p.2]) [] δ1 := fun z M σ H r0 Rk q =>
  h z M σ H r0 _ fun M1 vs H1 e1 r1 p1 => by
    obtain ⟨v, w, rfl, p, v', w', rfl, p', rfl⟩ := p1
    obtain ⟨a, us, rfl, h1, h2⟩ := p
    obtain ⟨b, us', rfl, h1', h2'⟩ := p'
    refine ⟨a, b, us, us', rfl, .inr ⟨Same.sqT r1.ex h1, Same.sqT r1.ex h1', q M1 _ H1 e1 r1 fun z i M2 σ2 H2 δ' e2 r2 k ok => ?_⟩⟩
    have g1 : SqT K H2 a us := Same.sqT (e2.trans r2.ex) h1
    have g1' : SqT K H2 b us' := Same.sqT (e2.trans r2.ex) h1'
    have g2 := h2.mono e2
    have g2' := h2'.mono e2
    have l1 : ds.length = us.length := g2.length
    have l2 : es.length = us'.length := g2'.length
    rw [List.length_map, List.length_zip]
    refine ⟨fun hi => ⟨⟨us, us', us[i]'(by omega), us'[i]'(by omega), g1, g1', by rw [List.getElem?_eq_getElem], by rw [List.getElem?_eq_getElem]⟩, fun x H' y => ?_⟩, fun hi => ⟨us, us', g1, g1', by omega⟩⟩
    obtain ⟨T, x1, y1, rfl, nT, rfl, f, f'⟩ := y
    obtain ⟨d, hd, rd⟩ := g2.get' (f us g1)
    obtain ⟨d', hd', rd'⟩ := g2'.get' (f' us' g1')
    have hd : ds[i]? = some d := hd
    have hd' : es[i]? = some d' := hd'
    obtain ⟨s3, r3⟩ := r2.laid (o := .tup [x1, y1]) nT
    refine ⟨_, s3, r3, .tup [d, d'], ?_, T, _, rfl, .inl (.inl upd_same), _, _, rfl, rd.mono s3, _, _, rfl, rd'.mono s3, rfl⟩
    rw [List.getElem?_map, (List.getElem?_zip_eq_some (z := (d, d'))).mpr ⟨hd, hd'⟩]
    rfl
/-- what must hold between two statements -/
theorem sd_cut {ps : List Nat} {t u : TS} {D : EndT} (P : Env → Prop) (h : Sd K ps t δ { D with nx := P }) (k : ∀ δ', P δ' → Sd K ps u δ' D) : Sd K ps (tSeq t u) δ D := fun z M σ H r E hE =>
  h z M σ H r { E with nx := u E } ⟨fun M' σ' H' δ' e r' kk p => k δ' p z M' σ' H' r' E (hE.on e kk), hE.rt, hE.bk, hE.ct⟩
variable {ta : TE}
theorem ro_fstX {τ1 τ2 : T} (ha : Ro K ta δ (.pr τ1 τ2) δ1) : Ro K (tOp (rIx K) ta (tC (.int 0))) δ τ1 δ1 := fun z M σ H r Q q =>
  ha z M σ H r _ fun M1 v H1 e1 r1 => by
    obtain ⟨⟨ex, ln, ω, w1, w2, w3⟩, l⟩ := r1
    obtain ⟨u, hu, a, x, y, P1, P2, h1, h2, h3, h4, h5, h6, h7⟩ := w3 _ _ get_top
    have ln' : (σ ++ z.s).length = (δ1 ++ z.e).length := by simp only [List.length_append, List.length_singleton] at ln ⊢; omega
    rw [← ln', get_top] at hu
    cases hu
    subst h1
    refine .inr (.inl ⟨a, [x, y], 0, x, rfl, rfl, .inl (.inl h2), rfl, q M1 x H1 e1 ⟨⟨ex, by simp only [List.length_append, List.length_singleton] at ln' ⊢; omega, fun i b => if i = (δ1 ++ z.e).length then P1 b else ω i b, fun i j b g1 g2 => ?_, fun i b g1 => ?_, fun i t ht => ?_⟩, l⟩⟩)
    · by_cases hi : i = (δ1 ++ z.e).length <;> by_cases hj : j = (δ1 ++ z.e).length <;> simp only [hi, hj, if_true, if_false] at g1 g2
      · omega
      · exact (hj (w1 _ _ _ g2 (h3 b g1))).elim
      · exact (hi (w1 _ _ _ g1 (h3 b g2))).elim
      · exact w1 _ _ _ g1 g2
    · by_cases hi : i = (δ1 ++ z.e).length <;> simp only [hi, if_true, if_false] at g1
      · exact w2 _ _ (h3 b g1)
      · exact w2 _ _ g1
    · rcases get_push ht with g | ⟨g, g'⟩
      · obtain ⟨u, hu, ow⟩ := w3 i t (get_left g)
        have hi := (List.getElem?_eq_some_iff.mp g).1
        rcases get_push hu with g2 | ⟨g2, _⟩
        · refine ⟨u, get_left g2, ?_⟩
          have hne : i ≠ (δ1 ++ z.e).length := by omega
          simp only [hne, if_false]
          exact ow
        · omega
      · cases g'
        subst g
        refine ⟨x, by rw [← ln']; exact get_top, ?_⟩
        simp only [if_true]
        exact h6
theorem ro_sndX {τ1 τ2 : T} (ha : Ro K ta δ (.pr τ1 τ2) δ1) : Ro K (tOp (rIx K) ta (tC (.int 1))) δ τ2 δ1 := fun z M σ H r Q q =>
  ha z M σ H r _ fun M1 v H1 e1 r1 => by
    obtain ⟨⟨ex, ln, ω, w1, w2, w3⟩, l⟩ := r1
    obtain ⟨u, hu, a, x, y, P1, P2, h1, h2, h3, h4, h5, h6, h7⟩ := w3 _ _ get_top
    have ln' : (σ ++ z.s).length = (δ1 ++ z.e).length := by simp only [List.length_append, List.length_singleton] at ln ⊢; omega
    rw [← ln', get_top] at hu
    cases hu
    subst h1
    refine .inr (.inl ⟨a, [x, y], 1, y, rfl, rfl, .inl (.inl h2), rfl, q M1 y H1 e1 ⟨⟨ex, by simp only [List.length_append, List.length_singleton] at ln' ⊢; omega, fun i b => if i = (δ1 ++ z.e).length then P2 b else ω i b, fun i j b g1 g2 => ?_, fun i b g1 => ?_, fun i t ht => ?_⟩, l⟩⟩)
    · by_cases hi : i = (δ1 ++ z.e).length <;> by_cases hj : j = (δ1 ++ z.e).length <;> simp only [hi, hj, if_true, if_false] at g1 g2
      · omega
      · exact (hj (w1 _ _ _ g2 (h4 b g1))).elim
      · exact (hi (w1 _ _ _ g1 (h4 b g2))).elim
      · exact w1 _ _ _ g1 g2
    · by_cases hi : i = (δ1 ++ z.e).length <;> simp only [hi, if_true, if_false] at g1
      · exact w2 _ _ (h4 b g1)
      · exact w2 _ _ g1
    · rcases get_push ht with g | ⟨g, g'⟩
      · obtain ⟨u, hu, ow⟩ := w3 i t (get_left g)
        have hi := (List.getElem?_eq_some_iff.mp g).1
        rcases get_push hu with g2 | ⟨g2, _⟩
        · refine ⟨u, get_left g2, ?_⟩
          have hne : i ≠ (δ1 ++ z.e).length := by omega
          simp only [hne, if_false]
          exact ow
        · omega
      · cases g'
        subst g
        refine ⟨y, by rw [← ln']; exact get_top, ?_⟩
        simp only [if_true]
        exact h7
end
/-- a def that changes none of its arguments, by its body -/
theorem rd_okF {P : Program} {w : World} {K : PySem.W.Frag} {mg : Str → Option Value} {base : Heap} {x qual : Str} {st : Stmt} {f : Addr} {fd : FuncData} {N params : List Str} {k : Nat} (m n : Nat) (fc : List D → (T → Prop) → Prop) (F : Fun K x qual st f fd) (S : FnScope N params (defScope st)) (hm : params.length = m) (hN : N.length = m + n)
    (hbody : ∀ (cdv : Value) (A : Around) (outer : List PySem.Env) (s : Shared) (H : Hp) (E : XK), Room k (A.deeper (envOfC qual (defScope st) s.heap.objs.size f cdv)) →
      ∃ t, PSs (cxOf CX0 P w K mg base N qual (defScope st) f cdv A outer s H E).nox (defBody st) t ∧ ∀ (ds : List D) (Q : T → Prop), fc ds Q → ds.length = m → Sd K [] t (ds.map (fun d => some (T.d d)) ++ List.replicate n none) { nx := fun _ => Q (.d .non), rt := fun τ _ => Q τ }) :
    FnOk P w K mg base CX0 (k + 1) f fd params (spOf K (rdC m fc)) := by
  refine (con_ok [] n F S (by rw [hN, hm]) (fun ts Q h => ?_) (fun ts Q h k t hk _ => ?_) fun cdv A outer s H E hr => ?_)
  · obtain ⟨ds, rfl, hl, _⟩ := h
    rw [List.length_map, hl, hm]
  · obtain ⟨ds, rfl, _⟩ := h
    rw [List.getElem?_map] at hk
    cases e : ds[k]? with
    | none => rw [e] at hk; cases hk
    | some x => rw [e] at hk; cases hk; exact ⟨x, rfl⟩
  · obtain ⟨t, ht, hb⟩ := hbody cdv A outer s H E hr
    refine ⟨t, ht, fun ts Q h => ?_⟩
    obtain ⟨ds, rfl, hl, hf⟩ := h
    have := hb ds _ hf hl
    rw [List.map_map]
    intro z M σ H r E hE
    refine this z M σ H r E ⟨fun M' σ' H δ a1 a2 a3 a4 => hE.nx M' σ' H δ a1 a2 a3 ⟨fun k hk => by simp at hk, by rw [outsOf_nil]; exact a4⟩, fun M' σ' v H δ τ a1 a2 a3 a4 => hE.rt M' σ' v H δ τ a1 a2 a3 ⟨fun k hk => by simp at hk, by rw [outsOf_nil]; exact a4⟩, fun _ _ _ _ _ _ _ q => q.elim, fun _ _ _ _ _ _ _ q => q.elim⟩
/-! keyword calls -/
def gK (n : Nat) (perm : List Nat) {α : Type} (us ws : List α) : List α := if us.length = 0 ∧ ws.length = n then perm.filterMap (fun i => ws[i]?) else []
theorem vals_get {vs : List V} {us : List Value} (h : Vals vs us) (i : Nat) : (vs[i]? = none ∧ us[i]? = none) ∨ ∃ v u, vs[i]? = some v ∧ us[i]? = some u ∧ RelV v u := by
  induction h generalizing i with
  | nil => exact .inl ⟨rfl, rfl⟩
  | cons r _ ih =>
    cases i with
    | zero => exact .inr ⟨_, _, rfl, rfl, r⟩
    | succ i => exact ih i
theorem vals_perm {vs : List V} {us : List Value} (h : Vals vs us) : ∀ perm : List Nat, Vals (perm.filterMap fun i => vs[i]?) (perm.filterMap fun i => us[i]?)
  | [] => .nil
  | i :: r => by
    have ih := vals_perm h r
    rcases vals_get h i with ⟨h1, h2⟩ | ⟨v, u, h1, h2, hr⟩
    · rw [List.filterMap_cons, List.filterMap_cons, h1, h2]
      exact ih
    · rw [List.filterMap_cons, List.filterMap_cons, h1, h2]
      exact .cons hr ih
theorem kb_of {K : PySem.W.Frag} {x qual : Str} {st : Stmt} {f : Addr} {fd : FuncData} {ps ks : List Str} {n : Nat} {perm : List Nat} (F : Fun K x qual st f fd) (hp : 0 < ps.length)
    (h : ∀ (kV doc pm : Value) (an : Option Addr) (cdv ct : Value) (ws : List Value), ws.length = n → bindArgs (PySem.W.fnOf x qual (defArgs st) (defBody st) (defScope st) .none kV doc pm an cdv ct) ⟨[], ks.zip ws⟩ = pure (ps.zip (perm.filterMap fun i => ws[i]?))) : KBinds K fd ps ks (gK n perm) (gK n perm) := by
  obtain ⟨oc, od, kV, doc, pm, an, cdv, ct, osl, rfl, lk, hcd⟩ := F.ex
  refine ⟨fun s us ws _ hl => ?_, fun {vs us zs ws} r rz => ?_⟩
  · unfold gK at hl ⊢
    by_cases hc : us.length = 0 ∧ ws.length = n
    · rw [if_pos hc]
      obtain ⟨h1, h2⟩ := hc
      have : us = [] := List.length_eq_zero_iff.mp h1
      subst this
      exact .of_eq (h kV doc pm an cdv ct ws h2)
    · rw [if_neg hc] at hl
      simp at hl
      omega
  · unfold gK
    rw [r.length, rz.length]
    split
    · exact vals_perm rz perm
    · exact .nil
theorem CalK.mk' {P : Program} {w : World} {K : PySem.W.Frag} {mg : Str → Option Value} {base : Heap} {k : Nat} {x qual : Str} {st : Stmt} {f : Addr} {fd : FuncData} {ps ks : List Str} {n : Nat} {perm : List Nat} {c : Con} (F : Fun K x qual st f fd) (g : mg x = some (.ref f)) (h : FnOk P w K mg base CX0 k f fd ps (spOf K c)) (b : KBinds K fd ps ks (gK n perm) (gK n perm)) : CalK P w K mg base k x ps ks (gK n perm) c := ⟨f, fd, _, h, g, F.kp, b⟩
/-! the law's own call -/
theorem law_sp {K : PySem.W.Frag} {H : Hp} {a : Addr} {ns : List Int} {fl : List TV.D → (T → Prop) → Prop} (hS : SqL K H a (ns.map V.int)) (h : ∀ Q : T → Prop, Q (.d (.bl true)) → fl [.scr (ns.map TV.D.int)] Q) : spOf K (rdC 1 fl) [.ref a] H (fun v _ => v = .bl true) fun _ _ _ => False := by
  refine ⟨H, [.d (.scr (ns.map TV.D.int))], ⟨Same.refl H, rfl, fun _ _ => False, fun _ _ _ z => z.elim, fun _ _ z => z.elim, fun i t ht => ?_⟩, [.scr (ns.map TV.D.int)], rfl, rfl, h _ ⟨rfl, fun M' v H' s r => ?_⟩⟩
  · rcases i with _ | i
    · simp at ht
      subst ht
      exact ⟨.ref a, rfl, a, ns.map V.int, rfl, hS, RpL.ints ns⟩
    · simp at ht
  · obtain ⟨_, _, ω, _, _, h3⟩ := r
    obtain ⟨u, hu, ow⟩ := h3 1 (.d (.bl true)) rfl
    have hu : some (some v) = some (some u) := hu
    cases hu
    exact ow
theorem has_bind {K : PySem.W.Frag} {x : Str} {st : Stmt} {f : Addr} {oc : Value} {od an : Option Addr} {osl : Array (Option Value)} {kV doc pm cdv ct : Value} {ps : List Str} (l : K.lookup f = some ⟨oc, od, .func (PySem.W.fnOf x x (defArgs st) (defBody st) (defScope st) .none kV doc pm an cdv ct), osl⟩) (c : PySem.W.codeIn K cdv x = true) (k : PySem.W.keepIn K (.ref f) = true)
    (hb : ∀ (kV doc pm : Value) (an : Option Addr) (cdv ct : Value) (us : List Value), us.length = ps.length → bindArgs (PySem.W.fnOf x x (defArgs st) (defBody st) (defScope st) .none kV doc pm an cdv ct) ⟨us, []⟩ = pure (ps.zip us)) : L2.Binds K (PySem.W.fnOf x x (defArgs st) (defBody st) (defScope st) .none kV doc pm an cdv ct) ps [] := (fun_mk l c k).binds hb
end TV

namespace TV
open PySem PySem.Spec PyProof.Rows L2
theorem ksrev {X : Cx} (K : PySem.W.Frag) {b : Bool} (hK : X.K = K := by rfl) : CallRK X (.builtin "sorted") [Str.ofString "reverse"] (rSortedKw K b [.bl b]) := hK ▸ cr_sortedRev
section
variable {K : PySem.W.Frag} {δ δ1 : Env} {ta : TE}
theorem rev_one {a : List Int} {ns : List Int} (p : a.Perm ns) (h : a.Pairwise (· ≥ ·)) : a = (sortI ns).reverse := by
  have h1 : a.reverse = sortI ns := sorted_one ((List.reverse_perm a).trans (p.trans (sortI_perm ns).symm)) (List.pairwise_reverse.mpr h) (sortI_sorted ns)
  rw [← h1, List.reverse_reverse]
theorem ro_sortedRev {r : Arg} {ns : List Int} (ha : Rd K ta δ r δ1) (hv : viewL δ1 r = some (ns.map TV.D.int)) : Ro K (tCKw (rSortedKw K true [.bl true]) (tCons ta tNil) (tCons (tC (.bl true)) tNil)) δ (.ls ((sortI ns).reverse.map TV.D.int)) δ1 := fun z M σ H r0 Q q =>
  ha z M σ H r0 _ fun M1 v H1 e1 r1 p1 => by
    obtain ⟨a, vs, rfl, h1, h2⟩ := r1.view hv p1
    rw [h2.ints_of] at h1
    refine ⟨a, ns, rfl, rfl, h1, fun ns' p hp ho hn => q M1 _ _ e1 ?_⟩
    rw [rev_one hp ho]
    exact r1.pushNew hn trivial fun P pp => ⟨p, _, rfl, pp, upd_same, RpL.ints _⟩
end
end TV

namespace TV
open PySem PySem.Spec PyProof.Rows L2
theorem bits_log {z : Int} (h : Builtin.Int.intBits z ≤ 1048576) : z.natAbs.log2 < 2000000 := by
  unfold Builtin.Int.intBits at h
  split at h
  · next e =>
    have : z = 0 := by simpa using e
    subst this
    decide
  · omega
end TV

namespace TV
open PySem PySem.Spec PyProof.Rows L2
section
variable {K : PySem.W.Frag} {ps : List Nat} {δ δ1 δ2 δ3 : Env} {ta tb te : TE} {tt tu : TT} {t u : TS} {D : EndT}
theorem pd_ixX {ds : List TV.D} {k : Int} {x : TV.D} (ha : Pd K ta δ (.lst ds)) (hb : Pd K tb δ (.int k)) (hx : atI ds k = some x) : Pd K (tOp (rIx K) ta tb) δ x := fun z M σ H r Q q =>
  ha z M σ H r _ fun M1 v H1 e1 s1 r1 p1 => hb z M1 σ H1 r1 _ fun M2 w H2 e2 s2 r2 p2 => by
    obtain ⟨a, vs, h1, h2, h3⟩ := p1.mono e2
    obtain ⟨z, hz, rz⟩ := atI_rp h3 hx
    exact .inl ⟨a, vs, k, z, h1, p2, .inl (.inl (r2.ex _ _ h2)), hz, q M2 z H2 (e1.trans e2) (s1.trans s2) r2 rz⟩
theorem pd_ixSX {i : Nat} {ds : List TV.D} {k : Int} {x : TV.D} (h : δ[i]? = some (some (.ls ds))) (hb : Pd K tb δ (.int k)) (hx : atI ds k = some x) : Pd K (tOp (rIx K) (tVar i) tb) δ x := fun z M σ H r Q q => by
  obtain ⟨v, hv, _⟩ := r.at h
  refine ⟨v, hv, hb z M σ H r _ fun M2 w H2 e2 s2 r2 p2 => ?_⟩
  obtain ⟨a, vs, h1, h2, h3⟩ := r2.view (x := .sl i) (ds := ds) (by simp only [viewL, h]) hv
  obtain ⟨z, hz, rz⟩ := atI_rp h3 hx
  exact .inl ⟨a, vs, k, z, h1, p2, h2, hz, q M2 z H2 e2 s2 r2 rz⟩
theorem sd_append2X {i : Nat} {tk : TE} {k : Int} {j : Nat} {x : TV.D} {dss : List (List TV.D)} {ds : List TV.D} (h0 : δ[i]? = some (some (.ll dss))) (hk : Pd K tk δ (.int k)) (h : Pd K te δ x) (hj : ixN dss.length k = some j) (hd : dss[j]? = some ds) (hl : ds.length < 100000)
    (hn : D.nx (δ.set i (some (.ll (dss.set j (ds ++ [x])))))) : Sd K ps (tDrop (tBM K "list" rAppend (tOp (rIx K) (tVar i) tk) (tCons te tNil))) δ D := fun z M σ H r E hE => by
  obtain ⟨a, as, hv0, g1, nd, g2⟩ := r.llAt h0
  refine ⟨.ref a, hv0, hk z M σ H r _ fun M1 w H1 e1 s1 r1 q1 => ?_⟩
  obtain ⟨b, vs, hb, hB, hr⟩ := g2.get hd
  have q1 : w = .int k := q1
  refine .inl ⟨a, as.map V.ref, k, .ref b, rfl, q1, .inl (.inl (s1 _ _ g1)), ?_, .inl ⟨rfl, _, .inl (.inl (s1 _ _ hB))⟩, h z M1 σ H1 r1 _ fun M2 y H2 e2 s2 r2 py => ?_⟩
  · show (ixN (as.map V.ref).length k).bind _ = _
    rw [List.length_map, ← g2.length, hj]
    show (as.map V.ref)[j]? = _
    rw [List.getElem?_map, hb]
    rfl
  · refine ⟨b, vs, y, rfl, rfl, s2 _ _ (s1 _ _ hB), by rw [← hr.length]; exact len_ok hl, hE.nx M2 σ _ _ (e1.trans e2) (r2.write h0 hv0 trivial fun P ow => ?_) Keep.refl hn⟩
    obtain ⟨a', as', ea, p1, p2, nd', g1', g2'⟩ := ow
    cases ea
    have g1q := g1'
    rw [s2 _ _ (s1 _ _ g1)] at g1'
    have eas : as = as' := by
      have := HO.lst.inj (Option.some.inj g1')
      exact refs_inj this
    subst eas
    obtain ⟨b', vs', hb', hB', hr'⟩ := g2'.get hd
    rw [hb] at hb'
    cases hb'
    have hbm : b ∈ as := List.mem_of_getElem? hb
    have nab : a ≠ b := by
      rintro rfl
      exact (List.nodup_cons.mp nd).1 hbm
    refine ⟨p2 b hbm, a, as, rfl, p1, p2, nd, by rw [upd_ne nab]; exact g1q, g2'.set (List.nodup_cons.mp nd).2 hb (RpL.append ?_ (RpL.one py))⟩
    rw [s2 _ _ (s1 _ _ hB)] at hB'
    cases hB'
    exact hr'
end
end TV

namespace TV
open PySem PySem.Spec PyProof.Rows L2
section
variable {K : PySem.W.Frag} {ps : List Nat} {δ δ1 δ2 δ3 : Env} {ta tb te : TE} {tt tu : TT} {t u : TS} {D : EndT}
/-- x = xs[k], an inner list, and at once x.append(e): x is forgotten, xs is changed -/
theorem sd_alias {i j0 : Nat} {tk : TE} {k : Int} {j : Nat} {x : TV.D} {dss : List (List TV.D)} {ds : List TV.D} (h0 : δ[i]? = some (some (.ll dss))) (hij : j0 ≠ i) (hp : j0 ∉ ps) (hlt : j0 < δ.length) (hk : Pd K tk δ (.int k)) (h : Pd K te (δ.set j0 none) x) (hj : ixN dss.length k = some j) (hd : dss[j]? = some ds) (hl : ds.length < 100000)
    (hn : Sd K ps u ((δ.set j0 none).set i (some (.ll (dss.set j (ds ++ [x]))))) D) : Sd K ps (tSeq (tAsg (tOp (rIx K) (tVar i) tk) (gName j0)) (tSeq (tDrop (tBM K "list" rAppend (tVar j0) (tCons te tNil))) u)) δ D := fun z M σ H r E hE => by
  obtain ⟨a, as, hv0, g1, nd, g2⟩ := r.llAt h0
  refine ⟨.ref a, hv0, hk z M σ H r _ fun M1 w H1 e1 s1 r1 q1 => ?_⟩
  obtain ⟨b, vs, hb, hB, hr⟩ := g2.get hd
  have q1 : w = .int k := q1
  refine .inl ⟨a, as.map V.ref, k, .ref b, rfl, q1, .inl (.inl (s1 _ _ g1)), ?_, ?_⟩
  · show (ixN (as.map V.ref).length k).bind _ = _
    rw [List.length_map, ← g2.length, hj]
    show (as.map V.ref)[j]? = _
    rw [List.getElem?_map, hb]
    rfl
  have r1' : RR K z M1 (σ.set j0 (some (.ref b))) H1 (δ.set j0 none) := (r1.less (less_none (i := j0))).other (by simp) fun q t hq => by
    have : q ≠ j0 := by
      rintro rfl
      rw [List.getElem?_set_self hlt] at hq
      cases hq
    rw [List.getElem?_set_ne (Ne.symm this)]
  have h0' : (δ.set j0 none)[i]? = some (some (.ll dss)) := by rw [List.getElem?_set_ne hij]; exact h0
  have hv0' : (σ.set j0 (some (V.ref b)))[i]? = some (some (.ref a)) := by rw [List.getElem?_set_ne hij]; exact hv0
  have hsl : σ.length = δ.length := by
    have := r.ln
    exact this
  have hvj : (σ.set j0 (some (V.ref b)))[j0]? = some (some (.ref b)) := List.getElem?_set_self (by omega)
  refine ⟨.ref b, hvj, .inl ⟨rfl, _, .inl (.inl (s1 _ _ hB))⟩, h z M1 _ H1 r1' _ fun M2 y H2 e2 s2 r2 py => ?_⟩
  refine ⟨b, vs, y, rfl, rfl, s2 _ _ (s1 _ _ hB), by rw [← hr.length]; exact len_ok hl, hn z M2 _ _ ?_ E (hE.on (e1.trans e2) (Keep.set hp))⟩
  refine r2.write h0' hv0' trivial fun P ow => ?_
  obtain ⟨a', as', ea, p1, p2, nd', g1', g2'⟩ := ow
  cases ea
  have g1q := g1'
  rw [s2 _ _ (s1 _ _ g1)] at g1'
  have eas : as = as' := by
    have := HO.lst.inj (Option.some.inj g1')
    exact refs_inj this
  subst eas
  obtain ⟨b', vs', hb', hB', hr'⟩ := g2'.get hd
  rw [hb] at hb'
  cases hb'
  have hbm : b ∈ as := List.mem_of_getElem? hb
  have nab : a ≠ b := by
    rintro rfl
    exact (List.nodup_cons.mp nd).1 hbm
  refine ⟨p2 b hbm, a, as, rfl, p1, p2, nd, by rw [upd_ne nab]; exact g1q, g2'.set (List.nodup_cons.mp nd).2 hb (RpL.append ?_ (RpL.one py))⟩
  rw [s2 _ _ (s1 _ _ hB)] at hB'
  cases hB'
  exact hr'
end
end TV

namespace TV
open PySem PySem.Spec PyProof.Rows L2
/-- all slots as data that stand still -/
def frzE (δ : Env) : Env := δ.map fun o => o.bind fun t => (fz t).map T.d
theorem frzE_get {δ : Env} {i : Nat} {t : T} (h : (frzE δ)[i]? = some (some t)) : ∃ t0 x, δ[i]? = some (some t0) ∧ fz t0 = some x ∧ t = .d x := by
  unfold frzE at h
  rw [List.getElem?_map] at h
  cases e : δ[i]? with
  | none => rw [e] at h; cases h
  | some o =>
    rw [e] at h
    cases o with
    | none => cases h
    | some t0 =>
      have h : (fz t0).map T.d = some t := Option.some.inj h
      cases ez : fz t0 with
      | none => rw [ez] at h; cases h
      | some x => rw [ez] at h; cases h; exact ⟨t0, x, rfl, ez, rfl⟩
section
variable {K : PySem.W.Frag} {δ : Env} {te : TE}
theorem R.stand {M H : Hp} {σ : L2.St} (r : R K M σ H δ) : R K H σ H (frzE δ) := by
  obtain ⟨ex, ln, ω, w1, w2, w3⟩ := r
  refine ⟨Same.refl H, by unfold frzE; simpa using ln, fun _ _ => False, fun _ _ _ z => z.elim, fun _ _ z => z.elim, fun i t hi => ?_⟩
  obtain ⟨t0, x, h1, h2, rfl⟩ := frzE_get hi
  obtain ⟨v, hv, ow⟩ := w3 i t0 h1
  exact ⟨v, hv, ow.freeze ex (fun b u _ q => q) (fun b xs q => q) h2⟩
theorem R.back {M H M' H' : Hp} {σ : L2.St} (r : R K M σ H δ) (s1 : Same H M') (s2 : Same M' H') : Same M (tx M H') ∧ R K (tx M H') σ H' δ := by
  obtain ⟨ex, ln, ω, w1, w2, w3⟩ := r
  have sHH : Same H H' := s1.trans s2
  have sMH : Same M H' := ex.trans sHH
  have eq : ∀ i a, ω i a → H' a = H a := fun i a h => by
    obtain ⟨o, ho⟩ := mut_some (w2 i a h).2
    rw [ho]
    exact sHH a o ho
  refine ⟨tx_same sMH, tx_sub sMH, ln, ω, w1, fun i a h => ⟨tx_none (w2 i a h).1 (by rw [eq i a h]; exact (w2 i a h).2), by rw [eq i a h]; exact (w2 i a h).2⟩, fun i t hi => ?_⟩
  obtain ⟨v, hv, ow⟩ := w3 i t hi
  exact ⟨v, hv, ow.mono (tx_same sMH) (fun b hb => hb) (fun b hb => eq i b hb) fun b xs q => sHH b _ q⟩
/-- an expression that only reads, seen with all slots standing still -/
theorem rd_stand {x : TV.D} (h : Rd K te (frzE δ) (.d x) (frzE δ)) (hx : flatD x = true) : Rd K te δ (.d x) δ := fun z M σ H r Q q => by
  refine h ⟨z.s, frzE z.e⟩ H σ H ?_ Q fun M' v H' e r' p => ?_
  · have := r.r.stand
    unfold frzE at this
    rw [List.map_append] at this
    exact ⟨this, by unfold frzE; simpa using r.ln⟩
  · obtain ⟨a, b⟩ := r.r.back e r'.r.ex
    exact q (tx M H') v H' a ⟨b, r.ln⟩ (Rp.tx r'.r.ex hx p)
end
end TV

namespace TV
open PySem PySem.Spec PyProof.Rows L2
section
variable {K : PySem.W.Frag} {ps : List Nat} {δ δ1 δ2 δ3 : Env} {ta tb te : TE} {tt tu : TT} {t u : TS} {D : EndT}
/-- .. as the last two statements of a block -/
theorem sd_alias1 {i j0 : Nat} {tk : TE} {k : Int} {j : Nat} {x : TV.D} {dss : List (List TV.D)} {ds : List TV.D} (h0 : δ[i]? = some (some (.ll dss))) (hij : j0 ≠ i) (hp : j0 ∉ ps) (hlt : j0 < δ.length) (hk : Pd K tk δ (.int k)) (h : Pd K te (δ.set j0 none) x) (hj : ixN dss.length k = some j) (hd : dss[j]? = some ds) (hl : ds.length < 100000)
    (hn : D.nx ((δ.set j0 none).set i (some (.ll (dss.set j (ds ++ [x])))))) : Sd K ps (tSeq (tAsg (tOp (rIx K) (tVar i) tk) (gName j0)) (tDrop (tBM K "list" rAppend (tVar j0) (tCons te tNil)))) δ D := fun z M σ H r E hE => by
  obtain ⟨a, as, hv0, g1, nd, g2⟩ := r.llAt h0
  refine ⟨.ref a, hv0, hk z M σ H r _ fun M1 w H1 e1 s1 r1 q1 => ?_⟩
  obtain ⟨b, vs, hb, hB, hr⟩ := g2.get hd
  have q1 : w = .int k := q1
  refine .inl ⟨a, as.map V.ref, k, .ref b, rfl, q1, .inl (.inl (s1 _ _ g1)), ?_, ?_⟩
  · show (ixN (as.map V.ref).length k).bind _ = _
    rw [List.length_map, ← g2.length, hj]
    show (as.map V.ref)[j]? = _
    rw [List.getElem?_map, hb]
    rfl
  have r1' : RR K z M1 (σ.set j0 (some (.ref b))) H1 (δ.set j0 none) := (r1.less (less_none (i := j0))).other (by simp) fun q t hq => by
    have : q ≠ j0 := by
      rintro rfl
      rw [List.getElem?_set_self hlt] at hq
      cases hq
    rw [List.getElem?_set_ne (Ne.symm this)]
  have h0' : (δ.set j0 none)[i]? = some (some (.ll dss)) := by rw [List.getElem?_set_ne hij]; exact h0
  have hv0' : (σ.set j0 (some (V.ref b)))[i]? = some (some (.ref a)) := by rw [List.getElem?_set_ne hij]; exact hv0
  have hsl : σ.length = δ.length := by
    have := r.ln
    exact this
  have hvj : (σ.set j0 (some (V.ref b)))[j0]? = some (some (.ref b)) := List.getElem?_set_self (by omega)
  refine ⟨.ref b, hvj, .inl ⟨rfl, _, .inl (.inl (s1 _ _ hB))⟩, h z M1 _ H1 r1' _ fun M2 y H2 e2 s2 r2 py => ?_⟩
  refine ⟨b, vs, y, rfl, rfl, s2 _ _ (s1 _ _ hB), by rw [← hr.length]; exact len_ok hl, hE.nx M2 _ _ _ (e1.trans e2) ?_ (Keep.set hp) hn⟩
  refine r2.write h0' hv0' trivial fun P ow => ?_
  obtain ⟨a', as', ea, p1, p2, nd', g1', g2'⟩ := ow
  cases ea
  have g1q := g1'
  rw [s2 _ _ (s1 _ _ g1)] at g1'
  have eas : as = as' := by
    have := HO.lst.inj (Option.some.inj g1')
    exact refs_inj this
  subst eas
  obtain ⟨b', vs', hb', hB', hr'⟩ := g2'.get hd
  rw [hb] at hb'
  cases hb'
  have hbm : b ∈ as := List.mem_of_getElem? hb
  have nab : a ≠ b := by
    rintro rfl
    exact (List.nodup_cons.mp nd).1 hbm
  refine ⟨p2 b hbm, a, as, rfl, p1, p2, nd, by rw [upd_ne nab]; exact g1q, g2'.set (List.nodup_cons.mp nd).2 hb (RpL.append ?_ (RpL.one py))⟩
  rw [s2 _ _ (s1 _ _ hB)] at hB'
  cases hB'
  exact hr'
end
end TV

namespace TV
open PySem PySem.Spec PyProof.Rows L2
section
variable {K : PySem.W.Frag} {ps : List Nat} {δ δ1 δ2 δ3 : Env} {ta tb te : TE} {tt tu : TT} {t u : TS} {D : EndT}
/-! calls, compares, tests in a shape for walking by tactic -/
def unD : List T → Option (List TV.D)
  | [] => some []
  | .d x :: r => match unD r with
    | some ds => some (x :: ds)
    | none => none
  | _ :: _ => none
theorem unD_eq : ∀ {ts : List T} {ds : List TV.D}, unD ts = some ds → ts = ds.map T.d
  | [], _, h => by cases h; rfl
  | .d x :: r, ds, h => by
    unfold unD at h
    split at h
    · rename_i ds' e
      cases h
      rw [unD_eq e]
      rfl
    · cases h
  | .ls _ :: _, _, h => by cases h
  | .ll _ :: _, _, h => by cases h
  | .dk _ :: _, _, h => by cases h
  | .dt _ :: _, _, h => by cases h
  | .pr _ _ :: _, _, h => by cases h
theorem rd_callQ {E : XK} {ta : TA} {rs : List Arg} {ts : List T} {ds : List TV.D} {x : TV.D} {m : Nat} {fc : List TV.D → (T → Prop) → Prop} (ha : Ra K ta δ rs δ1) (ht : argsT δ1 none rs = some ts) (hd : unD ts = some ds) (hl : ds.length = m) (h : ∀ Q : T → Prop, Q (.d x) → fc ds Q) (hf : flatD x = true) : Rd K (tCall (spOf K (rdC m fc)) [] E ta) δ (.d x) δ1 :=
  rd_callR (E := E) ha (ht.trans (congrArg some (unD_eq hd))) h hl hf
theorem ro_callQ {E : XK} {ta : TA} {rs : List Arg} {ts : List T} {ds : List TV.D} {τ : T} {m : Nat} {fc : List TV.D → (T → Prop) → Prop} (ha : Ra K ta δ rs δ1) (ht : argsT δ1 none rs = some ts) (hd : unD ts = some ds) (hl : ds.length = m) (h : ∀ Q : T → Prop, Q τ → fc ds Q) (hf : flatT τ = true) : Ro K (tCall (spOf K (rdC m fc)) [] E ta) δ τ δ1 :=
  ro_callR (E := E) ha (ht.trans (congrArg some (unD_eq hd))) h hl hf
theorem gK_args {M : Hp} {σ : L2.St} {rs : List Arg} {vs : List V} (h : ArgsOk K M σ rs vs) (n : Nat) : ∀ {perm : List Nat} {rs' : List Arg}, perm.map (fun i => rs[i]?) = rs'.map some → ArgsOk K M σ rs' (perm.filterMap fun i => vs[i]?)
  | [], [], _ => rfl
  | [], _ :: _, e => by cases e
  | _ :: _, [], e => by cases e
  | i :: p, r :: rs', e => by
    simp only [List.map_cons, List.cons.injEq] at e
    obtain ⟨v, hv, ok⟩ := h.get e.1
    rw [List.filterMap_cons, hv]
    exact ⟨v, _, rfl, ok, gK_args h n e.2⟩
def pick (rs : List Arg) : List Nat → Option (List Arg)
  | [] => some []
  | i :: p => match rs[i]?, pick rs p with
    | some r, some q => some (r :: q)
    | _, _ => none
theorem pick_eq {rs : List Arg} : ∀ {perm : List Nat} {rs' : List Arg}, pick rs perm = some rs' → perm.map (fun i => rs[i]?) = rs'.map some
  | [], _, h => by cases h; rfl
  | i :: p, rs', h => by
    unfold pick at h
    split at h
    · rename_i r q e1 e2
      cases h
      rw [List.map_cons, List.map_cons, e1, pick_eq e2]
    · cases h
theorem ro_callKQ {E : XK} {n m : Nat} {perm : List Nat} {tk : TA} {rs rs' : List Arg} {ts : List T} {ds : List TV.D} {τ : T} {fc : List TV.D → (T → Prop) → Prop} (ha : Ra K tk δ rs δ1) (hg : pick rs perm = some rs') (hn : rs.length = n) (ht : argsT δ1 none rs' = some ts) (hd : unD ts = some ds) (hl : ds.length = m) (h : ∀ Q : T → Prop, Q τ → fc ds Q) (hf : flatT τ = true) : Ro K (tCallK0 (spOf K (rdC m fc)) (gK n perm) E tk) δ τ δ1 :=
  ro_callK (c := rdC m fc) (E := E) (gV := gK n perm) (rs := rs) (rs' := rs') (ts := ts) (outs := ts) (τ := τ) ha (fun M σ vs ok => by
    have l := ok.length
    have : gK n perm [] vs = perm.filterMap fun i => vs[i]? := if_pos ⟨rfl, by omega⟩
    rw [this]
    exact gK_args ok n (pick_eq hg)) ht (fun Q q => ⟨ds, unD_eq hd, hl, h _ q⟩) rfl hf
theorem Ro.d {x : TV.D} (h : Ro K te δ (.d x) δ1) : Rd K te δ (.d x) δ1 := Ro.frz h rfl
theorem eqv_refl (x : TV.D) : PyData.eqv (py x) (py x) = true := PySem.SeqAt.eqv_refl_plain _ (py_plain x)
theorem rd_eqSame {m : Nat} {r s : Arg} {x : TV.D} (ha : Rd K ta δ r δ1) (hb : Rd K tb δ1 s δ2) (hx : TV.datA δ2 r = some x) (hy : TV.datA δ2 s = some x) (ox : okD 16 x = true) : Rd K (tOp (rEqX K m) ta tb) δ (.d (.bl true)) δ2 :=
  Rd.is (rd_eqXP ha hb hx hy ox (okD_py ox)) (by rw [eqv_refl])
theorem rd_neSame {m : Nat} {r s : Arg} {x : TV.D} (ha : Rd K ta δ r δ1) (hb : Rd K tb δ1 s δ2) (hx : TV.datA δ2 r = some x) (hy : TV.datA δ2 s = some x) (ox : okD 16 x = true) : Rd K (tOp (rNeX K m) ta tb) δ (.d (.bl false)) δ2 :=
  Rd.is (rd_neXP ha hb hx hy ox (okD_py ox)) (by rw [eqv_refl]; rfl)
theorem eqvI : ∀ a b : List Int, PyData.eqvAll (pyL (a.map TV.D.int)) (pyL (b.map TV.D.int)) = decide (a = b)
  | [], [] => rfl
  | [], _ :: _ => rfl
  | _ :: _, [] => rfl
  | x :: a, y :: b => by
    show (decide (x = y) && PyData.eqvAll _ _) = _
    rw [eqvI a b]
    by_cases h : x = y <;> by_cases g : a = b <;> simp [h, g]
theorem okI (ns : List Int) : okD 16 (.lst (ns.map TV.D.int)) = true := by
  show List.all _ (okD 15) = true
  rw [List.all_eq_true]
  intro x hx
  obtain ⟨y, _, rfl⟩ := List.mem_map.mp hx
  rfl
theorem okIt (ns : List Int) : okD 16 (.tup (ns.map TV.D.int)) = true := by
  show List.all _ (okD 15) = true
  rw [List.all_eq_true]
  intro x hx
  obtain ⟨y, _, rfl⟩ := List.mem_map.mp hx
  rfl
theorem okB (ns : List Bool) : okD 16 (.lst (ns.map TV.D.bl)) = true := by
  show List.all _ (okD 15) = true
  rw [List.all_eq_true]
  intro x hx
  obtain ⟨y, _, rfl⟩ := List.mem_map.mp hx
  rfl
theorem okII (nss : List (List Int)) : okD 16 (.lst ((nss.map fun ns => ns.map TV.D.int).map TV.D.lst)) = true := by
  show List.all _ (okD 15) = true
  rw [List.all_eq_true]
  intro x hx
  obtain ⟨y, hy, rfl⟩ := List.mem_map.mp hx
  obtain ⟨z, _, rfl⟩ := List.mem_map.mp hy
  show List.all _ (okD 14) = true
  rw [List.all_eq_true]
  intro x hx
  obtain ⟨y, _, rfl⟩ := List.mem_map.mp hx
  rfl
theorem rd_eqLI {m : Nat} {r s : Arg} {a b : List Int} (ha : Rd K ta δ r δ1) (hb : Rd K tb δ1 s δ2) (hx : TV.datA δ2 r = some (.lst (a.map TV.D.int))) (hy : TV.datA δ2 s = some (.lst (b.map TV.D.int))) : Rd K (tOp (rEqX K m) ta tb) δ (.d (.bl (decide (a = b)))) δ2 :=
  Rd.is (rd_eqXP ha hb hx hy (okI a) (okD_py (okI b))) (by rw [← eqvI]; rfl)
theorem rd_neLI {m : Nat} {r s : Arg} {a b : List Int} (ha : Rd K ta δ r δ1) (hb : Rd K tb δ1 s δ2) (hx : TV.datA δ2 r = some (.lst (a.map TV.D.int))) (hy : TV.datA δ2 s = some (.lst (b.map TV.D.int))) : Rd K (tOp (rNeX K m) ta tb) δ (.d (.bl (!decide (a = b)))) δ2 :=
  Rd.is (rd_neXP ha hb hx hy (okI a) (okD_py (okI b))) (by rw [← eqvI]; rfl)
theorem eqv_nil (ds : List TV.D) : PyData.eqv (py (.lst ds)) (py (.lst [])) = ds.isEmpty := by
  cases ds with
  | nil => rfl
  | cons d r => rfl
theorem rd_eqNil {m : Nat} {r s : Arg} {ds : List TV.D} (ha : Rd K ta δ r δ1) (hb : Rd K tb δ1 s δ2) (hx : TV.datA δ2 r = some (.lst ds)) (hy : TV.datA δ2 s = some (.lst [])) (ox : okD 16 (.lst ds) = true) : Rd K (tOp (rEqX K m) ta tb) δ (.d (.bl ds.isEmpty)) δ2 :=
  Rd.is (rd_eqXP ha hb hx hy ox rfl) (by rw [eqv_nil])
theorem rd_neNil {m : Nat} {r s : Arg} {ds : List TV.D} (ha : Rd K ta δ r δ1) (hb : Rd K tb δ1 s δ2) (hx : TV.datA δ2 r = some (.lst ds)) (hy : TV.datA δ2 s = some (.lst [])) (ox : okD 16 (.lst ds) = true) : Rd K (tOp (rNeX K m) ta tb) δ (.d (.bl (!ds.isEmpty))) δ2 :=
  Rd.is (rd_neXP ha hb hx hy ox rfl) (by rw [eqv_nil])
/-- a test that must be false: the way behind it is never gone -/
theorem sd_chk (h : Rt K tt δ false δ1) (h2 : Sd K ps u δ1 D) : Sd K ps (tIfS tt t u) δ D := sd_if h (fun z => by cases z) fun _ => h2
theorem sd_chkT (h : Rt K tt δ true δ1) (h1 : Sd K ps t δ1 D) : Sd K ps (tIfS tt t u) δ D := sd_if h (fun _ => h1) fun z => by cases z
theorem rt_orF (h : Rt K tt δ false δ1) (g : Rt K tu δ1 false δ1) : Rt K (tOr tt tu) δ false δ1 := rt_or (a := false) (b := false) h fun _ => g
theorem rt_notF (h : Rt K tt δ true δ1) : Rt K (tNot tt) δ false δ1 := rt_not (b := true) h
theorem rt_notT (h : Rt K tt δ false δ1) : Rt K (tNot tt) δ true δ1 := rt_not (b := false) h
theorem rt_andF1 (h : Rt K tt δ false δ1) : Rt K (tAnd tt tu) δ false δ1 := rt_and (a := false) (b := false) h fun z => by cases z
theorem rt_andFa {a : Bool} (h : Rt K tt δ a δ1) (g : Rt K tu δ1 false δ1) : Rt K (tAnd tt tu) δ false δ1 := Rt.is (rt_and (a := a) (b := false) h fun _ => g) (by simp)
/-- what is known of one slot behind a statement, the rest is forgotten or kept -/
theorem sd_mid {α : Type} (i : Nat) (f : α → T) (p : α → Prop) (h : Sd K ps t δ { D with nx := fun δ' => ∃ a, p a ∧ Less (δ.set i (some (f a))) δ' }) (k : ∀ a, p a → Sd K ps u (δ.set i (some (f a))) D) : Sd K ps (tSeq t u) δ D :=
  sd_cut (fun δ' => ∃ a, p a ∧ Less (δ.set i (some (f a))) δ') h fun δ' ⟨a, pa, l⟩ => sd_less (k a pa) l
theorem less_set {i : Nat} {τ : T} (l : Less δ1 δ2) : Less (δ1.set i (some τ)) (δ2.set i (some τ)) := by
  refine ⟨by simp [l.1], fun j s h => ?_⟩
  by_cases e : i = j
  · subst e
    rw [List.getElem?_set] at h ⊢
    rw [if_pos rfl] at h ⊢
    rw [← l.1]
    exact h
  · rw [List.getElem?_set_ne e] at h ⊢
    exact l.2 j s h
theorem less_nones {r : Env} : Less (List.replicate r.length none) r := ⟨by simp, fun j s h => by
  rw [List.getElem?_replicate] at h
  split at h <;> cases h⟩
theorem less_cons {a : Option T} {r r' : Env} (l : Less r' r) : Less (a :: r') (a :: r) := ⟨by simp [l.1], fun j s h => by
  cases j with
  | zero => exact h
  | succ j => exact l.2 j s (by simpa using h)⟩
theorem less_consN {a : Option T} {r r' : Env} (l : Less r' r) : Less (none :: r') (a :: r) := ⟨by simp [l.1], fun j s h => by
  cases j with
  | zero => simp at h
  | succ j => exact l.2 j s (by simpa using h)⟩
theorem less_fin {a : Option T} {r : Env} {n : Nat} (h : r.length = n) : ∃ δ'', Less δ'' (a :: r) ∧ δ'' = a :: List.replicate n none := ⟨_, less_cons less_nones, by rw [h]⟩
/-- a comprehension over range(..) that changes one slot -/
theorem ro_lcS {wi : TI} {g : TG} {vs : List Nat} {items : List TV.D} {srcs : Srcs} (s : Nat) (st : Nat → T) (f : Nat → TV.D) (hw : Wk K wi δ items srcs δ1) (h0 : δ1.set s (some (st 0)) = δ1) (hz : items.length ≤ 100000) (hk : ∀ τ, okS (δ1.set s (some τ)) srcs) (hn : ∀ τ, wipeE (δ1.set s (some τ)) vs = δ1.set s (some τ))
    (hs : ∀ i x, items[i]? = some x → ∃ δx, Gd K (others δ1.length vs) g x (δ1.set s (some (st i))) δx ∧ δx.length = δ1.length ∧ Rt K tt δx true δx ∧ ∃ δ3, Rd K te δx (.d (f i)) δ3 ∧ Less (δ1.set s (some (st (i + 1)))) (wipeE δ3 vs)) : Ro K (tLc wi g tt te vs) δ (.ls ((List.range items.length).map f)) (δ1.set s (some (st items.length))) := by
  refine ro_lc hw (fun i acc δ => δ = δ1.set s (some (st i)) ∧ acc = (List.range i).map f) ⟨h0.symm, rfl⟩ ?_ hz (fun i acc δ p => ?_) (fun i x acc δ hi p => ?_) (fun acc δ p => ?_)
  · have := hn (st 0)
    rw [h0] at this
    exact this
  · rw [p.1]
    exact ⟨hk _, hn _, by simp⟩
  · obtain ⟨rfl, rfl⟩ := p
    obtain ⟨δx, h1, h2, h3, δ3, h4, h5⟩ := hs i x hi
    refine ⟨δx, true, δx, h1, h2, h3, fun _ => ⟨f i, δ3, h4, _, h5, rfl, ?_⟩, fun z => by cases z⟩
    rw [List.range_succ, List.map_append]
    rfl
  · obtain ⟨rfl, rfl⟩ := p
    exact ⟨rfl, Less.refl⟩
end
end TV

namespace TV
open PySem PySem.Spec PyProof.Rows L2
section
variable {K : PySem.W.Frag} {ps : List Nat} {δ δ1 δ2 δ3 : Env} {ta tb te : TE} {tt tu : TT} {t u : TS} {D : EndT}
theorem less_nil : Less [] [] := Less.refl
theorem less_consE {a b : Option T} {r r' : Env} (e : a = b) (l : Less r' r) : Less (a :: r') (b :: r) := e ▸ less_cons l
theorem Less.trans' {a b c : Env} (l : Less a b) (m : Less b c) : Less a c := ⟨l.1.trans m.1, fun i s h => m.2 i s (l.2 i s h)⟩
/-- for: the slots at each item are told by E -/
theorem sd_forE {wi : TI} {g : TG} {tb : TS} {items : List TV.D} {srcs : Srcs} (E : Nat → Env) (hw : Wk K wi δ items srcs δ1) (h0 : Less (E 0) δ1) (hk : ∀ i, okS (E i) srcs)
    (hs : ∀ (i : Nat) (x : TV.D), items[i]? = some x → ∃ δx, Gd K (keepS srcs ++ ps) g x (E i) δx ∧ Sd K (keepS srcs ++ ps) tb δx { D with nx := fun δ' => Less (E (i + 1)) δ', ct := fun δ' => Less (E (i + 1)) δ', bk := D.nx })
    (hd : D.nx (E items.length)) : Sd K ps (tFor wi g tb) δ D := fun z M σ H r Ee hE => by
  have hw' : Wk K wi δ items srcs (E 0) := fun z M σ H r Rk q => hw z M σ H r Rk fun M' J H' e r' it => q M' J H' e (r'.less h0) it
  refine sd_for hw' (fun i δ => δ = E i) rfl (fun i δ p => by rw [p]; exact hk i) (fun i x δ hi p => ?_) (fun δ p => by rw [p]; exact hd) z M σ H r Ee hE
  subst p
  obtain ⟨δx, h1, h2⟩ := hs i x hi
  refine ⟨δx, h1, ?_⟩
  have hf : ∀ δ', Less (E (i + 1)) δ' → Pn (fun i δ => δ = E i) (i + 1) δ' := fun δ' l => ⟨_, l, rfl⟩
  intro z M σ H r Ee hE
  exact h2 z M σ H r Ee ⟨fun M' σ' H' δ' e r' k p => hE.nx M' σ' H' δ' e r' k (hf δ' p), fun M' σ' v H' δ' τ e r' k p => hE.rt M' σ' v H' δ' τ e r' k p, fun M' σ' H' δ' e r' k p => hE.bk M' σ' H' δ' e r' k p, fun M' σ' H' δ' e r' k p => hE.ct M' σ' H' δ' e r' k (hf δ' p)⟩
/-- for: nothing changes but the slots vs, that are forgotten -/
theorem sd_forS {wi : TI} {g : TG} {tb : TS} {items : List TV.D} {srcs : Srcs} (vs : List Nat) (hw : Wk K wi δ items srcs δ1) (hk : okS (wipeE δ1 vs) srcs)
    (hs : ∀ (i : Nat) (x : TV.D), items[i]? = some x → ∃ δx, Gd K (keepS srcs ++ ps) g x (wipeE δ1 vs) δx ∧ Sd K (keepS srcs ++ ps) tb δx { D with nx := fun δ' => Less (wipeE δ1 vs) δ', ct := fun δ' => Less (wipeE δ1 vs) δ', bk := D.nx })
    (hd : D.nx (wipeE δ1 vs)) : Sd K ps (tFor wi g tb) δ D := sd_forE (fun _ => wipeE δ1 vs) hw less_wipe (fun _ => hk) hs hd
/-- for: one slot s changes, besides vs -/
theorem sd_for1 {wi : TI} {g : TG} {tb : TS} {items : List TV.D} {srcs : Srcs} (vs : List Nat) (s : Nat) (st : Nat → T) (hw : Wk K wi δ items srcs δ1) (h0 : (wipeE δ1 vs).set s (some (st 0)) = wipeE δ1 vs) (hk : ∀ i, okS ((wipeE δ1 vs).set s (some (st i))) srcs)
    (hs : ∀ (i : Nat) (x : TV.D), items[i]? = some x → ∃ δx, Gd K (keepS srcs ++ ps) g x ((wipeE δ1 vs).set s (some (st i))) δx ∧ Sd K (keepS srcs ++ ps) tb δx { D with nx := fun δ' => Less ((wipeE δ1 vs).set s (some (st (i + 1)))) δ', ct := fun δ' => Less ((wipeE δ1 vs).set s (some (st (i + 1)))) δ', bk := D.nx })
    (hd : D.nx ((wipeE δ1 vs).set s (some (st items.length)))) : Sd K ps (tFor wi g tb) δ D := sd_forE (fun i => (wipeE δ1 vs).set s (some (st i))) hw (show Less ((wipeE δ1 vs).set s (some (st 0))) δ1 by rw [h0]; exact less_wipe) hk hs hd
end
end TV

namespace TV
open PySem PySem.Spec PyProof.Rows L2
theorem kmindex {X : Cx} (K : PySem.W.Frag) (hK : X.K = K := by rfl) : MtR X "list.index" (rIndex K) := hK ▸ mt_index
section
variable {K : PySem.W.Frag} {ps : List Nat} {δ δ1 δ2 δ3 : Env} {ta tb te : TE} {tt tu : TT} {t u : TS} {D : EndT}
theorem RR.tyL {z : Z} {M H : Hp} {σ : L2.St} (r : RR K z M σ H δ) {x : Arg} {ds : List TV.D} {v : V} (h : viewL δ x = some ds) (ok : ArgOk K M σ x v) : tyV K "list" v H := by
  obtain ⟨a, vs, rfl, h1, _⟩ := r.view h ok
  exact .inl ⟨rfl, vs, h1⟩
theorem flat_ints (ns : List Int) : (ns.map V.int).all flatV = true := by
  rw [List.all_eq_true]
  intro x hx
  obtain ⟨i, _, rfl⟩ := List.mem_map.mp hx
  rfl
theorem rd_indexI {r : Arg} {ns : List Int} {k : Int} {j : Nat} (ha : Rd K ta δ r δ1) (hv0 : viewL δ1 r = some (ns.map TV.D.int)) (hb : Rd K tb δ1 (.d (.int k)) δ2) (hv : viewL δ2 r = some (ns.map TV.D.int)) (hj : ns[j]? = some k) (hn : ∀ m : Nat, m < j → ns[m]? ≠ some k) : Rd K (tBM K "list" (rIndex K) ta (tCons tb tNil)) δ (.d (.int (j : Nat))) δ2 := fun z M σ H r0 Q q =>
  ha z M σ H r0 _ fun M1 v H1 e1 r1 p1 => by
    refine ⟨r1.tyL hv0 p1, hb z M1 σ H1 r1 _ fun M2 w H2 e2 r2 p2 => ?_⟩
    obtain ⟨a, vs, rfl, h1, h2⟩ := r2.view hv (p1.mono e2)
    have p2 : w = .int k := p2
    subst p2
    have e := h2.ints_of
    subst e
    refine ⟨a, ns.map V.int, .int k, j, .int k, rfl, rfl, h1, rfl, flat_ints ns, by rw [List.getElem?_map, hj]; rfl, by simp [eqV], fun m z' hm hz => ?_, q M2 _ H2 (e1.trans e2) r2 rfl⟩
    rw [List.getElem?_map] at hz
    cases e : ns[m]? with
    | none => rw [e] at hz; cases hz
    | some c =>
      rw [e] at hz
      cases hz
      have := hn m hm
      rw [e] at this
      simp only [eqV]
      simpa using this
theorem minDD_ints : ∀ (r : List Int) (a : Int), ∃ v, minDD (.int a) (r.map TV.D.int) = .int v ∧ v ∈ a :: r ∧ ∀ x ∈ a :: r, v ≤ x
  | [], a => ⟨a, rfl, by simp, by simp⟩
  | b :: r, a => by
    have e : minDD (.int a) ((b :: r).map TV.D.int) = minDD (if PySem.W.dataLt (.int b) (.int a) then .int b else .int a) (r.map TV.D.int) := rfl
    have e2 : PySem.W.dataLt (.int b) (.int a) = decide (b < a) := PySem.W.dataLt_int b a
    rw [e, e2]
    by_cases h : b < a
    · rw [if_pos (by simpa using h)]
      obtain ⟨v, h1, h2, h3⟩ := minDD_ints r b
      refine ⟨v, h1, by simp at h2 ⊢; rcases h2 with h | h <;> simp [h], fun x hx => ?_⟩
      simp at hx
      rcases hx with hx | hx | hx
      · have := h3 b (by simp)
        omega
      · have := h3 b (by simp)
        omega
      · exact h3 x (by simp [hx])
    · rw [if_neg (by simpa using h)]
      obtain ⟨v, h1, h2, h3⟩ := minDD_ints r a
      refine ⟨v, h1, by simp at h2 ⊢; rcases h2 with h | h <;> simp [h], fun x hx => ?_⟩
      simp at hx
      rcases hx with hx | hx | hx
      · have := h3 a (by simp)
        omega
      · have := h3 a (by simp)
        omega
      · exact h3 x (by simp [hx])
theorem rd_minI {r : Arg} {ns : List Int} {v : Int} (ha : Rd K ta δ r δ1) (hv : viewL δ1 r = some (ns.map TV.D.int)) (hm : v ∈ ns) (hl : ∀ x ∈ ns, v ≤ x) : Rd K (tCB (rMinP K) (tCons ta tNil)) δ (.d (.int v)) δ1 := by
  cases ns with
  | nil => cases hm
  | cons a rr =>
    obtain ⟨v', h1, h2, h3⟩ := minDD_ints rr a
    have e : v = v' := by
      have := hl v' h2
      have := h3 v hm
      omega
    subst e
    have h := rd_minP (K := K) (r := r) (d := .int a) (ds := rr.map TV.D.int) ha hv (by
      rw [List.all_eq_true]
      intro x hx
      have hx : x ∈ (a :: rr).map TV.D.int := hx
      obtain ⟨i, _, rfl⟩ := List.mem_map.mp hx
      rfl) (fun x hx y hy => by
      have hx : x ∈ (a :: rr).map TV.D.int := hx
      have hy : y ∈ (a :: rr).map TV.D.int := hy
      obtain ⟨i, _, rfl⟩ := List.mem_map.mp hx
      obtain ⟨j, _, rfl⟩ := List.mem_map.mp hy
      rfl) (fun x hx => by
      have hx : x ∈ (a :: rr).map TV.D.int := hx
      obtain ⟨i, _, rfl⟩ := List.mem_map.mp hx
      intro z
      cases z)
    rw [h1] at h
    exact h
/-- comprehensions that change nothing, their items told by index -/
theorem ro_lcP {wi : TI} {g : TG} {vs : List Nat} {items : List TV.D} {srcs : Srcs} (f : Nat → TV.D) (hw : Wk K wi δ items srcs δ1) (hk : okS δ1 srcs) (hn : wipeE δ1 vs = δ1) (hz : items.length ≤ 100000)
    (hs : ∀ (i : Nat) (x : TV.D), items[i]? = some x → ∃ δx, Gd K (others δ1.length vs) g x δ1 δx ∧ wipeE δx vs = δ1 ∧ δx.length = δ1.length ∧ Rt K tt δx true δx ∧ Rd K te δx (.d (f i)) δx) : Ro K (tLc wi g tt te vs) δ (.ls ((List.range items.length).map f)) δ1 := by
  refine ro_lc hw (fun i acc δ => δ = δ1 ∧ acc = (List.range i).map f) ⟨rfl, rfl⟩ hn hz (fun i acc δ p => by rw [p.1]; exact ⟨hk, hn, rfl⟩) (fun i x acc δ hi p => ?_) (fun acc δ p => ?_)
  · obtain ⟨rfl, rfl⟩ := p
    obtain ⟨δx, h1, h2, h3, h4, h5⟩ := hs i x hi
    refine ⟨δx, true, δx, h1, h3, h4, fun _ => ⟨f i, δx, h5, δ, by rw [h2]; exact Less.refl, rfl, ?_⟩, fun z => by cases z⟩
    rw [List.range_succ, List.map_append]
    rfl
  · obtain ⟨rfl, rfl⟩ := p
    exact ⟨rfl, Less.refl⟩
theorem ro_lcPI {wi : TI} {g : TG} {vs : List Nat} {items : List TV.D} {srcs : Srcs} {n : Nat} (f : Nat → Int) (hw : Wk K wi δ items srcs δ1) (hk : okS δ1 srcs) (hn : wipeE δ1 vs = δ1) (hl : items.length = n) (hz : n ≤ 100000)
    (hs : ∀ (i : Nat) (x : TV.D), items[i]? = some x → ∃ δx, Gd K (others δ1.length vs) g x δ1 δx ∧ wipeE δx vs = δ1 ∧ δx.length = δ1.length ∧ Rt K tt δx true δx ∧ Rd K te δx (.d (.int (f i))) δx) : Ro K (tLc wi g tt te vs) δ (.ls (((List.range n).map f).map TV.D.int)) δ1 :=
  Ro.is (ro_lcP (fun i => .int (f i)) hw hk hn (by rw [hl]; exact hz) hs) (by rw [List.map_map, hl]; rfl)
theorem ro_lcSI {wi : TI} {g : TG} {vs : List Nat} {items : List TV.D} {srcs : Srcs} {n : Nat} (s : Nat) (st : Nat → T) (f : Nat → Int) (hw : Wk K wi δ items srcs δ1) (h0 : δ1.set s (some (st 0)) = δ1) (hl : items.length = n) (hz : n ≤ 100000) (hk : ∀ τ, okS (δ1.set s (some τ)) srcs) (hn : ∀ τ, wipeE (δ1.set s (some τ)) vs = δ1.set s (some τ))
    (hs : ∀ (i : Nat) (x : TV.D), items[i]? = some x → ∃ δx, Gd K (others δ1.length vs) g x (δ1.set s (some (st i))) δx ∧ δx.length = δ1.length ∧ Rt K tt δx true δx ∧ ∃ δ3, Rd K te δx (.d (.int (f i))) δ3 ∧ Less (δ1.set s (some (st (i + 1)))) (wipeE δ3 vs)) : Ro K (tLc wi g tt te vs) δ (.ls (((List.range n).map f).map TV.D.int)) (δ1.set s (some (st n))) :=
  hl ▸ Ro.is (ro_lcS s st (fun i => .int (f i)) hw h0 (by rw [hl]; exact hz) hk hn hs) (by rw [List.map_map]; rfl)
end
/-! looking for the first -/
theorem find_at {p : Nat → Bool} {n i : Nat} (h : ∀ j, j < i → p j = false) (hi : p i = true) (hn : i < n) : (List.range n).find? p = some i := by
  rw [List.find?_range_eq_some]
  exact ⟨hi, by simpa using hn, fun j hj => by simp [h j hj]⟩
theorem find_no {p : Nat → Bool} {n : Nat} (h : ∀ j, j < n → p j = false) : (List.range n).find? p = none := by
  rw [List.find?_eq_none]
  intro j hj
  have := h j (by simpa using hj)
  simp [this]
end TV

namespace TV
open PySem PySem.Spec PyProof.Rows L2
section
variable {K : PySem.W.Frag} {ps : List Nat} {δ δ1 δ2 δ3 : Env} {ta tb te : TE} {tt tu : TT} {t u : TS} {D : EndT}
theorem cutT {α : Type} (xs : List α) (j : Nat) : cutL xs none (some (j : Int)) = xs.take j := by
  unfold cutL
  rw [HT.sIx_nat, HT.sIx_none]
  simp only [List.drop_zero, Nat.sub_zero]
  rcases Nat.le_total j xs.length with h | h
  · rw [Nat.min_eq_left h]
  · rw [Nat.min_eq_right h, List.take_of_length_le (Nat.le_refl _), List.take_of_length_le h]
theorem cutD {α : Type} (xs : List α) (j : Nat) : cutL xs (some (j : Int)) none = xs.drop j := by
  unfold cutL
  rw [HT.sIx_nat, HT.sIx_none]
  rcases Nat.le_total j xs.length with h | h
  · rw [Nat.min_eq_left h]
    exact List.take_of_length_le (by rw [List.length_drop]; exact Nat.le_refl _)
  · rw [Nat.min_eq_right h, List.drop_of_length_le (Nat.le_refl _), List.drop_of_length_le h]
    simp
theorem ro_takeI {r : Arg} {ns : List Int} {k : Int} {th : TO} (ha : Rd K te δ r δ1) (hh : Rn K th δ1 (some k) δ3) (hv : viewL δ3 r = some (ns.map TV.D.int)) (h0 : 0 ≤ k) : Ro K (tSl (rSlL K) te tNoPart th) δ (.ls ((ns.take k.toNat).map TV.D.int)) δ3 :=
  Ro.is (ro_slice ha rn_none hh hv) (by
    obtain ⟨j, rfl⟩ := Int.eq_ofNat_of_zero_le h0
    rw [cutT, List.map_take]
    rfl)
theorem ro_dropI {r : Arg} {ns : List Int} {k : Int} {tl : TO} (ha : Rd K te δ r δ1) (hh : Rn K tl δ1 (some k) δ3) (hv : viewL δ3 r = some (ns.map TV.D.int)) (h0 : 0 ≤ k) : Ro K (tSl (rSlL K) te tl tNoPart) δ (.ls ((ns.drop k.toNat).map TV.D.int)) δ3 :=
  Ro.is (ro_slice ha hh rn_none hv) (by
    obtain ⟨j, rfl⟩ := Int.eq_ofNat_of_zero_le h0
    rw [cutD, List.map_drop]
    rfl)
theorem ro_takeX {r : Arg} {ns : List TV.D} {k : Int} {th : TO} (ha : Rd K te δ r δ1) (hh : Rn K th δ1 (some k) δ3) (hv : viewL δ3 r = some ns) (h0 : 0 ≤ k) : Ro K (tSl (rSlL K) te tNoPart th) δ (.ls (ns.take k.toNat)) δ3 :=
  Ro.is (ro_slice ha rn_none hh hv) (by
    obtain ⟨j, rfl⟩ := Int.eq_ofNat_of_zero_le h0
    rw [cutT]
    rfl)
theorem ro_dropX {r : Arg} {ns : List TV.D} {k : Int} {tl : TO} (ha : Rd K te δ r δ1) (hh : Rn K tl δ1 (some k) δ3) (hv : viewL δ3 r = some ns) (h0 : 0 ≤ k) : Ro K (tSl (rSlL K) te tl tNoPart) δ (.ls (ns.drop k.toNat)) δ3 :=
  Ro.is (ro_slice ha hh rn_none hv) (by
    obtain ⟨j, rfl⟩ := Int.eq_ofNat_of_zero_le h0
    rw [cutD]
    rfl)
theorem rd_addLI {r s : Arg} {a b : List Int} (ha : Rd K ta δ r δ1) (hb : Rd K tb δ1 s δ2) (hv : dirL δ2 r = some (a.map TV.D.int)) (hw : dirL δ2 s = some (b.map TV.D.int)) (hl : a.length + b.length ≤ 100000) : Ro K (tOp rAddX ta tb) δ (.ls ((a ++ b).map TV.D.int)) δ2 :=
  Ro.is (rd_addL ha hb hv hw (by simpa using hl)) (by rw [List.map_append])
/-- [1, 2, 3][v] of whole numbers -/
theorem rd_tab (xs : List Int) {t : TA} {v : Int} (ha : Ra K t δ (xs.map fun i => Arg.d (.int i)) δ1) (hb : Rd K tb δ1 (.d (.int v)) δ2) (h0 : 0 ≤ v) (h1 : v < xs.length) (hl : xs.length ≤ 1000) : Rd K (tOp (rIx K) (tLst t) tb) δ (.d (.int (xs.getD v.toNat 0))) δ2 := by
  obtain ⟨j, rfl⟩ := Int.eq_ofNat_of_zero_le h0
  have hj : j < xs.length := by omega
  refine rd_ixX (Ro.frz (x := .lst (xs.map TV.D.int)) (ro_lst (ds := xs.map TV.D.int) ha (by rw [List.map_map]; rfl) (by simpa using hl)) rfl) hb rfl (atI_nat ?_)
  rw [List.getElem?_map, List.getElem?_eq_getElem hj]
  simp [hj]
theorem tab_mem (xs : List Int) (j : Nat) : xs.getD j 0 ∈ 0 :: xs := by
  rw [List.getD_eq_getElem?_getD]
  cases e : xs[j]? with
  | none => simp
  | some v => simp [List.mem_of_getElem? e]
theorem rng0_get {n i : Nat} {x : TV.D} (h : (rngD 0 n)[i]? = some x) : i < n ∧ x = .int (i : Nat) := by
  obtain ⟨h1, rfl⟩ := rngD_get h
  exact ⟨h1, by rw [Int.zero_add]⟩
theorem rngD_len {lo : Int} {n m : Nat} (h : n = m) : (rngD lo n).length = m := by rw [rngD_length, h]
end
end TV

namespace TV
open PySem PySem.Spec PyProof.Rows L2
section
variable {K : PySem.W.Frag} {ps : List Nat} {δ δ1 δ2 δ3 : Env} {ta tb te : TE} {tt tu : TT} {t u : TS} {D : EndT}
theorem sd_mid2 {α : Type} (i j : Nat) (f g : α → T) (p : α → Prop) (h : Sd K ps t δ { D with nx := fun δ' => ∃ a, p a ∧ Less ((δ.set i (some (f a))).set j (some (g a))) δ' }) (k : ∀ a, p a → Sd K ps u ((δ.set i (some (f a))).set j (some (g a))) D) : Sd K ps (tSeq t u) δ D :=
  sd_cut (fun δ' => ∃ a, p a ∧ Less ((δ.set i (some (f a))).set j (some (g a))) δ') h fun δ' ⟨a, pa, l⟩ => sd_less (k a pa) l
/-- what is known of all slots behind a statement -/
theorem sd_midE {α : Type} (E : α → Env) (p : α → Prop) (h : Sd K ps t δ { D with nx := fun δ' => ∃ a, p a ∧ Less (E a) δ' }) (k : ∀ a, p a → Sd K ps u (E a) D) : Sd K ps (tSeq t u) δ D :=
  sd_cut (fun δ' => ∃ a, p a ∧ Less (E a) δ') h fun δ' ⟨a, pa, l⟩ => sd_less (k a pa) l
theorem rt_andT {b : Bool} (h : Rt K tt δ true δ1) (g : Rt K tu δ1 b δ2) : Rt K (tAnd tt tu) δ b δ2 := Rt.is (rt_andE (a := true) h (fun _ => g) rfl) (by simp)
theorem rt_orS {b : Bool} (h : Rt K tt δ false δ1) (g : Rt K tu δ1 b δ2) : Rt K (tOr tt tu) δ b δ2 := Rt.is (rt_orE (a := false) h (fun _ => g) rfl) (by simp)
theorem rt_orT (h : Rt K tt δ true δ1) : Rt K (tOr tt tu) δ true δ1 := rt_or (a := true) (b := true) h fun z => by cases z
theorem tab_nat (xs : List Int) (j b : Nat) (h : ∀ x ∈ 0 :: xs, 0 ≤ x ∧ x ≤ (b : Int)) : ∃ n : Nat, xs.getD j 0 = (n : Int) ∧ n ≤ b := by
  obtain ⟨h1, h2⟩ := h _ (tab_mem xs j)
  exact ⟨(xs.getD j 0).toNat, by omega, by omega⟩
theorem tab_rng (xs : List Int) (j : Nat) (lo hi : Int) (h : ∀ x ∈ 0 :: xs, lo ≤ x ∧ x ≤ hi) : lo ≤ xs.getD j 0 ∧ xs.getD j 0 ≤ hi := h _ (tab_mem xs j)
theorem ixNn {n j : Nat} (hj : j < n) : ixN n (j : Int) = some j := by
  unfold ixN
  rw [if_pos (by omega), if_pos (by omega)]
  simp
theorem atTab {xs : List Int} {v : Int} (h0 : 0 ≤ v) (h1 : v < xs.length) : atI (xs.map TV.D.int) v = some (.int (xs.getD v.toNat 0)) := by
  obtain ⟨j, rfl⟩ := Int.eq_ofNat_of_zero_le h0
  have hj : j < xs.length := by omega
  refine atI_nat ?_
  rw [List.getElem?_map, List.getElem?_eq_getElem hj]
  simp [hj]
end
end TV

namespace TV
open PySem PySem.Spec PyProof.Rows L2
/-! dicts with whole numbers and texts as keys, tuples unpacked, extend -/
section
variable {X : Cx} {o i e value : Expr} {pos pos' tpos : Pos} {td ty tv : TE}
theorem kdin (hu : X.A.units + 64 < cLine) (hi : PE X i ty) (ho : PE X o td) : PC X .In i o (tDIn ty td) := pc_din (by omega) hi ho
theorem kdnotin (hu : X.A.units + 64 < cLine) (hi : PE X i ty) (ho : PE X o td) : PC X .NotIn i o (tDNotIn ty td) := pc_dnotin (by omega) hi ho
theorem kdput (hu : X.A.units + 64 < cLine) (ho : PE X o td) (hi : PE X i ty) (hv : PE X value tv) (hs : swapsWith value (some (.Subscript o i pos')) pos.line X.env = pure false) : PS X (.Assign [.Subscript o i pos'] value pos) (sDPut td ty tv) := ps_dput (by omega) ho hi hv hs
theorem kdget (hu : X.A.units + 64 < cLine) (ho : PE X o td) (hi : PE X i ty) (hs : NoSl i) : PE X (.Subscript o i pos) (tDGet td ty) := pe_dget (by omega) ho hi hs
end
def putD {κ : Type} [DecidableEq κ] (kvs : List (κ × D)) (k : κ) (v : D) : List (κ × D) :=
  if (kvs.any fun kv => decide (kv.1 = k)) = true then kvs.map (fun kv => if kv.1 = k then (kv.1, v) else kv) else kvs ++ [(k, v)]
def valD {κ : Type} [DecidableEq κ] (kvs : List (κ × D)) (k : κ) : Option D := (kvs.find? fun kv => decide (kv.1 = k)).map (·.2)
section
variable {K : PySem.W.Frag} {M : Hp} {κ : Type} [DecidableEq κ]
theorem KR.any : ∀ {kvs : List (κ × D)} {kv : List (κ × V)} (k : κ), KR K M kvs kv → (kv.any fun p => decide (p.1 = k)) = kvs.any fun p => decide (p.1 = k)
  | [], _, _, h => by cases h; rfl
  | p :: r, _, k, ⟨v, q, e, h1, h2⟩ => by
    subst e
    rw [List.any_cons, List.any_cons, KR.any k h2]
theorem KR.append : ∀ {a b : List (κ × D)} {a' b' : List (κ × V)}, KR K M a a' → KR K M b b' → KR K M (a ++ b) (a' ++ b')
  | [], _, _, _, h, g => by cases h; exact g
  | p :: r, _, _, _, ⟨v, q, e, h1, h2⟩, g => by
    subst e
    exact ⟨v, _, rfl, h1, KR.append h2 g⟩
theorem KR.mapPut : ∀ {kvs : List (κ × D)} {kv : List (κ × V)} {k : κ} {x : D} {v : V}, KR K M kvs kv → Rp K M x v → KR K M (kvs.map fun p => if p.1 = k then (p.1, x) else p) (kv.map fun p => if p.1 = k then (p.1, v) else p)
  | [], _, _, _, _, h, _ => by cases h; rfl
  | p :: r, _, k, x, v, ⟨u, q, e, h1, h2⟩, g => by
    subst e
    rw [List.map_cons, List.map_cons]
    by_cases hk : p.1 = k
    · rw [if_pos hk, if_pos hk]
      exact ⟨v, _, rfl, g, KR.mapPut h2 g⟩
    · rw [if_neg hk, if_neg hk]
      exact ⟨u, _, rfl, h1, KR.mapPut h2 g⟩
theorem KR.put {kvs : List (κ × D)} {kv : List (κ × V)} {k : κ} {x : D} {v : V} (h : KR K M kvs kv) (g : Rp K M x v) : KR K M (putD kvs k x) (putK kv k v) := by
  unfold putD putK
  rw [h.any k]
  split
  · exact h.mapPut g
  · exact h.append ⟨v, [], rfl, g, rfl⟩
theorem KR.length : ∀ {kvs : List (κ × D)} {kv : List (κ × V)}, KR K M kvs kv → kv.length = kvs.length
  | [], _, h => by cases h; rfl
  | p :: r, _, ⟨v, q, e, h1, h2⟩ => by subst e; simp [KR.length h2]
theorem KR.val : ∀ {kvs : List (κ × D)} {kv : List (κ × V)} (k : κ), KR K M kvs kv → (valD kvs k = none ∧ valV kv k = none) ∨ ∃ x v, valD kvs k = some x ∧ valV kv k = some v ∧ Rp K M x v
  | [], _, _, h => by cases h; exact .inl ⟨rfl, rfl⟩
  | p :: r, _, k, ⟨v, q, e, h1, h2⟩ => by
    subst e
    by_cases hk : p.1 = k
    · exact .inr ⟨p.2, v, by simp [valD, hk], by simp [valV, hk], h1⟩
    · rcases KR.val k h2 with ⟨a, b⟩ | ⟨x, w, a, b, c⟩
      · exact .inl ⟨by simpa [valD, List.find?_cons, hk] using a, by simpa [valV, List.find?_cons, hk] using b⟩
      · exact .inr ⟨x, w, by simpa [valD, List.find?_cons, hk] using a, by simpa [valV, List.find?_cons, hk] using b, c⟩
end
section
variable {K : PySem.W.Frag} {ps : List Nat} {δ δ1 δ2 δ3 : Env} {ta tb te td ty tv : TE} {tt tu : TT} {t u : TS} {D : EndT}
theorem RR.dkAt {z : Z} {M H : Hp} {σ : L2.St} (r : RR K z M σ H δ) {i : Nat} {kvs : List (Key × TV.D)} (h : δ[i]? = some (some (.dk kvs))) :
    ∃ a kv, σ[i]? = some (some (.ref a)) ∧ H a = some (.dK kv) ∧ KR K M kvs kv ∧ ∀ kvs' kv', KR K M kvs' kv' → RR K z M σ (upd H a (.dK kv')) (δ.set i (some (.dk kvs'))) := by
  obtain ⟨v, hv, P, ow, _⟩ := r.at h
  obtain ⟨a, kv, rfl, h2, h3, h4⟩ := ow
  refine ⟨a, kv, hv, h3, h4, fun kvs' kv' hr => r.write h hv trivial fun P' ow' => ?_⟩
  obtain ⟨a', vs2, e, p2, _, _⟩ := ow'
  cases e
  exact ⟨p2, a, kv', rfl, p2, upd_same, hr⟩
theorem ro_dnewK : Ro K tDNewK δ (.dk []) δ := fun z M σ H r Q q => fun p hp => q M (.ref p) _ (Same.refl M) (r.pushNew hp trivial fun P hP => ⟨p, [], rfl, hP, upd_same, rfl⟩)
theorem hasV {κ : Type} [DecidableEq κ] (kv : List (κ × V)) (k : κ) : (valV kv k).isSome = kv.any fun p => decide (p.1 = k) := (valV_any k kv).symm
theorem rd_dnotinI {i : Nat} {k : Int} {kvs : List (Key × TV.D)} (ha : Rd K ty δ (.d (.int k)) δ1) (hi : δ1[i]? = some (some (.dk kvs))) : Rd K (tDNotIn ty (tVar i)) δ (.d (.bl (!kvs.any fun p => decide (p.1 = .inl k)))) δ1 := fun z M σ H r Q q =>
  ha z M σ H r _ fun M1 v H1 e1 r1 p1 => by
    obtain ⟨a, kv, hv, hH, hr, _⟩ := r1.dkAt hi
    have p1 : v = .int k := p1
    subst p1
    refine ⟨.ref a, hv, a, valV kv (.inl k), rfl, DGet.k (k := .inl k) hH, q M1 _ H1 e1 r1 ?_⟩
    show _ = _
    rw [hasV, hr.any]
theorem rd_dinI {i : Nat} {k : Int} {kvs : List (Key × TV.D)} (ha : Rd K ty δ (.d (.int k)) δ1) (hi : δ1[i]? = some (some (.dk kvs))) : Rd K (tDIn ty (tVar i)) δ (.d (.bl (kvs.any fun p => decide (p.1 = .inl k)))) δ1 := fun z M σ H r Q q =>
  ha z M σ H r _ fun M1 v H1 e1 r1 p1 => by
    obtain ⟨a, kv, hv, hH, hr, _⟩ := r1.dkAt hi
    have p1 : v = .int k := p1
    subst p1
    refine ⟨.ref a, hv, a, valV kv (.inl k), rfl, DGet.k (k := .inl k) hH, q M1 _ H1 e1 r1 ?_⟩
    show _ = _
    rw [hasV, hr.any]
theorem rd_dgetI {i : Nat} {k : Int} {x : TV.D} {kvs : List (Key × TV.D)} (h0 : ∃ kvs0, δ[i]? = some (some (.dk kvs0))) (ha : Rd K ty δ (.d (.int k)) δ1) (hi : δ1[i]? = some (some (.dk kvs))) (hx : valD kvs (.inl k) = some x) : Rd K (tDGet (tVar i) ty) δ (.d x) δ1 := fun z M σ H r Q q => by
  obtain ⟨kvs0, h0⟩ := h0
  obtain ⟨a0, kv0, hv0, _⟩ := r.dkAt h0
  refine ⟨.ref a0, hv0, ha z M σ H r _ fun M1 v H1 e1 r1 p1 => ?_⟩
  obtain ⟨a, kv, hv, hH, hr, _⟩ := r1.dkAt hi
  rw [hv] at hv0
  cases hv0
  have p1 : v = .int k := p1
  subst p1
  rcases hr.val (.inl k) with ⟨n, _⟩ | ⟨y, w, e, e2, rp⟩
  · rw [hx] at n; cases n
  · rw [hx] at e
    cases e
    exact ⟨a0, w, rfl, .inl ⟨kv, .inl k, .inl hH, rfl, e2.symm⟩, q M1 w H1 e1 r1 rp⟩
theorem sd_dputI {i : Nat} {k : Int} {x : TV.D} {kvs0 kvs : List (Key × TV.D)} (hv : Rd K tv δ (.d x) δ1) (h1 : δ1[i]? = some (some (.dk kvs0))) (ha : Rd K ty δ1 (.d (.int k)) δ2) (h2 : δ2[i]? = some (some (.dk kvs))) (hl : kvs.length < 100000) (hn : D.nx (δ2.set i (some (.dk (putD kvs (.inl k) x))))) : Sd K ps (sDPut (tVar i) ty tv) δ D := fun z M σ H r E hE =>
  hv z M σ H r _ fun M1 v H1 e1 r1 p1 => by
    obtain ⟨a0, kv0, hv0, _⟩ := r1.dkAt h1
    refine ⟨.ref a0, hv0, ha z M1 σ H1 r1 _ fun M2 w H2 e2 r2 p2 => ?_⟩
    obtain ⟨a, kv, hva, hH, hr, wr⟩ := r2.dkAt h2
    rw [hva] at hv0
    cases hv0
    have p2 : w = .int k := p2
    subst p2
    exact ⟨a0, _, rfl, DPut.k (k := .inl k) hH (by rw [hr.length]; exact len_ok hl), hE.nx M2 σ _ _ (e1.trans e2) (wr _ _ (hr.put (p1.mono e2))) Keep.refl hn⟩
/-- xs.extend(e): the items of another list of data -/
theorem sd_extend {i : Nat} {ys : List TV.D} {ds : List TV.D} {rr : Arg} (h0 : isLs δ i = true) (h : Rd K te δ rr δ1) (hy : dirL δ1 rr = some ys) (h1 : δ1[i]? = some (some (.ls ds))) (hl : ds.length + ys.length < 100000) (hn : D.nx (δ1.set i (some (.ls (ds ++ ys))))) :
    Sd K ps (tDrop (tBM K "list" rExtend (tVar i) (tCons te tNil))) δ D := fun z M σ H r E hE => by
  obtain ⟨a, ha, ty⟩ := tyV_l r h0
  refine ⟨.ref a, ha, ty, h z M σ H r _ fun M' v H' e r' rp => ?_⟩
  obtain ⟨b, vs, hb, hH, hr, w⟩ := r'.lsAt h1
  rw [ha] at hb
  cases hb
  obtain ⟨c, ws, rfl, hc, hr2⟩ := r'.dir hy rp
  exact ⟨a, c, vs, ws, rfl, rfl, hH, hc, by rw [← hr.length, ← hr2.length]; exact Nat.le_of_lt (len_ok hl), hE.nx M' σ _ _ e (w _ _ (hr.append hr2)) Keep.refl hn⟩
/-- a, b = e of a pair of owned things -/
theorem sd_unpair {i j : Nat} {s s' : T} (h : Ro K te δ (.pr s s') δ1) (hi : i ∉ ps) (hj : j ∉ ps) (hij : i ≠ j) (hil : i < δ1.length) (hjl : j < δ1.length) (hn : D.nx ((δ1.set i (some s)).set j (some s'))) : Sd K ps (tAsg te (gTup K 2 (gCons (gName i) (gCons (gName j) gNil)))) δ D := fun z M σ H r E hE =>
  h z M σ H r _ fun M1 v H1 e1 r1 => by
    obtain ⟨⟨ex, ln, ω, w1, w2, w3⟩, l⟩ := r1
    obtain ⟨u, hu, a, x, y, P1, P2, h1, h2, h3, h4, h5, h6, h7⟩ := w3 _ _ get_top
    have ln' : (σ ++ z.s).length = (δ1 ++ z.e).length := by simp only [List.length_append, List.length_singleton] at ln ⊢; omega
    rw [← ln', get_top] at hu
    cases hu
    subst h1
    have R2 : R K M1 (((σ ++ z.s) ++ [some x]) ++ [some y]) H1 (((δ1 ++ z.e) ++ [some s]) ++ [some s']) := by
      generalize hL : (δ1 ++ z.e).length = L at *
      refine ⟨ex, by simp only [List.length_append, List.length_singleton] at ln' hL ⊢; omega, fun i b => (i = L ∧ P1 b) ∨ (i = L + 1 ∧ P2 b) ∨ (i < L ∧ ω i b), fun i j b g1 g2 => ?_, fun i b g1 => ?_, fun i t ht => ?_⟩
      · rcases g1 with ⟨a1, b1⟩ | ⟨a1, b1⟩ | ⟨a1, b1⟩ <;> rcases g2 with ⟨a2, b2⟩ | ⟨a2, b2⟩ | ⟨a2, b2⟩
        · omega
        · exact (h5 b b1 b2).elim
        · have := w1 _ _ _ b2 (h3 b b1); omega
        · exact (h5 b b2 b1).elim
        · omega
        · have := w1 _ _ _ b2 (h4 b b1); omega
        · have := w1 _ _ _ b1 (h3 b b2); omega
        · have := w1 _ _ _ b1 (h4 b b2); omega
        · exact w1 _ _ _ b1 b2
      · rcases g1 with ⟨_, b1⟩ | ⟨_, b1⟩ | ⟨_, b1⟩
        · exact w2 _ _ (h3 b b1)
        · exact w2 _ _ (h4 b b1)
        · exact w2 _ _ b1
      · rcases get_push ht with g | ⟨g, g'⟩
        · rcases get_push g with k | ⟨k, k'⟩
          · obtain ⟨u, hu, ow⟩ := w3 i t (get_left k)
            have hi := (List.getElem?_eq_some_iff.mp k).1
            rcases get_push hu with g2 | ⟨g2, _⟩
            · refine ⟨u, get_left (get_left g2), ?_⟩
              exact ow.mono (Same.refl _) (fun b hb => .inr (.inr ⟨by omega, hb⟩)) (fun _ _ => rfl) fun _ _ q => q
            · omega
          · cases k'
            subst k
            refine ⟨x, get_left (by rw [hL, ← ln']; exact get_top), ?_⟩
            exact h6.mono (Same.refl _) (fun b hb => .inl ⟨hL, hb⟩) (fun _ _ => rfl) fun _ _ q => q
        · cases g'
          subst g
          refine ⟨y, ?_, ?_⟩
          · have : ((δ1 ++ z.e) ++ [some s]).length = ((σ ++ z.s) ++ [some x]).length := by simp only [List.length_append, List.length_singleton] at ln' hL ⊢; omega
            rw [this]
            exact get_top
          · have e : ((δ1 ++ z.e) ++ [some s]).length = L + 1 := by rw [List.length_append, hL]; rfl
            exact h7.mono (Same.refl _) (fun b hb => .inr (.inl ⟨e, hb⟩)) (fun _ _ => rfl) fun _ _ q => q
    have q1 := R2.set j
    have l1 : j < (σ ++ z.s).length := by rw [List.length_append]; omega
    have l2 : j < (δ1 ++ z.e).length := by rw [List.length_append]; omega
    rw [List.set_append_left _ _ l1, List.set_append_left _ _ l2] at q1
    have q2 := q1.set i
    rw [set_append (by omega), set_append hjl, List.set_append_left _ _ (by rw [List.length_set]; omega), List.set_append_left _ _ (by rw [List.length_set]; exact hil)] at q2
    refine ⟨a, [x, y], rfl, .inl (.inl h2), rfl, x, [y], rfl, ?_⟩
    refine ⟨y, [], rfl, rfl, hE.nx M1 _ H1 _ e1 ⟨?_, by simp [l]⟩ ((Keep.set hi).trans (Keep.set hj)) hn⟩
    rw [List.set_comm (l := σ) _ _ hij, List.set_comm (l := δ1) _ _ hij]
    exact q2
end
end TV

namespace TV
open PySem PySem.Spec PyProof.Rows L2
section
variable {K : PySem.W.Frag} {ps : List Nat} {δ δ1 δ2 δ3 : Env} {ta tb te td ty tv : TE} {tt tu : TT} {t u : TS} {D : EndT}
/-- lists of lists by comprehension, told by index -/
theorem ro_lcLP {wi : TI} {g : TG} {vs : List Nat} {items : List TV.D} {srcs : Srcs} (f : Nat → List TV.D) (hw : Wk K wi δ items srcs δ1) (hk : okS δ1 srcs) (hn : wipeE δ1 vs = δ1) (hz : items.length ≤ 100000)
    (hs : ∀ (i : Nat) (x : TV.D), items[i]? = some x → ∃ δx, Gd K (others δ1.length vs) g x δ1 δx ∧ δx.length = δ1.length ∧ Rt K tt δx true δx ∧ ∃ δ3, Ro K te δx (.ls (f i)) δ3 ∧ Less δ1 (wipeE δ3 vs)) : Ro K (tLc wi g tt te vs) δ (.ll ((List.range items.length).map f)) δ1 := by
  refine ro_lcL hw (fun i acc δ => δ = δ1 ∧ acc = (List.range i).map f) ⟨rfl, rfl⟩ hn hz (fun i acc δ p => by rw [p.1]; exact ⟨hk, hn, rfl⟩) (fun i x acc δ hi p => ?_) (fun acc δ p => ?_)
  · obtain ⟨rfl, rfl⟩ := p
    obtain ⟨δx, h1, h3, h4, δ3, h5, h6⟩ := hs i x hi
    refine ⟨δx, true, δx, h1, h3, h4, fun _ => ⟨f i, δ3, h5, δ, h6, rfl, ?_⟩, fun z => by cases z⟩
    rw [List.range_succ, List.map_append]
    rfl
  · obtain ⟨rfl, rfl⟩ := p
    exact ⟨rfl, Less.refl⟩
theorem map_rng {α β : Type} (g : α → β) (xs : List α) (f : Nat → β) (h : ∀ (i : Nat) (x : α), xs[i]? = some x → f i = g x) : (List.range xs.length).map f = xs.map g := by
  apply List.ext_getElem?
  intro i
  rw [List.getElem?_map, List.getElem?_map]
  by_cases hi : i < xs.length
  · rw [List.getElem?_range hi, List.getElem?_eq_getElem hi]
    exact congrArg some (h i _ (List.getElem?_eq_getElem hi))
  · rw [List.getElem?_eq_none (by simpa using hi), List.getElem?_eq_none (by omega)]
    rfl
end
end TV

namespace TV
open PySem PySem.Spec PyProof.Rows L2
section
variable {K : PySem.W.Frag} {ps : List Nat} {δ δ1 δ2 δ3 : Env} {ta tb te td ty tv : TE} {tt tu : TT} {t u : TS} {D : EndT}
/-- range(n, -1, -1) -/
def rngDown (n : Nat) : List TV.D := (List.range (n + 1)).map fun (i : Nat) => TV.D.int (n - i)
theorem rngDown_len (n : Nat) : (rngDown n).length = n + 1 := by unfold rngDown; simp
theorem rngDown_get {n i : Nat} {x : TV.D} (h : (rngDown n)[i]? = some x) : i ≤ n ∧ x = .int ((n - i : Nat) : Int) := by
  have hl := (List.getElem?_eq_some_iff.mp h).1
  rw [rngDown_len] at hl
  unfold rngDown at h
  rw [List.getElem?_map, List.getElem?_range hl] at h
  refine ⟨by omega, ?_⟩
  have := (Option.some.inj h).symm
  rw [this]
  show TV.D.int ((n : Int) - (i : Int)) = _
  rw [show ((n : Int) - (i : Int)) = ((n - i : Nat) : Int) by omega]
theorem wk_rangeDown {t : TA} {n : Nat} (h : Ra K t δ [.d (.int (n : Nat)), .d (.int (-1)), .d (.int (-1))] δ1) (hn : n < 2 ^ 61) : Wk K (iRng3 t) δ (rngDown n) [] δ1 := fun z M σ H r0 Rk q =>
  h z M σ H r0 _ fun M1 vs H1 e1 r1 p1 => by
    obtain ⟨v, w, rfl, p, v2, w2, rfl, p2, v3, w3, rfl, p3, rfl⟩ := p1
    have p : v = .int n := p
    have p2 : v2 = .int (-1) := p2
    have p3 : v3 = .int (-1) := p3
    subst p p2 p3
    refine ⟨(n : Int), -1, -1, n + 1, rfl, ?_, q M1 _ H1 e1 r1 ?_⟩
    · have h2 : ((n : Int) - (-1)).toNat = n + 1 := by omega
      rw [← h2]
      exact RgC.neg (by omega) (by omega) (by omega) (by omega)
    · intro z i M2 σ2 H δ e r k ok
      rw [rngDown_len]
      refine ⟨fun hi => ⟨hi, fun x H' y => ?_⟩, fun hi => hi⟩
      obtain ⟨rfl, rfl⟩ := y
      refine ⟨M2, Same.refl M2, r, .int (n - i), by simp [rngDown, hi], ?_⟩
      show V.int _ = V.int _
      congr 1
      omega
/-- [x] * n -/
theorem ro_repI {r : Arg} {xs : List TV.D} {k : Int} (ha : Rd K ta δ r δ1) (hb : Rd K tb δ1 (.d (.int k)) δ2) (hv : dirL δ2 r = some xs) (h0 : -(2 ^ 63) ≤ k) (h1 : k < 2 ^ 63) (hl : xs.length * k.toNat ≤ 100000) : Ro K (tOp rMulX ta tb) δ (.ls (List.replicate k.toNat xs).flatten) δ2 := fun z M σ H r0 Q q =>
  ha z M σ H r0 _ fun M1 v H1 e1 r1 p1 => hb z M1 σ H1 r1 _ fun M2 w H2 e2 r2 p2 => by
    obtain ⟨a, vs, rfl, h2, h3⟩ := r2.dir hv (p1.mono e2)
    have p2 : w = .int k := p2
    subst p2
    refine .inr ⟨a, k, vs, rfl, rfl, h2, h0, h1, by rw [← h3.length]; exact Nat.le_trans hl (by decide), fun p hp => q M2 _ _ (e1.trans e2) (r2.pushNew hp trivial fun P hP => ⟨p, _, rfl, hP, upd_same, ?_⟩)⟩
    generalize k.toNat = n
    clear hl
    induction n with
    | zero => exact rfl
    | succ n ih =>
      rw [List.replicate_succ, List.replicate_succ, List.flatten_cons, List.flatten_cons]
      exact h3.append ih
end
end TV

namespace TV
open PySem PySem.Spec PyProof.Rows L2
/-- a if t else b as a test -/
def tIfT (t ta tb : TT) : TT := fun σ H Q => t σ H fun c H1 => if c = true then ta σ H1 Q else tb σ H1 Q
theorem pw_ifT {X : Cx} {c a b : Expr} {tc ta tb : TT} {pos : Pos} (hc : PT X c tc) (ha : PT X a ta) (hb : PT X b tb) : PW X (.IfExp c a b pos) (tIfT tc ta tb) :=
  ⟨fun whole pins s σ H Q I h => isTrue_IfExp (thn (hc.run pins s σ H _ I h) fun d s1 ⟨H1, I1, q1⟩ => by
    cases d with
    | true => exact ha.run pins s1 σ H1 Q I1 q1
    | false => exact hb.run pins s1 σ H1 Q I1 q1)⟩
section
variable {K : PySem.W.Frag} {ps : List Nat} {δ δ1 δ2 δ3 : Env} {tt tu tw : TT}
theorem rt_ifT {b v : Bool} (h : Rt K tt δ b δ1) (h1 : b = true → Rt K tu δ1 v δ2) (h2 : b = false → Rt K tw δ1 v δ2) : Rt K (tIfT tt tu tw) δ v δ2 := fun z M σ H r Q q => h z M σ H r _ fun M' H' e r' => by
  cases b with
  | true => exact h1 rfl z M' σ H' r' Q fun M2 H2 e2 r2 => q M2 H2 (e.trans e2) r2
  | false => exact h2 rfl z M' σ H' r' Q fun M2 H2 e2 r2 => q M2 H2 (e.trans e2) r2
end
end TV

namespace TV
open PySem PySem.Spec PyProof.Rows L2
section
variable {K : PySem.W.Frag} {ps : List Nat} {δ δ1 δ2 δ3 : Env} {ta tb te : TE} {tt tu tw : TT}
/-- what gives a new flat thing and else only reads, seen with all slots standing still -/
theorem ro_stand {τ : T} (h : Ro K te (frzE δ) τ (frzE δ)) (hx : flatT τ = true) : Ro K te δ τ δ := fun z M σ H r Q q => by
  refine h ⟨z.s, frzE z.e⟩ H σ H ?_ Q fun M' v H' s1 rt => ?_
  · have := r.r.stand
    unfold frzE at this
    rw [List.map_append] at this
    exact ⟨this, by unfold frzE; simpa using r.ln⟩
  · obtain ⟨ex, ln, ω, w1, w2, w3⟩ := r.r
    obtain ⟨ex', ln', ω', w1', w2', w3'⟩ := rt.1
    have lf : (frzE δ ++ frzE z.e).length = (δ ++ z.e).length := by unfold frzE; simp
    obtain ⟨u, hu, ow⟩ := w3' _ _ get_top
    have e1 : (frzE δ ++ frzE z.e).length = (σ ++ z.s).length := by rw [lf]; exact ln.symm
    rw [e1, get_top] at hu
    cases hu
    have sHH : Same H H' := s1.trans ex'
    have sMH : Same M H' := ex.trans sHH
    have sMM : Same M M' := ex.trans s1
    have eq : ∀ i a, ω i a → H' a = H a := fun i a h => by
      obtain ⟨o, ho⟩ := mut_some (w2 i a h).2
      rw [ho]
      exact sHH a o ho
    have no : ∀ i j a, ω i a → ω' j a → False := fun i j a h h' => by
      obtain ⟨o, ho⟩ := mut_some (w2 i a h).2
      have := s1 a o ho
      rw [(w2' j a h').1] at this
      cases this
    refine q (tx M H') v H' (tx_same sMH) ⟨⟨tx_sub sMH, by simp only [List.length_append, List.length_singleton] at ln ⊢; omega, fun i a => (i = (δ ++ z.e).length ∧ ω' (frzE δ ++ frzE z.e).length a) ∨ (i < (δ ++ z.e).length ∧ ω i a), fun i j a g1 g2 => ?_, fun i a g1 => ?_, fun i t ht => ?_⟩, r.ln⟩
    · rcases g1 with ⟨a1, b1⟩ | ⟨a1, b1⟩ <;> rcases g2 with ⟨a2, b2⟩ | ⟨a2, b2⟩
      · omega
      · exact (no _ _ _ b2 b1).elim
      · exact (no _ _ _ b1 b2).elim
      · exact w1 _ _ _ b1 b2
    · rcases g1 with ⟨a1, b1⟩ | ⟨a1, b1⟩
      · have m := w2' _ _ b1
        refine ⟨tx_none ?_ m.2, m.2⟩
        cases em : M a with
        | none => rfl
        | some o => rw [sMM a o em] at m; cases m.1
      · exact ⟨tx_none (w2 i a b1).1 (by rw [eq i a b1]; exact (w2 i a b1).2), by rw [eq i a b1]; exact (w2 i a b1).2⟩
    · rcases get_push ht with g | ⟨g, g'⟩
      · obtain ⟨v', hv, ow'⟩ := w3 i t g
        have hi := (List.getElem?_eq_some_iff.mp g).1
        exact ⟨v', get_left hv, ow'.mono (tx_same sMH) (fun b hb => .inr ⟨hi, hb⟩) (fun b hb => eq i b hb) fun b xs q => sHH b _ q⟩
      · cases g'
        subst g
        refine ⟨v, by rw [← ln]; exact get_top, ?_⟩
        exact (Own.tx ex' hx ow).mono (Same.refl _) (fun b hb => .inl ⟨rfl, hb⟩) (fun _ _ => rfl) fun _ _ q => q
/-- [a, b] of two new lists -/
theorem ro_lst2L {xs ys : List TV.D} (ha : Ro K ta δ (.ls xs) δ1) (hb : Ro K tb δ1 (.ls ys) δ2) : Ro K (tLst (tCons ta (tCons tb tNil))) δ (.ll [xs, ys]) δ2 := fun z M σ H r Q q =>
  ha z M σ H r _ fun M1 v1 H1 e1' r1 => by
    have r1' : RR K ⟨z.s ++ [some v1], z.e ++ [some (.ls xs)]⟩ M1 σ H1 δ1 := ⟨by have := r1.1; simpa [List.append_assoc] using this, r1.2⟩
    refine hb ⟨z.s ++ [some v1], z.e ++ [some (.ls xs)]⟩ M1 σ H1 r1' _ fun M2 v2 H2 e2' r2 => ?_
    refine ⟨by show (2 : Nat) ≤ sizeLine; decide, fun p hp => ?_⟩
    have R2 : R K M2 (((σ ++ z.s) ++ [some v1]) ++ [some v2]) H2 (((δ2 ++ z.e) ++ [some (.ls xs)]) ++ [some (.ls ys)]) := by have := r2.1; simpa [List.append_assoc] using this
    have ln2 : (σ ++ z.s).length = (δ2 ++ z.e).length := by
      have := R2.ln
      simp only [List.length_append, List.length_singleton] at this ⊢
      omega
    have R3 := R2.pushNew (p := p) (o := .lst []) (τ := .ll []) hp trivial fun P hP => ⟨p, [], rfl, hP, (fun _ z => by simp at z), by simp, upd_same, rfl⟩
    generalize hL : (δ2 ++ z.e).length = L at ln2
    generalize hS : σ ++ z.s = S at R3 ln2
    generalize hD : δ2 ++ z.e = DD at R3 hL
    have R4 := R3.move (i := L) (τ := .ls xs) (v := v1) (by simp [List.getElem?_append, hL]) (by simp [List.getElem?_append, ln2])
    obtain ⟨as4, b4, rfl, g4, l4, R5⟩ := R4.adopt (i := L + 2) (dss := []) (a := p) (by simp [List.getElem?_append, hL]) (by simp [List.getElem?_append, ln2])
    have has4 : as4 = [] := List.eq_nil_of_length_eq_zero (by simpa using l4)
    subst has4
    have R6 := R5.move (i := L + 1) (τ := .ls ys) (v := v2) (by simp [List.getElem?_append, List.getElem?_set, hL]) (by simp [List.getElem?_append, ln2])
    obtain ⟨as6, b6, rfl, g6, l6, R7⟩ := R6.adopt (i := L + 2) (dss := [] ++ [xs]) (a := p) (by simp [List.getElem?_append, List.getElem?_set, hL]) (by simp [List.getElem?_append, ln2])
    have hx : as6.map V.ref = [V.ref b4] := by
      rw [upd_same] at g6
      have := HO.lst.inj (Option.some.inj g6)
      rw [← this]
      rfl
    rw [hx, upd_upd, upd_upd] at R7
    have eS : ((((((DD ++ [some (T.ls xs)]) ++ [some (T.ls ys)]) ++ [some (T.ll [])]).set L none).set (L + 2) (some (T.ll ([] ++ [xs])))).set (L + 1) none).set (L + 2) (some (T.ll (([] ++ [xs]) ++ [ys]))) = ((DD ++ [none]) ++ [none]) ++ [some (T.ll [xs, ys])] := by
      subst hL
      simp [List.set_append]
    rw [eS] at R7
    have R8 := R7.set L
    have e1 : ((S ++ [some (V.ref b4)]) ++ [some (V.ref b6)]).set L (some (V.ref p)) = (S ++ [some (V.ref p)]) ++ [some (V.ref b6)] := by
      subst ln2
      simp [List.set_append]
    have e2 : ((DD ++ [none]) ++ [none]).set L (some (T.ll [xs, ys])) = (DD ++ [some (.ll [xs, ys])]) ++ [none] := by
      subst hL
      simp [List.set_append]
    rw [e1, e2] at R8
    have R9 := R8.pop
    refine q M2 _ _ (e1'.trans e2') ⟨?_, r2.2⟩
    rw [hS, hD]
    exact R9
end
end TV

namespace TV
open PySem PySem.Spec PyProof.Rows L2
theorem kltT {X : Cx} (K : PySem.W.Frag) (hu : X.A.units + 64 < cLine) (hK : X.K = K := by rfl) : OpR X (compareOp .Lt) (rLtT K) := hK ▸ op_ltT (by omega)
section
variable {K : PySem.W.Frag} {ps : List Nat} {δ δ1 δ2 δ3 : Env} {ta tb te : TE}
theorem rd_ltT {xs ys : List Int} (ha : Rd K ta δ (.d (.tup (xs.map TV.D.int))) δ1) (hb : Rd K tb δ1 (.d (.tup (ys.map TV.D.int))) δ2) : Rd K (tOp (rLtT K) ta tb) δ (.d (.bl (HT.lexLt xs ys))) δ2 := fun z M σ H r0 Q q =>
  ha z M σ H r0 _ fun M1 v H1 e1 r1 p1 => hb z M1 σ H1 r1 _ fun M2 w H2 e2 r2 p2 => by
    obtain ⟨a, vs, rfl, h1, h2⟩ := p1.mono e2
    obtain ⟨b, us, rfl, h3, h4⟩ := p2
    have i1 := h2.ints_of
    have i2 := h4.ints_of
    subst i1 i2
    exact ⟨a, b, xs, ys, rfl, rfl, Same.sqT r2.ex h1, Same.sqT r2.ex h3, q M2 _ H2 (e1.trans e2) r2 rfl⟩
end
end TV

namespace TV
open PySem PySem.Spec PyProof.Rows L2
section
variable {K : PySem.W.Frag} {ps : List Nat} {δ δ1 δ2 δ3 : Env} {ta tb te : TE}
theorem rd_inP {neg : Bool} {r s : Arg} {x : TV.D} {ys : List TV.D} (ha : Rd K ta δ r δ1) (hb : Rd K tb δ1 s δ2) (hx : TV.datA δ2 r = some x) (hy : TV.datA δ2 s = some (.lst ys)) (ox : okD 16 x = true) (oy : noTy (.lst ys) = true) : Rd K (tOp (rInP K neg) ta tb) δ (.d (.bl (if neg then !(pyL ys).any (fun y => PyData.eqv y (py x)) else (pyL ys).any fun y => PyData.eqv y (py x)))) δ2 := fun z M σ H r0 Q q =>
  ha z M σ H r0 _ fun M1 v H1 e1 r1 p1 => hb z M1 σ H1 r1 _ fun M2 w H2 e2 r2 p2 => by
    obtain ⟨Ma, ea, sa, pa⟩ := r2.datA hx (p1.mono e2)
    obtain ⟨Mb, eb, sb, pb⟩ := r2.datA hy p2
    exact ⟨py x, pyL ys, pa.dp sa (okD_py ox), .inl (pb.dp sb oy), py_plain x, (by have := py_plain (.lst ys); simpa [py, PyData.plain] using this), okD_depth ox, q M2 _ H2 (e1.trans e2) r2 rfl⟩
theorem any_eqI (ns : List Int) (k : Int) : ((pyL (ns.map TV.D.int)).any fun y => PyData.eqv y (py (.int k))) = decide (k ∈ ns) := by
  induction ns with
  | nil => rfl
  | cons a r ih =>
    show (PyData.eqv (.int a) (.int k) || _) = _
    rw [ih]
    by_cases h : a = k
    · subst h
      simp [PyData.eqv]
    · have : ¬k = a := fun z => h z.symm
      simp [PyData.eqv, h, this]
theorem noTyI (ns : List Int) : noTy (.lst (ns.map TV.D.int)) = true := okD_py (okI ns)
theorem rd_inI {r : Arg} {s : Arg} {ns : List Int} {k : Int} (ha : Rd K ta δ (.d (.int k)) δ1) (hb : Rd K tb δ1 s δ2) (hy : TV.datA δ2 s = some (.lst (ns.map TV.D.int))) : Rd K (tOp (rInP K false) ta tb) δ (.d (.bl (decide (k ∈ ns)))) δ2 :=
  Rd.is (rd_inP ha hb rfl hy rfl (noTyI ns)) (by
    show TV.Arg.d (.bl _) = _
    rw [if_neg (by decide), any_eqI])
theorem rd_notinI {s : Arg} {ns : List Int} {k : Int} (ha : Rd K ta δ (.d (.int k)) δ1) (hb : Rd K tb δ1 s δ2) (hy : TV.datA δ2 s = some (.lst (ns.map TV.D.int))) : Rd K (tOp (rInP K true) ta tb) δ (.d (.bl (!decide (k ∈ ns)))) δ2 :=
  Rd.is (rd_inP ha hb rfl hy rfl (noTyI ns)) (by
    show TV.Arg.d (.bl _) = _
    rw [if_pos (by decide), any_eqI])
end
end TV

namespace TV
open PySem PySem.Spec PyProof.Rows L2
section
variable {K : PySem.W.Frag} {ps : List Nat} {δ δ1 δ2 δ3 : Env} {ta tb te : TE} {D : EndT}
/-- a call that changes its owned argument p, of which only pp is told: what it may give is given a name -/
theorem sd_asgW (pp : T → List T → Prop) (p : Nat) {i j : Nat} {c : Con} {E : XK} {ta : TA} {rs : List Arg} {ts : List T} (ha : Ra K ta δ rs δ1) (hp : rs[p]? = some (.sl i)) (ht : argsT δ1 (some i) rs = some ts) (hq : onlyAt rs i p = true) (h : ∀ Q : T → List T → Prop, (∀ τ outs, pp τ outs → Q τ outs) → c ts Q) (hj : j ∉ ps)
    (hn : ∀ τ outs, pp τ outs → ∃ t, outs[p]? = some t ∧ outs.length = ts.length ∧ flatT τ = true ∧ flatT t = true ∧ D.nx ((δ1.set i (some t)).set j (some τ))) : Sd K ps (tAsg (tCall (spOf K c) [] E ta) (gName j)) δ D := fun z M σ H r Ee hE =>
  ha z M σ H r _ fun M1 vs H1 e1 r1 p1 => by
    obtain ⟨Mc, rc, fin⟩ := r1.r.call (p := p) p1.left (argsT_left ht) (fun i' z k hk => by cases z; exact onlyAt_of hq k hk)
    show spOf K c (vs ++ []) H1 _ E
    rw [List.append_nil]
    refine ⟨Mc, ts, rc, h _ fun τ outs hpp => ?_⟩
    obtain ⟨t, ho, hl, hf, hg, hnx⟩ := hn τ outs hpp
    refine ⟨hl, fun M' v H' s r' => ?_⟩
    obtain ⟨s2, r2⟩ := fin M' v H' outs τ s r' hl hf (fun i' z => by cases z; exact ⟨hp, t, ho, hg⟩)
    have e : outsTo (δ1 ++ z.e) (some i) p outs = δ1.set i (some t) ++ z.e := by
      show (δ1 ++ z.e).set i outs[p]? = _
      have hi : i < δ1.length := by
        obtain ⟨w, hw, okw⟩ := p1.get hp
        have okw : σ[i]? = some (some w) := okw
        rw [← r1.ln]
        exact (List.getElem?_eq_some_iff.mp okw).1
      rw [ho, set_append hi]
    rw [e] at r2
    have rt : RT K z (tx M1 H') σ H' (δ1.set i (some t)) τ v := ⟨r2, by simp [r1.ln]⟩
    exact hE.nx _ _ H' _ (e1.trans s2) (rt.set j) (Keep.set hj) hnx
end
end TV

namespace TV
open PySem PySem.Spec PyProof.Rows L2
def rIsB : R2 := fun x y H Q => ∃ c d, x = .bl c ∧ y = .bl d ∧ Q (.bl (c == d)) H
def rNotB : R2 := fun x y H Q => ∃ c d, x = .bl c ∧ y = .bl d ∧ Q (.bl (c != d)) H
theorem kisB {X : Cx} : OpR X (compareOp .Is) rIsB := by
  intro pins s σ H x y v u Q I rx ry h
  obtain ⟨c, d, rfl, rfl, q⟩ := h
  cases rx
  cases ry
  exact is_bool ⟨.bl _, H, I, rfl, q⟩
theorem knotB {X : Cx} : OpR X (compareOp .IsNot) rNotB := by
  intro pins s σ H x y v u Q I rx ry h
  obtain ⟨c, d, rfl, rfl, q⟩ := h
  cases rx
  cases ry
  exact isnot_bool ⟨.bl _, H, I, rfl, q⟩
section
variable {K : PySem.W.Frag} {ps : List Nat} {δ δ1 δ2 δ3 : Env} {ta tb te : TE} {D : EndT}
theorem rd_isB {c d : Bool} (ha : Rd K ta δ (.d (.bl c)) δ1) (hb : Rd K tb δ1 (.d (.bl d)) δ2) : Rd K (tOp rIsB ta tb) δ (.d (.bl (c == d))) δ2 :=
  rd_op2 ha hb fun M v w H h1 h2 Q q => by cases h1; cases h2; exact ⟨c, d, rfl, rfl, q _ (by simp [Rp])⟩
theorem rd_notB {c d : Bool} (ha : Rd K ta δ (.d (.bl c)) δ1) (hb : Rd K tb δ1 (.d (.bl d)) δ2) : Rd K (tOp rNotB ta tb) δ (.d (.bl (c != d))) δ2 :=
  rd_op2 ha hb fun M v w H h1 h2 Q q => by cases h1; cases h2; exact ⟨c, d, rfl, rfl, q _ (by simp [Rp])⟩
/-- range(0, n, c), c > 0 -/
def rngStep (c n : Nat) : List TV.D := (List.range ((n + c - 1) / c)).map fun (i : Nat) => TV.D.int ((c * i : Nat) : Int)
theorem rngStep_get {c n i : Nat} {x : TV.D} (hc : 0 < c) (h : (rngStep c n)[i]? = some x) : c * i < n ∧ x = .int ((c * i : Nat) : Int) := by
  have hl := (List.getElem?_eq_some_iff.mp h).1
  unfold rngStep at h hl
  rw [List.length_map, List.length_range] at hl
  rw [List.getElem?_map, List.getElem?_range hl] at h
  refine ⟨?_, (Option.some.inj h).symm⟩
  have h2 : (i + 1) * c ≤ n + c - 1 := (Nat.le_div_iff_mul_le hc).mp hl
  have h3 : (i + 1) * c = c * i + c := by rw [Nat.add_mul, Nat.mul_comm]; omega
  omega
theorem rngStep_len (c n : Nat) : (rngStep c n).length = (n + c - 1) / c := by unfold rngStep; simp
theorem wk_rangeStep {t : TA} {c n : Nat} (h : Ra K t δ [.d (.int 0), .d (.int (n : Nat)), .d (.int (c : Nat))] δ1) (hc : 0 < c) (hc2 : c < 2 ^ 30) (hn : n < 2 ^ 61) : Wk K (iRng3 t) δ (rngStep c n) [] δ1 := fun z M σ H r0 Rk q =>
  h z M σ H r0 _ fun M1 vs H1 e1 r1 p1 => by
    obtain ⟨v, w, rfl, p, v2, w2, rfl, p2, v3, w3, rfl, p3, rfl⟩ := p1
    have p : v = .int 0 := p
    have p2 : v2 = .int n := p2
    have p3 : v3 = .int c := p3
    subst p p2 p3
    refine ⟨0, (n : Int), (c : Int), (n + c - 1) / c, rfl, ?_, q M1 _ H1 e1 r1 ?_⟩
    · have es : Builtin.Range.rangeSize 0 (n : Int) (c : Int) = (((n + c - 1) / c : Nat) : Int) := by
        unfold Builtin.Range.rangeSize
        rw [if_pos (by omega)]
        split
        · rename_i hp
          have h1 : n + c - 1 = (n - 1) + c := by omega
          rw [h1, Nat.add_div_right _ hc]
          have h2 : (n : Int) - 0 - 1 = ((n - 1 : Nat) : Int) := by omega
          rw [h2]
          rfl
        · have : n = 0 := by omega
          subst this
          rw [Nat.div_eq_of_lt (by omega)]
          rfl
      refine ⟨by omega, by omega, ?_, es⟩
      unfold Builtin.Range.small
      rw [es]
      have hb : (n + c - 1) / c ≤ n + c - 1 := Nat.div_le_self _ _
      simp only [Builtin.Range.rangeFitsLong, Bool.and_eq_true, Bool.or_eq_true, decide_eq_true_eq, beq_iff_eq, show ((c : Int) > 0) by omega, if_true]
      generalize (n + c - 1) / c = k at hb
      omega
    · intro z i M2 σ2 H δ e r k ok
      rw [rngStep_len]
      refine ⟨fun hi => ⟨hi, fun x H' y => ?_⟩, fun hi => hi⟩
      obtain ⟨rfl, rfl⟩ := y
      refine ⟨M2, Same.refl M2, r, .int ((c * i : Nat) : Int), by simp [rngStep, hi], ?_⟩
      show V.int _ = V.int _
      congr 1
      simp [Int.mul_comm]
end
end TV

namespace W1
open PySem PySem.Spec PyProof.Rows L2 TV
/-- a def of the top that the name leads to -/
def Has (K : PySem.W.Frag) (mg : Str → Option Value) (x : Str) (st : Stmt) (ps : List Str) : Prop := ∃ f fd, Fun K x x st f fd ∧ mg x = some (.ref f) ∧ L2.Binds K fd ps []
abbrev dI (ns : List Int) : List TV.D := ns.map TV.D.int
abbrev nI (ns : List Nat) : List Int := ns.map fun n : Nat => (n : Int)
abbrev dNt (ns : List Nat) : List TV.D := dI (nI ns)
theorem atI_nat' {ds : List TV.D} {k : Int} {j : Nat} {x : TV.D} (hk : k = (j : Nat)) (h : ds[j]? = some x) : atI ds k = some x := by
  subst hk
  exact atI_nat h
theorem mulB {x y : Int} (a b : Nat) (hx : x.natAbs < 2 ^ a) (hy : y.natAbs < 2 ^ b) : (x * y).natAbs < 2 ^ (a + b) := by
  rw [Int.natAbs_mul, Nat.pow_add]
  exact Nat.mul_lt_mul_of_lt_of_le hx (Nat.le_of_lt hy) (Nat.two_pow_pos _)
theorem others_not {n i : Nat} {vs : List Nat} (h : vs.contains i = true) : i ∉ others n vs := fun z => by
  have h2 := (List.mem_filter.mp z).2
  rw [h] at h2
  cases h2
theorem okS1 {δ : TV.Env} {r : TV.Arg} {ds : List TV.D} (h : viewL δ r = some ds) : okS δ [(r, ds)] := fun p hp => by
  simp only [List.mem_singleton] at hp
  subst hp
  exact h
theorem mem_dI {ns : List Int} {i : Nat} {x : TV.D} (h : (dI ns)[i]? = some x) : ∃ c, ns[i]? = some c ∧ x = .int c := by
  rw [List.getElem?_map] at h
  cases e : ns[i]? with
  | none => rw [e] at h; cases h
  | some c => rw [e] at h; cases h; exact ⟨c, rfl, rfl⟩
theorem cutL_map {α β : Type} (f : α → β) (xs : List α) (lo hi : Option Int) : cutL (xs.map f) lo hi = (cutL xs lo hi).map f := by
  unfold cutL
  rw [List.length_map, List.map_take, List.map_drop]
theorem cutL_len {α : Type} (xs : List α) (lo hi : Option Int) : (cutL xs lo hi).length ≤ xs.length := by
  unfold cutL
  rw [List.length_take, List.length_drop]
  omega
/-- what an item that is a whole number gives -/
def onI (f : Int → Option TV.D) : TV.D → Option TV.D
  | .int c => f c
  | _ => none
theorem fmap_int (f : Int → Int) : ∀ ns : List Int, (dI ns).filterMap (onI fun c => some (.int (f c))) = dI (ns.map f)
  | [] => rfl
  | n :: r => by
    show TV.D.int (f n) :: _ = _
    rw [fmap_int f r]
    rfl
theorem mem_dNt {ns : List Nat} {i : Nat} {x : TV.D} (h : (dNt ns)[i]? = some x) : ∃ c, ns[i]? = some c ∧ x = .int (c : Nat) := by
  obtain ⟨c, hc, rfl⟩ := mem_dI h
  rw [List.getElem?_map] at hc
  cases e : ns[i]? with
  | none => rw [e] at hc; cases hc
  | some c => rw [e] at hc; cases hc; exact ⟨c, rfl, rfl⟩
def cAt (cs : List Int) (i : Nat) : Int := cs.getD i 0
theorem atRow {cs : List Int} {i : Nat} (h : i < cs.length) : atI (dI cs) (i : Nat) = some (TV.D.int (cAt cs i)) := atI_nat (by simp [cAt, h])
theorem py_ints (ns : List Int) : py (.tup (dI ns)) = .tuple (ns.map .int) := by
  show PyData.tuple (pyL _) = _
  rw [pyL_map, List.map_map]
  rfl
theorem lt_ints (xs ys : List Int) : PySem.W.dataLt (py (.tup (dI xs))) (py (.tup (dI ys))) = decide (xs < ys) := by
  rw [py_ints, py_ints, PySem.W.dataLt_tuple]
  exact PySem.W.dataLt_ints xs ys
theorem minDD_is {k0 : TV.D} : ∀ (ds : List TV.D) (d : TV.D), k0 ∈ d :: ds → (∀ y ∈ d :: ds, y ≠ k0 → PySem.W.dataLt (py k0) (py y) = true) → (∀ y ∈ d :: ds, PySem.W.dataLt (py y) (py k0) = false) → minDD d ds = k0
  | [], d, hm, _, _ => by
    have : k0 = d := by simpa using hm
    rw [this]
    rfl
  | e :: r, d, hm, h1, h2 => by
    show minDD (if PySem.W.dataLt (py e) (py d) then e else d) r = k0
    by_cases hd : d = k0
    · rw [hd, h2 e (by simp)]
      exact minDD_is r k0 (by simp) (fun y hy => h1 y (by simp at hy ⊢; rcases hy with h | h <;> simp [h, hd])) fun y hy => h2 y (by simp at hy ⊢; rcases hy with h | h <;> simp [h, hd])
    · by_cases he : e = k0
      · rw [he, h1 d (by simp) hd]
        exact minDD_is r k0 (by simp) (fun y hy => h1 y (by simp at hy ⊢; rcases hy with h | h <;> simp [h, he])) fun y hy => h2 y (by simp at hy ⊢; rcases hy with h | h <;> simp [h, he])
      · have hr : k0 ∈ r := by
          simp at hm
          rcases hm with h | h | h
          · exact absurd h.symm hd
          · exact absurd h.symm he
          · exact h
        by_cases hb : PySem.W.dataLt (py e) (py d) = true
        · rw [if_pos hb]
          exact minDD_is r e (by simp [hr]) (fun y hy => h1 y (by simp at hy ⊢; rcases hy with h | h <;> simp [h])) fun y hy => h2 y (by simp at hy ⊢; rcases hy with h | h <;> simp [h])
        · rw [if_neg hb]
          exact minDD_is r d (by simp [hr]) (fun y hy => h1 y (by simp at hy ⊢; rcases hy with h | h <;> simp [h])) fun y hy => h2 y (by simp at hy ⊢; rcases hy with h | h <;> simp [h])
def topS (i : Nat) : Stmt := PySem.Challenge.pw_handpiles_k11_beginnings.main.body.getD i (.Pass ⟨0, 0, 0, 0⟩)
abbrev s_check_hand : Stmt := topS 4
abbrev N_check_hand : List Str := ["hand"]
theorem sc_check_hand : FnScope N_check_hand ["hand"] (defScope s_check_hand) := ⟨rfl, rfl, rfl, by decide +kernel, rfl, by decide +kernel, by decide +kernel⟩
abbrev s_hand_behind : Stmt := topS 6
abbrev N_hand_behind : List Str := ["row", "hand", "told", "gone", "index", "pile", "drawn"]
theorem sc_hand_behind : FnScope N_hand_behind ["row", "hand", "told"] (defScope s_hand_behind) := ⟨rfl, rfl, rfl, by decide +kernel, rfl, by decide +kernel, by decide +kernel⟩
abbrev s_fits : Stmt := topS 7
abbrev N_fits : List Str := ["row", "told", "index"]
theorem sc_fits : FnScope N_fits ["row", "told", "index"] (defScope s_fits) := ⟨rfl, rfl, rfl, by decide +kernel, rfl, by decide +kernel, by decide +kernel⟩
abbrev s_is_allowed : Stmt := topS 8
abbrev N_is_allowed : List Str := ["row", "hand", "told", "entry", "index", "pile", "present"]
theorem sc_is_allowed : FnScope N_is_allowed ["row", "hand", "told", "entry"] (defScope s_is_allowed) := ⟨rfl, rfl, rfl, by decide +kernel, rfl, by decide +kernel, by decide +kernel⟩
abbrev s_first_fault : Stmt := topS 9
abbrev N_first_fault : List Str := ["row", "hand", "told", "k", "entry"]
theorem sc_first_fault : FnScope N_first_fault ["row", "hand", "told"] (defScope s_first_fault) := ⟨rfl, rfl, rfl, by decide +kernel, rfl, by decide +kernel, by decide +kernel⟩
abbrev s_is_beginning : Stmt := topS 10
abbrev N_is_beginning : List Str := ["row", "hand", "told", "fault"]
theorem sc_is_beginning : FnScope N_is_beginning ["row", "hand", "told"] (defScope s_is_beginning) := ⟨rfl, rfl, rfl, by decide +kernel, rfl, by decide +kernel, by decide +kernel⟩
abbrev s_law_purse : Stmt := topS 12
abbrev N_law_purse : List Str := ["script", "cell"]
theorem sc_law_purse : FnScope N_law_purse ["script"] (defScope s_law_purse) := ⟨rfl, rfl, rfl, by decide +kernel, rfl, by decide +kernel, by decide +kernel⟩
abbrev s_law_draw : Stmt := topS 13
abbrev N_law_draw : List Str := ["purse", "limit", "cell", "stir", "found"]
theorem sc_law_draw : FnScope N_law_draw ["purse", "limit"] (defScope s_law_draw) := ⟨rfl, rfl, rfl, by decide +kernel, rfl, by decide +kernel, by decide +kernel⟩
abbrev s_law_card : Stmt := topS 14
abbrev N_law_card : List Str := ["purse", "kind", "most", "left"]
theorem sc_law_card : FnScope N_law_card ["purse", "kind", "most", "left"] (defScope s_law_card) := ⟨rfl, rfl, rfl, by decide +kernel, rfl, by decide +kernel, by decide +kernel⟩
abbrev s_law_row : Stmt := topS 15
abbrev N_law_row : List Str := ["purse", "most", "kind", "many", "k"]
theorem sc_law_row : FnScope N_law_row ["purse", "most"] (defScope s_law_row) := ⟨rfl, rfl, rfl, by decide +kernel, rfl, by decide +kernel, by decide +kernel⟩
abbrev s_law_hand : Stmt := topS 16
abbrev N_law_hand : List Str := ["purse", "many", "menu"]
theorem sc_law_hand : FnScope N_law_hand ["purse", "many"] (defScope s_law_hand) := ⟨rfl, rfl, rfl, by decide +kernel, rfl, by decide +kernel, by decide +kernel⟩
abbrev s_law_way : Stmt := topS 17
abbrev N_law_way : List Str := ["purse", "row0", "hand0", "many", "style", "held", "way", "k", "index", "pile"]
theorem sc_law_way : FnScope N_law_way ["purse", "row0", "hand0", "many"] (defScope s_law_way) := ⟨rfl, rfl, rfl, by decide +kernel, rfl, by decide +kernel, by decide +kernel⟩
abbrev s_law_best : Stmt := topS 18
abbrev N_law_best : List Str := ["row0", "held", "way", "best", "index", "pile"]
theorem sc_law_best : FnScope N_law_best ["row0", "held", "way"] (defScope s_law_best) := ⟨rfl, rfl, rfl, by decide +kernel, rfl, by decide +kernel, by decide +kernel⟩
abbrev s_law_fault : Stmt := topS 19
abbrev N_law_fault : List Str := ["row0", "hand0", "told0", "held", "k", "index", "pile"]
theorem sc_law_fault : FnScope N_law_fault ["row0", "hand0", "told0"] (defScope s_law_fault) := ⟨rfl, rfl, rfl, by decide +kernel, rfl, by decide +kernel, by decide +kernel⟩
abbrev s_law_same : Stmt := topS 20
abbrev N_law_same : List Str := ["found", "due", "k"]
theorem sc_law_same : FnScope N_law_same ["found", "due"] (defScope s_law_same) := ⟨rfl, rfl, rfl, by decide +kernel, rfl, by decide +kernel, by decide +kernel⟩
abbrev s_law_bent : Stmt := topS 21
abbrev N_law_bent : List Str := ["purse", "told0", "k", "index", "pile", "menu"]
theorem sc_law_bent : FnScope N_law_bent ["purse", "told0", "k"] (defScope s_law_bent) := ⟨rfl, rfl, rfl, by decide +kernel, rfl, by decide +kernel, by decide +kernel⟩
abbrev s_law : Stmt := topS 22
abbrev N_law : List Str := ["script", "purse", "step", "row0", "hand0", "way", "given", "many", "told0", "k", "fault", "due"]
theorem sc_law : FnScope N_law ["script"] (defScope s_law) := ⟨rfl, rfl, rfl, by decide +kernel, rfl, by decide +kernel, by decide +kernel⟩
local macro_rules | `(tactic| walk_at "sc") => `(tactic| first
  | assumption
  | (with_unfolding_all (refine ⟨?_, ?_, ?_⟩ <;> decide))
  | omega
  | (simp only [Int.reduceToNat, Int.reducePow, Int.reduceAdd]; omega)
  | (refine wide_div ?q0 (b := 400) ?q1 (by decide) (by decide) <;> first | omega | (simp only [Int.reduceToNat, Int.reducePow, Int.reduceAdd]; omega))
  | (refine big_mul (a := 400) (b := 400) ?q0 ?q1 (by decide) (by decide) (by decide) <;> first | omega | (simp only [Int.reduceToNat, Int.reducePow, Int.reduceAdd]; omega)))
local macro_rules | `(tactic| walk_at "rd") => `(tactic| first
  | with_reducible exact rd_int
  | with_reducible exact rd_bl
  | with_reducible exact rd_str
  | with_reducible exact rd_non
  | with_reducible exact rd_ty
  | ((with_reducible refine' rd_var ?e0); (case e0 => with_unfolding_all rfl))
  | ((with_reducible refine' rd_slot ?e0); (case e0 => with_unfolding_all rfl))
  | ((with_reducible refine' rd_addI ?ha ?hb ); (case ha => walk_at "rd"); (case hb => walk_at "rd"))
  | ((with_reducible refine' rd_subI ?ha ?hb ); (case ha => walk_at "rd"); (case hb => walk_at "rd"))
  | ((with_reducible refine' rd_un ?ha ); (case ha => walk_at "rd"))
  | ((with_reducible refine' rd_powI ?ha ?hb ?e0); (case ha => walk_at "rd"); (case hb => walk_at "rd"); (case e0 => walk_at "sc"))
  | ((with_reducible refine' rd_modI ?ha ?hb ?e0); (case ha => walk_at "rd"); (case hb => walk_at "rd"); (case e0 => walk_at "sc"))
  | ((with_reducible refine' rd_divI ?ha ?hb ?e0); (case ha => walk_at "rd"); (case hb => walk_at "rd"); (case e0 => walk_at "sc"))
  | ((with_reducible refine' rd_mulI ?ha ?hb ?e0); (case ha => walk_at "rd"); (case hb => walk_at "rd"); (case e0 => walk_at "sc"))
  | ((with_reducible refine' rd_opB ?ha ?hb ); (case ha => walk_at "rd"); (case hb => walk_at "rd"))
  | ((with_reducible refine' rd_intI ?ha ); (case ha => walk_at "rd"))
  | ((with_reducible refine' rd_intB ?ha ); (case ha => walk_at "rd"))
  | ((with_reducible refine' rd_eqXI ?ha ?hb ); (case ha => walk_at "rd"); (case hb => walk_at "rd"))
  | ((with_reducible refine' rd_neXI ?ha ?hb ); (case ha => walk_at "rd"); (case hb => walk_at "rd"))
  | ((with_reducible refine' rd_len ?ha ?e0); (case ha => walk_at "rd"); (case e0 => with_unfolding_all rfl))
  | ((with_reducible refine' rd_min2 ?ha ?hb ); (case ha => walk_at "rd"); (case hb => walk_at "rd"))
  | ((with_reducible refine' rd_max2 ?ha ?hb ); (case ha => walk_at "rd"); (case hb => walk_at "rd"))
  | ((with_reducible refine' rd_abs ?ha ); (case ha => walk_at "rd"))
  | ((with_reducible refine' rd_ixX ?ha ?hb ?e0 ?e1); (case ha => walk_at "rd"); (case hb => walk_at "rd"); (case e0 => with_unfolding_all rfl); (case e1 => with_unfolding_all rfl))
  | ((with_reducible refine' rd_ixXT ?ha ?hb ?e0); (case ha => walk_at "rd"); (case hb => walk_at "rd"); (case e0 => with_unfolding_all rfl))
  | ((with_reducible refine' rd_isi ?ha ?e0 ?e1); (case ha => walk_at "rd"); (case e0 => with_unfolding_all rfl); (case e1 => with_unfolding_all rfl))
  | ((with_reducible refine' rd_isiT2 ?ha ?e0 ?e1); (case ha => walk_at "rd"); (case e0 => with_unfolding_all rfl); (case e1 => with_unfolding_all rfl))
  | ((with_reducible refine' rd_isN ?ha ); (case ha => walk_at "rd"))
  | ((with_reducible refine' rd_notN ?ha ); (case ha => walk_at "rd"))
  | ((with_reducible refine' rd_tup' ?ha ?e0 ?e1); (case ha => walk_at "ra"); (case e0 => with_unfolding_all rfl); (case e1 => with_unfolding_all rfl))
  | ((with_reducible refine' rd_eqXB ?ha ?hb); (case ha => walk_at "rd"); (case hb => walk_at "rd"))
  | ((with_reducible refine' rd_neXB ?ha ?hb); (case ha => walk_at "rd"); (case hb => walk_at "rd"))
  | ((with_reducible refine' rd_eqXS ?ha ?hb); (case ha => walk_at "rd"); (case hb => walk_at "rd"))
  | ((with_reducible refine' rd_neXS ?ha ?hb); (case ha => walk_at "rd"); (case hb => walk_at "rd"))
  | ((with_reducible refine' rd_eqSame ?ha ?hb ?hx ?hy ?hk); (case ha => walk_at "rd"); (case hb => walk_at "rd"); (case hx => with_unfolding_all rfl); (case hy => with_reducible rfl); (case hk => walk_at "ok"))
  | ((with_reducible refine' rd_neSame ?ha ?hb ?hx ?hy ?hk); (case ha => walk_at "rd"); (case hb => walk_at "rd"); (case hx => with_unfolding_all rfl); (case hy => with_reducible rfl); (case hk => walk_at "ok"))
  | ((with_reducible refine' rd_eqLI ?ha ?hb ?hx ?hy); (case ha => walk_at "rd"); (case hb => walk_at "rd"); (case hx => with_unfolding_all rfl); (case hy => with_unfolding_all rfl))
  | ((with_reducible refine' rd_neLI ?ha ?hb ?hx ?hy); (case ha => walk_at "rd"); (case hb => walk_at "rd"); (case hx => with_unfolding_all rfl); (case hy => with_unfolding_all rfl))
  | ((with_reducible refine' rd_eqNil ?ha ?hb ?hx ?hy ?hk); (case ha => walk_at "rd"); (case hb => walk_at "rd"); (case hx => with_unfolding_all rfl); (case hy => with_unfolding_all rfl); (case hk => walk_at "ok"))
  | ((with_reducible refine' rd_neNil ?ha ?hb ?hx ?hy ?hk); (case ha => walk_at "rd"); (case hb => walk_at "rd"); (case hx => with_unfolding_all rfl); (case hy => with_unfolding_all rfl); (case hk => walk_at "ok"))
  | ((with_reducible refine' rd_callQ ?ha ?ht ?hd ?hl ?h ?hf); (case ha => walk_at "ra"); (case ht => with_unfolding_all rfl); (case hd => with_unfolding_all rfl); (case hl => rfl); (case h => walk_at "fc"); (case hf => walk_at "fl"))
  | ((with_reducible refine' rd_cw 0 ?ha ?e0 ?e1 ?e2 ?h ?e3 ?e4 ?e5 ?e6); (case ha => walk_at "ra"); (case e0 => with_unfolding_all rfl); (case e1 => with_unfolding_all rfl); (case e2 => with_unfolding_all rfl); (case h => walk_at "fc"); (case e3 => with_unfolding_all rfl); (case e4 => with_unfolding_all rfl); (case e5 => walk_at "fl"); (case e6 => walk_at "fl"))
  | ((with_reducible refine' rd_andTB ?ha ?hb ?hd); (case ha => walk_at "rd"); (case hb => (intro _; walk_at "rd")); (case hd => rfl))
  | ((with_reducible refine' rd_notT ?ha ?hb); (case ha => walk_at "rd"); (case hb => with_unfolding_all rfl))
  | ((with_reducible refine' Ro.frz ?ha ?hz); (case ha => walk_at "ro"); (case hz => with_unfolding_all rfl)))
local macro_rules | `(tactic| walk_at "ro") => `(tactic| ((with_reducible refine' ro_lst' ?ha ?e0 ?e1); (case ha => walk_at "ra"); (case e0 => with_unfolding_all rfl); (case e1 => with_unfolding_all rfl)))
local macro_rules | `(tactic| walk_at "om") => `(tactic| first | assumption | omega | decide | (simp only [List.length_map, List.length_append, List.length_cons, List.length_nil, List.length_range, List.length_reverse, List.length_set, List.length_take, List.length_drop]; omega) | walk_at "lk")
local macro_rules | `(tactic| walk_at "lk") => `(tactic| trivial)
local macro_rules | `(tactic| walk_at "fc") => `(tactic| first
  | assumption
  | exact fun Q q => ⟨_, rfl, q⟩
  | exact fun Q q => ⟨_, rfl, by walk_at "om", q⟩
  | exact fun Q q => ⟨_, rfl, by walk_at "om", by walk_at "om", q⟩
  | exact fun Q q => ⟨_, rfl, by walk_at "om", by walk_at "om", by walk_at "om", q⟩
  | exact fun Q q => ⟨_, rfl, by walk_at "om", by walk_at "om", by walk_at "om", by walk_at "om", q⟩
  | exact fun Q q => ⟨_, _, rfl, q⟩
  | exact fun Q q => ⟨_, _, rfl, by walk_at "om", q⟩
  | exact fun Q q => ⟨_, _, rfl, by walk_at "om", by walk_at "om", q⟩
  | exact fun Q q => ⟨_, _, rfl, by walk_at "om", by walk_at "om", by walk_at "om", q⟩
  | exact fun Q q => ⟨_, _, rfl, by walk_at "om", by walk_at "om", by walk_at "om", by walk_at "om", q⟩
  | exact fun Q q => ⟨_, _, _, rfl, q⟩
  | exact fun Q q => ⟨_, _, _, rfl, by walk_at "om", q⟩
  | exact fun Q q => ⟨_, _, _, rfl, by walk_at "om", by walk_at "om", q⟩
  | exact fun Q q => ⟨_, _, _, rfl, by walk_at "om", by walk_at "om", by walk_at "om", q⟩
  | exact fun Q q => ⟨_, _, _, rfl, by walk_at "om", by walk_at "om", by walk_at "om", by walk_at "om", q⟩
  | exact fun Q q => ⟨_, _, _, _, rfl, q⟩
  | exact fun Q q => ⟨_, _, _, _, rfl, by walk_at "om", q⟩
  | exact fun Q q => ⟨_, _, _, _, rfl, by walk_at "om", by walk_at "om", q⟩
  | exact fun Q q => ⟨_, _, _, _, rfl, by walk_at "om", by walk_at "om", by walk_at "om", q⟩
  | exact fun Q q => ⟨_, _, _, _, rfl, by walk_at "om", by walk_at "om", by walk_at "om", by walk_at "om", q⟩)
local macro_rules | `(tactic| walk_at "fl") => `(tactic| first | rfl | exact flat_int _)
local macro_rules | `(tactic| walk_at "ok") => `(tactic| first | exact okI _ | exact okB _ | exact okII _ | rfl | assumption)
local macro_rules | `(tactic| walk_at "np") => `(tactic| first | decide | (intro z; simp [keepS, keepA] at z) | exact others_not rfl)
local macro_rules | `(tactic| walk_at "ro") => `(tactic| first
  | ((with_reducible refine' ro_lst' ?ha ?e0 ?e1); (case ha => walk_at "ra"); (case e0 => with_unfolding_all rfl); (case e1 => with_unfolding_all rfl))
  | ((with_reducible refine' ro_list ?ha ?hv); (case ha => walk_at "rd"); (case hv => with_unfolding_all rfl))
  | ((with_reducible refine' ro_sorted ?ha ?hv); (case ha => walk_at "rd"); (case hv => with_unfolding_all rfl))
  | ((with_reducible refine' ro_sortedRev ?ha ?hv); (case ha => walk_at "rd"); (case hv => with_unfolding_all rfl))
  | ((with_reducible refine' ro_takeI ?ha ?hh ?hv ?h0); (case ha => walk_at "rd"); (case hh => walk_at "rn"); (case hv => with_unfolding_all rfl); (case h0 => walk_at "om"))
  | ((with_reducible refine' ro_dropI ?ha ?hh ?hv ?h0); (case ha => walk_at "rd"); (case hh => walk_at "rn"); (case hv => with_unfolding_all rfl); (case h0 => walk_at "om"))
  | ((with_reducible refine' ro_takeX ?ha ?hh ?hv ?h0); (case ha => walk_at "rd"); (case hh => walk_at "rn"); (case hv => with_unfolding_all rfl); (case h0 => walk_at "om"))
  | ((with_reducible refine' ro_dropX ?ha ?hh ?hv ?h0); (case ha => walk_at "rd"); (case hh => walk_at "rn"); (case hv => with_unfolding_all rfl); (case h0 => walk_at "om"))
  | ((with_reducible refine' ro_slice ?ha ?hl ?hh ?hv); (case ha => walk_at "rd"); (case hl => walk_at "rn"); (case hh => walk_at "rn"); (case hv => with_unfolding_all rfl))
  | ((with_reducible refine' rd_addLI ?ha ?hb ?hv ?hw ?hl); (case ha => walk_at "rd"); (case hb => walk_at "rd"); (case hv => with_unfolding_all rfl); (case hw => with_unfolding_all rfl); (case hl => walk_at "om"))
  | ((with_reducible refine' rd_addL ?ha ?hb ?hv ?hw ?hl); (case ha => walk_at "rd"); (case hb => walk_at "rd"); (case hv => with_unfolding_all rfl); (case hw => with_unfolding_all rfl); (case hl => walk_at "om"))
  | ((with_reducible refine' ro_callQ ?ha ?ht ?hd ?hl ?h ?hf); (case ha => walk_at "ra"); (case ht => with_unfolding_all rfl); (case hd => with_unfolding_all rfl); (case hl => rfl); (case h => walk_at "fc"); (case hf => walk_at "fl"))
  | ((with_reducible refine' ro_callKQ ?ha ?hg ?hn ?ht ?hd ?hl ?h ?hf); (case ha => walk_at "ra"); (case hg => with_unfolding_all rfl); (case hn => rfl); (case ht => with_unfolding_all rfl); (case hd => with_unfolding_all rfl); (case hl => rfl); (case h => walk_at "fc"); (case hf => walk_at "fl"))
  | ((with_reducible refine' ro_cw 0 ?ha ?e0 ?e1 ?e2 ?h ?e3 ?e4 ?e5 ?e6); (case ha => walk_at "ra"); (case e0 => with_unfolding_all rfl); (case e1 => with_unfolding_all rfl); (case e2 => with_unfolding_all rfl); (case h => walk_at "fc"); (case e3 => with_unfolding_all rfl); (case e4 => with_unfolding_all rfl); (case e5 => walk_at "fl"); (case e6 => walk_at "fl"))
  | ((with_reducible refine' ro_listRg1 ?ha ?h1 ?h2); (case ha => walk_at "rd"); (case h1 => walk_at "om"); (case h2 => walk_at "om")))
local macro_rules | `(tactic| walk_at "rn") => `(tactic| first | with_reducible exact rn_none | ((with_reducible refine' rn_some ?ha); (case ha => walk_at "rd")))
local macro_rules | `(tactic| walk_at "rf") => `(tactic| first
  | ((with_reducible refine' rt_notF ?ha); (case ha => walk_at "rt"))
  | ((with_reducible refine' rt_andF1 ?ha); (case ha => walk_at "rf"))
  | ((with_reducible refine' rt_andFa ?ha ?hb); (case ha => walk_at "rt"); (case hb => walk_at "rf"))
  | ((with_reducible refine' rt_orF ?ha ?hb); (case ha => walk_at "rf"); (case hb => walk_at "rf"))
  | ((with_reducible refine' rt_test ?ha); (case ha => walk_at "rd"))
  | ((with_reducible refine' rt_truK ?ha ?hb); (case ha => walk_at "rd"); (case hb => with_unfolding_all rfl))
  | (refine' Rt.is ?ha ?hb; (case ha => walk_at "rt"); (case hb => first | assumption | (simp; done) | (simp; omega) | (simp [*]; done))))
local macro_rules | `(tactic| walk_at "s") => `(tactic| first
  | ((with_reducible refine' sd_seq (sd_asgO ?ha ?hi ?hn)); (case ha => walk_at "ro"); (case hi => walk_at "np"); walk_at "dn")
  | ((with_reducible refine' sd_seq (sd_asg ?ha ?hi ?hn)); (case ha => walk_at "rd"); (case hi => walk_at "np"); walk_at "dn")
  | ((with_reducible refine' sd_seq (sd_append ?h0 ?ha ?h1 ?hl ?hn)); (case h0 => with_unfolding_all rfl); (case ha => walk_at "rd"); (case h1 => with_unfolding_all rfl); (case hl => walk_at "om"); walk_at "dn")
  | ((with_reducible refine' sd_seq (sd_aug ?ha ?h0 ?hi ?hn)); (case ha => walk_at "rd"); (case h0 => with_unfolding_all rfl); (case hi => walk_at "np"); walk_at "dn")
  | ((with_reducible refine' sd_seq (sd_drop ?ha ?hn)); (case ha => walk_at "rd"); walk_at "dn")
  | ((with_reducible refine' sd_seq (sd_chk ?hi (sd_next ?h2))); (case hi => walk_at "rf"))
  | ((with_reducible refine' sd_asgO ?ha ?hi ?hn); (case ha => walk_at "ro"); (case hi => walk_at "np"); walk_at "dn")
  | ((with_reducible refine' sd_asg ?ha ?hi ?hn); (case ha => walk_at "rd"); (case hi => walk_at "np"); walk_at "dn")
  | ((with_reducible refine' sd_append ?h0 ?ha ?h1 ?hl ?hn); (case h0 => with_unfolding_all rfl); (case ha => walk_at "rd"); (case h1 => with_unfolding_all rfl); (case hl => walk_at "om"); walk_at "dn")
  | ((with_reducible refine' sd_aug ?ha ?h0 ?hi ?hn); (case ha => walk_at "rd"); (case h0 => with_unfolding_all rfl); (case hi => walk_at "np"); walk_at "dn")
  | ((with_reducible refine' sd_drop ?ha ?hn); (case ha => walk_at "rd"); walk_at "dn")
  | ((with_reducible refine' sd_chk ?hi (sd_next ?h2)); (case hi => walk_at "rf")))
local macro_rules | `(tactic| walk_at "ls") => `(tactic| first | exact Less.refl | exact less_nil | (refine less_consN ?_; walk_at "ls") | (refine less_consE ?h1 ?h2; (case h2 => walk_at "ls"); (case h1 => first | rfl | assumption | (simp [*]; done))))
local macro_rules | `(tactic| walk_at "go") => `(tactic| repeat walk_at "s")
local macro_rules | `(tactic| walk_at "ra") => `(tactic| first | with_reducible exact ra_nil | ((with_reducible refine' ra_cons ?ha ?hb); (case ha => walk_at "rd"); (case hb => walk_at "ra")))
local macro_rules | `(tactic| walk_at "rt") => `(tactic| first
  | ((with_reducible refine' rt_test ?ha ); (case ha => walk_at "rd"))
  | ((with_reducible refine' rt_not ?ha ); (case ha => walk_at "rt"))
  | ((with_reducible refine' rt_truK ?ha ?e0); (case ha => walk_at "rd"); (case e0 => with_unfolding_all rfl))
  | ((with_reducible refine' rt_B ?ha ); (case ha => walk_at "rd"))
  | ((with_reducible refine' rt_and ?ha ?hb); (case ha => walk_at "rt"); (case hb => (intro _; walk_at "rt")))
  | ((with_reducible refine' rt_or ?ha ?hb); (case ha => walk_at "rt"); (case hb => (intro _; walk_at "rt"))))
local macro_rules | `(tactic| walk_at "dn") => `(tactic| try simp only [cxK, wipeE, cxKn, List.map_cons, List.map_nil, List.cons_append, List.nil_append, List.replicate_succ, List.replicate_zero, List.set_cons_zero, List.set_cons_succ, Int.reduceToNat, Int.reducePow, Int.reduceAdd, Int.toNat_natCast, Int.toNat_natCast_add_one])
local macro_rules | `(tactic| walk_at "as") => `(tactic| (refine' sd_seq (sd_asg ?ha ?hi ?hn); (case ha => walk_at "rd"); (case hi => decide); walk_at "dn"))
local macro_rules | `(tactic| walk_at "a1") => `(tactic| (refine' sd_asg ?ha ?hi ?hn; (case ha => walk_at "rd"); (case hi => decide); walk_at "dn"))
local macro_rules | `(tactic| walk_at "ao") => `(tactic| (refine' sd_seq (sd_asgO ?ha ?hi ?hn); (case ha => walk_at "ro"); (case hi => decide); walk_at "dn"))
local macro_rules | `(tactic| walk_at "re") => `(tactic| (refine' sd_retD ?ha ?hn; (case ha => walk_at "rd")))
local macro_rules | `(tactic| walk_at "ro!") => `(tactic| (refine' sd_ret ?ha ?hn; (case ha => walk_at "ro")))
local macro_rules | `(tactic| walk_at "if") => `(tactic| (refine' sd_seq (sd_if ?hi ?h1 ?h2); (case hi => walk_at "rt")))
local macro_rules | `(tactic| walk_at "i1") => `(tactic| (refine' sd_if ?hi ?h1 ?h2; (case hi => walk_at "rt")))
local macro_rules | `(tactic| walk_at "cw0") => `(tactic| (refine' rd_cw 0 ?ha ?e0 ?e1 ?e2 ?h ?e3 ?e4 ?e5 ?e6; (case ha => walk_at "ra"); (case e0 => with_unfolding_all rfl); (case e1 => with_unfolding_all rfl); (case e2 => with_unfolding_all rfl)))
local macro_rules | `(tactic| walk_at "cw1") => `(tactic| (refine' rd_cw 1 ?ha ?e0 ?e1 ?e2 ?h ?e3 ?e4 ?e5 ?e6; (case ha => walk_at "ra"); (case e0 => with_unfolding_all rfl); (case e1 => with_unfolding_all rfl); (case e2 => with_unfolding_all rfl)))
local macro_rules | `(tactic| walk_at "cw2") => `(tactic| (refine' rd_cw 2 ?ha ?e0 ?e1 ?e2 ?h ?e3 ?e4 ?e5 ?e6; (case ha => walk_at "ra"); (case e0 => with_unfolding_all rfl); (case e1 => with_unfolding_all rfl); (case e2 => with_unfolding_all rfl)))
local macro_rules | `(tactic| walk_at "co0") => `(tactic| (refine' ro_cw 0 ?ha ?e0 ?e1 ?e2 ?h ?e3 ?e4 ?e5 ?e6; (case ha => walk_at "ra"); (case e0 => with_unfolding_all rfl); (case e1 => with_unfolding_all rfl); (case e2 => with_unfolding_all rfl)))
local macro_rules | `(tactic| walk_at "co1") => `(tactic| (refine' ro_cw 1 ?ha ?e0 ?e1 ?e2 ?h ?e3 ?e4 ?e5 ?e6; (case ha => walk_at "ra"); (case e0 => with_unfolding_all rfl); (case e1 => with_unfolding_all rfl); (case e2 => with_unfolding_all rfl)))
local macro_rules | `(tactic| walk_at "co2") => `(tactic| (refine' ro_cw 2 ?ha ?e0 ?e1 ?e2 ?h ?e3 ?e4 ?e5 ?e6; (case ha => walk_at "ra"); (case e0 => with_unfolding_all rfl); (case e1 => with_unfolding_all rfl); (case e2 => with_unfolding_all rfl)))
section
variable {P : Program} {w : World} {K : PySem.W.Frag} {mg : Str → Option Value} {base : Heap}
/-! family B: the purse -/
structure Pu where
  a : Int
  b : Int
  c : Int
  k : Nat
  cells : List Int
def puD (s : Pu) : List TV.D := .int s.a :: .int s.b :: .int s.c :: .int (s.k : Nat) :: dI s.cells
def puT (s : Pu) : T := .ls (puD s)
def bCell (s : Pu) : Int := if s.k < s.cells.length then s.cells.getD s.k 0 else 0
def bK (s : Pu) : Nat := if s.k < s.cells.length then s.k + 1 else s.k
def bStir (s : Pu) : Int := ((s.b + bCell s + 1) * (48271 + 2 * (s.c + 1))) % 2305843009213693951
def bNew (s : Pu) : Int := (bStir s * bStir s + bCell s) % 2305843009213693921
def bV (s : Pu) (m : Int) : Int := if s.a = 0 then (if bCell s < 10 ^ 18 then bNew s / 1024 % m else bCell s % m) else s.a % m
def bN (s : Pu) (m : Int) : Pu := if s.a = 0 then (if bCell s < 10 ^ 18 then ⟨0, bNew s, s.c + 1, bK s, s.cells⟩ else ⟨bCell s / m, s.b, s.c + 1, bK s, s.cells⟩) else ⟨s.a / m, s.b, s.c + 1, s.k, s.cells⟩
structure OkP (s : Pu) (n : Int) : Prop where
  a0 : 0 ≤ s.a
  b0 : 0 ≤ s.b
  b1 : s.b < 2 ^ 62
  c0 : 0 ≤ s.c
  c1 : s.c + n ≤ 2 ^ 40
  ce : ∀ x ∈ s.cells, 0 ≤ x
theorem OkP.le {s : Pu} {m n : Int} (h : OkP s n) (l : m ≤ n) : OkP s m := ⟨h.a0, h.b0, h.b1, h.c0, by have := h.c1; omega, h.ce⟩
theorem bCell_nn {s : Pu} {n : Int} (h : OkP s n) : 0 ≤ bCell s := by
  unfold bCell
  split
  · rename_i hk
    rw [List.getD_eq_getElem?_getD, List.getElem?_eq_getElem hk]
    exact h.ce _ (List.getElem_mem hk)
  · omega
theorem bN_ok {s : Pu} {m n : Int} (h : OkP s (n + 1)) (hm : 0 < m) : OkP (bN s m) n := by
  have h1 := h.c0
  have h2 := h.c1
  have h3 := bCell_nn h
  have e0 : 0 ≤ bNew s := Int.emod_nonneg _ (by decide)
  have e1 : bNew s < 2305843009213693921 := Int.emod_lt_of_pos _ (by decide)
  unfold bN
  split
  · split
    · exact ⟨Int.le_refl _, e0, Int.lt_trans e1 (by decide), by show 0 ≤ s.c + 1; omega, by show s.c + 1 + n ≤ _; omega, h.ce⟩
    · exact ⟨Int.ediv_nonneg h3 (by omega), h.b0, h.b1, by show 0 ≤ s.c + 1; omega, by show s.c + 1 + n ≤ _; omega, h.ce⟩
  · exact ⟨Int.ediv_nonneg h.a0 (by omega), h.b0, h.b1, by show 0 ≤ s.c + 1; omega, by show s.c + 1 + n ≤ _; omega, h.ce⟩
theorem bV_nn (s : Pu) {m : Int} (h : 0 < m) : 0 ≤ bV s m := by
  unfold bV
  split
  · split <;> exact Int.emod_nonneg _ (by omega)
  · exact Int.emod_nonneg _ (by omega)
theorem bV_lt (s : Pu) {m : Int} (h : 0 < m) : bV s m < m := by
  unfold bV
  split
  · split <;> exact Int.emod_lt_of_pos _ h
  · exact Int.emod_lt_of_pos _ h
def cDrawB : Con := fun ts Q => ∃ (s : Pu) (m : Int), ts = [puT s, .d (.int m)] ∧ 0 < m ∧ m < 2 ^ 200 ∧ OkP s 1 ∧ Q (.d (.int (bV s m))) [puT (bN s m), .d (.int m)]
theorem pu_len (s : Pu) : (puD s).length = 4 + s.cells.length := by
  unfold puD
  simp
  omega
theorem pu_at (s : Pu) {j : Nat} {x : TV.D} (h : (puD s)[j]? = some x) : atI (puD s) (j : Nat) = some x := atI_nat h
theorem ok_law_draw (m_int : mg "int" = none) (m_len : mg "len" = none) (h : Has K mg "_law_draw" s_law_draw ["purse", "limit"]) : Cal P w K mg base 1 "_law_draw" ["purse", "limit"] cDrawB := by
  obtain ⟨f, fd, F, g, b⟩ := h
  have nd : N_law_draw.Nodup := sc_law_draw.nd
  refine Cal.mk' F g b (con_ok [0] 3 F sc_law_draw rfl (fun ts Q h => ?_) (fun ts Q h k t hk hn => ?_) fun cdv A outer s H E hr => ⟨_, (pss_cons (ps_asg (pe_op op_addX (pe_ix (kix K) (pv 0) pe_int (fun _ _ => rfl)) pe_int) (pg_sub (pv 0) pe_int set_list))
      (pss_cons (ps_if (pt_cmpR (keq K hr.units) (pe_ix (kix K) (pv 0) pe_int (fun _ _ => rfl)) pe_int (nomark _)) (pss_cons (qset 2 pe_int nd)
      (pss_cons (ps_if (pt_cmpR op_lt (pe_op op_addX pe_int (pe_ix (kix K) (pv 0) pe_int (fun _ _ => rfl))) (pe_callB (kclen K) (by rfl) m_len (by decide +kernel) (pa_cons (pv 0) pa_nil)) (nomark _)) (pss_cons (qset 2 (pe_ix (kix K) (pv 0) (pe_op op_addX pe_int (pe_ix (kix K) (pv 0) pe_int (fun _ _ => rfl))) (fun _ _ => rfl)) nd)
      (pss_one (ps_asg (pe_op op_addX (pe_ix (kix K) (pv 0) pe_int (fun _ _ => rfl)) pe_int) (pg_sub (pv 0) pe_int set_list)))) pss_nil)
      (pss_cons (ps_if (pt_cmpR op_lt (pv 2) (pe_op op_pow pe_int pe_int) (nomark _)) (pss_cons (qset 3 (pe_op op_mod (pe_callTy call_int1 (by rfl) m_int (by decide +kernel) (pa_cons (pe_op op_mulX (pe_op op_addX (pe_op op_addX (pe_ix (kix K) (pv 0) pe_int (fun _ _ => rfl)) (pv 2)) pe_int) (pe_op op_addX pe_int (pe_op op_mulX pe_int (pe_ix (kix K) (pv 0) pe_int (fun _ _ => rfl))))) pa_nil)) pe_int) nd)
      (pss_cons (ps_asg (pe_op op_mod (pe_callTy call_int1 (by rfl) m_int (by decide +kernel) (pa_cons (pe_op op_addX (pe_op op_mulX (pv 3) (pv 3)) (pv 2)) pa_nil)) pe_int) (pg_sub (pv 0) pe_int set_list))
      (pss_one (ps_ret (pe_op op_mod (pe_callTy call_int1 (by rfl) m_int (by decide +kernel) (pa_cons (pe_op op_fdivW (pe_ix (kix K) (pv 0) pe_int (fun _ _ => rfl)) pe_int) pa_nil)) (pv 1)))))) pss_nil)
      (pss_one (ps_asg (pv 2) (pg_sub (pv 0) pe_int set_list)))))) pss_nil)
      (pss_cons (qset 4 (pe_op op_mod (pe_callTy call_int1 (by rfl) m_int (by decide +kernel) (pa_cons (pe_ix (kix K) (pv 0) pe_int (fun _ _ => rfl)) pa_nil)) (pv 1)) nd)
      (pss_cons (ps_asg (pe_op op_fdivW (pe_ix (kix K) (pv 0) pe_int (fun _ _ => rfl)) (pv 1)) (pg_sub (pv 0) pe_int set_list))
      (pss_one (ps_ret (pv 4))))))), fun ts Q h => ?_⟩)
  · obtain ⟨s, m, rfl, _⟩ := h
    rfl
  · obtain ⟨s, m, rfl, _⟩ := h
    rcases k with _ | _ | k
    · simp at hn
    · simp at hk
      exact ⟨_, hk.symm⟩
    · simp at hk
  · obtain ⟨s, m, rfl, m0, m1, ok, q⟩ := h
    have fin : ∀ (δ : TV.Env) (s' : Pu) (x : T), δ[0]? = some (some (puT s')) → Q x [puT s', .d (.int m)] → (∀ k : Nat, k ∈ [0] → k < [puT s, T.d (.int m)].length → ∃ s, δ[k]? = some (some s)) ∧ Q x (outsOf [0] [puT s, T.d (.int m)] δ) := fun δ s' x h0 hq => by
      refine ⟨fun k hk hl => by simp at hk; subst hk; exact ⟨_, h0⟩, ?_⟩
      have e : outsOf [0] [puT s, T.d (.int m)] δ = [puT s', T.d (.int m)] := by
        simp [outsOf, List.mapIdx_cons, h0]
      rw [e]
      exact hq
    have hc0 := bCell_nn ok
    have c0 := ok.c0
    have c1 := ok.c1
    have b0 := ok.b0
    have b1 := ok.b1
    have a0 := ok.a0
    have at0 : ∀ s : Pu, atI (puD s) 0 = some (.int s.a) := fun s => pu_at s (j := 0) rfl
    have at1 : ∀ s : Pu, atI (puD s) 1 = some (.int s.b) := fun s => pu_at s (j := 1) rfl
    have at2 : ∀ s : Pu, atI (puD s) 2 = some (.int s.c) := fun s => pu_at s (j := 2) rfl
    have at3 : ∀ s : Pu, atI (puD s) 3 = some (.int (s.k : Nat)) := fun s => pu_at s (j := 3) rfl
    have ix : ∀ (s : Pu) (j : Nat), j < 4 → ixN (puD s).length (j : Nat) = some j := fun s j hj => ixNn (by rw [pu_len]; omega)
    unfold puT
    walk_at "dn"
    refine sd_seq (sd_setL (k := 2) (j := 2) (rd_addI (rd_ixX (rd_slot rfl) rd_int rfl (at2 s)) rd_int) rd_int rfl rfl (ix s 2 (by decide)) ?_)
    walk_at "dn"
    rw [show (puD s).set 2 (.int (s.c + 1)) = puD ⟨s.a, s.b, s.c + 1, s.k, s.cells⟩ from rfl]
    by_cases ha : s.a = 0
    · have eV : bV s m = if bCell s < 10 ^ 18 then bNew s / 1024 % m else bCell s % m := by unfold bV; rw [if_pos ha]
      have eN : bN s m = if bCell s < 10 ^ 18 then ⟨0, bNew s, s.c + 1, bK s, s.cells⟩ else ⟨bCell s / m, s.b, s.c + 1, bK s, s.cells⟩ := by unfold bN; rw [if_pos ha]
      rw [eV, eN] at q
      refine sd_cut (fun δ => 10 ^ 18 ≤ bCell s ∧ δ = [some (puT ⟨bCell s, s.b, s.c + 1, bK s, s.cells⟩), some (.d (.int m)), some (.d (.int (bCell s))), none, none]) (sd_if (b := true) (Rt.is (rt_test (rd_eqXI (rd_ixX (rd_slot rfl) rd_int rfl (at0 _)) rd_int)) (by simpa using ha)) (fun _ => ?_) (fun z => by cases z)) (fun δ p => ?_)
      · walk_at "s"
        refine sd_midE (fun _ : Unit => [some (puT ⟨s.a, s.b, s.c + 1, bK s, s.cells⟩), some (.d (.int m)), some (.d (.int (bCell s))), none, none]) (fun _ => True) (sd_if (b := decide (s.k < s.cells.length)) (Rt.is (rt_test (rd_opB (rd_addI rd_int (rd_ixX (rd_slot rfl) rd_int rfl (at3 _))) (rd_len (rd_slot rfl) rfl))) ?_) (fun hk => ?_) (fun hk => ?_)) (fun _ _ => ?_)
        · rw [pu_len]
          apply decide_eq_decide.mpr
          dsimp only
          omega
        · have hk : s.k < s.cells.length := by simpa using hk
          have eC : bCell s = s.cells.getD s.k 0 := by unfold bCell; rw [if_pos hk]
          have eK : bK s = s.k + 1 := by unfold bK; rw [if_pos hk]
          have hat : atI (puD ⟨s.a, s.b, s.c + 1, s.k, s.cells⟩) (4 + (s.k : Nat)) = some (.int (bCell s)) := by
            refine atI_nat' (j := s.k + 4) (by omega) ?_
            show (dI s.cells)[s.k]? = _
            rw [List.getElem?_map, List.getElem?_eq_getElem hk, eC, List.getD_eq_getElem?_getD, List.getElem?_eq_getElem hk]
            rfl
          refine sd_seq (sd_asg (rd_ixX (rd_slot rfl) (rd_addI rd_int (rd_ixX (rd_slot rfl) rd_int rfl (at3 _))) rfl hat) (by decide) ?_)
          walk_at "dn"
          refine sd_setL (k := 3) (j := 3) (rd_addI (rd_ixX (rd_slot rfl) rd_int rfl (at3 _)) rd_int) rd_int rfl rfl (ix _ 3 (by decide)) ⟨(), trivial, ?_⟩
          rw [eK]
          walk_at "ls"
        · have hk : ¬ s.k < s.cells.length := by simpa using hk
          have eC : bCell s = 0 := by unfold bCell; rw [if_neg hk]
          have eK : bK s = s.k := by unfold bK; rw [if_neg hk]
          refine sd_next ⟨(), trivial, ?_⟩
          rw [eC, eK]
          walk_at "ls"
        unfold puT
        by_cases hl : bCell s < 10 ^ 18
        · rw [if_pos hl, if_pos hl] at q
          refine sd_seq (sd_if (b := true) (Rt.is (rt_test (rd_opB (rd_var rfl) (rd_powI rd_int rd_int (by walk_at "sc")))) (by simpa using hl)) (fun _ => ?_) (fun z => by cases z))
          have e1 : 0 ≤ bStir s := Int.emod_nonneg _ (by decide)
          have e2 : bStir s < 2305843009213693951 := Int.emod_lt_of_pos _ (by decide)
          refine sd_seq (sd_asg (rd_modI (rd_intI (rd_mulI (rd_addI (rd_addI (rd_ixX (rd_slot rfl) rd_int rfl (at1 _)) (rd_var rfl)) rd_int) (rd_addI rd_int (rd_mulI rd_int (rd_ixX (rd_slot rfl) rd_int rfl (at2 _)) ?_)) ?_)) rd_int (by decide)) (by decide) ?_)
          · exact big_mul (a := 100) (b := 100) (by decide) (by dsimp only; omega) (by decide) (by decide) (by decide)
          · exact big_mul (a := 100) (b := 100) (by dsimp only; omega) (by dsimp only; omega) (by decide) (by decide) (by decide)
          walk_at "dn"
          rw [show (s.b + bCell s + 1) * (48271 + 2 * (s.c + 1)) % 2305843009213693951 = bStir s from rfl]
          refine sd_seq (sd_setL (k := 1) (j := 1) (rd_modI (rd_intI (rd_addI (rd_mulI (rd_var rfl) (rd_var rfl) (big_mul (a := 100) (b := 100) (by omega) (by omega) (by decide) (by decide) (by decide))) (rd_var rfl))) rd_int (by decide)) rd_int rfl rfl (ix _ 1 (by decide)) ?_)
          walk_at "dn"
          have e3 : 0 ≤ bNew s := Int.emod_nonneg _ (by decide)
          have e4 : bNew s < 2305843009213693921 := Int.emod_lt_of_pos _ (by decide)
          refine sd_retD (x := .int (bNew s / 1024 % m)) (rd_modI (rd_intI (rd_divI (rd_ixX (rd_slot rfl) rd_int rfl (at1 ⟨s.a, bNew s, s.c + 1, bK s, s.cells⟩)) rd_int (by walk_at "sc"))) (rd_var rfl) m0) (fin _ ⟨s.a, bNew s, s.c + 1, bK s, s.cells⟩ _ rfl ?_)
          rw [ha]
          exact q
        · rw [if_neg hl, if_neg hl] at q
          refine sd_seq (sd_if (b := false) (Rt.is (rt_test (rd_opB (rd_var rfl) (rd_powI rd_int rd_int (by walk_at "sc")))) (by simpa using hl)) (fun z => by cases z) (fun _ => sd_next ?_))
          refine sd_setL (k := 0) (j := 0) (rd_var rfl) rd_int rfl rfl (ix _ 0 (by decide)) ⟨by omega, ?_⟩
          rfl
      · obtain ⟨hl, rfl⟩ := p
        rw [if_neg (by omega), if_neg (by omega)] at q
        unfold puT
        refine sd_seq (sd_asg (rd_modI (rd_intI (rd_ixX (rd_slot rfl) rd_int rfl (at0 _))) (rd_var rfl) m0) (by decide) ?_)
        walk_at "dn"
        refine sd_seq (sd_setL (k := 0) (j := 0) (rd_divI (rd_ixX (rd_slot rfl) rd_int rfl (at0 _)) (rd_var rfl) (by walk_at "sc")) rd_int rfl rfl (ix _ 0 (by decide)) ?_)
        walk_at "dn"
        exact sd_retD (rd_var rfl) (fin _ ⟨bCell s / m, s.b, s.c + 1, bK s, s.cells⟩ _ rfl q)
    · have eV : bV s m = s.a % m := by unfold bV; rw [if_neg ha]
      have eN : bN s m = ⟨s.a / m, s.b, s.c + 1, s.k, s.cells⟩ := by unfold bN; rw [if_neg ha]
      rw [eV, eN] at q
      refine sd_seq (sd_if (b := false) (Rt.is (rt_test (rd_eqXI (rd_ixX (rd_slot rfl) rd_int rfl (at0 _)) rd_int)) (by simpa using ha)) (fun z => by cases z) (fun _ => sd_next ?_))
      refine sd_seq (sd_asg (rd_modI (rd_intI (rd_ixX (rd_slot rfl) rd_int rfl (at0 _))) (rd_var rfl) m0) (by decide) ?_)
      walk_at "dn"
      refine sd_seq (sd_setL (k := 0) (j := 0) (rd_divI (rd_ixX (rd_slot rfl) rd_int rfl (at0 _)) (rd_var rfl) (by walk_at "sc")) rd_int rfl rfl (ix _ 0 (by decide)) ?_)
      walk_at "dn"
      exact sd_retD (rd_var rfl) (fin _ ⟨s.a / m, s.b, s.c + 1, s.k, s.cells⟩ _ rfl q)

/-! the plain way of laying, as a run of steps -/
def better (cs : List Int) (b i : Nat) : Nat := if cAt cs i < cAt cs b then i else b
def least (cs : List Int) (is : List Nat) : Nat := is.foldl (better cs) (is.headD 0)
theorem better_run (cs : List Int) : ∀ (is : List Nat) (b : Nat), is.Pairwise (· ≤ ·) → (∀ j ∈ is, b ≤ j) →
    (is.foldl (better cs) b = b ∨ is.foldl (better cs) b ∈ is) ∧ cAt cs (is.foldl (better cs) b) ≤ cAt cs b ∧ (cAt cs (is.foldl (better cs) b) = cAt cs b → is.foldl (better cs) b = b) ∧ ∀ j ∈ is, cAt cs (is.foldl (better cs) b) < cAt cs j ∨ (cAt cs (is.foldl (better cs) b) = cAt cs j ∧ is.foldl (better cs) b ≤ j)
  | [], b, _, _ => ⟨.inl rfl, Int.le_refl _, fun _ => rfl, fun j hj => by cases hj⟩
  | i :: r, b, hp, hb => by
    obtain ⟨hi, hr⟩ := List.pairwise_cons.mp hp
    have hbi : b ≤ i := hb i (by simp)
    show (r.foldl (better cs) (better cs b i) = b ∨ r.foldl (better cs) (better cs b i) ∈ i :: r) ∧ _
    by_cases hc : cAt cs i < cAt cs b
    · have e : better cs b i = i := if_pos hc
      rw [List.foldl_cons, e]
      obtain ⟨h1, h2, h3, h4⟩ := better_run cs r i hr hi
      refine ⟨.inr (by rcases h1 with h | h <;> simp [h]), by omega, fun z => by omega, fun j hj => ?_⟩
      rcases List.mem_cons.mp hj with rfl | hj
      · by_cases hq : cAt cs (r.foldl (better cs) j) = cAt cs j
        · exact .inr ⟨hq, by rw [h3 hq]; exact Nat.le_refl _⟩
        · exact .inl (by omega)
      · exact h4 j hj
    · have e : better cs b i = b := if_neg hc
      rw [List.foldl_cons, e]
      obtain ⟨h1, h2, h3, h4⟩ := better_run cs r b hr fun j hj => hb j (by simp [hj])
      refine ⟨by rcases h1 with h | h <;> simp [h], h2, h3, fun j hj => ?_⟩
      rcases List.mem_cons.mp hj with rfl | hj
      · by_cases hq : cAt cs (r.foldl (better cs) b) = cAt cs b
        · rw [h3 hq]
          by_cases hz : cAt cs b = cAt cs j
          · exact .inr ⟨hz, hbi⟩
          · exact .inl (by omega)
        · exact .inl (by omega)
      · exact h4 j hj
theorem least_is {cs : List Int} {is : List Nat} (hp : is.Pairwise (· < ·)) (hn : is ≠ []) : least cs is ∈ is ∧ ∀ j ∈ is, cAt cs (least cs is) < cAt cs j ∨ (cAt cs (least cs is) = cAt cs j ∧ least cs is ≤ j) := by
  cases is with
  | nil => exact absurd rfl hn
  | cons b r =>
    obtain ⟨h1, _, _, h4⟩ := better_run cs (b :: r) b (hp.imp Nat.le_of_lt) fun j hj => by
      rcases List.mem_cons.mp hj with rfl | hj
      · exact Nat.le_refl _
      · exact Nat.le_of_lt ((List.pairwise_cons.mp hp).1 j hj)
    exact ⟨by rcases h1 with h | h
              · show List.foldl (better cs) b (b :: r) ∈ _
                rw [h]
                simp
              · exact h, h4⟩
structure SP where
  held : List Nat
  drawn : Nat
  ents : List (Nat × Int)
  ht : List (List Nat)
  pile : Int
def fit0 (cs : List Int) (st : SP) : List Nat := match st.ents.getLast? with
  | none => st.held
  | some e => st.held.filter fun i => decide (cAt cs e.1 ≤ cAt cs i)
def fitP (cs : List Int) (st : SP) : List Nat := if fit0 cs st = [] then st.held else fit0 cs st
def pileP (cs : List Int) (st : SP) : Int := if fit0 cs st = [] then st.pile + 1 else st.pile
def ixP (cs : List Int) (st : SP) : Nat := least cs (fitP cs st)
def stepP (cs : List Int) (st : SP) : SP :=
  ⟨st.held.erase (ixP cs st) ++ (if st.drawn < cs.length then [st.drawn] else []), st.drawn + (if st.drawn < cs.length then 1 else 0), st.ents ++ [(ixP cs st, pileP cs st)], st.ht ++ [st.held], pileP cs st⟩
def st0 (cs : List Int) (m : Nat) : SP := ⟨List.range (min m cs.length), min m cs.length, [], [], 0⟩
def itP (cs : List Int) (m : Nat) : Nat → SP
  | 0 => st0 cs m
  | i + 1 => stepP cs (itP cs m i)
structure InvP (cs : List Int) (m i : Nat) (st : SP) : Prop where
  asc : st.held.Pairwise (· < ·)
  lt : ∀ j ∈ st.held, j < st.drawn
  dr : st.drawn = min (m + i) cs.length
  ln : st.held.length + i = st.drawn
  en : st.ents.length = i
  hn : st.ht.length = i
  el : ∀ e ∈ st.ents, e.1 < cs.length
theorem fit_sub {cs : List Int} {st : SP} : (fitP cs st).Sublist st.held := by
  unfold fitP
  split
  · exact List.Sublist.refl _
  · unfold fit0
    split
    · exact List.Sublist.refl _
    · exact List.filter_sublist
theorem fit_ne {cs : List Int} {st : SP} (h : st.held ≠ []) : fitP cs st ≠ [] := by
  unfold fitP
  split
  · exact h
  · assumption
theorem InvP.ix {cs : List Int} {m i : Nat} {st : SP} (v : InvP cs m i st) (h : st.held ≠ []) : ixP cs st ∈ st.held ∧ ixP cs st ∈ fitP cs st := by
  have := (least_is (cs := cs) (is := fitP cs st) (v.asc.sublist fit_sub) (fit_ne h)).1
  exact ⟨fit_sub.mem this, this⟩
theorem InvP.le {cs : List Int} {m i : Nat} {st : SP} (v : InvP cs m i st) : st.drawn ≤ cs.length := by
  rw [v.dr]
  omega
theorem InvP.ne {cs : List Int} {m i : Nat} {st : SP} (v : InvP cs m i st) (hm : 1 ≤ m) : st.held ≠ [] ↔ i < cs.length := by
  have h1 := v.dr
  have h2 := v.ln
  constructor
  · intro h
    have := List.length_pos_iff.mpr h
    omega
  · intro h z
    rw [z] at h2
    simp at h2
    omega
theorem InvP.step {cs : List Int} {m i : Nat} {st : SP} (v : InvP cs m i st) (h : st.held ≠ []) : InvP cs m (i + 1) (stepP cs st) := by
  have hx := (v.ix h).1
  have hl := List.length_erase_of_mem hx
  have hp := List.length_pos_iff.mpr h
  have h1 := v.dr
  have h2 := v.ln
  have h3 := v.le
  have sub : (st.held.erase (ixP cs st)).Sublist st.held := List.erase_sublist
  by_cases hd : st.drawn < cs.length
  · refine ⟨?_, ?_, ?_, ?_, ?_, ?_, ?_⟩ <;> unfold stepP <;> simp only [if_pos hd]
    · rw [List.pairwise_append]
      exact ⟨v.asc.sublist sub, List.pairwise_singleton _ _, fun a ha b hb => by simp at hb; rw [hb]; exact v.lt a (sub.mem ha)⟩
    · intro j hj
      rcases List.mem_append.mp hj with hj | hj
      · have := v.lt j (sub.mem hj)
        omega
      · simp at hj
        omega
    · omega
    · simp only [List.length_append, List.length_singleton]
      omega
    · simp [v.en]
    · simp [v.hn]
    · intro e he
      rcases List.mem_append.mp he with he | he
      · exact v.el e he
      · simp at he
        rw [he]
        have := v.lt _ hx
        dsimp only
        omega
  · refine ⟨?_, ?_, ?_, ?_, ?_, ?_, ?_⟩ <;> unfold stepP <;> simp only [if_neg hd, List.append_nil]
    · exact v.asc.sublist sub
    · intro j hj
      have := v.lt j (sub.mem hj)
      omega
    · omega
    · omega
    · simp [v.en]
    · simp [v.hn]
    · intro e he
      rcases List.mem_append.mp he with he | he
      · exact v.el e he
      · simp at he
        rw [he]
        have := v.lt _ hx
        dsimp only
        omega
theorem inv0 (cs : List Int) (m : Nat) : InvP cs m 0 (st0 cs m) := by
  refine ⟨List.pairwise_lt_range, fun j hj => ?_, ?_, ?_, rfl, rfl, fun e he => by cases he⟩
  · exact List.mem_range.mp hj
  · simp [st0]
  · simp [st0]
theorem itP_inv {cs : List Int} {m : Nat} (hm : 1 ≤ m) : ∀ i, i ≤ cs.length → InvP cs m i (itP cs m i)
  | 0, _ => inv0 cs m
  | i + 1, h => (itP_inv hm i (by omega)).step (((itP_inv hm i (by omega)).ne hm).mpr (by omega))
/-! the law's own way: the least key -/
def lastV (cs : List Int) (es : List (Nat × Int)) : Int := match es.getLast? with
  | none => 0
  | some e => cAt cs e.1
def flagV (cs : List Int) (es : List (Nat × Int)) (i : Nat) : Int := if decide (0 < es.length) && decide (cAt cs i < lastV cs es) then 1 else 0
theorem step_key {cs : List Int} {m i : Nat} {st : SP} (v : InvP cs m i st) (h : st.held ≠ []) :
    st.pile + flagV cs st.ents (ixP cs st) = pileP cs st ∧ ∀ y ∈ st.held, y ≠ ixP cs st → st.pile + flagV cs st.ents (ixP cs st) < st.pile + flagV cs st.ents y ∨ (st.pile + flagV cs st.ents (ixP cs st) = st.pile + flagV cs st.ents y ∧ (cAt cs (ixP cs st) < cAt cs y ∨ (cAt cs (ixP cs st) = cAt cs y ∧ ixP cs st < y))) := by
  obtain ⟨hm, hmin⟩ := least_is (cs := cs) (is := fitP cs st) (v.asc.sublist fit_sub) (fit_ne h)
  have hmin : ∀ y ∈ fitP cs st, cAt cs (ixP cs st) < cAt cs y ∨ (cAt cs (ixP cs st) = cAt cs y ∧ ixP cs st ≤ y) := hmin
  have hm : ixP cs st ∈ fitP cs st := hm
  cases e : st.ents.getLast? with
  | none =>
    have e0 : st.ents = [] := List.getLast?_eq_none_iff.mp e
    have f : fit0 cs st = st.held := by unfold fit0; rw [e]
    have fp : fitP cs st = st.held := by unfold fitP; rw [f]; split <;> rfl
    have pp : pileP cs st = st.pile := by unfold pileP; rw [f, if_neg h]
    have fl : ∀ y, flagV cs st.ents y = 0 := fun y => by unfold flagV; rw [e0]; rfl
    rw [pp, fl]
    refine ⟨by omega, fun y hy hne => .inr ⟨by rw [fl], ?_⟩⟩
    have := hmin y (by rw [fp]; exact hy)
    omega
  | some e1 =>
    have e0 : 0 < st.ents.length := by
      cases z : st.ents with
      | nil => rw [z] at e; cases e
      | cons _ _ => simp
    have f : fit0 cs st = st.held.filter fun i => decide (cAt cs e1.1 ≤ cAt cs i) := by unfold fit0; rw [e]
    have fl : ∀ y, flagV cs st.ents y = if cAt cs y < cAt cs e1.1 then 1 else 0 := fun y => by
      unfold flagV lastV
      rw [e]
      simp [e0]
    by_cases hf : fit0 cs st = []
    · have fp : fitP cs st = st.held := by unfold fitP; rw [if_pos hf]
      have pp : pileP cs st = st.pile + 1 := by unfold pileP; rw [if_pos hf]
      have al : ∀ y ∈ st.held, cAt cs y < cAt cs e1.1 := fun y hy => by
        rw [f, List.filter_eq_nil_iff] at hf
        have := hf y hy
        simp at this
        exact this
      have hx : ixP cs st ∈ st.held := by rw [← fp]; exact hm
      rw [pp, fl, if_pos (al _ hx)]
      refine ⟨rfl, fun y hy hne => .inr ⟨by rw [fl, if_pos (al y hy)], ?_⟩⟩
      have := hmin y (by rw [fp]; exact hy)
      omega
    · have fp : fitP cs st = fit0 cs st := by unfold fitP; rw [if_neg hf]
      have pp : pileP cs st = st.pile := by unfold pileP; rw [if_neg hf]
      rw [fp] at hm hmin
      have hx := hm
      rw [f, List.mem_filter] at hx
      have hx2 : cAt cs e1.1 ≤ cAt cs (ixP cs st) := by simpa using hx.2
      rw [pp, fl, if_neg (by omega)]
      refine ⟨by omega, fun y hy hne => ?_⟩
      rw [fl]
      by_cases hy2 : cAt cs y < cAt cs e1.1
      · rw [if_pos hy2]
        exact .inl (by omega)
      · rw [if_neg hy2]
        have := hmin y (by rw [f, List.mem_filter]; exact ⟨hy, by simp; omega⟩)
        exact .inr ⟨rfl, by omega⟩
def keyD (cs : List Int) (st : SP) (i : Nat) : TV.D := .tup (dI [st.pile + flagV cs st.ents i, cAt cs i, (i : Nat)])
theorem key_least {cs : List Int} {m i : Nat} {st : SP} (v : InvP cs m i st) {d : TV.D} {ds : List TV.D} (h : d :: ds = st.held.map (keyD cs st)) : minDD d ds = .tup [.int (pileP cs st), .int (cAt cs (ixP cs st)), .int (ixP cs st : Nat)] := by
  have hne : st.held ≠ [] := fun z => by rw [z] at h; cases h
  obtain ⟨h1, h2⟩ := step_key v hne
  have e : TV.D.tup [.int (pileP cs st), .int (cAt cs (ixP cs st)), .int (ixP cs st : Nat)] = keyD cs st (ixP cs st) := by
    unfold keyD
    rw [h1]
    rfl
  rw [e]
  refine minDD_is ds d ?_ (fun y hy hn => ?_) (fun y hy => ?_)
  · rw [h]
    exact List.mem_map.mpr ⟨_, (v.ix hne).1, rfl⟩
  · rw [h] at hy
    obtain ⟨j, hj, rfl⟩ := List.mem_map.mp hy
    have hji : j ≠ ixP cs st := fun z => hn (by rw [z])
    unfold keyD
    rw [lt_ints, decide_eq_true_eq]
    have := h2 j hj hji
    simp only [List.cons_lt_cons_iff]
    omega
  · rw [h] at hy
    obtain ⟨j, hj, rfl⟩ := List.mem_map.mp hy
    unfold keyD
    rw [lt_ints, decide_eq_false_iff_not]
    by_cases hji : j = ixP cs st
    · subst hji
      exact List.lt_irrefl _
    · have := h2 j hj hji
      simp only [List.cons_lt_cons_iff]
      intro z
      simp only [List.not_lt_nil] at z
      omega

def fLeast : List TV.D → (T → Prop) → Prop := fun ds Q => ∃ (cs : List Int) (is : List Nat), ds = [.lst (dI cs), .lst (dNt is)] ∧ is ≠ [] ∧ (∀ i ∈ is, i < cs.length) ∧ Q (.d (.int (least cs is : Nat)))
def fCheck : List TV.D → (T → Prop) → Prop := fun ds Q => ∃ i : Int, ds = [.int i] ∧ 1 ≤ i ∧ Q (.d .non)
theorem ok_check_hand (h : Has K mg "check_hand" s_check_hand ["hand"]) : Cal P w K mg base 1 "check_hand" ["hand"] (rdC 1 fCheck) := by
  obtain ⟨f, fd, F, g, b⟩ := h
  have nd : N_check_hand.Nodup := sc_check_hand.nd
  refine rd_ok 1 0 _ F g b sc_check_hand rfl rfl fun cdv A outer s H E hr => ⟨_, (pss_one (ps_if (pt_cmpR op_lt (pv 0) pe_int (nomark _)) (pss_one ps_never) pss_nil)), fun ds Q h hl => ?_⟩
  obtain ⟨i, rfl, h1, q⟩ := h
  walk_at "dn"
  refine sd_if (rt_test (by walk_at "rd")) (fun hb => ?_) (fun hb => ?_)
  · simp at hb
    omega
  · exact sd_next q
theorem better_mem {cs : List Int} : ∀ (is : List Nat) (b : Nat), is.foldl (better cs) b = b ∨ is.foldl (better cs) b ∈ is
  | [], b => .inl rfl
  | i :: r, b => by
    rw [List.foldl_cons]
    have h := better_mem (cs := cs) r (better cs b i)
    unfold better at h ⊢
    split at h
    · rcases h with h | h <;> simp [*]
    · rcases h with h | h <;> simp [*]
def fPurse : List TV.D → (T → Prop) → Prop := fun ds Q => ∃ ns : List Int, ds = [.scr (dI ns)] ∧ ns.length ≤ 63 ∧ Q (puT ⟨0, 0, 0, 0, ns.map fun c : Int => (c.natAbs : Int)⟩)
theorem flat_pu (s : Pu) : flatT (puT s) = true := by
  show flatDs (puD s) = true
  unfold puD
  simp [flatDs, flatD, flat_int]
theorem purse_ok (ns : List Int) : OkP ⟨0, 0, 0, 0, ns.map fun c : Int => (c.natAbs : Int)⟩ (2 ^ 40) := ⟨Int.le_refl 0, Int.le_refl 0, (by show (0 : Int) < 2 ^ 62; decide), Int.le_refl 0, (by show (0 : Int) + 2 ^ 40 ≤ 2 ^ 40; decide), fun x hx => by
  obtain ⟨c, _, rfl⟩ := List.mem_map.mp hx
  omega⟩
theorem ok_law_purse (m_abs : mg "abs" = none) (h : Has K mg "_law_purse" s_law_purse ["script"]) : Cal P w K mg base 1 "_law_purse" ["script"] (rdC 1 fPurse) := by
  obtain ⟨f, fd, F, g, b⟩ := h
  have nd : N_law_purse.Nodup := sc_law_purse.nd
  refine rd_ok 1 1 _ F g b sc_law_purse rfl rfl fun cdv A outer s H E hr => ⟨_, (pss_one (ps_ret (pe_op op_addX (pe_lst (pa_cons pe_int (pa_cons pe_int (pa_cons pe_int (pa_cons pe_int pa_nil))))) (pe_lc (own := [("cell", 1)]) (g := (gName 1)) (tt := tYes) rfl nd (kpi_list K (pv 0)) (blkOk_by (own := [("cell", 1)]) (N := N_law_purse) (sc := defScope s_law_purse) (by decide +kernel)) (fun _ _ _ _ _ => (gnm 1 nd)) (fun _ _ _ _ _ => pts_nil) (fun _ _ _ _ _ => (pe_callB call_abs (by rfl) m_abs (by decide +kernel) (pa_cons (pv 1) pa_nil))))))), fun ds Q h hl => ?_⟩
  obtain ⟨ns, rfl, hn, q⟩ := h
  walk_at "dn"
  have lns : (dI ns).length = ns.length := List.length_map _
  refine sd_ret (rd_addL (ds := [.int 0, .int 0, .int 0, .int 0]) (es := dI (ns.map fun c : Int => (c.natAbs : Int))) (Ro.frz (ro_lst' (ra_cons rd_int (ra_cons rd_int (ra_cons rd_int (ra_cons rd_int ra_nil)))) rfl rfl) rfl) (Ro.frz (Ro.is (ro_lcF (onI fun c => some (.int (c.natAbs : Int))) (wk_list (rd_var rfl) rfl) (okS1 rfl) rfl (by omega) (fun i x hx => ?_)) (congrArg T.ls (fmap_int (fun c : Int => (c.natAbs : Int)) ns))) rfl) rfl rfl (by simp; omega)) q
  obtain ⟨c, _, rfl⟩ := mem_dI hx
  refine ⟨_, gd_name (others_not rfl), rfl, rfl, rt_yes, fun y hy => ?_⟩
  cases hy
  walk_at "dn"
  exact rd_abs (rd_var rfl)
/-- a card of a kind, and the purse behind it -/
def cardB (s : Pu) (kind : Int) (most left : Int) : Int × Pu :=
  if kind = 0 then (bV s 3, bN s 3)
  else if kind = 1 then (bV s (2 * most + 1) - most, bN s (2 * most + 1))
  else if kind = 2 then (2 * left + bV s 9 - most, bN s 9)
  else if kind = 3 then ((bV s (10 ^ 6) - 5 * 10 ^ 5) * 10 ^ 24 + bV (bN s (10 ^ 6)) (10 ^ 24), bN (bN s (10 ^ 6)) (10 ^ 24))
  else (bV s 8 - left, bN s 8)
def cCardB : Con := fun ts Q => ∃ (s : Pu) (kind most left : Int), ts = [puT s, .d (.int kind), .d (.int most), .d (.int left)] ∧ 0 ≤ most ∧ most ≤ 1000 ∧ left.natAbs ≤ 1000 ∧ OkP s 2 ∧ Q (.d (.int (cardB s kind most left).1)) [puT (cardB s kind most left).2, .d (.int kind), .d (.int most), .d (.int left)]
theorem cardB_ok {s : Pu} {kind most left n : Int} (h : OkP s (n + 2)) (hm : 0 ≤ most) (hn : 0 ≤ n) : OkP (cardB s kind most left).2 n := by
  have h1 : OkP s (n + 1 + 1) := h.le (by omega)
  unfold cardB
  split
  · exact (bN_ok h1 (by decide)).le (by omega)
  · split
    · exact (bN_ok h1 (by omega)).le (by omega)
    · split
      · exact (bN_ok h1 (by decide)).le (by omega)
      · split
        · exact bN_ok (bN_ok h1 (by decide)) (by decide)
        · exact (bN_ok h1 (by decide)).le (by omega)
theorem ok_law_card (C_law_draw : Cal P w K mg base 1 "_law_draw" ["purse", "limit"] cDrawB) (h : Has K mg "_law_card" s_law_card ["purse", "kind", "most", "left"]) : Cal P w K mg base 2 "_law_card" ["purse", "kind", "most", "left"] cCardB := by
  obtain ⟨f, fd, F, g, b⟩ := h
  have nd : N_law_card.Nodup := sc_law_card.nd
  refine Cal.mk' F g b (con_ok [0] 0 F sc_law_card rfl (fun ts Q h => ?_) (fun ts Q h k t hk hn => ?_) fun cdv A outer s H E hr => ⟨_, (pss_cons (ps_if (pt_cmpR (keq K hr.units) (pv 1) pe_int (nomark _)) (pss_one (ps_ret (kcl C_law_draw hr (by omega) (by rfl) (pa_cons (pv 0) (pa_cons pe_int pa_nil))))) pss_nil)
      (pss_cons (ps_if (pt_cmpR (keq K hr.units) (pv 1) pe_int (nomark _)) (pss_one (ps_ret (pe_op op_sub (kcl C_law_draw hr (by omega) (by rfl) (pa_cons (pv 0) (pa_cons (pe_op op_addX (pe_op op_mulX pe_int (pv 2)) pe_int) pa_nil))) (pv 2)))) pss_nil)
      (pss_cons (ps_if (pt_cmpR (keq K hr.units) (pv 1) pe_int (nomark _)) (pss_one (ps_ret (pe_op op_sub (pe_op op_addX (pe_op op_mulX pe_int (pv 3)) (kcl C_law_draw hr (by omega) (by rfl) (pa_cons (pv 0) (pa_cons pe_int pa_nil)))) (pv 2)))) pss_nil)
      (pss_cons (ps_if (pt_cmpR (keq K hr.units) (pv 1) pe_int (nomark _)) (pss_one (ps_ret (pe_op op_addX (pe_op op_mulX (pe_op op_sub (kcl C_law_draw hr (by omega) (by rfl) (pa_cons (pv 0) (pa_cons (pe_op op_pow pe_int pe_int) pa_nil))) (pe_op op_mulX pe_int (pe_op op_pow pe_int pe_int))) (pe_op op_pow pe_int pe_int)) (kcl C_law_draw hr (by omega) (by rfl) (pa_cons (pv 0) (pa_cons (pe_op op_pow pe_int pe_int) pa_nil)))))) pss_nil)
      (pss_one (ps_ret (pe_op op_sub (kcl C_law_draw hr (by omega) (by rfl) (pa_cons (pv 0) (pa_cons pe_int pa_nil))) (pv 3)))))))), fun ts Q h => ?_⟩)
  · obtain ⟨s, kind, most, left, rfl, _⟩ := h
    rfl
  · obtain ⟨s, kind, most, left, rfl, _⟩ := h
    rcases k with _ | _ | _ | _ | k
    · simp at hn
    · simp at hk
      exact ⟨_, hk.symm⟩
    · simp at hk
      exact ⟨_, hk.symm⟩
    · simp at hk
      exact ⟨_, hk.symm⟩
    · simp at hk
  · obtain ⟨s, kind, most, left, rfl, m0, m1, l1, ok, q⟩ := h
    have ok1 : OkP s (1 + 1) := ok
    have fin : ∀ (δ : TV.Env) (s' : Pu) (x : T), δ[0]? = some (some (puT s')) → Q x [puT s', .d (.int kind), .d (.int most), .d (.int left)] → (∀ k : Nat, k ∈ [0] → k < [puT s, T.d (.int kind), .d (.int most), .d (.int left)].length → ∃ s, δ[k]? = some (some s)) ∧ Q x (outsOf [0] [puT s, T.d (.int kind), .d (.int most), .d (.int left)] δ) := fun δ s' x h0 hq => by
      refine ⟨fun k hk hl => by simp at hk; subst hk; exact ⟨_, h0⟩, ?_⟩
      have e : outsOf [0] [puT s, T.d (.int kind), .d (.int most), .d (.int left)] δ = [puT s', T.d (.int kind), .d (.int most), .d (.int left)] := by
        simp [outsOf, List.mapIdx_cons, h0]
      rw [e]
      exact hq
    walk_at "dn"
    refine sd_seq (sd_if (rt_test (rd_eqXI (rd_var rfl) rd_int)) (fun hb => ?_) (fun hb => sd_next ?_))
    · simp only [decide_eq_true_eq] at hb
      have e : cardB s kind most left = (bV s 3, bN s 3) := by unfold cardB; rw [if_pos hb]
      rw [e] at q
      refine' sd_retD ?hc ?hf1
      case hc => exact rd_cw 0 (ra_cons (rd_slot rfl) (ra_cons rd_int ra_nil)) rfl rfl rfl (fun Q q => ⟨s, 3, rfl, by decide, by decide, ok.le (by decide), q⟩) rfl rfl rfl (flat_pu _)
      case hf1 => exact fin _ (bN s 3) _ rfl q
    simp only [decide_eq_false_iff_not] at hb
    refine sd_seq (sd_if (rt_test (rd_eqXI (rd_var rfl) rd_int)) (fun hc => ?_) (fun hc => sd_next ?_))
    · simp only [decide_eq_true_eq] at hc
      have e : cardB s kind most left = (bV s (2 * most + 1) - most, bN s (2 * most + 1)) := by unfold cardB; rw [if_neg hb, if_pos hc]
      rw [e] at q
      refine' sd_retD (rd_subI ?hc1 ?hv1) ?hf2
      case hc1 => exact rd_cw 0 (ra_cons (rd_slot rfl) (ra_cons (rd_addI (rd_mulI rd_int (rd_var rfl) (big_mul (a := 100) (b := 100) (by decide) (by omega) (by decide) (by decide) (by decide))) rd_int) ra_nil)) rfl rfl rfl (fun Q q => ⟨s, 2 * most + 1, rfl, by omega, by omega, ok.le (by decide), q⟩) rfl rfl rfl (flat_pu _)
      case hv1 => exact rd_var rfl
      case hf2 => exact fin _ (bN s (2 * most + 1)) _ rfl q
    simp only [decide_eq_false_iff_not] at hc
    refine sd_seq (sd_if (rt_test (rd_eqXI (rd_var rfl) rd_int)) (fun hd => ?_) (fun hd => sd_next ?_))
    · simp only [decide_eq_true_eq] at hd
      have e : cardB s kind most left = (2 * left + bV s 9 - most, bN s 9) := by unfold cardB; rw [if_neg hb, if_neg hc, if_pos hd]
      rw [e] at q
      refine' sd_retD (rd_subI (rd_addI (rd_mulI rd_int (rd_var rfl) (big_mul (a := 100) (b := 100) (by decide) (by omega) (by decide) (by decide) (by decide))) ?hc2) ?hv2) ?hf3
      case hc2 => exact rd_cw 0 (ra_cons (rd_slot rfl) (ra_cons rd_int ra_nil)) rfl rfl rfl (fun Q q => ⟨s, 9, rfl, by decide, by decide, ok.le (by decide), q⟩) rfl rfl rfl (flat_pu _)
      case hv2 => exact rd_var rfl
      case hf3 => exact fin _ (bN s 9) _ rfl q
    simp only [decide_eq_false_iff_not] at hd
    refine sd_seq (sd_if (rt_test (rd_eqXI (rd_var rfl) rd_int)) (fun he => ?_) (fun he => sd_next ?_))
    · simp only [decide_eq_true_eq] at he
      have e : cardB s kind most left = ((bV s (10 ^ 6) - 5 * 10 ^ 5) * 10 ^ 24 + bV (bN s (10 ^ 6)) (10 ^ 24), bN (bN s (10 ^ 6)) (10 ^ 24)) := by unfold cardB; rw [if_neg hb, if_neg hc, if_neg hd, if_pos he]
      rw [e] at q
      have v0 := bV_nn s (m := 10 ^ 6) (by decide)
      have v1 := bV_lt s (m := 10 ^ 6) (by decide)
      refine' sd_retD (rd_addI (rd_mulI (rd_subI ?hc3 (rd_mulI rd_int (rd_powI rd_int rd_int ?s0) ?s1)) (rd_powI rd_int rd_int ?s2) ?s3) ?hc4) ?hf4
      case hc3 => exact rd_cw 0 (ra_cons (rd_slot rfl) (ra_cons (rd_powI rd_int rd_int (by walk_at "sc")) ra_nil)) rfl rfl rfl (fun Q q => ⟨s, 10 ^ 6, rfl, by decide, by decide, ok.le (by decide), q⟩) rfl rfl rfl (flat_pu _)
      case hc4 => exact rd_cw 0 (ra_cons (rd_slot rfl) (ra_cons (rd_powI rd_int rd_int (by walk_at "sc")) ra_nil)) rfl rfl rfl (fun Q q => ⟨bN s (10 ^ 6), 10 ^ 24, rfl, by decide, by decide, bN_ok ok1 (by decide), q⟩) rfl rfl rfl (flat_pu _)
      case s0 => walk_at "sc"
      case s1 => exact big_mul (a := 100) (b := 100) (by decide) (by decide) (by decide) (by decide) (by decide)
      case s2 => walk_at "sc"
      case s3 => exact big_mul (a := 100) (b := 100) (by simp only [Int.reduceToNat, Int.reducePow] at *; omega) (by decide) (by decide) (by decide) (by decide)
      case hf4 => exact fin _ (bN (bN s (10 ^ 6)) (10 ^ 24)) _ rfl q
    simp only [decide_eq_false_iff_not] at he
    have e : cardB s kind most left = (bV s 8 - left, bN s 8) := by unfold cardB; rw [if_neg hb, if_neg hc, if_neg hd, if_neg he]
    rw [e] at q
    refine' sd_retD (rd_subI ?hc5 ?hv5) ?hf5
    case hc5 => exact rd_cw 0 (ra_cons (rd_slot rfl) (ra_cons rd_int ra_nil)) rfl rfl rfl (fun Q q => ⟨s, 8, rfl, by decide, by decide, ok.le (by decide), q⟩) rfl rfl rfl (flat_pu _)
    case hv5 => exact rd_var rfl
    case hf5 => exact fin _ (bN s 8) _ rfl q
/-- the purse behind i cards -/
def rowS (kind most many : Int) : Nat → Pu → Pu
  | 0, s => s
  | i + 1, s => (cardB (rowS kind most many i s) kind most (many - i)).2
theorem rowS_ok {kind most many : Int} (hm : 0 ≤ most) : ∀ (i : Nat) {s : Pu} {n : Int}, OkP s (n + 2 * i) → 0 ≤ n → OkP (rowS kind most many i s) n
  | 0, s, n, h, _ => h.le (by omega)
  | i + 1, s, n, h, hn => cardB_ok (rowS_ok hm i (n := n + 2) (h.le (by omega)) (by omega)) hm hn
def rowB (s : Pu) (most : Int) : List Int × Pu :=
  let kind := bV s 5
  let s1 := bN s 5
  let many := bV s1 (most + 1)
  let s2 := bN s1 (most + 1)
  ((List.range many.toNat).map fun i => (cardB (rowS kind most many i s2) kind most (many - i)).1, rowS kind most many many.toNat s2)
def cRowB : Con := fun ts Q => ∃ (s : Pu) (most : Nat), ts = [puT s, .d (.int (most : Nat))] ∧ most ≤ 100 ∧ OkP s 10000 ∧ Q (.ls (dI (rowB s most).1)) [puT (rowB s most).2, .d (.int (most : Nat))]
theorem rowB_len (s : Pu) (most : Nat) : (rowB s most).1.length ≤ most := by
  unfold rowB
  simp only [List.length_map, List.length_range]
  have := bV_lt (bN s 5) (m := most + 1) (by omega)
  omega
theorem rowB_ok {s : Pu} {most : Nat} (h : OkP s 10000) (hm : most ≤ 100) : OkP (rowB s most).2 9000 := by
  unfold rowB
  dsimp only
  have k1 : OkP (bN s 5) 9999 := bN_ok h (by decide)
  have k2 : OkP (bN (bN s 5) (most + 1)) 9998 := bN_ok k1 (by omega)
  have := bV_lt (bN s 5) (m := (most : Int) + 1) (by omega)
  have := bV_nn (bN s 5) (m := (most : Int) + 1) (by omega)
  exact rowS_ok (by omega) _ (k2.le (by omega)) (by decide)
theorem ok_law_row (m_range : mg "range" = none) (C_law_draw : Cal P w K mg base 1 "_law_draw" ["purse", "limit"] cDrawB) (C_law_card : Cal P w K mg base 2 "_law_card" ["purse", "kind", "most", "left"] cCardB) (h : Has K mg "_law_row" s_law_row ["purse", "most"]) : Cal P w K mg base 3 "_law_row" ["purse", "most"] cRowB := by
  obtain ⟨f, fd, F, g, b⟩ := h
  have nd : N_law_row.Nodup := sc_law_row.nd
  refine Cal.mk' F g b (con_ok [0] 3 F sc_law_row rfl (fun ts Q h => ?_) (fun ts Q h k t hk hn => ?_) fun cdv A outer s H E hr => ⟨_, (pss_cons (qset 2 (kcl C_law_draw hr (by omega) (by rfl) (pa_cons (pv 0) (pa_cons pe_int pa_nil))) nd)
      (pss_cons (qset 3 (kcl C_law_draw hr (by omega) (by rfl) (pa_cons (pv 0) (pa_cons (pe_op op_addX (pv 1) pe_int) pa_nil))) nd)
      (pss_one (ps_ret (pe_lc (own := [("k", 4)]) (g := (gName 4)) (tt := tYes) rfl nd (pi_range1 (by rfl) m_range (pa_cons (pv 3) pa_nil)) (blkOk_by (own := [("k", 4)]) (N := N_law_row) (sc := defScope s_law_row) (by decide +kernel)) (fun _ _ _ _ _ => (gnm 4 nd)) (fun _ _ _ _ _ => pts_nil) (fun _ _ _ _ _ => (kcl C_law_card hr (by omega) (by rfl) (pa_cons (pv 0) (pa_cons (pv 2) (pa_cons (pv 1) (pa_cons (pe_op op_sub (pv 3) (pv 4)) pa_nil))))))))))), fun ts Q h => ?_⟩)
  · obtain ⟨s, most, rfl, _⟩ := h
    rfl
  · obtain ⟨s, most, rfl, _⟩ := h
    rcases k with _ | _ | k
    · simp at hn
    · simp at hk
      exact ⟨_, hk.symm⟩
    · simp at hk
  · obtain ⟨s, most, rfl, m1, ok, q⟩ := h
    unfold rowB at q
    dsimp only at q
    have k1 : OkP (bN s 5) 9999 := bN_ok ok (by decide)
    have k2 : OkP (bN (bN s 5) (most + 1)) 9998 := bN_ok k1 (by omega)
    have v0 := bV_nn (bN s 5) (m := (most : Int) + 1) (by omega)
    have v1 := bV_lt (bN s 5) (m := (most : Int) + 1) (by omega)
    walk_at "dn"
    refine sd_seq (sd_asg (rd_cw 0 (ra_cons (rd_slot rfl) (ra_cons rd_int ra_nil)) rfl rfl rfl (fun Q q => ⟨s, 5, rfl, by decide, by decide, ok.le (by decide), q⟩) rfl rfl rfl (flat_pu _)) (by decide) ?_)
    walk_at "dn"
    refine sd_seq (sd_asg (rd_cw 0 (ra_cons (rd_slot rfl) (ra_cons (rd_addI (rd_var rfl) rd_int) ra_nil)) rfl rfl rfl (fun Q q => ⟨bN s 5, (most : Int) + 1, rfl, by omega, by omega, k1.le (by decide), q⟩) rfl rfl rfl (flat_pu _)) (by decide) ?_)
    walk_at "dn"
    generalize bN (bN s 5) (most + 1) = s2 at k2 q ⊢
    generalize bV (bN s 5) (most + 1) = many at v0 v1 q ⊢
    generalize bV s 5 = kind at q ⊢
    refine sd_ret (ro_lcSI (n := many.toNat) 0 (fun i => puT (rowS kind most many i s2)) (fun i => (cardB (rowS kind most many i s2) kind most (many - i)).1) (wk_range1 (ra_cons (rd_var rfl) ra_nil) (by omega) (by omega)) rfl (rngD_len rfl) (by omega) (fun τ p hp => by simp at hp) (fun τ => rfl) (fun j x hx => ?_)) ?_
    · obtain ⟨hj, rfl⟩ := rng0_get hx
      refine ⟨_, gd_name (others_not rfl), rfl, rt_yes, ?_⟩
      walk_at "dn"
      refine' ⟨_, ?hc, ?hd⟩
      case hc => refine' rd_cw 0 (ra_cons (rd_slot rfl) (ra_cons (rd_var rfl) (ra_cons (rd_var rfl) (ra_cons (rd_subI (rd_var rfl) (rd_var rfl)) ra_nil)))) rfl rfl rfl (fun Q q => ⟨rowS kind most many j s2, kind, most, many - j, rfl, by omega, by omega, by omega, rowS_ok (by omega) j (k2.le (by omega)) (by decide), q⟩) rfl rfl rfl (flat_pu _)
      case hd => exact Less.refl
    · exact ⟨fun k hk hl => by simp at hk; subst hk; exact ⟨_, rfl⟩, q⟩
def handB (s : Pu) (many : Int) : Int × Pu :=
  if bV s 9 = 8 then (10 ^ 29 + bV (bN s 9) (9 * 10 ^ 29), bN (bN s 9) (9 * 10 ^ 29))
  else (1 + bV (bN s 9) (([3, 5, many + 2] : List Int).getD (bV s 9 % 3).toNat 0), bN (bN s 9) (([3, 5, many + 2] : List Int).getD (bV s 9 % 3).toNat 0))
def cHandB : Con := fun ts Q => ∃ (s : Pu) (many : Int), ts = [puT s, .d (.int many)] ∧ 0 ≤ many ∧ many ≤ 1000 ∧ OkP s 2 ∧ Q (.d (.int (handB s many).1)) [puT (handB s many).2, .d (.int many)]
theorem handTab {many v : Int} (h : 0 ≤ many) (h0 : 0 ≤ v) : 0 < ([3, 5, many + 2] : List Int).getD (v % 3).toNat 0 ∧ ([3, 5, many + 2] : List Int).getD (v % 3).toNat 0 ≤ many + 5 := by
  have : v % 3 = 0 ∨ v % 3 = 1 ∨ v % 3 = 2 := by omega
  rcases this with e | e | e <;> rw [e] <;> simp <;> omega
theorem handB_pos {s : Pu} {many : Int} (h : 0 ≤ many) : 1 ≤ (handB s many).1 := by
  unfold handB
  have t := handTab (v := bV s 9) h (bV_nn s (by decide))
  split
  · have := bV_nn (bN s 9) (m := 9 * 10 ^ 29) (by decide)
    dsimp only
    omega
  · have := bV_nn (bN s 9) t.1
    dsimp only
    omega
theorem handB_ok {s : Pu} {many n : Int} (h : 0 ≤ many) (ok : OkP s (n + 2)) : OkP (handB s many).2 n := by
  have t := handTab (v := bV s 9) h (bV_nn s (by decide))
  have k1 : OkP (bN s 9) (n + 1) := bN_ok (ok.le (by omega)) (by decide)
  unfold handB
  split
  · exact bN_ok k1 (by decide)
  · exact bN_ok k1 t.1
theorem ok_law_hand (C_law_draw : Cal P w K mg base 1 "_law_draw" ["purse", "limit"] cDrawB) (h : Has K mg "_law_hand" s_law_hand ["purse", "many"]) : Cal P w K mg base 2 "_law_hand" ["purse", "many"] cHandB := by
  obtain ⟨f, fd, F, g, b⟩ := h
  have nd : N_law_hand.Nodup := sc_law_hand.nd
  refine Cal.mk' F g b (con_ok [0] 1 F sc_law_hand rfl (fun ts Q h => ?_) (fun ts Q h k t hk hn => ?_) fun cdv A outer s H E hr => ⟨_, (pss_cons (qset 2 (kcl C_law_draw hr (by omega) (by rfl) (pa_cons (pv 0) (pa_cons pe_int pa_nil))) nd)
      (pss_cons (ps_if (pt_cmpR (keq K hr.units) (pv 2) pe_int (nomark _)) (pss_one (ps_ret (pe_op op_addX (pe_op op_pow pe_int pe_int) (kcl C_law_draw hr (by omega) (by rfl) (pa_cons (pv 0) (pa_cons (pe_op op_mulX pe_int (pe_op op_pow pe_int pe_int)) pa_nil)))))) pss_nil)
      (pss_one (ps_ret (pe_op op_addX pe_int (kcl C_law_draw hr (by omega) (by rfl) (pa_cons (pv 0) (pa_cons (pe_ix (kix K) (pe_lst (pa_cons pe_int (pa_cons pe_int (pa_cons (pe_op op_addX (pv 1) pe_int) pa_nil)))) (pe_op op_mod (pv 2) pe_int) (fun _ _ => rfl)) pa_nil)))))))), fun ts Q h => ?_⟩)
  · obtain ⟨s, many, rfl, _⟩ := h
    rfl
  · obtain ⟨s, many, rfl, _⟩ := h
    rcases k with _ | _ | k
    · simp at hn
    · simp at hk
      exact ⟨_, hk.symm⟩
    · simp at hk
  · obtain ⟨s, many, rfl, m0, m1, ok, q⟩ := h
    have k1 : OkP (bN s 9) 1 := bN_ok ok (by decide)
    have fin : ∀ (δ : TV.Env) (s' : Pu) (x : T), δ[0]? = some (some (puT s')) → Q x [puT s', .d (.int many)] → (∀ k : Nat, k ∈ [0] → k < [puT s, T.d (.int many)].length → ∃ s, δ[k]? = some (some s)) ∧ Q x (outsOf [0] [puT s, T.d (.int many)] δ) := fun δ s' x h0 hq => by
      refine ⟨fun k hk hl => by simp at hk; subst hk; exact ⟨_, h0⟩, ?_⟩
      have e : outsOf [0] [puT s, T.d (.int many)] δ = [puT s', T.d (.int many)] := by
        simp [outsOf, List.mapIdx_cons, h0]
      rw [e]
      exact hq
    walk_at "dn"
    refine sd_seq (sd_asg (rd_cw 0 (ra_cons (rd_slot rfl) (ra_cons rd_int ra_nil)) rfl rfl rfl (fun Q q => ⟨s, 9, rfl, by decide, by decide, ok.le (by decide), q⟩) rfl rfl rfl (flat_pu _)) (by decide) ?_)
    walk_at "dn"
    have t := handTab (v := bV s 9) m0 (bV_nn s (by decide))
    have v0 := bV_nn s (m := 9) (by decide)
    refine sd_seq (sd_if (rt_test (rd_eqXI (rd_var rfl) rd_int)) (fun hb => ?_) (fun hb => sd_next ?_))
    · simp only [decide_eq_true_eq] at hb
      have e : handB s many = (10 ^ 29 + bV (bN s 9) (9 * 10 ^ 29), bN (bN s 9) (9 * 10 ^ 29)) := by unfold handB; rw [if_pos hb]
      rw [e] at q
      refine' sd_retD (rd_addI (rd_powI rd_int rd_int ?s0) ?hc1) ?hf6
      case s0 => walk_at "sc"
      case hc1 => exact rd_cw 0 (ra_cons (rd_slot rfl) (ra_cons (rd_mulI rd_int (rd_powI rd_int rd_int (by walk_at "sc")) (big_mul (a := 100) (b := 100) (by decide) (by decide) (by decide) (by decide) (by decide))) ra_nil)) rfl rfl rfl (fun Q q => ⟨bN s 9, 9 * 10 ^ 29, rfl, by decide, by decide, k1, q⟩) rfl rfl rfl (flat_pu _)
      case hf6 => exact fin _ (bN (bN s 9) (9 * 10 ^ 29)) _ rfl q
    · simp only [decide_eq_false_iff_not] at hb
      have e : handB s many = (1 + bV (bN s 9) (([3, 5, many + 2] : List Int).getD (bV s 9 % 3).toNat 0), bN (bN s 9) (([3, 5, many + 2] : List Int).getD (bV s 9 % 3).toNat 0)) := by unfold handB; rw [if_neg hb]
      rw [e] at q
      refine' sd_retD (rd_addI rd_int ?hc2) ?hf7
      case hc2 => exact rd_cw 0 (ra_cons (rd_slot rfl) (ra_cons (rd_tab [3, 5, many + 2] (ra_cons rd_int (ra_cons rd_int (ra_cons (rd_addI (rd_var rfl) rd_int) ra_nil))) (rd_modI (rd_var rfl) rd_int (by decide)) (by omega) (by simp; omega) (by simp)) ra_nil)) rfl rfl rfl (fun Q q => ⟨bN s 9, _, rfl, t.1, by omega, k1, q⟩) rfl rfl rfl (flat_pu _)
      case hf7 => exact fin _ (bN (bN s 9) (([3, 5, many + 2] : List Int).getD (bV s 9 % 3).toNat 0)) _ rfl q

/-! family B: what is in the hand behind some entries; what is allowed -/
abbrev dW (ws : List (Int × Int)) : List TV.D := ws.map fun e => TV.D.tup (dI [e.1, e.2])
theorem flat_dW (ws : List (Int × Int)) : flatDs (dW ws) = true := by
  induction ws with
  | nil => rfl
  | cons e r ih => exact ih
theorem dW_get {ws : List (Int × Int)} {i : Nat} {x : TV.D} (h : (dW ws)[i]? = some x) : ∃ e, ws[i]? = some e ∧ x = .tup [.int e.1, .int e.2] := by
  rw [List.getElem?_map] at h
  cases e : ws[i]? with
  | none => rw [e] at h; cases h
  | some a => rw [e] at h; cases h; exact ⟨a, rfl, rfl⟩
theorem take_snoc {α : Type} {ws : List α} {i : Nat} {e : α} (h : ws[i]? = some e) : ws.take (i + 1) = ws.take i ++ [e] := by
  rw [List.take_add_one, h]
  rfl
def goneW (ws : List (Int × Int)) (x : Nat) : Bool := ws.any fun e => decide (e.1 = (x : Int))
theorem any_putW {κ : Type} [DecidableEq κ] (kvs : List (κ × TV.D)) (k q : κ) (x : TV.D) : ((putD kvs k x).any fun p => decide (p.1 = q)) = ((kvs.any fun p => decide (p.1 = q)) || decide (k = q)) := by
  unfold putD
  split
  · rename_i h
    obtain ⟨p, hp, hk⟩ := List.any_eq_true.mp h
    have hk : p.1 = k := by simpa using hk
    rw [List.any_map]
    have e : ((fun p : κ × TV.D => decide (p.1 = q)) ∘ fun kv => if kv.1 = k then (kv.1, x) else kv) = fun p => decide (p.1 = q) := by
      funext p
      show decide ((if p.1 = k then (p.1, x) else p).1 = q) = _
      split <;> rfl
    rw [e]
    by_cases hq : k = q
    · subst hq
      have : (kvs.any fun p => decide (p.1 = k)) = true := h
      rw [this]
      rfl
    · simp [hq]
  · rw [List.any_append]
    simp
def goneKW (ws : List (Int × Int)) : List (Key × TV.D) := ws.foldl (fun d e => putD d (.inl e.1) (.int e.2)) []
theorem goneKW_snoc (ws : List (Int × Int)) (e : Int × Int) : goneKW (ws ++ [e]) = putD (goneKW ws) (.inl e.1) (.int e.2) := by
  unfold goneKW
  rw [List.foldl_append]
  rfl
theorem putW_len {κ : Type} [DecidableEq κ] (kvs : List (κ × TV.D)) (k : κ) (x : TV.D) : (putD kvs k x).length ≤ kvs.length + 1 := by
  unfold putD
  split <;> simp
theorem goneKW_len : ∀ ws : List (Int × Int), (goneKW ws).length ≤ ws.length := fun ws => by
  rw [← List.reverse_reverse ws]
  generalize ws.reverse = rs
  induction rs with
  | nil => exact Nat.le_refl _
  | cons e r ih =>
    rw [List.reverse_cons, goneKW_snoc]
    have := putW_len (goneKW r.reverse) (.inl e.1) (.int e.2)
    simp at ih ⊢
    omega
theorem goneKW_any (k : Int) : ∀ ws : List (Int × Int), ((goneKW ws).any fun p => decide (p.1 = (.inl k : Key))) = ws.any fun e => decide (e.1 = k) := fun ws => by
  rw [← List.reverse_reverse ws]
  generalize ws.reverse = rs
  induction rs with
  | nil => rfl
  | cons e r ih =>
    rw [List.reverse_cons, goneKW_snoc, any_putW, List.any_append, ih]
    congr 1
    show decide ((.inl e.1 : Key) = .inl k) = (decide (e.1 = k) || false)
    rw [Bool.or_false]
    apply decide_eq_decide.mpr
    exact ⟨fun z => Sum.inl.inj z, fun z => by rw [z]⟩
def behV (n m : Nat) (ws : List (Int × Int)) : List Nat := (List.range (min n (m + ws.length))).filter fun x => !goneW ws x
theorem mem_behV {n m : Nat} {ws : List (Int × Int)} {x : Nat} : x ∈ behV n m ws ↔ x < n ∧ x < m + ws.length ∧ ∀ e ∈ ws, e.1 ≠ (x : Int) := by
  unfold behV goneW
  rw [List.mem_filter, List.mem_range]
  simp only [Bool.not_eq_true', List.any_eq_false, decide_eq_true_eq]
  constructor
  · rintro ⟨a, b⟩
    exact ⟨by omega, by omega, b⟩
  · rintro ⟨a, b, c⟩
    exact ⟨by omega, c⟩
theorem behV_len (n m : Nat) (ws : List (Int × Int)) : (behV n m ws).length ≤ n := by
  have := List.length_filter_le (fun x => !goneW ws x) (List.range (min n (m + ws.length)))
  rw [List.length_range] at this
  unfold behV
  omega
theorem beh_lc (p : Nat → Bool) : ∀ hs : List Nat, (dNt hs).filterMap (onI fun c => if p c.toNat = true then some (.int c) else none) = dNt (hs.filter p)
  | [] => rfl
  | h :: r => by
    have ih := beh_lc p r
    show List.filterMap _ (TV.D.int (h : Nat) :: dNt r) = _
    rw [List.filterMap_cons]
    have e1 : (onI fun c => if p c.toNat = true then some (TV.D.int c) else none) (TV.D.int (h : Nat)) = if p h = true then some (TV.D.int (h : Nat)) else none := rfl
    rw [e1]
    by_cases hc : p h = true
    · rw [if_pos hc]
      have : (h :: r).filter p = h :: r.filter p := by simp [hc]
      rw [this]
      show TV.D.int (h : Nat) :: List.filterMap _ (dNt r) = _
      rw [ih]
      rfl
    · rw [if_neg hc]
      have : (h :: r).filter p = r.filter p := by simp [hc]
      rw [this]
      exact ih
theorem rng_beh (k : Nat) : rngD 0 k = dNt (List.range k) := by
  show (List.range k).map _ = ((List.range k).map _).map _
  rw [List.map_map]
  exact List.map_congr_left fun i _ => by simp
def fBeh : List TV.D → (T → Prop) → Prop := fun ds Q => ∃ (cs : List Int) (hand : Int) (ws : List (Int × Int)), ds = [.lst (dI cs), .int hand, .lst (dW ws)] ∧ 0 ≤ hand ∧ cs.length ≤ 200 ∧ ws.length ≤ 200 ∧ Q (.ls (dNt (behV cs.length hand.toNat ws)))
theorem ok_hand_behind (m_range : mg "range" = none) (m_min : mg "min" = none) (m_len : mg "len" = none) (h : Has K mg "hand_behind" s_hand_behind ["row", "hand", "told"]) : Cal P w K mg base 1 "hand_behind" ["row", "hand", "told"] (rdC 3 fBeh) := by
  obtain ⟨f, fd, F, g, b⟩ := h
  have nd : N_hand_behind.Nodup := sc_hand_behind.nd
  refine rd_ok 3 4 _ F g b sc_hand_behind rfl rfl fun cdv A outer s H E hr => ⟨_, (pss_cons (qset 3 pe_dnewK nd)
      (pss_cons (ps_for PassesOwn.never rfl (kpi_list K (pv 2)) (kpg_tup K rfl (pgs_cons (gnm 4 nd) (pgs_cons (gnm 5 nd) pgs_nil))) (pss_one (kdput hr.units (pv 3) (pv 4) (pv 5) rfl)))
      (pss_cons (qset 6 (pe_callB (call_min2 rfl) (by rfl) m_min (by decide +kernel) (pa_cons (pe_callB (kclen K) (by rfl) m_len (by decide +kernel) (pa_cons (pv 0) pa_nil)) (pa_cons (pe_op op_addX (pv 1) (pe_callB (kclen K) (by rfl) m_len (by decide +kernel) (pa_cons (pv 2) pa_nil))) pa_nil))) nd)
      (pss_one (ps_ret (pe_lc (own := [("index", 4)]) (g := (gName 4))  rfl nd (pi_range1 (by rfl) m_range (pa_cons (pv 6) pa_nil)) (blkOk_by (own := [("index", 4)]) (N := N_hand_behind) (sc := defScope s_hand_behind) (by decide +kernel)) (fun _ _ _ _ _ => (gnm 4 nd)) (fun _ _ _ _ _ => (pts_one (pt_cmp (kdnotin hr.units (pv 4) (pv 3))))) (fun _ _ _ _ _ => (pv 4)))))))), fun ds Q h hl => ?_⟩
  obtain ⟨cs, hand, ws, rfl, h1, h2, h3, q⟩ := h
  walk_at "dn"
  have lcs : (dI cs).length = cs.length := List.length_map _
  have lws : (dW ws).length = ws.length := List.length_map _
  refine sd_seq (sd_asgO ro_dnewK (by decide) ?_)
  walk_at "dn"
  refine sd_seq (sd_forE (fun i => [some (.d (.lst (dI cs))), some (.d (.int hand)), some (.d (.lst (dW ws))), some (.dk (goneKW (ws.take i))), none, none, none]) (wk_list (rd_var rfl) rfl) Less.refl (fun i => okS1 rfl) (fun i x hx => ?_) ?_)
  · obtain ⟨e, he, rfl⟩ := dW_get hx
    refine ⟨_, gd_tup (gds_cons (gd_name (fun z => by simp [keepS, keepA] at z)) (gds_cons (gd_name (fun z => by simp [keepS, keepA] at z)) gds_nil)) rfl, ?_⟩
    have hi : i < ws.length := (List.getElem?_eq_some_iff.mp he).1
    have hl1 := goneKW_len (ws.take i)
    rw [List.length_take] at hl1
    show Sd K _ _ _ _
    walk_at "dn"
    refine sd_dputI (rd_var rfl) rfl (rd_var rfl) rfl (by omega) ?_
    refine less_consE rfl (less_consE rfl (less_consE rfl (less_consE ?_ (less_consN (less_consN (less_consN less_nil))))))
    rw [take_snoc he, goneKW_snoc]
  · rw [show ws.take (dW ws).length = ws by simp]
    show Sd K [] _ _ _
    walk_at "dn"
    have er : (rngD 0 (min ((dI cs).length : Int) (hand + ((dW ws).length : Nat))).toNat) = dNt (List.range (min cs.length (hand.toNat + ws.length))) := by
      rw [rng_beh]
      congr 3
      rw [lcs, lws]
      omega
    refine sd_seq (sd_asg (rd_min2 (rd_len (rd_var rfl) rfl) (rd_addI (rd_var rfl) (rd_len (rd_var rfl) rfl))) (by decide) ?_)
    walk_at "dn"
    refine sd_ret (Ro.is (ro_lcF (onI fun c => if (!goneW ws c.toNat) = true then some (.int c) else none) (wk_range1 (ra_cons (rd_var rfl) ra_nil) (by omega) (by omega)) (fun p hp => by simp at hp) rfl (by rw [er]; simp; omega) (fun j x hx => ?_)) (congrArg T.ls (by rw [er]; exact beh_lc (fun x => !goneW ws x) _))) q
    rw [er] at hx
    obtain ⟨c, _, rfl⟩ := mem_dNt hx
    refine ⟨_, gd_name (others_not rfl), rfl, rfl, ?_, fun y hy => ?_⟩
    · walk_at "dn"
      refine (rt_test (rd_dnotinI (rd_var rfl) rfl)).is ?_
      rw [goneKW_any]
      show (!goneW ws c) = (if (!goneW ws ((c : Nat) : Int).toNat) = true then some (TV.D.int (c : Nat)) else none).isSome
      by_cases hq : goneW ws c = true <;> simp [hq]
    · have hy : (if (!goneW ws ((c : Nat) : Int).toNat) = true then some (TV.D.int (c : Nat)) else none) = some y := hy
      by_cases hq : goneW ws c = true
      · simp [hq] at hy
      · simp [hq] at hy
        rw [← hy]
        exact rd_var rfl
def fitW (cs : List Int) (ws : List (Int × Int)) (i : Nat) : Bool := match ws.getLast? with
  | none => true
  | some e => decide (cAt cs e.1.toNat ≤ cAt cs i)
def fFits : List TV.D → (T → Prop) → Prop := fun ds Q => ∃ (cs : List Int) (ws : List (Int × Int)) (i : Nat), ds = [.lst (dI cs), .lst (dW ws), .int (i : Nat)] ∧ i < cs.length ∧ (∀ e, ws.getLast? = some e → 0 ≤ e.1 ∧ e.1.toNat < cs.length) ∧ Q (.d (.bl (fitW cs ws i)))
theorem last_cases {α : Type} (ws : List α) : ws = [] ∨ ∃ es e, ws = es ++ [e] := by
  rcases List.eq_nil_or_concat ws with z | ⟨es, e, z⟩
  · exact .inl z
  · exact .inr ⟨es, e, by simpa using z⟩
theorem atI_dW (es : List (Int × Int)) (e : Int × Int) : atI (dW (es ++ [e])) (-1) = some (.tup (dI [e.1, e.2])) := by
  unfold dW
  rw [List.map_append]
  exact atI_last _ _
theorem ok_fits (h : Has K mg "fits" s_fits ["row", "told", "index"]) : Cal P w K mg base 1 "fits" ["row", "told", "index"] (rdC 3 fFits) := by
  obtain ⟨f, fd, F, g, b⟩ := h
  have nd : N_fits.Nodup := sc_fits.nd
  refine rd_ok 3 0 _ F g b sc_fits rfl rfl fun cdv A outer s H E hr => ⟨_, (pss_cons (ps_if (pt_not (ktruth K (pv 1))) (pss_one (ps_ret pe_bl)) pss_nil)
      (pss_one (ps_ret (pe_cmpR op_ge (pe_ix (kix K) (pv 0) (pv 2) (fun _ _ => rfl)) (pe_ix (kix K) (pv 0) (pe_ix (kix K) (pe_ix (kix K) (pv 1) (pe_un un_neg pe_int) (fun _ _ => rfl)) pe_int (fun _ _ => rfl)) (fun _ _ => rfl)) (nomark _))))), fun ds Q h hl => ?_⟩
  obtain ⟨cs, ws, i, rfl, h1, h2, q⟩ := h
  walk_at "dn"
  rcases last_cases ws with z | ⟨es, e, z⟩
  · subst z
    refine sd_seq (sd_if (rt_notT (rt_truK (rd_var rfl) rfl)) (fun hb => sd_retD rd_bl q) (fun hb => by cases hb))
  · subst z
    obtain ⟨h3, h4⟩ := h2 e (by simp)
    have e1 : e.1 = ((e.1.toNat : Nat) : Int) := by omega
    have ef : fitW cs (es ++ [e]) i = decide (cAt cs e.1.toNat ≤ cAt cs i) := by unfold fitW; rw [List.getLast?_concat]
    rw [ef] at q
    have ht : (truA [some (.d (.lst (dI cs))), some (.d (.lst (dW (es ++ [e])))), some (.d (.int (i : Nat)))] (.d (.lst (dW (es ++ [e]))))) = some true := by
      show some (!(dW (es ++ [e])).isEmpty) = some true
      simp
    refine sd_seq (sd_if (rt_notF (rt_truK (rd_var rfl) ht)) (fun hb => by cases hb) (fun hb => sd_next ?_))
    exact sd_retD (rd_opB (rd_ixX (rd_var rfl) (rd_var rfl) rfl (atRow h1)) (rd_ixX (rd_var rfl) (rd_ixXT (rd_ixX (rd_var rfl) (rd_un rd_int) rfl (atI_dW es e)) rd_int rfl) rfl (by rw [e1]; exact atRow h4))) q

def allowW (cs : List Int) (m : Nat) (ws : List (Int × Int)) (e : Int × Int) : Bool := decide (e.1 ∈ nI (behV cs.length m ws)) && (match ws.getLast? with
  | none => decide (e.2 = 0)
  | some l => decide (e.2 = l.2 + 1) || (decide (e.2 = l.2) && fitW cs ws e.1.toNat))
theorem allow_ix {cs : List Int} {m : Nat} {ws : List (Int × Int)} {e : Int × Int} (h : e.1 ∈ nI (behV cs.length m ws)) : ∃ i : Nat, e.1 = (i : Int) ∧ i < cs.length ∧ i < m + ws.length ∧ ∀ l ∈ ws, l.1 ≠ (i : Int) := by
  obtain ⟨i, hi, he⟩ := List.mem_map.mp h
  obtain ⟨a, b, c⟩ := mem_behV.mp hi
  exact ⟨i, he.symm, a, b, c⟩
def fAllow : List TV.D → (T → Prop) → Prop := fun ds Q => ∃ (cs : List Int) (hand : Int) (ws : List (Int × Int)) (e : Int × Int), ds = [.lst (dI cs), .int hand, .lst (dW ws), .tup (dI [e.1, e.2])] ∧ 0 ≤ hand ∧ cs.length ≤ 200 ∧ ws.length ≤ 200 ∧ (∀ e, ws.getLast? = some e → 0 ≤ e.1 ∧ e.1.toNat < cs.length) ∧ Q (.d (.bl (allowW cs hand.toNat ws e)))
theorem ok_is_allowed (C_fits : Cal P w K mg base 1 "fits" ["row", "told", "index"] (rdC 3 fFits)) (C_hand_behind : Cal P w K mg base 1 "hand_behind" ["row", "hand", "told"] (rdC 3 fBeh)) (h : Has K mg "is_allowed" s_is_allowed ["row", "hand", "told", "entry"]) : Cal P w K mg base 2 "is_allowed" ["row", "hand", "told", "entry"] (rdC 4 fAllow) := by
  obtain ⟨f, fd, F, g, b⟩ := h
  have nd : N_is_allowed.Nodup := sc_is_allowed.nd
  refine rd_ok 4 3 _ F g b sc_is_allowed rfl rfl fun cdv A outer s H E hr => ⟨_, (pss_cons (ps_asg (pv 3) (kpg_tup K rfl (pgs_cons (gnm 4 nd) (pgs_cons (gnm 5 nd) pgs_nil))))
      (pss_cons (ps_if (pt_cmpR (knotIn K hr.units) (pv 4) (kcl C_hand_behind hr (by omega) (by rfl) (pa_cons (pv 0) (pa_cons (pv 1) (pa_cons (pv 2) pa_nil)))) (by rfl)) (pss_one (ps_ret pe_bl)) pss_nil)
      (pss_cons (ps_if (pt_not (ktruth K (pv 2))) (pss_one (ps_ret (pe_cmpR (keq K hr.units) (pv 5) pe_int (nomark _)))) pss_nil)
      (pss_cons (qset 6 (pe_ix (kix K) (pe_ix (kix K) (pv 2) (pe_un un_neg pe_int) (fun _ _ => rfl)) pe_int (fun _ _ => rfl)) nd)
      (pss_cons (ps_if (pt_cmpR (keq K hr.units) (pv 5) (pe_op op_addX (pv 6) pe_int) (nomark _)) (pss_one (ps_ret pe_bl)) pss_nil)
      (pss_one (ps_ret (kand K (pe_cmpR (keq K hr.units) (pv 5) (pv 6) (nomark _)) (pe_one (kcl C_fits hr (by omega) (by rfl) (pa_cons (pv 0) (pa_cons (pv 2) (pa_cons (pv 4) pa_nil))))))))))))), fun ds Q h hl => ?_⟩
  obtain ⟨cs, hand, ws, ⟨i, p⟩, rfl, h1, h2, h3, h4, q⟩ := h
  walk_at "dn"
  refine sd_seq (sd_asgG (rd_var rfl) (gd_tup (gds_cons (gd_name (by decide)) (gds_cons (gd_name (by decide)) gds_nil)) rfl) ?_)
  walk_at "dn"
  have hbeh : ∀ Q : T → Prop, Q (.ls (dNt (behV cs.length hand.toNat ws))) → fBeh [.lst (dI cs), .int hand, .lst (dW ws)] Q := fun Q q => ⟨cs, hand, ws, rfl, h1, h2, h3, q⟩
  refine sd_seq (sd_if (rt_test (rd_notinI (ns := nI (behV cs.length hand.toNat ws)) (rd_var rfl) (Ro.frz (ro_callQ (ra_cons (rd_var rfl) (ra_cons (rd_var rfl) (ra_cons (rd_var rfl) ra_nil))) rfl rfl rfl hbeh (flat_int _)) rfl) rfl)) (fun hb => ?_) (fun hb => sd_next ?_))
  · have hb : ¬ i ∈ nI (behV cs.length hand.toNat ws) := by simpa using hb
    have e : allowW cs hand.toNat ws (i, p) = false := by
      unfold allowW
      rw [decide_eq_false hb]
      rfl
    rw [e] at q
    exact sd_retD rd_bl q
  have hb : i ∈ nI (behV cs.length hand.toNat ws) := by simpa using hb
  obtain ⟨j, hj, j1, _, _⟩ := allow_ix (e := (i, p)) hb
  have hj : i = (j : Int) := hj
  have ej : i.toNat = j := by omega
  have ea : allowW cs hand.toNat ws (i, p) = (match ws.getLast? with
    | none => decide (p = 0)
    | some l => decide (p = l.2 + 1) || (decide (p = l.2) && fitW cs ws j)) := by
    unfold allowW
    rw [decide_eq_true hb, ← ej]
    rfl
  rcases last_cases ws with z | ⟨es, e, z⟩
  · subst z
    rw [ea] at q
    exact sd_seq (sd_if (rt_notT (rt_truK (rd_var rfl) rfl)) (fun hb => sd_retD (rd_eqXI (rd_var rfl) rd_int) q) (fun hb => by cases hb))
  · subst z
    rw [ea, List.getLast?_concat] at q
    have q : Q (.d (.bl (decide (p = e.2 + 1) || (decide (p = e.2) && fitW cs (es ++ [e]) j)))) := q
    have ht : (truA [some (.d (.lst (dI cs))), some (.d (.int hand)), some (.d (.lst (dW (es ++ [e])))), some (.d (.tup [.int i, .int p])), some (.d (.int i)), some (.d (.int p)), none] (.d (.lst (dW (es ++ [e]))))) = some true := by
      show some (!(dW (es ++ [e])).isEmpty) = some true
      simp
    refine sd_seq (sd_if (rt_notF (rt_truK (rd_var rfl) ht)) (fun hb => by cases hb) (fun hb => sd_next ?_))
    refine sd_seq (sd_asg (rd_ixXT (rd_ixX (rd_var rfl) (rd_un rd_int) rfl (atI_dW es e)) rd_int rfl) (by decide) ?_)
    walk_at "dn"
    refine sd_seq (sd_if (rt_test (rd_eqXI (rd_var rfl) (rd_addI (rd_var rfl) rd_int))) (fun hc => ?_) (fun hc => sd_next ?_))
    · rw [hc] at q
      exact sd_retD rd_bl q
    · have hfit : ∀ Q : T → Prop, Q (.d (.bl (fitW cs (es ++ [e]) j))) → fFits [.lst (dI cs), .lst (dW (es ++ [e])), .int i] Q := fun Q q => ⟨cs, es ++ [e], j, by rw [hj], j1, h4, q⟩
      rw [hc, Bool.false_or] at q
      exact sd_retD (rd_andTB (rd_eqXI (rd_var rfl) (rd_var rfl)) (fun _ => rd_callQ (ra_cons (rd_var rfl) (ra_cons (rd_var rfl) (ra_cons (rd_var rfl) ra_nil))) rfl rfl rfl hfit rfl) (by split <;> rfl)) q
def faultN (cs : List Int) (m : Nat) (ws : List (Int × Int)) : Option Nat := (List.range ws.length).find? fun k => !allowW cs m (ws.take k) (ws.getD k (0, 0))
def faultD (cs : List Int) (m : Nat) (ws : List (Int × Int)) : TV.D := match faultN cs m ws with
  | some k => .int (k : Nat)
  | none => if ws.length < cs.length then .int (ws.length : Nat) else .non
theorem take_last {α : Type} {ws : List α} {i : Nat} {e : α} (h : (ws.take i).getLast? = some e) (hi : i ≤ ws.length) : ∃ k, k + 1 = i ∧ ws[k]? = some e := by
  cases i with
  | zero => simp at h
  | succ k =>
    refine ⟨k, rfl, ?_⟩
    rw [take_snoc (List.getElem?_eq_getElem (show k < ws.length by omega)), List.getLast?_concat] at h
    rw [← h]
    exact List.getElem?_eq_getElem _
/-- the entries so far are allowed -/
def OkW (cs : List Int) (m : Nat) (ws : List (Int × Int)) (i : Nat) : Prop := ∀ j, j < i → allowW cs m (ws.take j) (ws.getD j (0, 0)) = true
theorem OkW.ix {cs : List Int} {m : Nat} {ws : List (Int × Int)} {i : Nat} (h : OkW cs m ws i) {k : Nat} {e : Int × Int} (hk : k < i) (he : ws[k]? = some e) : ∃ x : Nat, e.1 = (x : Int) ∧ x < cs.length ∧ x < m + k ∧ ∀ l ∈ ws.take k, l.1 ≠ (x : Int) := by
  have a := h k hk
  have : ws.getD k (0, 0) = e := by rw [List.getD_eq_getElem?_getD, he]; rfl
  rw [this] at a
  unfold allowW at a
  rw [Bool.and_eq_true, decide_eq_true_eq] at a
  obtain ⟨x, h1, h2, h3, h4⟩ := allow_ix a.1
  have := List.length_take_le k ws
  exact ⟨x, h1, h2, by omega, h4⟩
theorem OkW.last {cs : List Int} {m : Nat} {ws : List (Int × Int)} {i : Nat} (h : OkW cs m ws i) (hi : i ≤ ws.length) (e : Int × Int) (he : (ws.take i).getLast? = some e) : 0 ≤ e.1 ∧ e.1.toNat < cs.length := by
  obtain ⟨k, hk, e1⟩ := take_last he hi
  obtain ⟨x, hx, h1, _⟩ := h.ix (k := k) (by omega) e1
  omega
def fFault : List TV.D → (T → Prop) → Prop := fun ds Q => ∃ (cs : List Int) (hand : Int) (ws : List (Int × Int)), ds = [.lst (dI cs), .int hand, .lst (dW ws)] ∧ 1 ≤ hand ∧ cs.length ≤ 200 ∧ ws.length ≤ 200 ∧ Q (.d (faultD cs hand.toNat ws))
theorem enumW_get {ws : List (Int × Int)} {i : Nat} {x : TV.D} (h : (enumD (dW ws))[i]? = some x) : ∃ e, ws[i]? = some e ∧ x = .tup [.int (i : Nat), .tup [.int e.1, .int e.2]] := by
  unfold enumD at h
  rw [List.getElem?_map, List.getElem?_zipIdx, List.getElem?_map] at h
  cases e : ws[i]? with
  | none => rw [e] at h; cases h
  | some d =>
    rw [e] at h
    simp at h
    exact ⟨d, rfl, h.symm⟩
theorem ok_first_fault (m_enumerate : mg "enumerate" = none) (m_len : mg "len" = none) (C_check_hand : Cal P w K mg base 1 "check_hand" ["hand"] (rdC 1 fCheck)) (C_is_allowed : Cal P w K mg base 2 "is_allowed" ["row", "hand", "told", "entry"] (rdC 4 fAllow)) (h : Has K mg "first_fault" s_first_fault ["row", "hand", "told"]) : Cal P w K mg base 3 "first_fault" ["row", "hand", "told"] (rdC 3 fFault) ∧ CalK P w K mg base 3 "first_fault" ["row", "hand", "told"] ["told", "hand", "row"] (gK 3 [2, 1, 0]) (rdC 3 fFault) := by
  obtain ⟨f, fd, F, g, b⟩ := h
  have nd : N_first_fault.Nodup := sc_first_fault.nd
  suffices hF : FnOk P w K mg base CX0 3 f fd ["row", "hand", "told"] (spOf K (rdC 3 fFault)) from ⟨Cal.mk' F g b hF, CalK.mk' F g hF (kb_of F (by decide) fun _ _ _ _ _ _ ws hl => match ws, hl with | [_, _, _], _ => rfl)⟩
  refine rd_okF 3 2 _ F sc_first_fault rfl rfl fun cdv A outer s H E hr => ⟨_, (pss_cons (ps_expr (kcl C_check_hand hr (by omega) (by rfl) (pa_cons (pv 1) pa_nil)))
      (pss_cons (ps_for PassesOwn.never rfl (kpi_enum K (by rfl) m_enumerate (pa_cons (pv 2) pa_nil)) (kpg_tup K rfl (pgs_cons (gnm 3 nd) (pgs_cons (gnm 4 nd) pgs_nil))) (pss_one (ps_if (pt_not (ktruth K (kcl C_is_allowed hr (by omega) (by rfl) (pa_cons (pv 0) (pa_cons (pv 1) (pa_cons (pe_slice (ksl K) (pv 2) po_none (po_some (pv 3))) (pa_cons (pv 4) pa_nil))))))) (pss_one (ps_ret (pv 3))) pss_nil)))
      (pss_cons (ps_if (pt_cmpR op_lt (pe_callB (kclen K) (by rfl) m_len (by decide +kernel) (pa_cons (pv 2) pa_nil)) (pe_callB (kclen K) (by rfl) m_len (by decide +kernel) (pa_cons (pv 0) pa_nil)) (nomark _)) (pss_one (ps_ret (pe_callB (kclen K) (by rfl) m_len (by decide +kernel) (pa_cons (pv 2) pa_nil)))) pss_nil)
      (pss_one (ps_ret pe_non))))), fun ds Q h hl => ?_⟩
  obtain ⟨cs, hand, ws, rfl, h1, h2, h3, q⟩ := h
  walk_at "dn"
  have lcs : (dI cs).length = cs.length := List.length_map _
  have lws : (dW ws).length = ws.length := List.length_map _
  refine sd_seq (sd_drop (rd_callR (ra_cons (rd_var rfl) ra_nil) rfl fun Q q => ⟨hand, rfl, h1, q⟩) ?_)
  refine sd_seq (sd_for (wk_enum (ra_cons (rd_var rfl) ra_nil) rfl) (fun i δ => OkW cs hand.toNat ws i ∧ ∃ y3 y4, δ = [some (.d (.lst (dI cs))), some (.d (.int hand)), some (.d (.lst (dW ws))), y3, y4]) ⟨fun j hj => absurd hj (Nat.not_lt_zero j), none, none, rfl⟩ (fun i δ p => ?_) (fun i x δ hx p => ?_) (fun δ p => ?_))
  · obtain ⟨_, y3, y4, rfl⟩ := p
    exact okS1 rfl
  · obtain ⟨ok, y3, y4, rfl⟩ := p
    obtain ⟨e, he, rfl⟩ := enumW_get hx
    have hi : i < ws.length := (List.getElem?_eq_some_iff.mp he).1
    have lt : (ws.take i).length = i := by rw [List.length_take]; omega
    have eg : ws.getD i (0, 0) = e := by rw [List.getD_eq_getElem?_getD, he]; rfl
    refine ⟨_, gd_tup (gds_cons (gd_name (fun z => by simp [keepS, keepA] at z)) (gds_cons (gd_name (fun z => by simp [keepS, keepA] at z)) gds_nil)) rfl, ?_⟩
    walk_at "dn"
    have hal : ∀ Q : T → Prop, Q (.d (.bl (allowW cs hand.toNat (ws.take i) e))) → fAllow [.lst (dI cs), .int hand, .lst ((dW ws).take ((i : Nat) : Int).toNat), .tup [.int e.1, .int e.2]] Q := fun Q q => ⟨cs, hand, ws.take i, e, by
      show [TV.D.lst (dI cs), .int hand, .lst ((ws.map _).take i), .tup [.int e.1, .int e.2]] = [TV.D.lst (dI cs), .int hand, .lst ((ws.take i).map _), .tup [.int e.1, .int e.2]]
      rw [List.map_take], by omega, h2, by omega, ok.last (by omega), q⟩
    refine' sd_if (rt_not (rt_truK (b := allowW cs hand.toNat (ws.take i) e) ?hc ?ht)) (fun hb => ?_) (fun hb => sd_next ?_)
    case hc => exact rd_callQ (ra_cons (rd_var rfl) (ra_cons (rd_var rfl) (ra_cons (Ro.frz (ro_takeX (rd_var rfl) (rn_some (rd_var rfl)) rfl (Int.natCast_nonneg _)) rfl) (ra_cons (rd_var rfl) ra_nil)))) rfl rfl rfl hal rfl
    case ht => rfl
    · have hb : allowW cs hand.toNat (ws.take i) e = false := by simpa using hb
      have ef : faultN cs hand.toNat ws = some i := find_at (fun j hj => by rw [ok j hj]; rfl) (by rw [eg, hb]; rfl) hi
      have ed : faultD cs hand.toNat ws = .int (i : Nat) := by unfold faultD; rw [ef]
      rw [ed] at q
      exact sd_retD (rd_var rfl) q
    · have hb : allowW cs hand.toNat (ws.take i) e = true := by simpa using hb
      exact ⟨_, Less.refl, fun j hj => by
        rcases Nat.lt_or_ge j i with z | z
        · exact ok j z
        · have : j = i := by omega
          subst this
          rw [eg]
          exact hb, _, _, rfl⟩
  · obtain ⟨ok, y3, y4, rfl⟩ := p
    have el : (enumD (dW ws)).length = ws.length := by unfold enumD; simp
    rw [el] at ok
    have ef : faultN cs hand.toNat ws = none := find_no (fun j hj => by rw [ok j hj]; rfl)
    have ed : faultD cs hand.toNat ws = if ws.length < cs.length then .int (ws.length : Nat) else .non := by unfold faultD; rw [ef]
    rw [ed] at q
    refine sd_seq (sd_if (rt_test (rd_opB (rd_len (rd_var rfl) rfl) (rd_len (rd_var rfl) rfl))) (fun hb => ?_) (fun hb => sd_next ?_))
    · rw [lcs, lws] at hb
      have hb : ws.length < cs.length := by have := of_decide_eq_true hb; omega
      rw [if_pos hb] at q
      exact sd_retD ((rd_len (rd_var rfl) rfl).is (by rw [lws])) q
    · rw [lcs, lws] at hb
      have hb : ¬ ws.length < cs.length := by have := of_decide_eq_false hb; omega
      rw [if_neg hb] at q
      exact sd_retD rd_non q

def heldW (n m : Nat) (ws : List (Int × Int)) : Nat → List Nat
  | 0 => List.range (min n m)
  | k + 1 => (heldW n m ws k).erase (ws.getD k (0, 0)).1.toNat ++ (if m + k < n then [m + k] else [])
theorem heldW_len (n m : Nat) (ws : List (Int × Int)) : ∀ k, (heldW n m ws k).length ≤ n + k
  | 0 => by
    show (List.range (min n m)).length ≤ _
    rw [List.length_range]
    omega
  | k + 1 => by
    have ih := heldW_len n m ws k
    unfold heldW
    rw [List.length_append]
    have h1 := List.length_erase_le (a := (ws.getD k (0, 0)).1.toNat) (l := heldW n m ws k)
    split <;> simp only [List.length_cons, List.length_nil] <;> omega
theorem heldW_inv {cs : List Int} {m : Nat} {ws : List (Int × Int)} : ∀ i, i ≤ ws.length → OkW cs m ws i → (heldW cs.length m ws i).Nodup ∧ ∀ x, x ∈ heldW cs.length m ws i ↔ x ∈ behV cs.length m (ws.take i)
  | 0, _, _ => ⟨List.nodup_range, fun x => by
    rw [mem_behV]
    show x ∈ List.range _ ↔ _
    rw [List.mem_range]
    simp
    omega⟩
  | i + 1, hi, ok => by
    have ok' : OkW cs m ws i := fun j hj => ok j (by omega)
    obtain ⟨nd, mm⟩ := heldW_inv (cs := cs) (m := m) (ws := ws) i (by omega) ok'
    have he : ws[i]? = some ws[i] := List.getElem?_eq_getElem (by omega)
    obtain ⟨y, hy, y1, y2, y3⟩ := ok.ix (k := i) (by omega) he
    have ey : (ws.getD i (0, 0)).1.toNat = y := by
      rw [List.getD_eq_getElem?_getD, he]
      show (ws[i]).1.toNat = y
      omega
    have lt : (ws.take i).length = i := by rw [List.length_take]; omega
    have lt1 : (ws.take (i + 1)).length = i + 1 := by rw [List.length_take]; omega
    have lo : ∀ x ∈ heldW cs.length m ws i, x < m + i := fun x hx => by
      have := (mem_behV.mp ((mm x).mp hx)).2.1
      rw [lt] at this
      exact this
    unfold heldW
    rw [ey]
    refine ⟨?_, fun x => ?_⟩
    · rw [List.nodup_append]
      refine ⟨nd.sublist (List.erase_sublist), by split <;> simp, fun a ha b hb => ?_⟩
      have := lo a (List.mem_of_mem_erase ha)
      split at hb
      · simp at hb
        omega
      · cases hb
    · rw [List.mem_append, nd.mem_erase_iff, mm, mem_behV, mem_behV, lt, lt1, take_snoc he]
      have hx : x ∈ (if m + i < cs.length then [m + i] else []) ↔ m + i < cs.length ∧ x = m + i := by split <;> simp [*]
      rw [hx]
      constructor
      · rintro (⟨a, b, c, d⟩ | ⟨a, rfl⟩)
        · refine ⟨b, by omega, fun e he => ?_⟩
          rcases List.mem_append.mp he with z | z
          · exact d e z
          · simp at z
            subst z
            omega
        · refine ⟨a, by omega, fun e he => ?_⟩
          rcases List.mem_append.mp he with z | z
          · obtain ⟨k, hk, ek⟩ := List.mem_iff_getElem.mp z
            rw [List.getElem_take] at ek
            have hk2 : k < i := by omega
            obtain ⟨v, h1, _, h3, _⟩ := ok'.ix (k := k) hk2 (e := e) (by rw [← ek]; exact List.getElem?_eq_getElem _)
            omega
          · simp at z
            subst z
            omega
      · rintro ⟨a, b, c⟩
        by_cases hm : x = m + i
        · exact .inr ⟨by omega, hm⟩
        · refine .inl ⟨fun z => ?_, a, by omega, fun e he => c e (List.mem_append_left _ he)⟩
          subst z
          exact c ws[i] (List.mem_append_right _ (List.mem_singleton.mpr rfl)) (by omega)
theorem nIW_at {hs : List Nat} {x : Nat} (h : x ∈ hs) : (nI hs)[hs.idxOf x]? = some (x : Int) ∧ (∀ m : Nat, m < hs.idxOf x → (nI hs)[m]? ≠ some (x : Int)) ∧ (nI hs).eraseIdx (hs.idxOf x) = nI (hs.erase x) := by
  refine ⟨?_, fun m hm => ?_, ?_⟩
  · rw [List.getElem?_map, List.getElem?_eq_getElem (List.idxOf_lt_length_iff.mpr h), List.getElem_idxOf]
    rfl
  · rw [List.getElem?_map]
    intro z
    have hl := List.idxOf_lt_length_iff.mpr h
    rw [List.getElem?_eq_getElem (by omega)] at z
    have z2 : hs[m]'(by omega) = x := by
      have : ((hs[m]'(by omega) : Nat) : Int) = (x : Int) := Option.some.inj z
      exact Int.ofNat.inj this
    have := List.not_of_lt_findIdx (p := (· == x)) (xs := hs) hm
    simp [z2] at this
  · rw [List.erase_eq_eraseIdx_of_idxOf (i := hs.idxOf x) rfl]
    generalize hs.idxOf x = j
    clear h
    induction hs generalizing j with
    | nil => rfl
    | cons a r ih =>
      cases j with
      | zero => rfl
      | succ j =>
        show (a : Int) :: (nI r).eraseIdx j = (a : Int) :: nI (r.eraseIdx j)
        rw [ih]
theorem allow_first {cs : List Int} {m : Nat} {e : Int × Int} (h : e.1 ∈ nI (behV cs.length m [])) : allowW cs m [] e = decide (e.2 = 0) := by
  unfold allowW
  rw [decide_eq_true h]
  rfl
theorem allow_next {cs : List Int} {m : Nat} {ws : List (Int × Int)} {e l : Int × Int} (h : e.1 ∈ nI (behV cs.length m ws)) (hl : ws.getLast? = some l) : allowW cs m ws e = (decide (e.2 = l.2 + 1) || (decide (e.2 = l.2) && decide (cAt cs l.1.toNat ≤ cAt cs e.1.toNat))) := by
  unfold allowW fitW
  rw [decide_eq_true h, hl]
  rfl
theorem allow_out {cs : List Int} {m : Nat} {ws : List (Int × Int)} {e : Int × Int} (h : ¬ e.1 ∈ nI (behV cs.length m ws)) : allowW cs m ws e = false := by
  unfold allowW
  rw [decide_eq_false h]
  rfl
theorem ok_law_fault (m_len : mg "len" = none) (m_range : mg "range" = none) (m_list : mg "list" = none) (m_min : mg "min" = none) (h : Has K mg "_law_fault" s_law_fault ["row0", "hand0", "told0"]) : Cal P w K mg base 1 "_law_fault" ["row0", "hand0", "told0"] (rdC 3 fFault) := by
  obtain ⟨f, fd, F, g, b⟩ := h
  have nd : N_law_fault.Nodup := sc_law_fault.nd
  refine rd_ok 3 4 _ F g b sc_law_fault rfl rfl fun cdv A outer s H E hr => ⟨_, (pss_cons (qset 3 (pe_listRg rfl (by rfl) m_list (prg_1 (by rfl) m_range (pe_callB (call_min2 rfl) (by rfl) m_min (by decide +kernel) (pa_cons (pe_callB (kclen K) (by rfl) m_len (by decide +kernel) (pa_cons (pv 0) pa_nil)) (pa_cons (pv 1) pa_nil))))) nd)
      (pss_cons (ps_for PassesOwn.never rfl (pi_range1 (by rfl) m_range (pa_cons (pe_callB (kclen K) (by rfl) m_len (by decide +kernel) (pa_cons (pv 2) pa_nil)) pa_nil)) (gnm 4 nd) (pss_cons (ps_asg (pe_ix (kix K) (pv 2) (pv 4) (fun _ _ => rfl)) (kpg_tup K rfl (pgs_cons (gnm 5 nd) (pgs_cons (gnm 6 nd) pgs_nil))))
      (pss_cons (ps_if (pt_cmpR (knotIn K hr.units) (pv 5) (pv 3) (by rfl)) (pss_one (ps_ret (pv 4))) pss_nil)
      (pss_cons (ps_if (PW.pt (pw_and (pt_cmpR (keq K hr.units) (pv 4) pe_int (nomark _)) (pw_and1 (pt_cmpR (kne K hr.units) (pv 6) pe_int (nomark _))))) (pss_one (ps_ret (pv 4))) pss_nil)
      (pss_cons (ps_if (PW.pt (pw_and (pt_cmpR op_gt (pv 4) pe_int (nomark _)) (pw_and1 (pt_cmpR (kne K hr.units) (pv 6) (pe_op op_addX (pe_ix (kix K) (pe_ix (kix K) (pv 2) (pe_op op_sub (pv 4) pe_int) (fun _ _ => rfl)) pe_int (fun _ _ => rfl)) pe_int) (nomark _))))) (pss_one (ps_if (PW.pt (pw_or (pt_cmpR (kne K hr.units) (pv 6) (pe_ix (kix K) (pe_ix (kix K) (pv 2) (pe_op op_sub (pv 4) pe_int) (fun _ _ => rfl)) pe_int (fun _ _ => rfl)) (nomark _)) (pw_or1 (pt_cmpR op_lt (pe_ix (kix K) (pv 0) (pv 5) (fun _ _ => rfl)) (pe_ix (kix K) (pv 0) (pe_ix (kix K) (pe_ix (kix K) (pv 2) (pe_op op_sub (pv 4) pe_int) (fun _ _ => rfl)) pe_int (fun _ _ => rfl)) (fun _ _ => rfl)) (nomark _))))) (pss_one (ps_ret (pv 4))) pss_nil)) pss_nil)
      (pss_cons (ps_expr (kbm K PySem.F.plainAttrs_list PySem.F.slot_list_remove PySem.F.type_list_remove mt_remove (pv 3) (pa_cons (pv 5) pa_nil)))
      (pss_one (ps_if (pt_cmpR op_lt (pe_op op_addX (pv 1) (pv 4)) (pe_callB (kclen K) (by rfl) m_len (by decide +kernel) (pa_cons (pv 0) pa_nil)) (nomark _)) (pss_one (ps_expr (kbm K PySem.F.plainAttrs_list PySem.F.slot_list_append PySem.F.type_list_append mt_append (pv 3) (pa_cons (pe_op op_addX (pv 1) (pv 4)) pa_nil)))) pss_nil))))))))
      (pss_cons (ps_if (pt_cmpR op_lt (pe_callB (kclen K) (by rfl) m_len (by decide +kernel) (pa_cons (pv 2) pa_nil)) (pe_callB (kclen K) (by rfl) m_len (by decide +kernel) (pa_cons (pv 0) pa_nil)) (nomark _)) (pss_one (ps_ret (pe_callB (kclen K) (by rfl) m_len (by decide +kernel) (pa_cons (pv 2) pa_nil)))) pss_nil)
      (pss_one (ps_ret pe_non))))), fun ds Q h hl => ?_⟩
  obtain ⟨cs, hand, ws, rfl, h1, h2, h3, q⟩ := h
  walk_at "dn"
  generalize hm : hand.toNat = m at q
  have hm1 : 1 ≤ m := by omega
  have lcs : (dI cs).length = cs.length := List.length_map _
  have lws : (dW ws).length = ws.length := List.length_map _
  refine sd_seq (sd_asgO (ro_listRg1 (rd_min2 (rd_len (rd_var rfl) rfl) (rd_var rfl)) (by omega) (by omega)) (by decide) ?_)
  have e0 : (min ((dI cs).length : Int) hand).toNat = min cs.length m := by rw [lcs]; omega
  rw [e0, rng_beh]
  walk_at "dn"
  refine sd_seq (sd_for (wk_range1 (ra_cons (rd_len (rd_var rfl) rfl) ra_nil) (by omega) (by omega)) (fun i δ => OkW cs m ws i ∧ i ≤ ws.length ∧ ∃ y4 y5 y6, δ = [some (.d (.lst (dI cs))), some (.d (.int hand)), some (.d (.lst (dW ws))), some (.ls (dNt (heldW cs.length m ws i))), y4, y5, y6]) ⟨fun j hj => absurd hj (Nat.not_lt_zero j), Nat.zero_le _, none, none, none, rfl⟩ (fun i δ p => fun p hp => by simp at hp) (fun i x δ hx p => ?_) (fun δ p => ?_))
  · obtain ⟨ok, _, y4, y5, y6, rfl⟩ := p
    obtain ⟨hi, rfl⟩ := rng0_get hx
    have hi : i < ws.length := by omega
    have ev : hand + (i : Int) = ((m + i : Nat) : Int) := by omega
    obtain ⟨⟨xi, p⟩, he⟩ : ∃ e, ws[i]? = some e := ⟨_, List.getElem?_eq_getElem hi⟩
    have lt : (ws.take i).length = i := by rw [List.length_take]; omega
    have eg : ws.getD i (0, 0) = (xi, p) := by rw [List.getD_eq_getElem?_getD, he]; rfl
    have inv := heldW_inv i (by omega) ok
    have hl1 := heldW_len cs.length m ws i
    have hget : atI (dW ws) ((i : Nat) : Int) = some (.tup [.int xi, .int p]) := atI_nat (by rw [List.getElem?_map, he]; rfl)
    have nx : heldW cs.length m ws (i + 1) = (heldW cs.length m ws i).erase xi.toNat ++ (if m + i < cs.length then [m + i] else []) := by
      show _ ++ _ = _
      rw [eg]
    generalize heldW cs.length m ws i = hs at inv hl1 nx ⊢
    have bad : allowW cs m (ws.take i) (xi, p) = false → Q (.d (.int (i : Nat))) := fun hb => by
      have ef : faultN cs m ws = some i := find_at (fun j hj => by rw [ok j hj]; rfl) (by rw [eg, hb]; rfl) hi
      have ed : faultD cs m ws = .int (i : Nat) := by unfold faultD; rw [ef]
      rw [ed] at q
      exact q
    have hmem : ∀ x : Int, x ∈ nI hs ↔ x ∈ nI (behV cs.length m (ws.take i)) := fun x => by
      constructor
      · intro h
        obtain ⟨y, hy, rfl⟩ := List.mem_map.mp h
        exact List.mem_map.mpr ⟨y, (inv.2 y).mp hy, rfl⟩
      · intro h
        obtain ⟨y, hy, rfl⟩ := List.mem_map.mp h
        exact List.mem_map.mpr ⟨y, (inv.2 y).mpr hy, rfl⟩
    refine ⟨_, gd_name (fun z => by simp [keepS, keepA] at z), ?_⟩
    show Sd K [] _ _ _
    walk_at "dn"
    refine sd_seq (sd_asgG (rd_ixX (rd_var rfl) (rd_var rfl) rfl hget) (gd_tup (gds_cons (gd_name (by decide)) (gds_cons (gd_name (by decide)) gds_nil)) rfl) ?_)
    walk_at "dn"
    refine sd_seq (sd_if (rt_test (rd_notinI (ns := nI hs) (rd_var rfl) (rd_slot rfl) rfl)) (fun hb => ?_) (fun hb => sd_next ?_))
    · have hb : ¬ xi ∈ nI hs := by simpa using hb
      exact sd_retD (rd_var rfl) (bad (allow_out (e := (xi, p)) fun z => hb ((hmem _).mpr z)))
    have hb : xi ∈ nI hs := by simpa using hb
    have hb2 : xi ∈ nI (behV cs.length m (ws.take i)) := (hmem _).mp hb
    obtain ⟨j, hj, j1, j2, _⟩ := allow_ix (e := (xi, p)) hb2
    have hj : xi = (j : Int) := hj
    have hjs : j ∈ hs := by
      obtain ⟨y, hy, ey⟩ := List.mem_map.mp hb
      have : y = j := by omega
      exact this ▸ hy
    refine sd_seq (sd_if (rt_and (a := decide ((i : Int) = 0)) (b := !decide (p = 0)) (rt_test (rd_eqXI (rd_var rfl) rd_int)) (fun _ => rt_test (rd_neXI (rd_var rfl) rd_int))) (fun hc => ?_) (fun hc => sd_next ?_))
    · have i0 : i = 0 := by
        have : (i : Int) = 0 := by simp at hc; omega
        omega
      have p0 : ¬ p = 0 := by simp at hc; exact hc.2
      subst i0
      exact sd_retD (rd_var rfl) (bad (by
        rw [List.take_zero] at hb2 ⊢
        rw [allow_first (e := (xi, p)) hb2]
        exact decide_eq_false p0))
    have hc : i = 0 → p = 0 := fun z => by
      subst z
      simpa using hc
    have lastE : 0 < i → ∃ l : Int × Int, atI (dW ws) ((i : Int) - 1) = some (.tup [.int l.1, .int l.2]) ∧ (ws.take i).getLast? = some l ∧ 0 ≤ l.1 ∧ l.1.toNat < cs.length ∧ allowW cs m (ws.take i) (xi, p) = (decide (p = l.2 + 1) || (decide (p = l.2) && decide (cAt cs l.1.toNat ≤ cAt cs j))) := fun hi0 => by
      obtain ⟨k, rfl⟩ : ∃ k, i = k + 1 := ⟨i - 1, by omega⟩
      have hk : ws[k]? = some ws[k] := List.getElem?_eq_getElem (by omega)
      have hl : (ws.take (k + 1)).getLast? = some ws[k] := by rw [take_snoc hk, List.getLast?_concat]
      have := ok.last (by omega) _ hl
      refine ⟨ws[k], ?_, hl, this.1, this.2, ?_⟩
      · rw [show (((k + 1 : Nat) : Int) - 1) = (k : Int) by omega]
        exact atI_nat (by rw [List.getElem?_map, hk]; rfl)
      · rw [allow_next (e := (xi, p)) hb2 hl, hj]
        rfl
    have tail : allowW cs m (ws.take i) (xi, p) = true → OkW cs m ws (i + 1) := fun ha k hk => by
      rcases Nat.lt_or_ge k i with z | z
      · exact ok k z
      · have : k = i := by omega
        subst this
        rw [eg]
        exact ha
    refine sd_midE (fun _ : Unit => [some (.d (.lst (dI cs))), some (.d (.int hand)), some (.d (.lst (dW ws))), some (.ls (dNt hs)), some (.d (.int (i : Nat))), some (.d (.int xi)), some (.d (.int p))]) (fun _ => allowW cs m (ws.take i) (xi, p) = true) ?_ (fun _ ha => ?_)
    · rcases Nat.eq_zero_or_pos i with i0 | i0
      · subst i0
        refine sd_if (rt_andF1 (Rt.is (rt_test (rd_opB (rd_var rfl) rd_int)) (by simp))) (fun z => by cases z) (fun _ => sd_next ⟨(), ?_, Less.refl⟩)
        rw [List.take_zero] at hb2 ⊢
        rw [allow_first (e := (xi, p)) hb2]
        exact decide_eq_true (hc rfl)
      · obtain ⟨l, a1, a2, a3, a4, a5⟩ := lastE i0
        have el : l.1 = ((l.1.toNat : Nat) : Int) := by omega
        refine sd_if (rt_andT (Rt.is (rt_test (rd_opB (rd_var rfl) rd_int)) (by simp; omega)) (rt_test (rd_neXI (rd_var rfl) (rd_addI (rd_ixXT (rd_ixX (rd_var rfl) (rd_subI (rd_var rfl) rd_int) rfl a1) rd_int rfl) rd_int)))) (fun hd => ?_) (fun hd => sd_next ⟨(), ?_, Less.refl⟩)
        · have hd : ¬ p = l.2 + 1 := by simpa using hd
          refine sd_if (rt_or (a := !decide (p = l.2)) (b := decide (cAt cs j < cAt cs l.1.toNat)) (rt_test (rd_neXI (rd_var rfl) (rd_ixXT (rd_ixX (rd_var rfl) (rd_subI (rd_var rfl) rd_int) rfl a1) rd_int rfl))) (fun _ => Rt.is (rt_test (rd_opB (rd_ixX (rd_var rfl) (rd_var rfl) rfl (by rw [hj]; exact atRow j1)) (rd_ixX (rd_var rfl) (rd_ixXT (rd_ixX (rd_var rfl) (rd_subI (rd_var rfl) rd_int) rfl a1) rd_int rfl) rfl (by rw [el]; exact atRow a4)))) rfl)) (fun hq => sd_retD (rd_var rfl) (bad ?_)) (fun hq => sd_next ⟨(), ?_, Less.refl⟩)
          · rw [a5, decide_eq_false hd, Bool.false_or]
            rw [Bool.or_eq_true] at hq
            rcases hq with hq | hq
            · have : ¬ p = l.2 := by simpa using hq
              rw [decide_eq_false this]
              rfl
            · have : cAt cs j < cAt cs l.1.toNat := of_decide_eq_true hq
              rw [decide_eq_false (show ¬ cAt cs l.1.toNat ≤ cAt cs j by omega), Bool.and_false]
          · rw [a5]
            rw [Bool.or_eq_false_iff] at hq
            have h5 : p = l.2 := by simpa using hq.1
            have h6 := of_decide_eq_false hq.2
            rw [decide_eq_true h5, decide_eq_true (show cAt cs l.1.toNat ≤ cAt cs j by omega)]
            simp
        · have hd : p = l.2 + 1 := by simpa using hd
          rw [a5, decide_eq_true hd]
          rfl
    obtain ⟨n1, n2, n3⟩ := nIW_at hjs
    subst hj
    refine sd_seq (sd_remove (i := 3) rfl (rd_var rfl) (ns := nI hs) rfl n1 n2 ?_)
    rw [n3]
    walk_at "dn"
    have nx2 : heldW cs.length m ws (i + 1) = hs.erase j ++ (if m + i < cs.length then [m + i] else []) := nx
    have h9 := List.length_erase_le (a := j) (l := hs)
    refine sd_if (rt_test (rd_opB (rd_addI (rd_var rfl) (rd_var rfl)) (rd_len (rd_var rfl) rfl))) (fun hd => ?_) (fun hd => sd_next ?_)
    · have hd : m + i < cs.length := by
        have := of_decide_eq_true hd
        rw [lcs] at this
        omega
      refine sd_append (i := 3) rfl ((rd_addI (rd_var rfl) (rd_var rfl)).is (r' := .d (.int ((m + i : Nat) : Int))) (by rw [ev])) rfl (by simp only [List.length_map]; omega) ?_
      refine ⟨_, Less.refl, tail ha, by omega, some (.d (.int (i : Nat))), some (.d (.int (j : Nat))), some (.d (.int p)), ?_⟩
      rw [nx2, if_pos hd]
      simp
    · have hd : ¬ m + i < cs.length := by
        have := of_decide_eq_false hd
        rw [lcs] at this
        omega
      refine ⟨_, Less.refl, tail ha, by omega, some (.d (.int (i : Nat))), some (.d (.int (j : Nat))), some (.d (.int p)), ?_⟩
      rw [nx2, if_neg hd, List.append_nil]
  · obtain ⟨ok, _, y4, y5, y6, rfl⟩ := p
    rw [rngD_length] at ok
    have ok : OkW cs m ws ws.length := fun j hj => ok j (by omega)
    have ef : faultN cs m ws = none := find_no (fun j hj => by rw [ok j hj]; rfl)
    have ed : faultD cs m ws = if ws.length < cs.length then .int (ws.length : Nat) else .non := by unfold faultD; rw [ef]
    rw [ed] at q
    refine sd_seq (sd_if (rt_test (rd_opB (rd_len (rd_var rfl) rfl) (rd_len (rd_var rfl) rfl))) (fun hb => ?_) (fun hb => sd_next ?_))
    · rw [lcs, lws] at hb
      have hb : ws.length < cs.length := by have := of_decide_eq_true hb; omega
      rw [if_pos hb] at q
      exact sd_retD ((rd_len (rd_var rfl) rfl).is (by rw [lws])) q
    · rw [lcs, lws] at hb
      have hb : ¬ ws.length < cs.length := by have := of_decide_eq_false hb; omega
      rw [if_neg hb] at q
      exact sd_retD rd_non q

def likeStep (okP : TV.D → Prop) : TV.D → Prop
  | .non => True
  | .bl _ => True
  | .int _ => True
  | .tup ds => ds.length ≤ 100000 ∧ ∀ x ∈ ds, okP x
  | .lst ds => ds.length ≤ 100000 ∧ ∀ x ∈ ds, okP x
  | _ => False
def likeOk : Nat → TV.D → Prop
  | 0 => fun _ => False
  | n + 1 => likeStep (likeOk n)
def fLike (n : Nat) : List TV.D → (T → Prop) → Prop := fun ds Q => ∃ x, ds = [x, x] ∧ likeOk n x ∧ Q (.d (.bl true))
theorem like_step {k : Nat} {fPrev : List TV.D → (T → Prop) → Prop} (okP : TV.D → Prop) (hp : ∀ x (Q : T → Prop), okP x → Q (.d (.bl true)) → fPrev [x, x] Q)
    (m_isinstance : mg "isinstance" = none) (m_int : mg "int" = none) (m_bool : mg "bool" = none) (m_tuple : mg "tuple" = none) (m_list : mg "list" = none) (m_range : mg "range" = none) (m_len : mg "len" = none)
    (C_law_same : Cal P w K mg base k "_law_same" ["found", "due"] (rdC 2 fPrev)) (h : Has K mg "_law_same" s_law_same ["found", "due"]) :
    Cal P w K mg base (k + 1) "_law_same" ["found", "due"] (rdC 2 fun ds Q => ∃ x, ds = [x, x] ∧ likeStep okP x ∧ Q (.d (.bl true))) := by
  obtain ⟨f, fd, F, g, b⟩ := h
  have nd : N_law_same.Nodup := sc_law_same.nd
  refine rd_ok 2 1 _ F g b sc_law_same rfl rfl fun cdv A outer s H E hr => ⟨_, (pss_cons (ps_if (pt_cmp (pc_isN (pv 1))) (pss_one (ps_ret (pe_cmp (pc_isN (pv 0))))) pss_nil)
      (pss_cons (ps_if (ktruth K (pe_callB (kcisi K) (by rfl) m_isinstance (by decide +kernel) (pa_cons (pv 1) (pa_cons (pe_bltn (v := .ty "bool") (by rfl) m_bool (by decide +kernel) rfl) pa_nil)))) (pss_one (ps_ret (kand K (pe_callB (kcisi K) (by rfl) m_isinstance (by decide +kernel) (pa_cons (pv 0) (pa_cons (pe_bltn (v := .ty "bool") (by rfl) m_bool (by decide +kernel) rfl) pa_nil))) (pe_one (pe_cmpR (keq K hr.units) (pv 0) (pv 1) (nomark _)))))) pss_nil)
      (pss_cons (ps_if (ktruth K (pe_callB (kcisi K) (by rfl) m_isinstance (by decide +kernel) (pa_cons (pv 1) (pa_cons (pe_bltn (v := .ty "int") (by rfl) m_int (by decide +kernel) rfl) pa_nil)))) (pss_one (ps_ret (kand K (pe_callB (kcisi K) (by rfl) m_isinstance (by decide +kernel) (pa_cons (pv 0) (pa_cons (pe_bltn (v := .ty "int") (by rfl) m_int (by decide +kernel) rfl) pa_nil))) (kand K (knot K (pe_callB (kcisi K) (by rfl) m_isinstance (by decide +kernel) (pa_cons (pv 0) (pa_cons (pe_bltn (v := .ty "bool") (by rfl) m_bool (by decide +kernel) rfl) pa_nil)))) (pe_one (pe_cmpR (keq K hr.units) (pv 0) (pv 1) (nomark _))))))) pss_nil)
      (pss_cons (ps_if (PW.pt (pw_and (ktruth K (pe_callB (kcisi K) (by rfl) m_isinstance (by decide +kernel) (pa_cons (pv 1) (pa_cons (pe_bltn (v := .ty "tuple") (by rfl) m_tuple (by decide +kernel) rfl) pa_nil)))) (pw_and1 (pt_not (ktruth K (pe_callB (kcisi K) (by rfl) m_isinstance (by decide +kernel) (pa_cons (pv 0) (pa_cons (pe_bltn (v := .ty "tuple") (by rfl) m_tuple (by decide +kernel) rfl) pa_nil)))))))) (pss_one (ps_ret pe_bl)) pss_nil)
      (pss_cons (ps_if (PW.pt (pw_and (ktruth K (pe_callB (kcisi K) (by rfl) m_isinstance (by decide +kernel) (pa_cons (pv 1) (pa_cons (pe_bltn (v := .ty "list") (by rfl) m_list (by decide +kernel) rfl) pa_nil)))) (pw_and1 (pt_not (ktruth K (pe_callB (kcisi K) (by rfl) m_isinstance (by decide +kernel) (pa_cons (pv 0) (pa_cons (pe_bltn (v := .ty "list") (by rfl) m_list (by decide +kernel) rfl) pa_nil)))))))) (pss_one (ps_ret pe_bl)) pss_nil)
      (pss_cons (ps_if (pt_cmpR (kne K hr.units) (pe_callB (kclen K) (by rfl) m_len (by decide +kernel) (pa_cons (pv 0) pa_nil)) (pe_callB (kclen K) (by rfl) m_len (by decide +kernel) (pa_cons (pv 1) pa_nil)) (nomark _)) (pss_one (ps_ret pe_bl)) pss_nil)
      (pss_one (ps_ret (pe_cmpR (keq K hr.units) (pe_lc (own := [("k", 2)]) (g := (gName 2))  rfl nd (pi_range1 (by rfl) m_range (pa_cons (pe_callB (kclen K) (by rfl) m_len (by decide +kernel) (pa_cons (pv 1) pa_nil)) pa_nil)) (blkOk_by (own := [("k", 2)]) (N := N_law_same) (sc := defScope s_law_same) (by decide +kernel)) (fun _ _ _ _ _ => (gnm 2 nd)) (fun _ _ _ _ _ => (pts_one (pt_not (ktruth K (kcl C_law_same hr (by omega) (by rfl) (pa_cons (pe_ix (kix K) (pv 0) (pv 2) (fun _ _ => rfl)) (pa_cons (pe_ix (kix K) (pv 1) (pv 2) (fun _ _ => rfl)) pa_nil))))))) (fun _ _ _ _ _ => (pv 2))) (pe_lst pa_nil) (nomark _)))))))))), fun ds Q h hl => ?_⟩
  obtain ⟨x, rfl, ok, q⟩ := h
  walk_at "dn"
  cases x with
  | non =>
    refine sd_seq (sd_if (rt_B (rd_isN (rd_var rfl))) (fun _ => ?_) (fun hb => by cases hb))
    exact sd_retD (rd_isN (rd_var rfl)) q
  | bl v =>
    refine sd_seq (sd_if (rt_B (rd_isN (rd_var rfl))) (fun hb => by cases hb) (fun _ => sd_next ?_))
    refine sd_seq (sd_if (rt_truK (rd_isi (rd_var rfl) rfl rfl) rfl) (fun _ => ?_) (fun hb => by cases hb))
    exact sd_retD ((rd_andTB (rd_isi (rd_var rfl) rfl rfl) (fun _ => rd_eqXB (rd_var rfl) (rd_var rfl)) rfl).is (by simp)) q
  | int v =>
    refine sd_seq (sd_if (rt_B (rd_isN (rd_var rfl))) (fun hb => by cases hb) (fun _ => sd_next ?_))
    refine sd_seq (sd_if (rt_truK (rd_isi (rd_var rfl) rfl rfl) rfl) (fun hb => by cases hb) (fun _ => sd_next ?_))
    refine sd_seq (sd_if (rt_truK (rd_isi (rd_var rfl) rfl rfl) rfl) (fun _ => ?_) (fun hb => by cases hb))
    exact sd_retD ((rd_andTB (rd_isi (b := true) (rd_var rfl) rfl rfl) (fun _ => rd_andTB (rd_notT (rd_isi (b := false) (rd_var rfl) rfl rfl) rfl) (fun _ => rd_eqXI (rd_var rfl) (rd_var rfl)) rfl) rfl).is (by simp)) q
  | str v => exact ok.elim
  | ty n => exact ok.elim
  | scr ds => exact ok.elim
  | tup ds =>
    obtain ⟨ln, all⟩ := ok
    refine sd_seq (sd_if (rt_B (rd_isN (rd_var rfl))) (fun hb => by cases hb) (fun _ => sd_next ?_))
    refine sd_seq (sd_if (rt_truK (rd_isi (rd_var rfl) rfl rfl) rfl) (fun hb => by cases hb) (fun _ => sd_next ?_))
    refine sd_seq (sd_if (rt_truK (rd_isi (rd_var rfl) rfl rfl) rfl) (fun hb => by cases hb) (fun _ => sd_next ?_))
    refine sd_seq (sd_if (rt_and (a := true) (b := false) (rt_truK (rd_isi (rd_var rfl) rfl rfl) rfl) (fun _ => rt_not (b := true) (rt_truK (rd_isi (rd_var rfl) rfl rfl) rfl))) (fun hb => by cases hb) (fun _ => sd_next ?_))
    refine sd_seq (sd_if (rt_and (a := false) (b := false) (rt_truK (rd_isi (rd_var rfl) rfl rfl) rfl) (fun hb => by cases hb)) (fun hb => by cases hb) (fun _ => sd_next ?_))
    refine sd_seq (sd_if (rt_test (rd_neXI (rd_len (rd_var rfl) rfl) (rd_len (rd_var rfl) rfl))) (fun hb => by simp at hb) (fun _ => sd_next ?_))
    have er : (rngD 0 ((ds.length : Nat) : Int).toNat).filterMap (fun _ => (none : Option TV.D)) = [] := List.filterMap_eq_nil_iff.mpr fun _ _ => rfl
    refine' sd_retD (rd_eqLI (δ1 := [some (.d (.tup ds)), some (.d (.tup ds)), none]) (δ2 := [some (.d (.tup ds)), some (.d (.tup ds)), none]) (r := .d (.lst [])) (s := .d (.lst [])) (a := []) (b := []) ?hlc ?hni rfl rfl) q
    case hni => exact Ro.frz (ro_lst' ra_nil rfl rfl) rfl
    refine Ro.frz (τ := .ls []) (Ro.is (ro_lcF (fun _ => none) (wk_range1 (ra_cons (rd_len (rd_var rfl) rfl) ra_nil) (by omega) (by omega)) (fun p hp => by simp at hp) rfl (by rw [rngD_length]; omega) (fun i x hx => ?_)) (congrArg T.ls er)) rfl
    obtain ⟨hi, rfl⟩ := rng0_get hx
    have hi2 : i < ds.length := by simpa using hi
    have hat : atI ds ((i : Nat) : Int) = some ds[i] := atI_nat' (j := i) rfl (List.getElem?_eq_getElem hi2)
    refine ⟨_, gd_name (others_not rfl), rfl, rfl, ?_, fun y hy => by cases hy⟩
    walk_at "dn"
    exact rt_not (b := true) (rt_truK (rd_callR (ra_cons (rd_ixXT (rd_var rfl) (rd_var rfl) hat) (ra_cons (rd_ixXT (rd_var rfl) (rd_var rfl) hat) ra_nil)) rfl (fun Q q => hp ds[i] Q (all _ (List.getElem_mem hi2)) q)) rfl)
  | lst ds =>
    obtain ⟨ln, all⟩ := ok
    refine sd_seq (sd_if (rt_B (rd_isN (rd_var rfl))) (fun hb => by cases hb) (fun _ => sd_next ?_))
    refine sd_seq (sd_if (rt_truK (rd_isi (rd_var rfl) rfl rfl) rfl) (fun hb => by cases hb) (fun _ => sd_next ?_))
    refine sd_seq (sd_if (rt_truK (rd_isi (rd_var rfl) rfl rfl) rfl) (fun hb => by cases hb) (fun _ => sd_next ?_))
    refine sd_seq (sd_if (rt_and (a := false) (b := false) (rt_truK (rd_isi (rd_var rfl) rfl rfl) rfl) (fun hb => by cases hb)) (fun hb => by cases hb) (fun _ => sd_next ?_))
    refine sd_seq (sd_if (rt_and (a := true) (b := false) (rt_truK (rd_isi (rd_var rfl) rfl rfl) rfl) (fun _ => rt_not (b := true) (rt_truK (rd_isi (rd_var rfl) rfl rfl) rfl))) (fun hb => by cases hb) (fun _ => sd_next ?_))
    refine sd_seq (sd_if (rt_test (rd_neXI (rd_len (rd_var rfl) rfl) (rd_len (rd_var rfl) rfl))) (fun hb => by simp at hb) (fun _ => sd_next ?_))
    have er : (rngD 0 ((ds.length : Nat) : Int).toNat).filterMap (fun _ => (none : Option TV.D)) = [] := List.filterMap_eq_nil_iff.mpr fun _ _ => rfl
    refine' sd_retD (rd_eqLI (δ1 := [some (.d (.lst ds)), some (.d (.lst ds)), none]) (δ2 := [some (.d (.lst ds)), some (.d (.lst ds)), none]) (r := .d (.lst [])) (s := .d (.lst [])) (a := []) (b := []) ?hlc2 ?hni2 rfl rfl) q
    case hni2 => exact Ro.frz (ro_lst' ra_nil rfl rfl) rfl
    refine Ro.frz (τ := .ls []) (Ro.is (ro_lcF (fun _ => none) (wk_range1 (ra_cons (rd_len (rd_var rfl) rfl) ra_nil) (by omega) (by omega)) (fun p hp => by simp at hp) rfl (by rw [rngD_length]; omega) (fun i x hx => ?_)) (congrArg T.ls er)) rfl
    obtain ⟨hi, rfl⟩ := rng0_get hx
    have hi2 : i < ds.length := by simpa using hi
    have hat : atI ds ((i : Nat) : Int) = some ds[i] := atI_nat' (j := i) rfl (List.getElem?_eq_getElem hi2)
    refine ⟨_, gd_name (others_not rfl), rfl, rfl, ?_, fun y hy => by cases hy⟩
    walk_at "dn"
    exact rt_not (b := true) (rt_truK (rd_callR (ra_cons (rd_ixX (rd_var rfl) (rd_var rfl) rfl hat) (ra_cons (rd_ixX (rd_var rfl) (rd_var rfl) rfl hat) ra_nil)) rfl (fun Q q => hp ds[i] Q (all _ (List.getElem_mem hi2)) q)) rfl)
theorem ok_law_same (m_isinstance : mg "isinstance" = none) (m_int : mg "int" = none) (m_bool : mg "bool" = none) (m_tuple : mg "tuple" = none) (m_list : mg "list" = none) (m_range : mg "range" = none) (m_len : mg "len" = none)
    (h : Has K mg "_law_same" s_law_same ["found", "due"]) : ∀ n : Nat, Cal P w K mg base (n + 1) "_law_same" ["found", "due"] (rdC 2 (fLike (n + 1)))
  | 0 => by
    have h0 := h
    obtain ⟨f, fd, F, g, b⟩ := h0
    exact like_step (fPrev := fun _ _ => False) (fun _ => False) (fun _ _ z _ => z.elim) m_isinstance m_int m_bool m_tuple m_list m_range m_len (Cal.mk' (k := 0) F g b FnOk.none') h
  | n + 1 => like_step (fPrev := fLike (n + 1)) (likeOk (n + 1)) (fun x Q ok q => ⟨x, rfl, ok, q⟩) m_isinstance m_int m_bool m_tuple m_list m_range m_len (ok_law_same m_isinstance m_int m_bool m_tuple m_list m_range m_len h n) h

/-! family B: a way laid at will or nearly plainly -/
def pileB (cs : List Int) (ws : List (Int × Int)) (i : Nat) : Int := match ws.getLast? with
  | none => 0
  | some l => l.2 + (if cAt cs i < cAt cs l.1.toNat then 1 else 0)
abbrev keyB (cs : List Int) (ws : List (Int × Int)) (i : Nat) : List Int := [pileB cs ws i, cAt cs i, (i : Int)]
def betterO (cs : List Int) (ws : List (Int × Int)) (b : Option Nat) (i : Nat) : Option Nat := match b with
  | none => some i
  | some j => if HT.lexLt (keyB cs ws i) (keyB cs ws j) then some i else some j
def bestO (cs : List Int) (ws : List (Int × Int)) (hs : List Nat) : Option Nat := hs.foldl (betterO cs ws) none
def bestD (cs : List Int) (ws : List (Int × Int)) : Option Nat → TV.D
  | none => .non
  | some j => .tup (dI (keyB cs ws j))
theorem bestO_mem {cs : List Int} {ws : List (Int × Int)} : ∀ (hs : List Nat) (b : Option Nat) (j : Nat), hs.foldl (betterO cs ws) b = some j → j ∈ hs ∨ b = some j
  | [], b, j, h => .inr h
  | i :: r, b, j, h => by
    rw [List.foldl_cons] at h
    rcases bestO_mem r _ j h with z | z
    · exact .inl (List.mem_cons_of_mem _ z)
    · unfold betterO at z
      split at z
      · cases z
        exact .inl (by simp)
      · split at z
        · cases z
          exact .inl (by simp)
        · exact .inr z
theorem bestO_some {cs : List Int} {ws : List (Int × Int)} : ∀ (hs : List Nat) (b : Option Nat), (hs ≠ [] ∨ b ≠ none) → ∃ j, hs.foldl (betterO cs ws) b = some j
  | [], b, h => by
    rcases h with z | z
    · exact absurd rfl z
    · cases b with
      | none => exact absurd rfl z
      | some j => exact ⟨j, rfl⟩
  | i :: r, b, _ => by
    rw [List.foldl_cons]
    refine bestO_some r _ (.inr ?_)
    unfold betterO
    split
    · simp
    · split <;> simp
def fBest : List TV.D → (T → Prop) → Prop := fun ds Q => ∃ (cs : List Int) (hs : List Nat) (ws : List (Int × Int)), ds = [.lst (dI cs), .lst (dNt hs), .lst (dW ws)] ∧ (∀ i ∈ hs, i < cs.length) ∧ (∀ e, ws.getLast? = some e → 0 ≤ e.1 ∧ e.1.toNat < cs.length) ∧ Q (.d (bestD cs ws (bestO cs ws hs)))
theorem okW (ws : List (Int × Int)) : okD 16 (.lst (dW ws)) = true := by
  show (dW ws).all (okD 15) = true
  rw [List.all_eq_true]
  intro x hx
  obtain ⟨e, _, rfl⟩ := List.mem_map.mp hx
  rfl
theorem ok_law_best (m_int : mg "int" = none) (h : Has K mg "_law_best" s_law_best ["row0", "held", "way"]) : Cal P w K mg base 1 "_law_best" ["row0", "held", "way"] (rdC 3 fBest) := by
  obtain ⟨f, fd, F, g, b⟩ := h
  have nd : N_law_best.Nodup := sc_law_best.nd
  refine rd_ok 3 3 _ F g b sc_law_best rfl rfl fun cdv A outer s H E hr => ⟨_, (pss_cons (qset 3 pe_non nd)
      (pss_cons (ps_for PassesOwn.never rfl (kpi_list K (pv 1)) (gnm 4 nd) (pss_cons (qset 5 pe_int nd)
      (pss_cons (ps_if (pt_cmpR (kne K hr.units) (pv 2) (pe_lst pa_nil) (nomark _)) (pss_one (qset 5 (pe_op op_addX (pe_ix (kix K) (pe_ix (kix K) (pv 2) (pe_un un_neg pe_int) (fun _ _ => rfl)) pe_int (fun _ _ => rfl)) (pe_callTy call_int1 (by rfl) m_int (by decide +kernel) (pa_cons (pe_cmpR op_lt (pe_ix (kix K) (pv 0) (pv 4) (fun _ _ => rfl)) (pe_ix (kix K) (pv 0) (pe_ix (kix K) (pe_ix (kix K) (pv 2) (pe_un un_neg pe_int) (fun _ _ => rfl)) pe_int (fun _ _ => rfl)) (fun _ _ => rfl)) (nomark _)) pa_nil))) nd)) pss_nil)
      (pss_one (ps_if (PW.pt (pw_or (pt_cmp (pc_isN (pv 3))) (pw_or1 (pt_cmpR (kltT K hr.units) (pe_tup (pa_cons (pv 5) (pa_cons (pe_ix (kix K) (pv 0) (pv 4) (fun _ _ => rfl)) (pa_cons (pv 4) pa_nil)))) (pv 3) (nomark _))))) (pss_one (qset 3 (pe_tup (pa_cons (pv 5) (pa_cons (pe_ix (kix K) (pv 0) (pv 4) (fun _ _ => rfl)) (pa_cons (pv 4) pa_nil)))) nd)) pss_nil)))))
      (pss_one (ps_ret (pv 3))))), fun ds Q h hl => ?_⟩
  obtain ⟨cs, hs, ws, rfl, h1, h2, q⟩ := h
  walk_at "dn"
  refine sd_seq (sd_asg rd_non (by decide) ?_)
  walk_at "dn"
  refine sd_seq (sd_for (wk_list (rd_var rfl) rfl) (fun i δ => ∃ y4 y5, δ = [some (.d (.lst (dI cs))), some (.d (.lst (dNt hs))), some (.d (.lst (dW ws))), some (.d (bestD cs ws ((hs.take i).foldl (betterO cs ws) none))), y4, y5]) ⟨none, none, rfl⟩ (fun i δ p => ?_) (fun i x δ hx p => ?_) (fun δ p => ?_))
  · obtain ⟨y4, y5, rfl⟩ := p
    exact okS1 rfl
  · obtain ⟨y4, y5, rfl⟩ := p
    obtain ⟨c, hc, rfl⟩ := mem_dNt hx
    have hcl : c < cs.length := h1 c (List.mem_of_getElem? hc)
    refine ⟨_, gd_name (fun z => by simp [keepS, keepA] at z), ?_⟩
    walk_at "dn"
    have nx : ∀ y, y = bestD cs ws (betterO cs ws ((hs.take i).foldl (betterO cs ws) none) c) → bestD cs ws ((hs.take (i + 1)).foldl (betterO cs ws) none) = y := fun y hy => by
      rw [take_snoc hc, List.foldl_append, hy]
      rfl
    generalize (hs.take i).foldl (betterO cs ws) none = bb at nx ⊢
    refine sd_seq (sd_asg rd_int (fun z => by simp [keepS, keepA] at z) ?_)
    walk_at "dn"
    refine sd_midE (fun _ : Unit => [some (.d (.lst (dI cs))), some (.d (.lst (dNt hs))), some (.d (.lst (dW ws))), some (.d (bestD cs ws bb)), some (.d (.int (c : Nat))), some (.d (.int (pileB cs ws c)))]) (fun _ => True) ?_ (fun _ _ => ?_)
    · rcases last_cases ws with z | ⟨es, e, z⟩
      · subst z
        exact sd_if (rt_test (rd_neNil (ds := []) (rd_var rfl) (Ro.frz (ro_lst' ra_nil rfl rfl) rfl) rfl rfl rfl)) (fun z => by cases z) (fun _ => sd_next ⟨(), trivial, Less.refl⟩)
      · subst z
        obtain ⟨h3, h4⟩ := h2 e (by simp)
        have e1 : e.1 = ((e.1.toNat : Nat) : Int) := by omega
        have ef : pileB cs (es ++ [e]) c = e.2 + (if cAt cs c < cAt cs e.1.toNat then 1 else 0) := by unfold pileB; rw [List.getLast?_concat]
        refine sd_if (b := true) (Rt.is (rt_test (rd_neNil (ds := dW (es ++ [e])) (rd_var rfl) (Ro.frz (ro_lst' ra_nil rfl rfl) rfl) rfl rfl (okW _))) (by simp)) (fun _ => ?_) (fun z => by cases z)
        refine sd_asg (rd_addI (rd_ixXT (rd_ixX (rd_var rfl) (rd_un rd_int) rfl (atI_dW es e)) rd_int rfl) (rd_intB (b := decide (cAt cs c < cAt cs e.1.toNat)) (rd_opB (rd_ixX (rd_var rfl) (rd_var rfl) rfl (atRow hcl)) (rd_ixX (rd_var rfl) (rd_ixXT (rd_ixX (rd_var rfl) (rd_un rd_int) rfl (atI_dW es e)) rd_int rfl) rfl (by rw [e1]; exact atRow h4))))) (fun z => by simp [keepS, keepA] at z) ⟨(), trivial, ?_⟩
        rw [ef]
        walk_at "dn"
        by_cases hq : cAt cs c < cAt cs e.1.toNat <;> simp only [hq, decide_true, decide_false, if_true, if_false, Bool.false_eq_true] <;> exact Less.refl
    · cases bb with
      | none =>
        rw [show bestD cs ws none = .non from rfl]
        refine sd_if (rt_orT (rt_B (rd_isN (x := .non) (rd_var rfl)))) (fun _ => ?_) (fun z => by cases z)
        refine sd_asg (rd_tup' (ra_cons (rd_var rfl) (ra_cons (rd_ixX (rd_var rfl) (rd_var rfl) rfl (atRow hcl)) (ra_cons (rd_var rfl) ra_nil))) rfl rfl) (fun z => by simp [keepS, keepA] at z) ?_
        exact ⟨_, Less.refl, some (.d (.int (c : Nat))), some (.d (.int (pileB cs ws c))), by rw [nx _ rfl]; rfl⟩
      | some j =>
        rw [show bestD cs ws (some j) = .tup (dI (keyB cs ws j)) from rfl]
        refine' sd_if (rt_orS (rt_B (rd_isN (x := .tup (dI (keyB cs ws j))) (rd_var rfl))) (rt_test (rd_ltT (xs := keyB cs ws c) (ys := keyB cs ws j) ?hxs ?hys))) (fun hb => ?_) (fun hb => sd_next ?_)
        case hxs => exact rd_tup' (ra_cons (rd_var rfl) (ra_cons (rd_ixX (rd_var rfl) (rd_var rfl) rfl (atRow hcl)) (ra_cons (rd_var rfl) ra_nil))) rfl rfl
        case hys => exact rd_var rfl
        · refine sd_asg (rd_tup' (ra_cons (rd_var rfl) (ra_cons (rd_ixX (rd_var rfl) (rd_var rfl) rfl (atRow hcl)) (ra_cons (rd_var rfl) ra_nil))) rfl rfl) (fun z => by simp [keepS, keepA] at z) ?_
          have e2 : betterO cs ws (some j) c = some c := by unfold betterO; simp only; rw [if_pos hb]
          exact ⟨_, Less.refl, some (.d (.int (c : Nat))), some (.d (.int (pileB cs ws c))), by rw [nx _ rfl, e2]; rfl⟩
        · have e2 : betterO cs ws (some j) c = some j := by unfold betterO; simp only; rw [if_neg (by rw [hb]; decide)]
          exact ⟨_, Less.refl, some (.d (.int (c : Nat))), some (.d (.int (pileB cs ws c))), by rw [nx _ rfl, e2]; rfl⟩
  · obtain ⟨y4, y5, rfl⟩ := p
    rw [show hs.take (dNt hs).length = hs by simp]
    exact sd_retD (rd_var rfl) q

theorem heldW_app (n m : Nat) (ws : List (Int × Int)) (e : Int × Int) : ∀ k, k ≤ ws.length → heldW n m (ws ++ [e]) k = heldW n m ws k
  | 0, _ => rfl
  | k + 1, h => by
    unfold heldW
    rw [heldW_app n m ws e k (by omega)]
    congr 4
    rw [List.getD_eq_getElem?_getD, List.getD_eq_getElem?_getD, List.getElem?_append_left (by omega)]
theorem OkW.app {cs : List Int} {m : Nat} {ws : List (Int × Int)} {e : Int × Int} (h : OkW cs m ws ws.length) (he : allowW cs m ws e = true) : OkW cs m (ws ++ [e]) (ws.length + 1) := fun j hj => by
  rcases Nat.lt_or_ge j ws.length with z | z
  · have := h j z
    rw [List.take_append_of_le_length (by omega), List.getD_eq_getElem?_getD, List.getElem?_append_left z, ← List.getD_eq_getElem?_getD]
    exact this
  · have : j = ws.length := by omega
    subst this
    rw [List.take_append_of_le_length (Nat.le_refl _), List.take_length, List.getD_eq_getElem?_getD, List.getElem?_append_right (Nat.le_refl _), Nat.sub_self]
    exact he
theorem heldW_cnt {cs : List Int} {m : Nat} {ws : List (Int × Int)} : ∀ i, i ≤ ws.length → OkW cs m ws i → (heldW cs.length m ws i).length + i = min cs.length (m + i)
  | 0, _, _ => by
    show (List.range (min cs.length m)).length + 0 = _
    rw [List.length_range]
    rfl
  | i + 1, hi, ok => by
    have ok' : OkW cs m ws i := fun j hj => ok j (by omega)
    have ih := heldW_cnt (cs := cs) (m := m) (ws := ws) i (by omega) ok'
    obtain ⟨nd, mm⟩ := heldW_inv (cs := cs) (m := m) (ws := ws) i (by omega) ok'
    have he : ws[i]? = some ws[i] := List.getElem?_eq_getElem (by omega)
    obtain ⟨y, hy, y1, y2, y3⟩ := ok.ix (k := i) (by omega) he
    have ey : (ws.getD i (0, 0)).1.toNat = y := by
      rw [List.getD_eq_getElem?_getD, he]
      show (ws[i]).1.toNat = y
      omega
    have hm : y ∈ heldW cs.length m ws i := (mm y).mpr (mem_behV.mpr ⟨y1, by rw [List.length_take]; omega, y3⟩)
    have h1 := List.length_erase_of_mem hm
    have h2 := List.length_pos_of_mem hm
    unfold heldW
    rw [ey, List.length_append, h1]
    split <;> simp only [List.length_cons, List.length_nil] <;> omega
/-- a way of many entries, each allowed -/
structure WayW (cs : List Int) (m many : Nat) (ws : List (Int × Int)) : Prop where
  ln : ws.length = many
  ok : OkW cs m ws many
def cWayB : Con := fun ts Q => ∃ (s : Pu) (cs : List Int) (hand : Int) (many : Nat), ts = [puT s, .d (.lst (dI cs)), .d (.int hand), .d (.int (many : Nat))] ∧ 1 ≤ hand ∧ cs.length ≤ 200 ∧ many ≤ cs.length ∧ OkP s 8000 ∧ ∀ (ws : List (Int × Int)) (s' : Pu), WayW cs hand.toNat many ws → OkP s' 7000 → Q (.ls (dW ws)) [puT s', .d (.lst (dI cs)), .d (.int hand), .d (.int (many : Nat))]
theorem ok_law_way (m_int : mg "int" = none) (m_len : mg "len" = none) (m_range : mg "range" = none) (m_list : mg "list" = none) (m_min : mg "min" = none) (C_law_draw : Cal P w K mg base 1 "_law_draw" ["purse", "limit"] cDrawB) (C_law_best : Cal P w K mg base 1 "_law_best" ["row0", "held", "way"] (rdC 3 fBest)) (h : Has K mg "_law_way" s_law_way ["purse", "row0", "hand0", "many"]) : Cal P w K mg base 2 "_law_way" ["purse", "row0", "hand0", "many"] cWayB := by
  obtain ⟨f, fd, F, g, b⟩ := h
  have nd : N_law_way.Nodup := sc_law_way.nd
  refine Cal.mk' F g b (con_ok [0] 6 F sc_law_way rfl (fun ts Q h => ?_) (fun ts Q h k t hk hn => ?_) fun cdv A outer s H E hr => ⟨_, (pss_cons (qset 4 (kcl C_law_draw hr (by omega) (by rfl) (pa_cons (pv 0) (pa_cons pe_int pa_nil))) nd)
      (pss_cons (qset 5 (pe_listRg rfl (by rfl) m_list (prg_1 (by rfl) m_range (pe_callB (call_min2 rfl) (by rfl) m_min (by decide +kernel) (pa_cons (pe_callB (kclen K) (by rfl) m_len (by decide +kernel) (pa_cons (pv 1) pa_nil)) (pa_cons (pv 2) pa_nil))))) nd)
      (pss_cons (qset 6 (pe_lst pa_nil) nd)
      (pss_cons (ps_for PassesOwn.never rfl (pi_range1 (by rfl) m_range (pa_cons (pv 3) pa_nil)) (gnm 7 nd) (pss_cons (qset 8 (pe_ix (kix K) (pv 5) (kcl C_law_draw hr (by omega) (by rfl) (pa_cons (pv 0) (pa_cons (pe_callB (kclen K) (by rfl) m_len (by decide +kernel) (pa_cons (pv 5) pa_nil)) pa_nil))) (fun _ _ => rfl)) nd)
      (pss_cons (ps_if (PW.pt (pw_and (pt_cmpR op_gt (pv 4) pe_int (nomark _)) (pw_and1 (pt_cmpR op_gt (kcl C_law_draw hr (by omega) (by rfl) (pa_cons (pv 0) (pa_cons pe_int pa_nil))) pe_int (nomark _))))) (pss_one (qset 8 (pe_ix (kix K) (kcl C_law_best hr (by omega) (by rfl) (pa_cons (pv 1) (pa_cons (pv 5) (pa_cons (pv 6) pa_nil)))) pe_int (fun _ _ => rfl)) nd)) pss_nil)
      (pss_cons (qset 9 pe_int nd)
      (pss_cons (ps_if (pt_cmpR (kne K hr.units) (pv 6) (pe_lst pa_nil) (nomark _)) (pss_cons (qset 9 (pe_op op_addX (pe_ix (kix K) (pe_ix (kix K) (pv 6) (pe_un un_neg pe_int) (fun _ _ => rfl)) pe_int (fun _ _ => rfl)) (pe_callTy call_int1 (by rfl) m_int (by decide +kernel) (pa_cons (pe_cmpR op_lt (pe_ix (kix K) (pv 1) (pv 8) (fun _ _ => rfl)) (pe_ix (kix K) (pv 1) (pe_ix (kix K) (pe_ix (kix K) (pv 6) (pe_un un_neg pe_int) (fun _ _ => rfl)) pe_int (fun _ _ => rfl)) (fun _ _ => rfl)) (nomark _)) pa_nil))) nd)
      (pss_one (ps_if (PW.pt (pw_and (pt_cmpR (keq K hr.units) (pv 9) (pe_ix (kix K) (pe_ix (kix K) (pv 6) (pe_un un_neg pe_int) (fun _ _ => rfl)) pe_int (fun _ _ => rfl)) (nomark _)) (pw_and1 (pt_cmpR (keq K hr.units) (kcl C_law_draw hr (by omega) (by rfl) (pa_cons (pv 0) (pa_cons (pe_op op_addX pe_int (pe_op op_mulX pe_int (pv 4))) pa_nil))) pe_int (nomark _))))) (pss_one (qset 9 (pe_op op_addX (pv 9) pe_int) nd)) pss_nil))) pss_nil)
      (pss_cons (ps_expr (kbm K PySem.F.plainAttrs_list PySem.F.slot_list_append PySem.F.type_list_append mt_append (pv 6) (pa_cons (pe_tup (pa_cons (pv 8) (pa_cons (pv 9) pa_nil))) pa_nil)))
      (pss_cons (ps_expr (kbm K PySem.F.plainAttrs_list PySem.F.slot_list_remove PySem.F.type_list_remove mt_remove (pv 5) (pa_cons (pv 8) pa_nil)))
      (pss_one (ps_if (pt_cmpR op_lt (pe_op op_addX (pv 2) (pv 7)) (pe_callB (kclen K) (by rfl) m_len (by decide +kernel) (pa_cons (pv 1) pa_nil)) (nomark _)) (pss_one (ps_expr (kbm K PySem.F.plainAttrs_list PySem.F.slot_list_append PySem.F.type_list_append mt_append (pv 5) (pa_cons (pe_op op_addX (pv 2) (pv 7)) pa_nil)))) pss_nil)))))))))
      (pss_one (ps_ret (pv 6))))))), fun ts Q h => ?_⟩)
  · obtain ⟨s, cs, hand, many, rfl, _⟩ := h
    rfl
  · obtain ⟨s, cs, hand, many, rfl, _⟩ := h
    rcases k with _ | _ | _ | _ | k
    · simp at hn
    · simp at hk
      exact ⟨_, hk.symm⟩
    · simp at hk
      exact ⟨_, hk.symm⟩
    · simp at hk
      exact ⟨_, hk.symm⟩
    · simp at hk
  · obtain ⟨s, cs, hand, many, rfl, h1, h2, h3, ok, q⟩ := h
    walk_at "dn"
    generalize hm : hand.toNat = m at q
    have hm1 : 1 ≤ m := by omega
    have lcs : (dI cs).length = cs.length := List.length_map _
    have v0 := bV_nn s (m := 3) (by decide)
    have v1 := bV_lt s (m := 3) (by decide)
    refine sd_seq (sd_asg (rd_cw 0 (ra_cons (rd_slot rfl) (ra_cons rd_int ra_nil)) rfl rfl rfl (fun Q q => ⟨s, 3, rfl, by decide, by decide, ok.le (by decide), q⟩) rfl rfl rfl (flat_pu _)) (by decide) ?_)
    have ok1 : OkP (bN s 3) 7900 := (bN_ok (n := 7999) ok (by decide)).le (by decide)
    generalize bN s 3 = s1 at ok1 ⊢
    generalize bV s 3 = style at v0 v1 ⊢
    walk_at "dn"
    refine sd_seq (sd_asgO (ro_listRg1 (rd_min2 (rd_len (rd_var rfl) rfl) (rd_var rfl)) (by omega) (by omega)) (by decide) ?_)
    have e0 : (min ((dI cs).length : Int) hand).toNat = min cs.length m := by rw [lcs]; omega
    rw [e0, rng_beh]
    walk_at "dn"
    refine sd_seq (sd_asgO (ro_lst' ra_nil rfl rfl) (by decide) ?_)
    walk_at "dn"
    refine sd_seq (sd_for (wk_range1 (ra_cons (rd_var rfl) ra_nil) (by omega) (by omega)) (fun k δ => ∃ (s : Pu) (ws : List (Int × Int)) (y7 y8 y9 : Option T), k ≤ many ∧ OkP s (7900 - 3 * (k : Nat)) ∧ ws.length = k ∧ OkW cs m ws k ∧ δ = [some (puT s), some (.d (.lst (dI cs))), some (.d (.int hand)), some (.d (.int (many : Nat))), some (.d (.int style)), some (.ls (dNt (heldW cs.length m ws k))), some (.ls (dW ws)), y7, y8, y9]) ⟨s1, [], none, none, none, Nat.zero_le _, ok1.le (by omega), rfl, fun j hj => absurd hj (Nat.not_lt_zero j), rfl⟩ (fun i δ p => fun p hp => by simp at hp) (fun i x δ hx p => ?_) (fun δ p => ?_))
    · obtain ⟨s, ws, y7, y8, y9, _, oks, hw, okw, rfl⟩ := p
      obtain ⟨hi, rfl⟩ := rng0_get hx
      have hi : i < many := by omega
      have ev : hand + (i : Int) = ((m + i : Nat) : Int) := by omega
      have inv := heldW_inv i (by omega) okw
      have cnt := heldW_cnt i (by omega) okw
      have nx : ∀ (j : Nat) (p : Int), heldW cs.length m (ws ++ [((j : Int), p)]) (i + 1) = (heldW cs.length m ws i).erase j ++ (if m + i < cs.length then [m + i] else []) := fun j p => by
        show (heldW cs.length m (ws ++ [((j : Int), p)]) i).erase ((ws ++ [((j : Int), p)]).getD i (0, 0)).1.toNat ++ _ = _
        rw [heldW_app _ _ _ _ _ (by omega)]
        congr 2
        rw [List.getD_eq_getElem?_getD, List.getElem?_append_right (by omega), hw, Nat.sub_self]
        rfl
      have tk : ws.take i = ws := List.take_of_length_le (by omega)
      rw [tk] at inv
      generalize heldW cs.length m ws i = hs at inv cnt nx ⊢
      have lhs : (dNt hs).length = hs.length := by simp
      have hs0 : 0 < hs.length := by omega
      have hall : ∀ x ∈ hs, x < cs.length := fun x hx => (mem_behV.mp ((inv.2 x).mp hx)).1
      have hlast : ∀ e, ws.getLast? = some e → 0 ≤ e.1 ∧ e.1.toNat < cs.length := fun e he => okw.last (by omega) e (by rw [tk]; exact he)
      have hmem : ∀ j ∈ hs, ((j : Nat) : Int) ∈ nI (behV cs.length m ws) := fun j hj => List.mem_map.mpr ⟨j, (inv.2 j).mp hj, rfl⟩
      refine ⟨_, gd_name (fun z => by simp [keepS, keepA] at z), ?_⟩
      show Sd K [0] _ _ _
      walk_at "dn"
      have w0 := bV_nn s (m := ((dNt hs).length : Int)) (by omega)
      have w1 := bV_lt s (m := ((dNt hs).length : Int)) (by omega)
      obtain ⟨i0, hi0⟩ : ∃ i0, hs[(bV s ((dNt hs).length : Int)).toNat]? = some i0 := ⟨_, List.getElem?_eq_getElem (by omega)⟩
      have hx0 : atI (dNt hs) (bV s ((dNt hs).length : Int)) = some (.int (i0 : Nat)) := atI_nat' (j := (bV s ((dNt hs).length : Int)).toNat) (by omega) (by rw [List.getElem?_map, List.getElem?_map, hi0]; rfl)
      have hi0m := List.mem_of_getElem? hi0
      have oks1 : OkP (bN s ((dNt hs).length : Int)) (7899 - 3 * (i : Nat)) := bN_ok (oks.le (by omega)) (by omega)
      refine sd_seq (sd_asg (rd_ixX (rd_slot rfl) (rd_cw 0 (ra_cons (rd_slot rfl) (ra_cons (rd_len (rd_slot rfl) rfl) ra_nil)) rfl rfl rfl (fun Q q => ⟨s, ((dNt hs).length : Nat), rfl, by omega, by omega, oks.le (by omega), q⟩) rfl rfl rfl (flat_pu _)) rfl hx0) (by decide) ?_)
      generalize bN s ((dNt hs).length : Int) = s2 at oks1 ⊢
      walk_at "dn"
      refine sd_midE (fun a : Pu × Nat => [some (puT a.1), some (.d (.lst (dI cs))), some (.d (.int hand)), some (.d (.int (many : Nat))), some (.d (.int style)), some (.ls (dNt hs)), some (.ls (dW ws)), some (.d (.int (i : Nat))), some (.d (.int (a.2 : Nat))), none]) (fun a => OkP a.1 (7898 - 3 * (i : Nat)) ∧ a.2 ∈ hs) ?_ (fun a pa => ?_)
      · by_cases hst : 0 < style
        · refine sd_if (rt_andT (Rt.is (rt_test (rd_opB (rd_var rfl) rd_int)) (by simp; omega)) (rt_test (rd_opB (rd_cw 0 (ra_cons (rd_slot rfl) (ra_cons rd_int ra_nil)) rfl rfl rfl (fun Q q => ⟨s2, 3, rfl, by decide, by decide, oks1.le (by omega), q⟩) rfl rfl rfl (flat_pu _)) rd_int))) (fun hb => ?_) (fun hb => sd_next ⟨(bN s2 3, i0), ⟨bN_ok (oks1.le (by omega)) (by decide), hi0m⟩, by walk_at "ls"⟩)
          obtain ⟨jb, hjb⟩ := bestO_some (cs := cs) (ws := ws) hs none (.inl (fun z => by rw [z] at hs0; cases hs0))
          have hjm : jb ∈ hs := by
            rcases bestO_mem hs none jb hjb with z | z
            · exact z
            · cases z
          have hbest : ∀ Q : T → Prop, Q (.d (.tup (dI (keyB cs ws jb)))) → fBest [.lst (dI cs), .lst (dNt hs), .lst (dW ws)] Q := fun Q q => ⟨cs, hs, ws, rfl, hall, hlast, by
            have : bestO cs ws hs = some jb := hjb
            rw [this]
            exact q⟩
          exact sd_asg (rd_ixXT (rd_callQ (ra_cons (rd_var rfl) (ra_cons (rd_slot rfl) (ra_cons (rd_slot rfl) ra_nil))) rfl rfl rfl hbest rfl) rd_int rfl) (by decide) ⟨(bN s2 3, jb), ⟨bN_ok (oks1.le (by omega)) (by decide), hjm⟩, by walk_at "ls"⟩
        · exact sd_if (rt_andF1 (Rt.is (rt_test (rd_opB (rd_var rfl) rd_int)) (by simp; omega))) (fun z => by cases z) (fun _ => sd_next ⟨(s2, i0), ⟨oks1.le (by omega), hi0m⟩, by walk_at "ls"⟩)
      obtain ⟨s3, j⟩ := a
      obtain ⟨oks3, hj⟩ := pa
      have hj : j ∈ hs := hj
      have oks3 : OkP s3 (7898 - 3 * (i : Nat)) := oks3
      have hjl := hall j hj
      walk_at "dn"
      refine sd_seq (sd_asg rd_int (by decide) ?_)
      walk_at "dn"
      refine sd_midE (fun a : Pu × Int => [some (puT a.1), some (.d (.lst (dI cs))), some (.d (.int hand)), some (.d (.int (many : Nat))), some (.d (.int style)), some (.ls (dNt hs)), some (.ls (dW ws)), some (.d (.int (i : Nat))), some (.d (.int (j : Nat))), some (.d (.int a.2))]) (fun a => OkP a.1 (7897 - 3 * (i : Nat)) ∧ allowW cs m ws ((j : Int), a.2) = true) ?_ (fun a pa => ?_)
      · rcases last_cases ws with z | ⟨es, l, z⟩
        · subst z
          exact sd_if (rt_test (rd_neNil (ds := []) (rd_slot rfl) (Ro.frz (ro_lst' ra_nil rfl rfl) rfl) rfl rfl rfl)) (fun z => by cases z) (fun _ => sd_next ⟨(s3, 0), ⟨oks3.le (by omega), by rw [allow_first (hmem j hj)]; rfl⟩, Less.refl⟩)
        · subst z
          obtain ⟨h3, h4⟩ := hlast l (by simp)
          have e1 : l.1 = ((l.1.toNat : Nat) : Int) := by omega
          have al : ∀ p : Int, allowW cs m (es ++ [l]) ((j : Int), p) = (decide (p = l.2 + 1) || (decide (p = l.2) && decide (cAt cs l.1.toNat ≤ cAt cs j))) := fun p => allow_next (e := ((j : Int), p)) (hmem j hj) (by simp)
          refine sd_if (b := true) (Rt.is (rt_test (rd_neNil (ds := dW (es ++ [l])) (rd_slot rfl) (Ro.frz (ro_lst' ra_nil rfl rfl) rfl) rfl rfl (okW _))) (by simp)) (fun _ => ?_) (fun z => by cases z)
          refine sd_seq (sd_asg (rd_addI (rd_ixXT (rd_ixX (rd_slot rfl) (rd_un rd_int) rfl (atI_dW es l)) rd_int rfl) (rd_intB (b := decide (cAt cs j < cAt cs l.1.toNat)) (rd_opB (rd_ixX (rd_var rfl) (rd_var rfl) rfl (atRow hjl)) (rd_ixX (rd_var rfl) (rd_ixXT (rd_ixX (rd_slot rfl) (rd_un rd_int) rfl (atI_dW es l)) rd_int rfl) rfl (by rw [e1]; exact atRow h4))))) (by decide) ?_)
          walk_at "dn"
          by_cases hq : cAt cs j < cAt cs l.1.toNat
          · simp only [hq, decide_true, if_true]
            exact sd_if (rt_andF1 (Rt.is (rt_test (rd_eqXI (rd_var rfl) (rd_ixXT (rd_ixX (rd_slot rfl) (rd_un rd_int) rfl (atI_dW es l)) rd_int rfl))) (by simp; omega))) (fun z => by cases z) (fun _ => sd_next ⟨(s3, l.2 + 1), ⟨oks3.le (by omega), by rw [al]; simp⟩, by walk_at "ls"⟩)
          · have hq2 : cAt cs l.1.toNat ≤ cAt cs j := by omega
            simp only [hq, decide_false, Bool.false_eq_true, if_false]
            refine sd_if (rt_andT (Rt.is (rt_test (rd_eqXI (rd_var rfl) (rd_ixXT (rd_ixX (rd_slot rfl) (rd_un rd_int) rfl (atI_dW es l)) rd_int rfl))) (by simp)) (rt_test (rd_eqXI (rd_cw 0 (ra_cons (rd_slot rfl) (ra_cons (rd_addI rd_int (rd_mulI rd_int (rd_var rfl) (big_mul (a := 100) (b := 100) (by decide) (by omega) (by decide) (by decide) (by decide)))) ra_nil)) rfl rfl rfl (fun Q q => ⟨s3, 4 + 9 * style, rfl, by omega, by omega, oks3.le (by omega), q⟩) rfl rfl rfl (flat_pu _)) rd_int))) (fun hb => ?_) (fun hb => sd_next ⟨(bN s3 (4 + 9 * style), l.2 + 0), ⟨bN_ok (oks3.le (by omega)) (by omega), by rw [al]; simp [hq2]⟩, by walk_at "ls"⟩)
            exact sd_asg (rd_addI (rd_var rfl) rd_int) (by decide) ⟨(bN s3 (4 + 9 * style), l.2 + 0 + 1), ⟨bN_ok (oks3.le (by omega)) (by omega), by rw [al]; simp⟩, by walk_at "ls"⟩
      obtain ⟨s4, p⟩ := a
      obtain ⟨oks4, al⟩ := pa
      have al : allowW cs m ws ((j : Int), p) = true := al
      have oks4 : OkP s4 (7897 - 3 * (i : Nat)) := oks4
      walk_at "dn"
      have okn : OkW cs m (ws ++ [((j : Int), p)]) (i + 1) := by
        have := OkW.app (by rw [hw]; exact okw) al
        rw [hw] at this
        exact this
      have lnn : (ws ++ [((j : Int), p)]).length = i + 1 := by rw [List.length_append, hw]; rfl
      refine sd_seq (sd_append (i := 6) rfl (rd_tup' (ra_cons (rd_var rfl) (ra_cons (rd_var rfl) ra_nil)) rfl rfl) rfl (by simp only [List.length_map]; omega) ?_)
      walk_at "dn"
      obtain ⟨n1, n2, n3⟩ := nIW_at hj
      refine sd_seq (sd_remove (i := 5) rfl (rd_var rfl) (ns := nI hs) rfl n1 n2 ?_)
      rw [n3]
      walk_at "dn"
      have h9 := List.length_erase_le (a := j) (l := hs)
      have ea : dW ws ++ [TV.D.tup [.int (j : Nat), .int p]] = dW (ws ++ [((j : Int), p)]) := by simp
      rw [ea]
      refine sd_if (rt_test (rd_opB (rd_addI (rd_var rfl) (rd_var rfl)) (rd_len (rd_var rfl) rfl))) (fun hd => ?_) (fun hd => sd_next ?_)
      · have hd : m + i < cs.length := by
          have := of_decide_eq_true hd
          rw [lcs] at this
          omega
        refine sd_append (i := 5) rfl ((rd_addI (rd_var rfl) (rd_var rfl)).is (r' := .d (.int ((m + i : Nat) : Int))) (by rw [ev])) rfl (by simp only [List.length_map]; omega) ?_
        refine ⟨_, Less.refl, s4, ws ++ [((j : Int), p)], some (.d (.int (i : Nat))), some (.d (.int (j : Nat))), some (.d (.int p)), by omega, oks4.le (by omega), lnn, okn, ?_⟩
        rw [nx, if_pos hd]
        simp
      · have hd : ¬ m + i < cs.length := by
          have := of_decide_eq_false hd
          rw [lcs] at this
          omega
        refine ⟨_, Less.refl, s4, ws ++ [((j : Int), p)], some (.d (.int (i : Nat))), some (.d (.int (j : Nat))), some (.d (.int p)), by omega, oks4.le (by omega), lnn, okn, ?_⟩
        rw [nx, if_neg hd, List.append_nil]
    · obtain ⟨s, ws, y7, y8, y9, _, oks, hw, okw, rfl⟩ := p
      rw [rngD_length] at hw oks okw
      have eh : ((many : Int)).toNat = many := rfl
      rw [eh] at hw oks okw
      refine sd_ret (ro_move rfl) ⟨fun k hk hl => by simp at hk; subst hk; exact ⟨_, rfl⟩, ?_⟩
      exact q ws s ⟨hw, okw⟩ (oks.le (by omega))

def bentV (s : Pu) (ws : List (Int × Int)) (k : Nat) : (Int × Int) × Pu :=
  let e := ws.getD k (0, 0)
  let s1 := bN s 7
  if bV s 7 = 0 then ((e.1, e.2 + 1), s1)
  else if bV s 7 = 1 then ((e.1, e.2 - 1), s1)
  else if bV s 7 = 2 then ((e.1 - 1 - bV s1 (2 * (ws.length : Nat)), e.2), bN s1 (2 * (ws.length : Nat)))
  else if bV s 7 = 3 then ((e.1 + 1 + bV s1 (2 * (ws.length : Nat)), e.2), bN s1 (2 * (ws.length : Nat)))
  else if bV s 7 = 4 then (((ws.getD (bV s1 (ws.length : Nat)).toNat (0, 0)).1, e.2 + bV (bN s1 (ws.length : Nat)) 3 - 1), bN (bN s1 (ws.length : Nat)) 3)
  else if bV s 7 = 5 then ((bV s1 (10 ^ 29) - 5 * 10 ^ 28, e.2), bN s1 (10 ^ 29))
  else ((e.1, e.2 + 2 + bV s1 (10 ^ 29)), bN s1 (10 ^ 29))
theorem bentV_ok {s : Pu} {ws : List (Int × Int)} {k : Nat} {n : Int} (h : OkP s (n + 3)) (hn : 0 < ws.length) (h0 : 0 ≤ n) : OkP (bentV s ws k).2 n := by
  have k1 : OkP (bN s 7) (n + 2) := bN_ok (h.le (by omega)) (by decide)
  have k1' : OkP (bN s 7) (n + 1) := k1.le (by omega)
  unfold bentV
  dsimp only
  split
  · exact k1.le (by omega)
  · split
    · exact k1.le (by omega)
    · split
      · exact bN_ok k1' (by omega)
      · split
        · exact bN_ok k1' (by omega)
        · split
          · exact bN_ok (bN_ok (n := n + 1) (k1.le (by omega)) (by omega)) (by decide)
          · split
            · exact bN_ok k1' (by decide)
            · exact bN_ok k1' (by decide)
def cBentB : Con := fun ts Q => ∃ (s : Pu) (ws : List (Int × Int)) (k : Nat), ts = [puT s, .d (.lst (dW ws)), .d (.int (k : Nat))] ∧ k < ws.length ∧ ws.length ≤ 200 ∧ OkP s 3 ∧ Q (.d (.tup (dI [(bentV s ws k).1.1, (bentV s ws k).1.2]))) [puT (bentV s ws k).2, .d (.lst (dW ws)), .d (.int (k : Nat))]
theorem ok_law_bent (m_len : mg "len" = none) (C_law_draw : Cal P w K mg base 1 "_law_draw" ["purse", "limit"] cDrawB) (h : Has K mg "_law_bent" s_law_bent ["purse", "told0", "k"]) : Cal P w K mg base 2 "_law_bent" ["purse", "told0", "k"] cBentB := by
  obtain ⟨f, fd, F, g, b⟩ := h
  have nd : N_law_bent.Nodup := sc_law_bent.nd
  refine Cal.mk' F g b (con_ok [0] 3 F sc_law_bent rfl (fun ts Q h => ?_) (fun ts Q h k t hk hn => ?_) fun cdv A outer s H E hr => ⟨_, (pss_cons (ps_asg (pe_ix (kix K) (pv 1) (pv 2) (fun _ _ => rfl)) (kpg_tup K rfl (pgs_cons (gnm 3 nd) (pgs_cons (gnm 4 nd) pgs_nil))))
      (pss_cons (qset 5 (kcl C_law_draw hr (by omega) (by rfl) (pa_cons (pv 0) (pa_cons pe_int pa_nil))) nd)
      (pss_cons (ps_if (pt_cmpR (keq K hr.units) (pv 5) pe_int (nomark _)) (pss_one (ps_ret (pe_tup (pa_cons (pv 3) (pa_cons (pe_op op_addX (pv 4) pe_int) pa_nil))))) pss_nil)
      (pss_cons (ps_if (pt_cmpR (keq K hr.units) (pv 5) pe_int (nomark _)) (pss_one (ps_ret (pe_tup (pa_cons (pv 3) (pa_cons (pe_op op_sub (pv 4) pe_int) pa_nil))))) pss_nil)
      (pss_cons (ps_if (pt_cmpR (keq K hr.units) (pv 5) pe_int (nomark _)) (pss_one (ps_ret (pe_tup (pa_cons (pe_op op_sub (pe_op op_sub (pv 3) pe_int) (kcl C_law_draw hr (by omega) (by rfl) (pa_cons (pv 0) (pa_cons (pe_op op_mulX pe_int (pe_callB (kclen K) (by rfl) m_len (by decide +kernel) (pa_cons (pv 1) pa_nil))) pa_nil)))) (pa_cons (pv 4) pa_nil))))) pss_nil)
      (pss_cons (ps_if (pt_cmpR (keq K hr.units) (pv 5) pe_int (nomark _)) (pss_one (ps_ret (pe_tup (pa_cons (pe_op op_addX (pe_op op_addX (pv 3) pe_int) (kcl C_law_draw hr (by omega) (by rfl) (pa_cons (pv 0) (pa_cons (pe_op op_mulX pe_int (pe_callB (kclen K) (by rfl) m_len (by decide +kernel) (pa_cons (pv 1) pa_nil))) pa_nil)))) (pa_cons (pv 4) pa_nil))))) pss_nil)
      (pss_cons (ps_if (pt_cmpR (keq K hr.units) (pv 5) pe_int (nomark _)) (pss_one (ps_ret (pe_tup (pa_cons (pe_ix (kix K) (pe_ix (kix K) (pv 1) (kcl C_law_draw hr (by omega) (by rfl) (pa_cons (pv 0) (pa_cons (pe_callB (kclen K) (by rfl) m_len (by decide +kernel) (pa_cons (pv 1) pa_nil)) pa_nil))) (fun _ _ => rfl)) pe_int (fun _ _ => rfl)) (pa_cons (pe_op op_sub (pe_op op_addX (pv 4) (kcl C_law_draw hr (by omega) (by rfl) (pa_cons (pv 0) (pa_cons pe_int pa_nil)))) pe_int) pa_nil))))) pss_nil)
      (pss_cons (ps_if (pt_cmpR (keq K hr.units) (pv 5) pe_int (nomark _)) (pss_one (ps_ret (pe_tup (pa_cons (pe_op op_sub (kcl C_law_draw hr (by omega) (by rfl) (pa_cons (pv 0) (pa_cons (pe_op op_pow pe_int pe_int) pa_nil))) (pe_op op_mulX pe_int (pe_op op_pow pe_int pe_int))) (pa_cons (pv 4) pa_nil))))) pss_nil)
      (pss_one (ps_ret (pe_tup (pa_cons (pv 3) (pa_cons (pe_op op_addX (pe_op op_addX (pv 4) pe_int) (kcl C_law_draw hr (by omega) (by rfl) (pa_cons (pv 0) (pa_cons (pe_op op_pow pe_int pe_int) pa_nil)))) pa_nil))))))))))))), fun ts Q h => ?_⟩)
  · obtain ⟨s, ws, k, rfl, _⟩ := h
    rfl
  · obtain ⟨s, ws, k', rfl, _⟩ := h
    rcases k with _ | _ | _ | k
    · simp at hn
    · simp at hk
      exact ⟨_, hk.symm⟩
    · simp at hk
      exact ⟨_, hk.symm⟩
    · simp at hk
  · obtain ⟨s, ws, k, rfl, hk, hl, ok, q⟩ := h
    have lws : (dW ws).length = ws.length := List.length_map _
    have fin : ∀ (δ : TV.Env) (s' : Pu) (x : T), δ[0]? = some (some (puT s')) → Q x [puT s', .d (.lst (dW ws)), .d (.int (k : Nat))] → (∀ j : Nat, j ∈ [0] → j < [puT s, T.d (.lst (dW ws)), .d (.int (k : Nat))].length → ∃ s, δ[j]? = some (some s)) ∧ Q x (outsOf [0] [puT s, T.d (.lst (dW ws)), .d (.int (k : Nat))] δ) := fun δ s' x h0 hq => by
      refine ⟨fun j hj hl => by simp at hj; subst hj; exact ⟨_, h0⟩, ?_⟩
      have e : outsOf [0] [puT s, T.d (.lst (dW ws)), .d (.int (k : Nat))] δ = [puT s', T.d (.lst (dW ws)), .d (.int (k : Nat))] := by
        simp [outsOf, List.mapIdx_cons, h0]
      rw [e]
      exact hq
    walk_at "dn"
    obtain ⟨⟨xi, p⟩, he⟩ : ∃ e, ws[k]? = some e := ⟨_, List.getElem?_eq_getElem hk⟩
    have eg : ws.getD k (0, 0) = (xi, p) := by rw [List.getD_eq_getElem?_getD, he]; rfl
    have hget : atI (dW ws) ((k : Nat) : Int) = some (.tup [.int xi, .int p]) := atI_nat (by rw [List.getElem?_map, he]; rfl)
    have ok1 : OkP (bN s 7) 2 := bN_ok (n := 2) ok (by decide)
    unfold bentV at q
    rw [eg] at q
    dsimp only at q
    refine sd_seq (sd_asgG (rd_ixX (rd_var rfl) (rd_var rfl) rfl hget) (gd_tup (gds_cons (gd_name (by decide)) (gds_cons (gd_name (by decide)) gds_nil)) rfl) ?_)
    walk_at "dn"
    refine sd_seq (sd_asg (rd_cw 0 (ra_cons (rd_slot rfl) (ra_cons rd_int ra_nil)) rfl rfl rfl (fun Q q => ⟨s, 7, rfl, by decide, by decide, ok.le (by decide), q⟩) rfl rfl rfl (flat_pu _)) (by decide) ?_)
    walk_at "dn"
    generalize bN s 7 = s1 at ok1 q ⊢
    generalize bV s 7 = menu at q ⊢
    refine sd_seq (sd_if (rt_test (rd_eqXI (rd_var rfl) rd_int)) (fun hb => ?_) (fun hb => sd_next ?_))
    · rw [if_pos (of_decide_eq_true hb)] at q
      refine' sd_retD (rd_tup' (ra_cons (rd_var rfl) (ra_cons (rd_addI (rd_var rfl) rd_int) ra_nil)) rfl rfl) ?hf0
      case hf0 => exact fin _ s1 _ rfl q
    rw [if_neg (of_decide_eq_false hb)] at q
    refine sd_seq (sd_if (rt_test (rd_eqXI (rd_var rfl) rd_int)) (fun hb => ?_) (fun hb => sd_next ?_))
    · rw [if_pos (of_decide_eq_true hb)] at q
      refine' sd_retD (rd_tup' (ra_cons (rd_var rfl) (ra_cons (rd_subI (rd_var rfl) rd_int) ra_nil)) rfl rfl) ?hf1
      case hf1 => exact fin _ s1 _ rfl q
    rw [if_neg (of_decide_eq_false hb)] at q
    refine sd_seq (sd_if (rt_test (rd_eqXI (rd_var rfl) rd_int)) (fun hb => ?_) (fun hb => sd_next ?_))
    · rw [if_pos (of_decide_eq_true hb)] at q
      refine' sd_retD (rd_tup' (rs := [.d (.int (xi - 1 - bV s1 (2 * (ws.length : Nat)))), .d (.int p)]) (ra_cons (rd_subI (rd_subI (rd_var rfl) rd_int) ?hc2) (ra_cons ?hv2 ra_nil)) rfl rfl) ?hf2
      case hc2 => exact rd_cw 0 (ra_cons (rd_slot rfl) (ra_cons (rd_mulI rd_int (rd_len (n := ws.length) (rd_var rfl) (by rw [← lws]; rfl)) (big_mul (a := 100) (b := 100) (by decide) (by omega) (by decide) (by decide) (by decide))) ra_nil)) rfl rfl rfl (fun Q q => ⟨s1, 2 * (ws.length : Nat), rfl, by omega, by omega, ok1.le (by decide), q⟩) rfl rfl rfl (flat_pu _)
      case hv2 => exact rd_var rfl
      case hf2 => exact fin _ (bN s1 (2 * (ws.length : Nat))) _ rfl q
    rw [if_neg (of_decide_eq_false hb)] at q
    refine sd_seq (sd_if (rt_test (rd_eqXI (rd_var rfl) rd_int)) (fun hb => ?_) (fun hb => sd_next ?_))
    · rw [if_pos (of_decide_eq_true hb)] at q
      refine' sd_retD (rd_tup' (rs := [.d (.int (xi + 1 + bV s1 (2 * (ws.length : Nat)))), .d (.int p)]) (ra_cons (rd_addI (rd_addI (rd_var rfl) rd_int) ?hc3) (ra_cons ?hv3 ra_nil)) rfl rfl) ?hf3
      case hc3 => exact rd_cw 0 (ra_cons (rd_slot rfl) (ra_cons (rd_mulI rd_int (rd_len (n := ws.length) (rd_var rfl) (by rw [← lws]; rfl)) (big_mul (a := 100) (b := 100) (by decide) (by omega) (by decide) (by decide) (by decide))) ra_nil)) rfl rfl rfl (fun Q q => ⟨s1, 2 * (ws.length : Nat), rfl, by omega, by omega, ok1.le (by decide), q⟩) rfl rfl rfl (flat_pu _)
      case hv3 => exact rd_var rfl
      case hf3 => exact fin _ (bN s1 (2 * (ws.length : Nat))) _ rfl q
    rw [if_neg (of_decide_eq_false hb)] at q
    refine sd_seq (sd_if (rt_test (rd_eqXI (rd_var rfl) rd_int)) (fun hb => ?_) (fun hb => sd_next ?_))
    · rw [if_pos (of_decide_eq_true hb)] at q
      have ok2 : OkP (bN s1 (ws.length : Nat)) 1 := bN_ok (n := 1) ok1 (by omega)
      have u0 := bV_nn s1 (m := (ws.length : Nat)) (by omega)
      have u1 := bV_lt s1 (m := (ws.length : Nat)) (by omega)
      obtain ⟨⟨x2, p2⟩, he2⟩ : ∃ e, ws[(bV s1 (ws.length : Nat)).toNat]? = some e := ⟨_, List.getElem?_eq_getElem (by omega)⟩
      have eg2 : ws.getD (bV s1 (ws.length : Nat)).toNat (0, 0) = (x2, p2) := by rw [List.getD_eq_getElem?_getD, he2]; rfl
      have hget2 : atI (dW ws) (bV s1 (ws.length : Nat)) = some (.tup [.int x2, .int p2]) := atI_nat' (j := (bV s1 (ws.length : Nat)).toNat) (by omega) (by rw [List.getElem?_map, he2]; rfl)
      rw [eg2] at q
      refine' sd_retD (rd_tup' (rs := [.d (.int x2), .d (.int (p + bV (bN s1 (ws.length : Nat)) 3 - 1))]) (ra_cons (rd_ixXT (rd_ixX (rd_var rfl) ?hc4 rfl hget2) rd_int rfl) (ra_cons (rd_subI (rd_addI ?hv4 ?hd4) rd_int) ra_nil)) rfl rfl) ?hf4
      case hc4 => exact rd_cw 0 (ra_cons (rd_slot rfl) (ra_cons (rd_len (n := ws.length) (rd_var rfl) (by rw [← lws]; rfl)) ra_nil)) rfl rfl rfl (fun Q q => ⟨s1, (ws.length : Nat), rfl, by omega, by omega, ok1.le (by decide), q⟩) rfl rfl rfl (flat_pu _)
      case hv4 => exact rd_var rfl
      case hd4 => exact rd_cw 0 (ra_cons (rd_slot rfl) (ra_cons rd_int ra_nil)) rfl rfl rfl (fun Q q => ⟨bN s1 (ws.length : Nat), 3, rfl, by decide, by decide, ok2.le (by decide), q⟩) rfl rfl rfl (flat_pu _)
      case hf4 => exact fin _ (bN (bN s1 (ws.length : Nat)) 3) _ rfl q
    rw [if_neg (of_decide_eq_false hb)] at q
    refine sd_seq (sd_if (rt_test (rd_eqXI (rd_var rfl) rd_int)) (fun hb => ?_) (fun hb => sd_next ?_))
    · rw [if_pos (of_decide_eq_true hb)] at q
      refine' sd_retD (rd_tup' (rs := [.d (.int (bV s1 (10 ^ 29) - 5 * 10 ^ 28)), .d (.int p)]) (ra_cons (rd_subI ?hc5 ?hw5) (ra_cons ?hv5 ra_nil)) rfl rfl) ?hf5
      case hc5 => exact rd_cw 0 (ra_cons (rd_slot rfl) (ra_cons (rd_powI rd_int rd_int (by walk_at "sc")) ra_nil)) rfl rfl rfl (fun Q q => ⟨s1, 10 ^ 29, rfl, by decide, by decide, ok1.le (by decide), q⟩) rfl rfl rfl (flat_pu _)
      case hw5 => exact rd_mulI rd_int (rd_powI rd_int rd_int (by walk_at "sc")) (big_mul (a := 100) (b := 100) (by decide) (by decide) (by decide) (by decide) (by decide))
      case hv5 => exact rd_var rfl
      case hf5 => exact fin _ (bN s1 (10 ^ 29)) _ rfl q
    rw [if_neg (of_decide_eq_false hb)] at q
    refine' sd_retD (rd_tup' (ra_cons (rd_var rfl) (ra_cons (rd_addI (rd_addI (rd_var rfl) rd_int) ?hc6) ra_nil)) rfl rfl) ?hf6
    case hc6 => exact rd_cw 0 (ra_cons (rd_slot rfl) (ra_cons (rd_powI rd_int rd_int (by walk_at "sc")) ra_nil)) rfl rfl rfl (fun Q q => ⟨s1, 10 ^ 29, rfl, by decide, by decide, ok1.le (by decide), q⟩) rfl rfl rfl (flat_pu _)
    case hf6 => exact fin _ (bN s1 (10 ^ 29)) _ rfl q

def fLaw : List TV.D → (T → Prop) → Prop := fun ds Q => ∃ ns : List Int, ds = [.scr (dI ns)] ∧ ns.length ≤ 63 ∧ Q (.d (.bl true))

def beginB (cs : List Int) (m : Nat) (ws : List (Int × Int)) : Bool := (faultN cs m ws).isNone
def fBegin : List TV.D → (T → Prop) → Prop := fun ds Q => ∃ (cs : List Int) (hand : Int) (ws : List (Int × Int)), ds = [.lst (dI cs), .int hand, .lst (dW ws)] ∧ 1 ≤ hand ∧ cs.length ≤ 200 ∧ ws.length ≤ 200 ∧ Q (.d (.bl (beginB cs hand.toNat ws)))
theorem faultN_lt {cs : List Int} {m : Nat} {ws : List (Int × Int)} {k : Nat} (h : faultN cs m ws = some k) : k < ws.length := by
  unfold faultN at h
  have := List.mem_of_find?_eq_some h
  simpa using this
/-- fault is None or fault == len(told) -/
theorem begin_due {cs : List Int} {m : Nat} {ws : List (Int × Int)} : (isNonA (.d (faultD cs m ws)) = true ∧ beginB cs m ws = true) ∨ ∃ k : Nat, faultD cs m ws = .int (k : Nat) ∧ beginB cs m ws = decide ((k : Int) = (ws.length : Nat)) := by
  unfold beginB
  cases h : faultN cs m ws with
  | some k =>
    refine .inr ⟨k, by unfold faultD; rw [h], ?_⟩
    have := faultN_lt h
    show false = _
    rw [decide_eq_false]
    omega
  | none =>
    by_cases hl : ws.length < cs.length
    · exact .inr ⟨ws.length, by unfold faultD; rw [h]; exact if_pos hl, by simp⟩
    · refine .inl ⟨?_, rfl⟩
      unfold faultD
      rw [h]
      simp only [if_neg hl]
      rfl
theorem beginN_flat (cs : List Int) (m : Nat) (ws : List (Int × Int)) : flatD (faultD cs m ws) = true := by
  unfold faultD
  split
  · rfl
  · split <;> rfl
theorem ok_is_beginning (m_len : mg "len" = none) (C_first_fault : Cal P w K mg base 3 "first_fault" ["row", "hand", "told"] (rdC 3 fFault)) (h : Has K mg "is_beginning" s_is_beginning ["row", "hand", "told"]) : Cal P w K mg base 4 "is_beginning" ["row", "hand", "told"] (rdC 3 fBegin) ∧ CalK P w K mg base 4 "is_beginning" ["row", "hand", "told"] ["told", "row", "hand"] (gK 3 [1, 2, 0]) (rdC 3 fBegin) := by
  obtain ⟨f, fd, F, g, b⟩ := h
  have nd : N_is_beginning.Nodup := sc_is_beginning.nd
  suffices hF : FnOk P w K mg base CX0 4 f fd ["row", "hand", "told"] (spOf K (rdC 3 fBegin)) from ⟨Cal.mk' F g b hF, CalK.mk' F g hF (kb_of F (by decide) fun _ _ _ _ _ _ ws hl => match ws, hl with | [_, _, _], _ => rfl)⟩
  refine rd_okF 3 1 _ F sc_is_beginning rfl rfl fun cdv A outer s H E hr => ⟨_, (pss_cons (qset 3 (kcl C_first_fault hr (by omega) (by rfl) (pa_cons (pv 0) (pa_cons (pv 1) (pa_cons (pv 2) pa_nil)))) nd)
      (pss_one (ps_ret (kor K (pe_cmp (pc_isN (pv 3))) (pe_one (pe_cmpR (keq K hr.units) (pv 3) (pe_callB (kclen K) (by rfl) m_len (by decide +kernel) (pa_cons (pv 2) pa_nil)) (nomark _))))))), fun ds Q h hl => ?_⟩
  obtain ⟨cs, hand, ws, rfl, h1, h2, h3, q⟩ := h
  walk_at "dn"
  have lws : (dW ws).length = ws.length := List.length_map _
  have hf : ∀ Q : T → Prop, Q (.d (faultD cs hand.toNat ws)) → fFault [.lst (dI cs), .int hand, .lst (dW ws)] Q := fun Q q => ⟨cs, hand, ws, rfl, h1, h2, h3, q⟩
  refine sd_seq (sd_asg (rd_callQ (ra_cons (rd_var rfl) (ra_cons (rd_var rfl) (ra_cons (rd_var rfl) ra_nil))) rfl rfl rfl hf (beginN_flat _ _ _)) (by decide) ?_)
  walk_at "dn"
  rcases begin_due (cs := cs) (m := hand.toNat) (ws := ws) with ⟨e1, e2⟩ | ⟨k, e1, e2⟩
  · rw [e2] at q
    exact sd_retD (Rd.is (rd_orTB (a := true) (b := true) (Rd.is (rd_isN (x := faultD cs hand.toNat ws) (rd_var rfl)) (by rw [e1])) (fun z => by cases z)) rfl) q
  · rw [e2] at q
    rw [e1]
    exact sd_retD (Rd.is (rd_orTB (a := false) (b := decide ((k : Int) = (ws.length : Nat))) (rd_isN (x := .int (k : Nat)) (rd_var rfl)) (fun _ => rd_eqXI (rd_var rfl) (rd_len (n := ws.length) (rd_var rfl) (by rw [← lws]; rfl)))) (by rw [Bool.false_or])) q

theorem begin_of {cs : List Int} {m : Nat} {ws : List (Int × Int)} (ok : OkW cs m ws ws.length) : beginB cs m ws = true := by
  have ef : faultN cs m ws = none := find_no (fun j hj => by rw [ok j hj]; rfl)
  unfold beginB
  rw [ef]
  rfl
theorem OkW.take {cs : List Int} {m : Nat} {ws : List (Int × Int)} {k : Nat} (ok : OkW cs m ws k) (hk : k ≤ ws.length) : OkW cs m (ws.take k) (ws.take k).length := fun j hj => by
  rw [List.length_take] at hj
  have := ok j (by omega)
  rw [List.take_take, show min j k = j by omega, List.getD_eq_getElem?_getD, List.getElem?_take_of_lt (by omega), ← List.getD_eq_getElem?_getD]
  exact this
theorem begin_bad {cs : List Int} {m : Nat} {ws : List (Int × Int)} {e : Int × Int} (he : allowW cs m ws e = false) : beginB cs m (ws ++ [e]) = false := by
  unfold beginB faultN
  rw [Option.isNone_eq_false_iff, List.find?_isSome]
  refine ⟨ws.length, by simp, ?_⟩
  rw [List.take_append_of_le_length (Nat.le_refl _), List.take_length, List.getD_eq_getElem?_getD, List.getElem?_append_right (Nat.le_refl _), Nat.sub_self]
  show (!allowW cs m ws e) = true
  rw [he]
  rfl
theorem cutW_map {α β : Type} (f : α → β) (l : List α) (lo hi : Option Int) : cutL (l.map f) lo hi = (cutL l lo hi).map f := by
  unfold cutL
  simp [List.map_take, List.map_drop]
theorem cutL_le {α : Type} (l : List α) (lo hi : Option Int) : (cutL l lo hi).length ≤ l.length := by
  unfold cutL
  simp
  omega
theorem ok_law (m_range : mg "range" = none) (m_len : mg "len" = none) (m_list : mg "list" = none)
    (C_is_beginning : Cal P w K mg base 4 "is_beginning" ["row", "hand", "told"] (rdC 3 fBegin))
    (C_law_same : Cal P w K mg base 1 "_law_same" ["found", "due"] (rdC 2 (fLike 1)))
    (C_law_fault : Cal P w K mg base 1 "_law_fault" ["row0", "hand0", "told0"] (rdC 3 fFault))
    (C_law_bent : Cal P w K mg base 2 "_law_bent" ["purse", "told0", "k"] cBentB)
    (C_law_way : Cal P w K mg base 2 "_law_way" ["purse", "row0", "hand0", "many"] cWayB)
    (C_law_hand : Cal P w K mg base 2 "_law_hand" ["purse", "many"] cHandB)
    (C_law_row : Cal P w K mg base 3 "_law_row" ["purse", "most"] cRowB)
    (C_law_draw : Cal P w K mg base 1 "_law_draw" ["purse", "limit"] cDrawB)
    (C_law_purse : Cal P w K mg base 1 "_law_purse" ["script"] (rdC 1 fPurse))
    (CK_is_beginning_told_row_hand : CalK P w K mg base 4 "is_beginning" ["row", "hand", "told"] ["told", "row", "hand"] (gK 3 [1, 2, 0]) (rdC 3 fBegin))
    {f : Addr} {fd : FuncData} (F : Fun K "law" "law" s_law f fd) : FnOk P w K mg base CX0 5 f fd ["script"] (spOf K (rdC 1 fLaw)) := by
  have nd : N_law.Nodup := sc_law.nd
  refine rd_okF 1 11 _ F sc_law rfl rfl fun cdv A outer s H E hr => ⟨_, (pss_cons (qset 1 (kcl C_law_purse hr (by omega) (by rfl) (pa_cons (pv 0) pa_nil)) nd)
      (pss_cons (qset 2 (pe_op op_addX pe_int (kcl C_law_draw hr (by omega) (by rfl) (pa_cons (pv 1) (pa_cons pe_int pa_nil)))) nd)
      (pss_cons (qset 3 (kcl C_law_row hr (by omega) (by rfl) (pa_cons (pv 1) (pa_cons pe_int pa_nil))) nd)
      (pss_cons (qset 4 (kcl C_law_hand hr (by omega) (by rfl) (pa_cons (pv 1) (pa_cons (pe_callB (kclen K) (by rfl) m_len (by decide +kernel) (pa_cons (pv 3) pa_nil)) pa_nil))) nd)
      (pss_cons (qset 5 (kcl C_law_way hr (by omega) (by rfl) (pa_cons (pv 1) (pa_cons (pv 3) (pa_cons (pv 4) (pa_cons (pe_callB (kclen K) (by rfl) m_len (by decide +kernel) (pa_cons (pv 3) pa_nil)) pa_nil))))) nd)
      (pss_cons (qset 6 (pe_callTy (kclist K) (by rfl) m_list (by decide +kernel) (pa_cons (pv 3) pa_nil)) nd)
      (pss_cons (ps_for PassesOwn.never rfl (pi_range1 (by rfl) m_range (pa_cons (pe_op op_addX (pe_callB (kclen K) (by rfl) m_len (by decide +kernel) (pa_cons (pv 3) pa_nil)) pe_int) pa_nil)) (gnm 7 nd) (pss_cons (qset 8 (pe_slice (ksl K) (pv 5) po_none (po_some (pv 7))) nd)
      (pss_one (ps_if (PW.pt (pw_or (pt_cmpR knotB (kcl C_is_beginning hr (by omega) (by rfl) (pa_cons (pv 6) (pa_cons (pv 4) (pa_cons (pv 8) pa_nil)))) pe_bl (nomark _)) (pw_or1 (pt_cmpR (kne K hr.units) (pv 8) (pe_slice (ksl K) (pv 5) po_none (po_some (pv 7))) (nomark _))))) (pss_one (ps_ret pe_bl)) pss_nil))))
      (pss_cons (ps_for PassesOwn.never rfl (pi_range3 (by rfl) m_range (pa_cons pe_int (pa_cons (pe_callB (kclen K) (by rfl) m_len (by decide +kernel) (pa_cons (pv 3) pa_nil)) (pa_cons (pv 2) pa_nil)))) (gnm 9 nd) (pss_cons (qset 8 (pe_op op_addX (pe_op op_addX (pe_slice (ksl K) (pv 5) po_none (po_some (pv 9))) (pe_lst (pa_cons (kcl C_law_bent hr (by omega) (by rfl) (pa_cons (pv 1) (pa_cons (pv 5) (pa_cons (pv 9) pa_nil)))) pa_nil))) (pe_slice (ksl K) (pv 5) (po_some (pe_op op_addX (pv 9) pe_int)) (po_some (pe_op op_addX (pe_op op_addX (pv 9) pe_int) (pe_op op_mod (pv 9) pe_int))))) nd)
      (pss_cons (qset 10 (kcl C_law_fault hr (by omega) (by rfl) (pa_cons (pv 3) (pa_cons (pv 4) (pa_cons (pv 8) pa_nil)))) nd)
      (pss_cons (qset 11 (kor K (pe_cmp (pc_isN (pv 10))) (pe_one (pe_cmpR (keq K hr.units) (pv 10) (pe_callB (kclen K) (by rfl) m_len (by decide +kernel) (pa_cons (pv 8) pa_nil)) (nomark _)))) nd)
      (pss_cons (ps_if (pt_not (ktruth K (kcl C_law_same hr (by omega) (by rfl) (pa_cons (kclK CK_is_beginning_told_row_hand hr (by omega) (by rfl) (pk_cons (pe_callTy (kclist K) (by rfl) m_list (by decide +kernel) (pa_cons (pv 8) pa_nil)) (pk_cons (pv 6) (pk_cons (pv 4) pk_nil)))) (pa_cons (pv 11) pa_nil))))) (pss_one (ps_ret pe_bl)) pss_nil)
      (pss_cons (ps_asg (pe_ix (kix K) (pv 5) (pv 9) (fun _ _ => rfl)) (pg_sub (pv 8) (pv 9) set_list))
      (pss_one (ps_if (pt_not (ktruth K (kcl C_law_same hr (by omega) (by rfl) (pa_cons (kcl C_is_beginning hr (by omega) (by rfl) (pa_cons (pv 6) (pa_cons (pv 4) (pa_cons (pe_slice (ksl K) (pv 8) po_none (po_some (pe_op op_addX (pv 9) pe_int))) pa_nil)))) (pa_cons pe_bl pa_nil))))) (pss_one (ps_ret pe_bl)) pss_nil))))))))
      (pss_one (ps_ret (kand K (pe_cmpR kisB (kcl C_is_beginning hr (by omega) (by rfl) (pa_cons (pv 6) (pa_cons (pv 4) (pa_cons (pe_op op_addX (pv 5) (pe_lst (pa_cons (pe_tup (pa_cons pe_int (pa_cons pe_int pa_nil))) pa_nil))) pa_nil)))) pe_bl (nomark _)) (pe_one (pe_cmpR (keq K hr.units) (pv 6) (pv 3) (nomark _)))))))))))))), fun ds Q h hl => ?_⟩
  obtain ⟨ns, rfl, h1, q⟩ := h
  walk_at "dn"
  refine sd_seq (sd_asgO (ro_callR (ra_cons (rd_var rfl) ra_nil) rfl (fun Q q => ⟨ns, rfl, h1, q⟩) rfl (flat_pu _)) (by decide) ?_)
  walk_at "dn"
  have k0 := purse_ok ns
  generalize (⟨0, 0, 0, 0, ns.map fun c : Int => (c.natAbs : Int)⟩ : Pu) = s0 at k0 ⊢
  have v0 := bV_nn s0 (m := 5) (by decide)
  have v1 := bV_lt s0 (m := 5) (by decide)
  obtain ⟨stp, hstp⟩ := Int.eq_ofNat_of_zero_le (show 0 ≤ 1 + bV s0 5 by omega)
  refine sd_seq (sd_asg (rd_addI rd_int (rd_cw 0 (ra_cons (rd_slot rfl) (ra_cons rd_int ra_nil)) rfl rfl rfl (fun Q q => ⟨s0, 5, rfl, by decide, by decide, k0.le (by decide), q⟩) rfl rfl rfl (flat_pu _))) (by decide) ?_)
  rw [hstp]
  have k1 : OkP (bN s0 5) 10000 := bN_ok (n := 10000) (k0.le (by decide)) (by decide)
  have stp0 : 0 < stp := by omega
  have stp1 : stp ≤ 5 := by omega
  clear hstp v0 v1
  generalize bN s0 5 = s1 at k1 ⊢
  walk_at "dn"
  refine sd_seq (sd_asgO (ro_cw 0 (ra_cons (rd_slot rfl) (ra_cons rd_int ra_nil)) rfl rfl rfl (fun Q q => ⟨s1, 24, rfl, by decide, k1, q⟩) rfl rfl (flat_int _) (flat_pu _)) (by decide) ?_)
  have lr := rowB_len s1 24
  have k2 := rowB_ok k1 (show 24 ≤ 100 by decide)
  have e9 : rowB s1 ((24 : Nat) : Int) = rowB s1 24 := rfl
  rw [e9] at lr k2
  generalize rowB s1 24 = c at lr k2 ⊢
  obtain ⟨cs, s2⟩ := c
  dsimp only at lr k2 ⊢
  have lcs : (dI cs).length = cs.length := List.length_map _
  walk_at "dn"
  refine sd_seq (sd_asg (rd_cw 0 (ra_cons (rd_slot rfl) (ra_cons (rd_len (rd_slot rfl) rfl) ra_nil)) rfl rfl rfl (fun Q q => ⟨s2, ((dI cs).length : Nat), rfl, by omega, by omega, k2.le (by decide), q⟩) rfl rfl rfl (flat_pu _)) (by decide) ?_)
  have r1 := handB_pos (s := s2) (many := ((dI cs).length : Nat)) (by omega)
  have k3 : OkP (handB s2 ((dI cs).length : Nat)).2 8500 := handB_ok (n := 8500) (by omega) (k2.le (by decide))
  generalize handB s2 ((dI cs).length : Nat) = c at r1 k3 ⊢
  obtain ⟨hand, s3⟩ := c
  dsimp only at r1 k3 ⊢
  walk_at "dn"
  refine sd_seq (sd_asgW (fun τ outs => ∃ (ws : List (Int × Int)) (s' : Pu), WayW cs hand.toNat cs.length ws ∧ OkP s' 7000 ∧ τ = .ls (dW ws) ∧ outs = [puT s', .d (.lst (dI cs)), .d (.int hand), .d (.int (cs.length : Nat))]) 0 (ra_cons (rd_slot rfl) (ra_cons (rd_slot rfl) (ra_cons (rd_var rfl) (ra_cons (rd_len (n := cs.length) (rd_slot rfl) (by rw [← lcs]; rfl)) ra_nil)))) rfl rfl rfl (fun Q q => ⟨s3, cs, hand, cs.length, rfl, r1, by omega, Nat.le_refl _, k3.le (by decide), fun ws s' a b => q _ _ ⟨ws, s', a, b, rfl, rfl⟩⟩) (by decide) (fun τ outs hh => ?_))
  obtain ⟨ws, s5, ww, k5, rfl, rfl⟩ := hh
  refine ⟨puT s5, rfl, rfl, flat_dW _, flat_pu _, ?_⟩
  walk_at "dn"
  have lw := ww.ln
  have okw := ww.ok
  have lws : (dW ws).length = ws.length := List.length_map _
  have hbg : ∀ (vs : List (Int × Int)), vs.length ≤ 200 → ∀ Q : T → Prop, Q (.d (.bl (beginB cs hand.toNat vs))) → fBegin [.lst (dI cs), .int hand, .lst (dW vs)] Q := fun vs hv Q q => ⟨cs, hand, vs, rfl, r1, by omega, hv, q⟩
  have hpre : ∀ i, i ≤ cs.length → ∀ Q : T → Prop, Q (.d (.bl true)) → fBegin [.lst (dI cs), .int hand, .lst ((dW ws).take i)] Q := fun i hi Q q => by
    have e1 : (dW ws).take i = dW (ws.take i) := by simp [dW, List.map_take]
    have e2 : beginB cs hand.toNat (ws.take i) = true := begin_of (OkW.take (fun j hj => okw j (by omega)) (by omega))
    rw [e1]
    exact hbg _ (by rw [List.length_take]; omega) Q (by rw [e2]; exact q)
  refine sd_seq (sd_asgO (ro_list (rd_slot rfl) rfl) (by decide) ?_)
  walk_at "dn"
  refine sd_seq (sd_for (wk_range1 (ra_cons (rd_addI (rd_len (rd_slot rfl) rfl) rd_int) ra_nil) (by omega) (by omega)) (fun i δ => ∃ (y7 y8 : Option T), δ = [some (.d (.scr (dI ns))), some (puT s5), some (.d (.int (stp : Nat))), some (.ls (dI cs)), some (.d (.int hand)), some (.ls (dW ws)), some (.ls (dI cs)), y7, y8, none, none, none]) ⟨none, none, rfl⟩ (fun i δ p => fun p hp => by simp at hp) (fun i x δ hx p => ?_) (fun δ p => ?_))
  · obtain ⟨y7, y8, rfl⟩ := p
    obtain ⟨hi, rfl⟩ := rng0_get hx
    have hi : i ≤ cs.length := by omega
    refine ⟨_, gd_name (fun z => by simp [keepS, keepA] at z), ?_⟩
    show Sd K [] _ _ _
    walk_at "dn"
    refine sd_seq (sd_asgO (ro_takeX (rd_slot rfl) (rn_some (rd_var rfl)) rfl (by omega)) (by decide) ?_)
    walk_at "dn"
    refine sd_chk (rt_orF (Rt.is (rt_test (rd_notB (rd_callQ (ra_cons (rd_slot rfl) (ra_cons (rd_var rfl) (ra_cons (rd_slot rfl) ra_nil))) rfl rfl rfl (hpre i hi) rfl) rd_bl)) rfl) (rt_test (rd_neSame (x := .lst ((dW ws).take ((i : Nat) : Int).toNat)) (rd_slot rfl) (Ro.frz (ro_takeX (rd_slot rfl) (rn_some (rd_var rfl)) rfl (by omega)) rfl) rfl rfl ?_))) (sd_next ⟨_, Less.refl, _, _, rfl⟩)
    have e1 : (dW ws).take ((i : Nat) : Int).toNat = dW (ws.take i) := by simp [dW, List.map_take]
    rw [e1]
    exact okW _
  obtain ⟨y7, y8, rfl⟩ := p
  walk_at "dn"
  refine sd_seq (sd_for (wk_rangeStep (c := stp) (n := cs.length) (ra_cons rd_int (ra_cons (rd_len (n := cs.length) (rd_slot rfl) (by rw [← lcs]; rfl)) (ra_cons (rd_var rfl) ra_nil))) stp0 (by omega) (by omega)) (fun i δ => ∃ (s : Pu) (y8 y9 y10 y11 : Option T), OkP s (6999 - 3 * (i : Nat)) ∧ δ = [some (.d (.scr (dI ns))), some (puT s), some (.d (.int (stp : Nat))), some (.ls (dI cs)), some (.d (.int hand)), some (.ls (dW ws)), some (.ls (dI cs)), y7, y8, y9, y10, y11]) ⟨s5, _, _, _, _, k5.le (by omega), rfl⟩ (fun i δ p => fun p hp => by simp at hp) (fun i x δ hx p => ?_) (fun δ p => ?_))
  · obtain ⟨s, y8, y9, y10, y11, oks, rfl⟩ := p
    obtain ⟨hk, rfl⟩ := rngStep_get stp0 hx
    have hik : i ≤ stp * i := Nat.le_mul_of_pos_left i stp0
    generalize stp * i = k at hk hik ⊢
    refine ⟨_, gd_name (fun z => by simp [keepS, keepA] at z), ?_⟩
    show Sd K [] _ _ _
    walk_at "dn"
    have okb : OkP (bentV s ws k).2 (6996 - 3 * (i : Nat)) := bentV_ok (oks.le (by omega)) (by omega) (by omega)
    obtain ⟨vs, hvs, hvl, hv1, hv2⟩ : ∃ vs : List (Int × Int), ((dW ws).take ((k : Nat) : Int).toNat ++ [.tup (dI [(bentV s ws k).1.1, (bentV s ws k).1.2])]) ++ cutL (dW ws) (some ((k : Int) + 1)) (some ((k : Int) + 2 + (k : Int) % 3)) = dW vs ∧ vs.length ≤ 200 ∧ k < vs.length ∧ vs.take k = ws.take k := by
      refine ⟨ws.take k ++ [(bentV s ws k).1] ++ cutL ws (some ((k : Int) + 1)) (some ((k : Int) + 2 + (k : Int) % 3)), ?_, ?_, ?_, ?_⟩
      · rw [cutW_map]
        simp [dW, List.map_take]
      · have := cutL_le ws (some ((k : Int) + 1)) (some ((k : Int) + 2 + (k : Int) % 3))
        simp
        omega
      · simp
        omega
      · rw [List.append_assoc, List.take_append_of_le_length (by simp; omega), List.take_take, Nat.min_self]
    have hl3 := cutL_le (dW ws) (some ((k : Int) + 1)) (some ((k : Int) + 2 + (k : Int) % 3))
    refine' sd_seq (sd_asgO (δ1 := [some (.d (.scr (dI ns))), some (puT (bentV s ws k).2), some (.d (.int (stp : Nat))), some (.ls (dI cs)), some (.d (.int hand)), some (.ls (dW ws)), some (.ls (dI cs)), y7, y8, some (.d (.int (k : Nat))), y10, y11]) (τ := .ls (dW vs)) ?hw (by decide) ?hn)
    case hw =>
      refine Ro.is (r := .ls (((dW ws).take ((k : Nat) : Int).toNat ++ [.tup (dI [(bentV s ws k).1.1, (bentV s ws k).1.2])]) ++ cutL (dW ws) (some ((k : Int) + 1)) (some ((k : Int) + 2 + (k : Int) % 3)))) ?_ (by rw [hvs])
      exact rd_addL (Ro.frz (rd_addL (Ro.frz (ro_takeX (rd_slot rfl) (rn_some (rd_var rfl)) rfl (by omega)) rfl) (Ro.frz (ro_lst' (ra_cons (rd_cw 0 (ra_cons (rd_slot rfl) (ra_cons (rd_slot rfl) (ra_cons (rd_var rfl) ra_nil))) rfl rfl rfl (fun Q q => ⟨s, ws, k, rfl, by omega, by omega, oks.le (by omega), q⟩) rfl rfl rfl (flat_pu _)) ra_nil) rfl rfl) rfl) rfl rfl (by simp; omega)) rfl) (Ro.frz (ro_slice (rd_slot rfl) (rn_some (rd_addI (rd_var rfl) rd_int)) (rn_some (rd_addI (rd_addI (rd_var rfl) rd_int) (rd_modI (rd_var rfl) rd_int (by decide)))) rfl) rfl) rfl rfl (by simp at hl3 ⊢; omega)
    walk_at "dn"
    have hf : ∀ Q : T → Prop, Q (.d (faultD cs hand.toNat vs)) → fFault [.lst (dI cs), .int hand, .lst (dW vs)] Q := fun Q q => ⟨cs, hand, vs, rfl, r1, by omega, hvl, q⟩
    refine sd_seq (sd_asg (rd_callQ (ra_cons (rd_slot rfl) (ra_cons (rd_var rfl) (ra_cons (rd_slot rfl) ra_nil))) rfl rfl rfl hf (beginN_flat _ _ _)) (by decide) ?_)
    walk_at "dn"
    have lvs : (dW vs).length = vs.length := List.length_map _
    refine sd_seq (sd_asg (δ1 := [some (.d (.scr (dI ns))), some (puT (bentV s ws k).2), some (.d (.int (stp : Nat))), some (.ls (dI cs)), some (.d (.int hand)), some (.ls (dW ws)), some (.ls (dI cs)), y7, some (.ls (dW vs)), some (.d (.int (k : Nat))), some (.d (faultD cs hand.toNat vs)), y11]) (x := .bl (beginB cs hand.toNat vs)) ?_ (by decide) ?_)
    · rcases begin_due (cs := cs) (m := hand.toNat) (ws := vs) with ⟨e1, e2⟩ | ⟨j, e1, e2⟩
      · rw [e2]
        exact Rd.is (rd_orTB (a := true) (b := true) (Rd.is (rd_isN (x := faultD cs hand.toNat vs) (rd_var rfl)) (by rw [e1])) (fun z => by cases z)) rfl
      · rw [e2, e1]
        exact Rd.is (rd_orTB (a := false) (b := decide ((j : Int) = (vs.length : Nat))) (rd_isN (x := .int (j : Nat)) (rd_var rfl)) (fun _ => rd_eqXI (rd_var rfl) (rd_len (n := vs.length) (rd_slot rfl) (by rw [← lvs]; rfl)))) (by rw [Bool.false_or])
    walk_at "dn"
    have hs : ∀ (b : Bool) (Q : T → Prop), Q (.d (.bl true)) → fLike 1 [.bl b, .bl b] Q := fun b Q q => ⟨_, rfl, trivial, q⟩
    refine sd_seq (sd_chk (rt_notF (rt_truK (rd_callQ (ra_cons (Ro.frz (ro_callKQ (τ := .d (.bl (beginB cs hand.toNat vs))) (rs := [.d (.lst (dW vs)), .sl 6, .d (.int hand)]) (ra_cons (Ro.frz (ro_list (rd_slot rfl) rfl) rfl) (ra_cons (rd_slot rfl) (ra_cons (rd_var rfl) ra_nil))) rfl rfl rfl rfl rfl (hbg vs hvl) rfl) rfl) (ra_cons (rd_var rfl) ra_nil)) rfl rfl rfl (hs _) rfl) rfl)) (sd_next ?_))
    obtain ⟨e, he⟩ : ∃ e, ws[k]? = some e := ⟨_, List.getElem?_eq_getElem (by omega)⟩
    have hget : atI (dW ws) ((k : Nat) : Int) = some (.tup (dI [e.1, e.2])) := atI_nat (by rw [List.getElem?_map, he]; rfl)
    refine sd_seq (sd_setL (i := 8) (j := k) (rd_ixX (rd_slot rfl) (rd_var rfl) rfl hget) (rd_var rfl) rfl rfl (by unfold ixN; rw [if_pos (by omega), if_pos (by omega)]; simp) ?_)
    walk_at "dn"
    have hset : ((dW vs).set k (.tup (dI [e.1, e.2]))).take (((k : Nat) : Int) + 1).toNat = (dW ws).take (k + 1) := by
      have e1 : (((k : Nat) : Int) + 1).toNat = k + 1 := by omega
      rw [e1, List.take_add_one, List.take_add_one, List.take_set_of_le (Nat.le_refl k), List.getElem?_set_self (by omega), ← List.map_take, ← List.map_take, hv2, List.getElem?_map, he]
      rfl
    refine sd_chk (rt_notF (rt_truK (rd_callQ (ra_cons (rd_callQ (ra_cons (rd_slot rfl) (ra_cons (rd_var rfl) (ra_cons (Ro.frz (Ro.is (ro_takeX (rd_slot rfl) (rn_some (rd_addI (rd_var rfl) rd_int)) rfl (by omega)) (congrArg T.ls hset)) rfl) ra_nil))) rfl rfl rfl (hpre (k + 1) (by omega)) rfl) (ra_cons rd_bl ra_nil)) rfl rfl rfl (hs true) rfl) rfl)) (sd_next ?_)
    exact ⟨_, Less.refl, (bentV s ws k).2, _, _, _, _, okb.le (by omega), rfl⟩
  obtain ⟨s6, y8, y9, y10, y11, _, rfl⟩ := p
  walk_at "dn"
  have cnt := heldW_cnt (cs := cs) (m := hand.toNat) (ws := ws) cs.length (by omega) okw
  have inv := heldW_inv (cs := cs) (m := hand.toNat) (ws := ws) cs.length (by omega) okw
  have hz : heldW cs.length hand.toNat ws cs.length = [] := List.eq_nil_of_length_eq_zero (by omega)
  rw [hz, show ws.take cs.length = ws from List.take_of_length_le (by omega)] at inv
  have hbad : allowW cs hand.toNat ws (0, 0) = false := allow_out (fun z => by
    obtain ⟨y, hy, _⟩ := List.mem_map.mp z
    have := (inv.2 y).mpr hy
    cases this)
  have hbb : ∀ Q : T → Prop, Q (.d (.bl false)) → fBegin [.lst (dI cs), .int hand, .lst (dW ws ++ [.tup [.int 0, .int 0]])] Q := fun Q q => ⟨cs, hand, ws ++ [(0, 0)], by simp [dW], r1, by omega, by simp; omega, by rw [begin_bad hbad]; exact q⟩
  exact sd_retD (Rd.is (rd_andTB (a := true) (b := true) (Rd.is (rd_isB (c := false) (d := false) (rd_callQ (ra_cons (rd_slot rfl) (ra_cons (rd_var rfl) (ra_cons (Ro.frz (rd_addL (rd_slot rfl) (Ro.frz (ro_lst' (ra_cons (rd_tup' (ra_cons rd_int (ra_cons rd_int ra_nil)) rfl rfl) ra_nil) rfl rfl) rfl) rfl rfl (by simp; omega)) rfl) ra_nil))) rfl rfl rfl hbb rfl) rd_bl) rfl) (fun _ => rd_eqSame (x := .lst (dI cs)) (rd_slot rfl) (rd_slot rfl) rfl rfl (okI cs)) rfl) rfl) q

end
theorem all_mk {l : PySem.W.OpenLaw} {w : World} {K : PySem.W.Frag} {h : Heap} {mg : Str → Option Value} {fa f0 f1 f2 f3 f4 f5 f6 f7 f8 f9 f10 f11 f12 f13 f14 f15 f16 : Addr} (X : K.In h) (G : h.Ns mainGlobals mg) (hfa : mg "law" = some (.ref fa))
    {od0 an0 od1 an1 od2 an2 od3 an3 od4 an4 od5 an5 od6 an6 od7 an7 od8 an8 od9 an9 od10 an10 od11 an11 od12 an12 od13 an13 od14 an14 od15 an15 od16 an16 : Option Addr} {sl0 sl1 sl2 sl3 sl4 sl5 sl6 sl7 sl8 sl9 sl10 sl11 sl12 sl13 sl14 sl15 sl16 : Array (Option Value)}
    {oc0 kV0 dc0 pm0 cd0 ct0 oc1 kV1 dc1 pm1 cd1 ct1 oc2 kV2 dc2 pm2 cd2 ct2 oc3 kV3 dc3 pm3 cd3 ct3 oc4 kV4 dc4 pm4 cd4 ct4 oc5 kV5 dc5 pm5 cd5 ct5 oc6 kV6 dc6 pm6 cd6 ct6 oc7 kV7 dc7 pm7 cd7 ct7 oc8 kV8 dc8 pm8 cd8 ct8 oc9 kV9 dc9 pm9 cd9 ct9 oc10 kV10 dc10 pm10 cd10 ct10 oc11 kV11 dc11 pm11 cd11 ct11 oc12 kV12 dc12 pm12 cd12 ct12 oc13 kV13 dc13 pm13 cd13 ct13 oc14 kV14 dc14 pm14 cd14 ct14 oc15 kV15 dc15 pm15 cd15 ct15 oc16 kV16 dc16 pm16 cd16 ct16 : Value}
    (a0 : PySem.W.nsIn K mainGlobals "check_hand" = some (some (.ref f0))) (l0 : K.lookup f0 = some ⟨oc0, od0, .func (PySem.W.fnOf "check_hand" "check_hand" (defArgs s_check_hand) (defBody s_check_hand) (defScope s_check_hand) .none kV0 dc0 pm0 an0 cd0 ct0), sl0⟩) (c0 : PySem.W.codeIn K cd0 "check_hand" = true) (k0 : PySem.W.keepIn K (.ref f0) = true)
    (a1 : PySem.W.nsIn K mainGlobals "hand_behind" = some (some (.ref f1))) (l1 : K.lookup f1 = some ⟨oc1, od1, .func (PySem.W.fnOf "hand_behind" "hand_behind" (defArgs s_hand_behind) (defBody s_hand_behind) (defScope s_hand_behind) .none kV1 dc1 pm1 an1 cd1 ct1), sl1⟩) (c1 : PySem.W.codeIn K cd1 "hand_behind" = true) (k1 : PySem.W.keepIn K (.ref f1) = true)
    (a2 : PySem.W.nsIn K mainGlobals "fits" = some (some (.ref f2))) (l2 : K.lookup f2 = some ⟨oc2, od2, .func (PySem.W.fnOf "fits" "fits" (defArgs s_fits) (defBody s_fits) (defScope s_fits) .none kV2 dc2 pm2 an2 cd2 ct2), sl2⟩) (c2 : PySem.W.codeIn K cd2 "fits" = true) (k2 : PySem.W.keepIn K (.ref f2) = true)
    (a3 : PySem.W.nsIn K mainGlobals "is_allowed" = some (some (.ref f3))) (l3 : K.lookup f3 = some ⟨oc3, od3, .func (PySem.W.fnOf "is_allowed" "is_allowed" (defArgs s_is_allowed) (defBody s_is_allowed) (defScope s_is_allowed) .none kV3 dc3 pm3 an3 cd3 ct3), sl3⟩) (c3 : PySem.W.codeIn K cd3 "is_allowed" = true) (k3 : PySem.W.keepIn K (.ref f3) = true)
    (a4 : PySem.W.nsIn K mainGlobals "first_fault" = some (some (.ref f4))) (l4 : K.lookup f4 = some ⟨oc4, od4, .func (PySem.W.fnOf "first_fault" "first_fault" (defArgs s_first_fault) (defBody s_first_fault) (defScope s_first_fault) .none kV4 dc4 pm4 an4 cd4 ct4), sl4⟩) (c4 : PySem.W.codeIn K cd4 "first_fault" = true) (k4 : PySem.W.keepIn K (.ref f4) = true)
    (a5 : PySem.W.nsIn K mainGlobals "is_beginning" = some (some (.ref f5))) (l5 : K.lookup f5 = some ⟨oc5, od5, .func (PySem.W.fnOf "is_beginning" "is_beginning" (defArgs s_is_beginning) (defBody s_is_beginning) (defScope s_is_beginning) .none kV5 dc5 pm5 an5 cd5 ct5), sl5⟩) (c5 : PySem.W.codeIn K cd5 "is_beginning" = true) (k5 : PySem.W.keepIn K (.ref f5) = true)
    (a6 : PySem.W.nsIn K mainGlobals "_law_purse" = some (some (.ref f6))) (l6 : K.lookup f6 = some ⟨oc6, od6, .func (PySem.W.fnOf "_law_purse" "_law_purse" (defArgs s_law_purse) (defBody s_law_purse) (defScope s_law_purse) .none kV6 dc6 pm6 an6 cd6 ct6), sl6⟩) (c6 : PySem.W.codeIn K cd6 "_law_purse" = true) (k6 : PySem.W.keepIn K (.ref f6) = true)
    (a7 : PySem.W.nsIn K mainGlobals "_law_draw" = some (some (.ref f7))) (l7 : K.lookup f7 = some ⟨oc7, od7, .func (PySem.W.fnOf "_law_draw" "_law_draw" (defArgs s_law_draw) (defBody s_law_draw) (defScope s_law_draw) .none kV7 dc7 pm7 an7 cd7 ct7), sl7⟩) (c7 : PySem.W.codeIn K cd7 "_law_draw" = true) (k7 : PySem.W.keepIn K (.ref f7) = true)
    (a8 : PySem.W.nsIn K mainGlobals "_law_card" = some (some (.ref f8))) (l8 : K.lookup f8 = some ⟨oc8, od8, .func (PySem.W.fnOf "_law_card" "_law_card" (defArgs s_law_card) (defBody s_law_card) (defScope s_law_card) .none kV8 dc8 pm8 an8 cd8 ct8), sl8⟩) (c8 : PySem.W.codeIn K cd8 "_law_card" = true) (k8 : PySem.W.keepIn K (.ref f8) = true)
    (a9 : PySem.W.nsIn K mainGlobals "_law_row" = some (some (.ref f9))) (l9 : K.lookup f9 = some ⟨oc9, od9, .func (PySem.W.fnOf "_law_row" "_law_row" (defArgs s_law_row) (defBody s_law_row) (defScope s_law_row) .none kV9 dc9 pm9 an9 cd9 ct9), sl9⟩) (c9 : PySem.W.codeIn K cd9 "_law_row" = true) (k9 : PySem.W.keepIn K (.ref f9) = true)
    (a10 : PySem.W.nsIn K mainGlobals "_law_hand" = some (some (.ref f10))) (l10 : K.lookup f10 = some ⟨oc10, od10, .func (PySem.W.fnOf "_law_hand" "_law_hand" (defArgs s_law_hand) (defBody s_law_hand) (defScope s_law_hand) .none kV10 dc10 pm10 an10 cd10 ct10), sl10⟩) (c10 : PySem.W.codeIn K cd10 "_law_hand" = true) (k10 : PySem.W.keepIn K (.ref f10) = true)
    (a11 : PySem.W.nsIn K mainGlobals "_law_way" = some (some (.ref f11))) (l11 : K.lookup f11 = some ⟨oc11, od11, .func (PySem.W.fnOf "_law_way" "_law_way" (defArgs s_law_way) (defBody s_law_way) (defScope s_law_way) .none kV11 dc11 pm11 an11 cd11 ct11), sl11⟩) (c11 : PySem.W.codeIn K cd11 "_law_way" = true) (k11 : PySem.W.keepIn K (.ref f11) = true)
    (a12 : PySem.W.nsIn K mainGlobals "_law_best" = some (some (.ref f12))) (l12 : K.lookup f12 = some ⟨oc12, od12, .func (PySem.W.fnOf "_law_best" "_law_best" (defArgs s_law_best) (defBody s_law_best) (defScope s_law_best) .none kV12 dc12 pm12 an12 cd12 ct12), sl12⟩) (c12 : PySem.W.codeIn K cd12 "_law_best" = true) (k12 : PySem.W.keepIn K (.ref f12) = true)
    (a13 : PySem.W.nsIn K mainGlobals "_law_fault" = some (some (.ref f13))) (l13 : K.lookup f13 = some ⟨oc13, od13, .func (PySem.W.fnOf "_law_fault" "_law_fault" (defArgs s_law_fault) (defBody s_law_fault) (defScope s_law_fault) .none kV13 dc13 pm13 an13 cd13 ct13), sl13⟩) (c13 : PySem.W.codeIn K cd13 "_law_fault" = true) (k13 : PySem.W.keepIn K (.ref f13) = true)
    (a14 : PySem.W.nsIn K mainGlobals "_law_same" = some (some (.ref f14))) (l14 : K.lookup f14 = some ⟨oc14, od14, .func (PySem.W.fnOf "_law_same" "_law_same" (defArgs s_law_same) (defBody s_law_same) (defScope s_law_same) .none kV14 dc14 pm14 an14 cd14 ct14), sl14⟩) (c14 : PySem.W.codeIn K cd14 "_law_same" = true) (k14 : PySem.W.keepIn K (.ref f14) = true)
    (a15 : PySem.W.nsIn K mainGlobals "_law_bent" = some (some (.ref f15))) (l15 : K.lookup f15 = some ⟨oc15, od15, .func (PySem.W.fnOf "_law_bent" "_law_bent" (defArgs s_law_bent) (defBody s_law_bent) (defScope s_law_bent) .none kV15 dc15 pm15 an15 cd15 ct15), sl15⟩) (c15 : PySem.W.codeIn K cd15 "_law_bent" = true) (k15 : PySem.W.keepIn K (.ref f15) = true)
    (a16 : PySem.W.nsIn K mainGlobals "law" = some (some (.ref f16))) (l16 : K.lookup f16 = some ⟨oc16, od16, .func (PySem.W.fnOf "law" "law" (defArgs s_law) (defBody s_law) (defScope s_law) .none kV16 dc16 pm16 an16 cd16 ct16), sl16⟩) (c16 : PySem.W.codeIn K cd16 "law" = true) (k16 : PySem.W.keepIn K (.ref f16) = true)
    (m_range : PySem.W.nsIn K mainGlobals "range" = some none)
    (m_min : PySem.W.nsIn K mainGlobals "min" = some none)
    (m_len : PySem.W.nsIn K mainGlobals "len" = some none)
    (m_enumerate : PySem.W.nsIn K mainGlobals "enumerate" = some none)
    (m_abs : PySem.W.nsIn K mainGlobals "abs" = some none)
    (m_int : PySem.W.nsIn K mainGlobals "int" = some none)
    (m_list : PySem.W.nsIn K mainGlobals "list" = some none)
    (m_isinstance : PySem.W.nsIn K mainGlobals "isinstance" = some none)
    (m_tuple : PySem.W.nsIn K mainGlobals "tuple" = some none)
    (m_bool : PySem.W.nsIn K mainGlobals "bool" = some none)
    : ∃ fd : FuncData, (∀ (s : Shared) (v : Value), BindsTo s fd ⟨[v], []⟩ [("script", v)]) ∧ ∀ base : Heap, K.In base → base.Ns mainGlobals mg → FnOk l.prog w K mg base CX0 5 fa fd ["script"] (spOf K (rdC 1 fLaw)) := by
  have e := hfa.symm.trans (PySem.W.mg_of X G a16)
  cases e
  have h_check_hand : Has K mg "check_hand" s_check_hand ["hand"] := ⟨f0, _, fun_mk (st := s_check_hand) l0 c0 k0, PySem.W.mg_of X G a0, (fun_mk (st := s_check_hand) l0 c0 k0).binds fun _ _ _ _ _ _ us hl => match us, hl with | [_], _ => rfl⟩
  have h_hand_behind : Has K mg "hand_behind" s_hand_behind ["row", "hand", "told"] := ⟨f1, _, fun_mk (st := s_hand_behind) l1 c1 k1, PySem.W.mg_of X G a1, (fun_mk (st := s_hand_behind) l1 c1 k1).binds fun _ _ _ _ _ _ us hl => match us, hl with | [_, _, _], _ => rfl⟩
  have h_fits : Has K mg "fits" s_fits ["row", "told", "index"] := ⟨f2, _, fun_mk (st := s_fits) l2 c2 k2, PySem.W.mg_of X G a2, (fun_mk (st := s_fits) l2 c2 k2).binds fun _ _ _ _ _ _ us hl => match us, hl with | [_, _, _], _ => rfl⟩
  have h_is_allowed : Has K mg "is_allowed" s_is_allowed ["row", "hand", "told", "entry"] := ⟨f3, _, fun_mk (st := s_is_allowed) l3 c3 k3, PySem.W.mg_of X G a3, (fun_mk (st := s_is_allowed) l3 c3 k3).binds fun _ _ _ _ _ _ us hl => match us, hl with | [_, _, _, _], _ => rfl⟩
  have h_first_fault : Has K mg "first_fault" s_first_fault ["row", "hand", "told"] := ⟨f4, _, fun_mk (st := s_first_fault) l4 c4 k4, PySem.W.mg_of X G a4, (fun_mk (st := s_first_fault) l4 c4 k4).binds fun _ _ _ _ _ _ us hl => match us, hl with | [_, _, _], _ => rfl⟩
  have h_is_beginning : Has K mg "is_beginning" s_is_beginning ["row", "hand", "told"] := ⟨f5, _, fun_mk (st := s_is_beginning) l5 c5 k5, PySem.W.mg_of X G a5, (fun_mk (st := s_is_beginning) l5 c5 k5).binds fun _ _ _ _ _ _ us hl => match us, hl with | [_, _, _], _ => rfl⟩
  have h_law_purse : Has K mg "_law_purse" s_law_purse ["script"] := ⟨f6, _, fun_mk (st := s_law_purse) l6 c6 k6, PySem.W.mg_of X G a6, (fun_mk (st := s_law_purse) l6 c6 k6).binds fun _ _ _ _ _ _ us hl => match us, hl with | [_], _ => rfl⟩
  have h_law_draw : Has K mg "_law_draw" s_law_draw ["purse", "limit"] := ⟨f7, _, fun_mk (st := s_law_draw) l7 c7 k7, PySem.W.mg_of X G a7, (fun_mk (st := s_law_draw) l7 c7 k7).binds fun _ _ _ _ _ _ us hl => match us, hl with | [_, _], _ => rfl⟩
  have h_law_card : Has K mg "_law_card" s_law_card ["purse", "kind", "most", "left"] := ⟨f8, _, fun_mk (st := s_law_card) l8 c8 k8, PySem.W.mg_of X G a8, (fun_mk (st := s_law_card) l8 c8 k8).binds fun _ _ _ _ _ _ us hl => match us, hl with | [_, _, _, _], _ => rfl⟩
  have h_law_row : Has K mg "_law_row" s_law_row ["purse", "most"] := ⟨f9, _, fun_mk (st := s_law_row) l9 c9 k9, PySem.W.mg_of X G a9, (fun_mk (st := s_law_row) l9 c9 k9).binds fun _ _ _ _ _ _ us hl => match us, hl with | [_, _], _ => rfl⟩
  have h_law_hand : Has K mg "_law_hand" s_law_hand ["purse", "many"] := ⟨f10, _, fun_mk (st := s_law_hand) l10 c10 k10, PySem.W.mg_of X G a10, (fun_mk (st := s_law_hand) l10 c10 k10).binds fun _ _ _ _ _ _ us hl => match us, hl with | [_, _], _ => rfl⟩
  have h_law_way : Has K mg "_law_way" s_law_way ["purse", "row0", "hand0", "many"] := ⟨f11, _, fun_mk (st := s_law_way) l11 c11 k11, PySem.W.mg_of X G a11, (fun_mk (st := s_law_way) l11 c11 k11).binds fun _ _ _ _ _ _ us hl => match us, hl with | [_, _, _, _], _ => rfl⟩
  have h_law_best : Has K mg "_law_best" s_law_best ["row0", "held", "way"] := ⟨f12, _, fun_mk (st := s_law_best) l12 c12 k12, PySem.W.mg_of X G a12, (fun_mk (st := s_law_best) l12 c12 k12).binds fun _ _ _ _ _ _ us hl => match us, hl with | [_, _, _], _ => rfl⟩
  have h_law_fault : Has K mg "_law_fault" s_law_fault ["row0", "hand0", "told0"] := ⟨f13, _, fun_mk (st := s_law_fault) l13 c13 k13, PySem.W.mg_of X G a13, (fun_mk (st := s_law_fault) l13 c13 k13).binds fun _ _ _ _ _ _ us hl => match us, hl with | [_, _, _], _ => rfl⟩
  have h_law_same : Has K mg "_law_same" s_law_same ["found", "due"] := ⟨f14, _, fun_mk (st := s_law_same) l14 c14 k14, PySem.W.mg_of X G a14, (fun_mk (st := s_law_same) l14 c14 k14).binds fun _ _ _ _ _ _ us hl => match us, hl with | [_, _], _ => rfl⟩
  have h_law_bent : Has K mg "_law_bent" s_law_bent ["purse", "told0", "k"] := ⟨f15, _, fun_mk (st := s_law_bent) l15 c15 k15, PySem.W.mg_of X G a15, (fun_mk (st := s_law_bent) l15 c15 k15).binds fun _ _ _ _ _ _ us hl => match us, hl with | [_, _, _], _ => rfl⟩
  replace m_range := PySem.W.mg_none_of X G m_range
  replace m_min := PySem.W.mg_none_of X G m_min
  replace m_len := PySem.W.mg_none_of X G m_len
  replace m_enumerate := PySem.W.mg_none_of X G m_enumerate
  replace m_abs := PySem.W.mg_none_of X G m_abs
  replace m_int := PySem.W.mg_none_of X G m_int
  replace m_list := PySem.W.mg_none_of X G m_list
  replace m_isinstance := PySem.W.mg_none_of X G m_isinstance
  replace m_tuple := PySem.W.mg_none_of X G m_tuple
  replace m_bool := PySem.W.mg_none_of X G m_bool
  have F_law := fun_mk (st := s_law) l16 c16 k16
  refine ⟨PySem.W.fnOf "law" "law" (defArgs s_law) (defBody s_law) (defScope s_law) .none kV16 dc16 pm16 an16 cd16 ct16, fun s v => .of_eq rfl, fun base _ _ => ?_⟩
  · have C_check_hand := ok_check_hand (P := l.prog) (w := w) (base := base) (h := h_check_hand)
    have C_hand_behind := ok_hand_behind (P := l.prog) (w := w) (base := base) (m_range := m_range) (m_min := m_min) (m_len := m_len) (h := h_hand_behind)
    have C_fits := ok_fits (P := l.prog) (w := w) (base := base) (h := h_fits)
    have C_is_allowed := ok_is_allowed (P := l.prog) (w := w) (base := base) (C_fits := C_fits) (C_hand_behind := C_hand_behind) (h := h_is_allowed)
    obtain ⟨C_first_fault, CK_first_fault_told_hand_row⟩ := ok_first_fault (P := l.prog) (w := w) (base := base) (m_enumerate := m_enumerate) (m_len := m_len) (C_check_hand := C_check_hand) (C_is_allowed := C_is_allowed) (h := h_first_fault)
    obtain ⟨C_is_beginning, CK_is_beginning_told_row_hand⟩ := ok_is_beginning (P := l.prog) (w := w) (base := base) (m_len := m_len) (C_first_fault := C_first_fault) (h := h_is_beginning)
    have C_law_purse := ok_law_purse (P := l.prog) (w := w) (base := base) (m_abs := m_abs) (h := h_law_purse)
    have C_law_draw := ok_law_draw (P := l.prog) (w := w) (base := base) (m_int := m_int) (m_len := m_len) (h := h_law_draw)
    have C_law_card := ok_law_card (P := l.prog) (w := w) (base := base) (C_law_draw := C_law_draw) (h := h_law_card)
    have C_law_row := ok_law_row (P := l.prog) (w := w) (base := base) (m_range := m_range) (C_law_draw := C_law_draw) (C_law_card := C_law_card) (h := h_law_row)
    have C_law_hand := ok_law_hand (P := l.prog) (w := w) (base := base) (C_law_draw := C_law_draw) (h := h_law_hand)
    have C_law_best := ok_law_best (P := l.prog) (w := w) (base := base) (m_int := m_int) (h := h_law_best)
    have C_law_fault := ok_law_fault (P := l.prog) (w := w) (base := base) (m_len := m_len) (m_range := m_range) (m_list := m_list) (m_min := m_min) (h := h_law_fault)
    have C_law_same := (ok_law_same (P := l.prog) (w := w) (base := base) (m_isinstance := m_isinstance) (m_int := m_int) (m_bool := m_bool) (m_tuple := m_tuple) (m_list := m_list) (m_range := m_range) (m_len := m_len) (h := h_law_same)) 0
    have C_law_bent := ok_law_bent (P := l.prog) (w := w) (base := base) (m_len := m_len) (C_law_draw := C_law_draw) (h := h_law_bent)
    have C_law_way := ok_law_way (P := l.prog) (w := w) (base := base) (m_int := m_int) (m_len := m_len) (m_range := m_range) (m_list := m_list) (m_min := m_min) (C_law_draw := C_law_draw) (C_law_best := C_law_best) (h := h_law_way)
    exact ok_law (m_range := m_range) (m_len := m_len) (m_list := m_list) (C_is_beginning := C_is_beginning) (C_law_same := C_law_same) (C_law_fault := C_law_fault) (C_law_bent := C_law_bent) (C_law_way := C_law_way) (C_law_hand := C_law_hand) (C_law_row := C_law_row) (C_law_draw := C_law_draw) (C_law_purse := C_law_purse) (CK_is_beginning_told_row_hand := CK_is_beginning_told_row_hand) F_law
end W1
open PySem PySem.W PyProof.Rows
set_option maxHeartbeats 0 in
theorem PySem.Challenge.cw_handpiles_k11_beginnings_holds : PySem.Challenge.rw_handpiles_k11_beginnings.Holds := by
  w_on; o_law; k_head; (case hw => w_witness2)
  k_fill
  refine L2.walk_of (l := PySem.Challenge.rw_handpiles_k11_beginnings) (n := 63) (k := 5) (x := "script") (CX := fun _ => L2.CX0) (sp := fun w => TV.spOf _ (TV.rdC 1 W1.fLaw)) rfl (by decide) rfl ⟨rfl, by decide, by decide⟩ (fun w h Y => PySem.W.kIn_of Y) ?F (fun _ _ a ns hl _ hS => TV.law_sp hS fun Q q => ⟨ns, rfl, hl, q⟩) (fun _ _ _ _ _ h => h)
  case F =>
    intro w mg fa h KX G hmg
    refine' W1.all_mk KX G hmg ?a0 ?l0 ?c0 ?k0 ?a1 ?l1 ?c1 ?k1 ?a2 ?l2 ?c2 ?k2 ?a3 ?l3 ?c3 ?k3 ?a4 ?l4 ?c4 ?k4 ?a5 ?l5 ?c5 ?k5 ?a6 ?l6 ?c6 ?k6 ?a7 ?l7 ?c7 ?k7 ?a8 ?l8 ?c8 ?k8 ?a9 ?l9 ?c9 ?k9 ?a10 ?l10 ?c10 ?k10 ?a11 ?l11 ?c11 ?k11 ?a12 ?l12 ?c12 ?k12 ?a13 ?l13 ?c13 ?k13 ?a14 ?l14 ?c14 ?k14 ?a15 ?l15 ?c15 ?k15 ?a16 ?l16 ?c16 ?k16 ?m_range ?m_min ?m_len ?m_enumerate ?m_abs ?m_int ?m_list ?m_isinstance ?m_tuple ?m_bool
    (case a0 => k_is); (case l0 => k_is); (case c0 => k_is); (case k0 => k_is); (case a1 => k_is); (case l1 => k_is); (case c1 => k_is); (case k1 => k_is); (case a2 => k_is); (case l2 => k_is); (case c2 => k_is); (case k2 => k_is); (case a3 => k_is); (case l3 => k_is); (case c3 => k_is); (case k3 => k_is); (case a4 => k_is); (case l4 => k_is); (case c4 => k_is); (case k4 => k_is); (case a5 => k_is); (case l5 => k_is); (case c5 => k_is); (case k5 => k_is); (case a6 => k_is); (case l6 => k_is); (case c6 => k_is); (case k6 => k_is); (case a7 => k_is); (case l7 => k_is); (case c7 => k_is); (case k7 => k_is); (case a8 => k_is); (case l8 => k_is); (case c8 => k_is); (case k8 => k_is); (case a9 => k_is); (case l9 => k_is); (case c9 => k_is); (case k9 => k_is); (case a10 => k_is); (case l10 => k_is); (case c10 => k_is); (case k10 => k_is); (case a11 => k_is); (case l11 => k_is); (case c11 => k_is); (case k11 => k_is); (case a12 => k_is); (case l12 => k_is); (case c12 => k_is); (case k12 => k_is); (case a13 => k_is); (case l13 => k_is); (case c13 => k_is); (case k13 => k_is); (case a14 => k_is); (case l14 => k_is); (case c14 => k_is); (case k14 => k_is); (case a15 => k_is); (case l15 => k_is); (case c15 => k_is); (case k15 => k_is); (case a16 => k_is); (case l16 => k_is); (case c16 => k_is); (case k16 => k_is); (case m_range => k_is); (case m_min => k_is); (case m_len => k_is); (case m_enumerate => k_is); (case m_abs => k_is); (case m_int => k_is); (case m_list => k_is); (case m_isinstance => k_is); (case m_tuple => k_is); (case m_bool => k_is)
