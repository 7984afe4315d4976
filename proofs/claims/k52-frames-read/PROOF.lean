import PyProof.Rows.All
import Wide.All
import OpenK.AllK
import Wide.FinOn
import KE.KStateDown
import HandS.ForMost
import HandS.ForExc
import HandS.Defaults
import HandS.StrMore
import HandS.ExcField
import KE.KDictKeyed
import KE.KDictWalk
import KE.GoesDict
import HandS.Deep
import HandS.Strs
import HandS.Style
import HandS.Replace
import HandS.TryOnly
import HandS.ExcInit
import KE.KExcSuper
import HandS.ExcSuper
import HandS.FStr
import HandS.Head0
import HandS.Head1
import HandS.Head2
import HandS.HeadEnd
import HandS.HeadHook1
import HandS.HeadHook2
import PySem.Challenge.RW_vatlink_k52_frames_read
set_option Elab.async false
set_option linter.all false
set_option autoImplicit false
set_option maxRecDepth 100000
set_option maxHeartbeats 4000000
/-! VCa: the D layer, part a: data with tuples inline, the store of what changes, how they stand to the hand layer's heap -/
namespace VD
open PySem PySem.Spec PyProof.Rows L2

/-! ### data -/
inductive D where
  | non | bl (b : Bool) | int (i : Int) | str (s : String) | tup (xs : List D) | ref (a : Nat) | ty (n : String) | raw (z : Str)

/-- what stands at an address: a list, a list that is only read, a dict, an instance, an exception's dict -/
inductive DO where
  | lst (xs : List D) | fl (xs : List D) | dct (kvs : List (D × D)) | ins (C dx : Nat) (fs : List (String × D)) | xd (fs : List (String × D))
abbrev Sto := Nat → Option DO
abbrev Sl := List (Option D)
def up (S : Sto) (a : Nat) (o : DO) : Sto := fun b => if b = a then some o else S b
theorem up_same {S : Sto} {a : Nat} {o : DO} : up S a o a = some o := by unfold up; rw [if_pos rfl]
theorem up_ne {S : Sto} {a b : Nat} {o : DO} (h : b ≠ a) : up S a o b = S b := by unfold up; rw [if_neg h]
theorem up_up {S : Sto} {a : Nat} {o u : DO} : up (up S a o) a u = up S a u := by
  funext b; unfold up; split <;> rfl
theorem up_old {S : Sto} {a b : Nat} {o u : DO} (h : S b = some o) (n : S a = none) : up S a u b = some o := by
  rw [up_ne]; exact h
  intro e; subst e; rw [h] at n; cases n
theorem ne_fresh {S : Sto} {a b : Nat} {o : DO} (h : S b = some o) (n : S a = none) : b ≠ a := by
  intro e; subst e; rw [h] at n; cases n
/-- less is told -/
def Le (S' S : Sto) : Prop := ∀ a o, S' a = some o → S a = some o
theorem Le.refl (S : Sto) : Le S S := fun _ _ h => h
theorem Le.trans {A B C : Sto} (h : Le A B) (g : Le B C) : Le A C := fun a o e => g a o (h a o e)
theorem Le.new {S : Sto} {a : Nat} {o : DO} (n : S a = none) : Le S (up S a o) := fun b u e => up_old e n
theorem Le.up {S S' : Sto} (h : Le S' S) (a : Nat) (o : DO) : Le (up S' a o) (up S a o) := fun b u e => by
  by_cases hb : b = a
  · subst hb; rw [up_same] at e ⊢; exact e
  · rw [up_ne hb] at e ⊢; exact h b u e
theorem Le.none {S S' : Sto} (h : Le S' S) {a : Nat} (n : S a = none) : S' a = none := by
  cases e : S' a with
  | none => rfl
  | some o => rw [h a o e] at n; cases n

/-! ### strings -/
theorem ofString_cps (s : String) : (Str.ofString s).cps.toList = s.toList.map Char.toNat := by rw [Str.ofString_eq_toList]
theorem toNat_inj {a b : Char} (h : a.toNat = b.toNat) : a = b := by
  have h2 : a.val.toNat = b.val.toNat := h
  exact Char.ext (UInt32.toNat.inj h2)
theorem map_toNat_inj : ∀ {l m : List Char}, l.map Char.toNat = m.map Char.toNat → l = m
  | [], [], _ => rfl
  | [], _ :: _, h => by simp at h
  | _ :: _, [], h => by simp at h
  | a :: l, b :: m, h => by
    simp only [List.map_cons, List.cons.injEq] at h
    rw [toNat_inj h.1, map_toNat_inj h.2]
theorem ofString_inj {s t : String} (h : Str.ofString s = Str.ofString t) : s = t := by
  have h1 := congrArg (fun z : Str => z.cps.toList) h
  simp only [ofString_cps] at h1
  exact String.toList_inj.mp (map_toNat_inj h1)
theorem ofString_eq_iff {s t : String} : Str.ofString s = Str.ofString t ↔ s = t := ⟨ofString_inj, fun h => by rw [h]⟩
theorem ofString_length (s : String) : (Str.ofString s).length = s.length := by
  show (Str.ofString s).cps.size = _
  rw [← Array.length_toList, ofString_cps, List.length_map, String.length_toList]
theorem str_ext {a b : Str} (h : a.cps.toList = b.cps.toList) : a = b := by
  cases a; cases b
  simp only [Str.mk.injEq]
  exact Array.toList_inj.mp h
theorem ofString_append (s t : String) : Str.ofString s ++ Str.ofString t = Str.ofString (s ++ t) := by
  apply str_ext
  show ((Str.ofString s).cps ++ (Str.ofString t).cps).toList = _
  rw [Array.toList_append, ofString_cps, ofString_cps, ofString_cps, String.toList_append, List.map_append]
theorem ofString_sing (c : Char) : Str.ofString (String.singleton c) = ⟨#[c.toNat]⟩ := by
  apply str_ext
  rw [ofString_cps]
  simp

/-! ### a datum at a value -/
mutual
def Dat (K : PySem.W.Frag) (H : Hp) : D → V → Prop
  | .non, v => v = .non
  | .bl b, v => v = .bl b
  | .int i, v => v = .int i
  | .str s, v => v = .str (Str.ofString s)
  | .ref a, v => v = .ref a
  | .ty n, v => v = .ty n
  | .raw z, v => v = .str z
  | .tup ds, v => ∃ a vs, v = .ref a ∧ SqT K H a vs ∧ DatL K H ds vs
def DatL (K : PySem.W.Frag) (H : Hp) : List D → List V → Prop
  | [], vs => vs = []
  | d :: ds, vs => ∃ v r, vs = v :: r ∧ Dat K H d v ∧ DatL K H ds r
end
/-- what is read as a tuple is read so later -/
def Gr (K : PySem.W.Frag) (H H' : Hp) : Prop := ∀ a vs, SqT K H a vs → SqT K H' a vs
theorem Gr.refl {K : PySem.W.Frag} {H : Hp} : Gr K H H := fun _ _ h => h
theorem Gr.trans {K : PySem.W.Frag} {H H1 H2 : Hp} (a : Gr K H H1) (b : Gr K H1 H2) : Gr K H H2 := fun p vs h => b p vs (a p vs h)
section
variable {K : PySem.W.Frag} {H H' : Hp}
mutual
theorem Dat.gr (g : Gr K H H') : ∀ (d : D) {v : V}, Dat K H d v → Dat K H' d v
  | .non, _, h => h
  | .bl _, _, h => h
  | .int _, _, h => h
  | .str _, _, h => h
  | .ref _, _, h => h
  | .ty _, _, h => h
  | .raw _, _, h => h
  | .tup ds, v, h => by
    unfold Dat at h ⊢
    obtain ⟨a, vs, e, q, r⟩ := h
    exact ⟨a, vs, e, g a vs q, DatL.gr g ds r⟩
theorem DatL.gr (g : Gr K H H') : ∀ (ds : List D) {vs : List V}, DatL K H ds vs → DatL K H' ds vs
  | [], _, h => h
  | d :: ds, _, h => by
    unfold DatL at h ⊢
    obtain ⟨v, r, e, q, t⟩ := h
    exact ⟨v, r, e, Dat.gr g d q, DatL.gr g ds t⟩
end
theorem DatL.nil : DatL K H [] [] := by unfold DatL; rfl
theorem DatL.cons {d : D} {ds : List D} {v : V} {vs : List V} (h : Dat K H d v) (t : DatL K H ds vs) : DatL K H (d :: ds) (v :: vs) := by
  unfold DatL; exact ⟨v, vs, rfl, h, t⟩
theorem DatL.length : ∀ {ds : List D} {vs : List V}, DatL K H ds vs → ds.length = vs.length
  | [], _, h => by unfold DatL at h; subst h; rfl
  | d :: ds, _, h => by
    unfold DatL at h
    obtain ⟨v, r, rfl, _, t⟩ := h
    simp [DatL.length t]
theorem DatL.get : ∀ {ds : List D} {vs : List V} {i : Nat} {d : D}, DatL K H ds vs → ds[i]? = some d → ∃ v, vs[i]? = some v ∧ Dat K H d v
  | [], _, i, d, h, e => by simp at e
  | d0 :: ds, _, 0, d, h, e => by
    unfold DatL at h
    obtain ⟨v, r, rfl, q, t⟩ := h
    simp at e; subst e
    exact ⟨v, rfl, q⟩
  | d0 :: ds, _, i + 1, d, h, e => by
    unfold DatL at h
    obtain ⟨v, r, rfl, q, t⟩ := h
    obtain ⟨w, h1, h2⟩ := DatL.get (i := i) (d := d) t (by simpa using e)
    exact ⟨w, by simpa using h1, h2⟩
theorem DatL.append : ∀ {ds es : List D} {vs ws : List V}, DatL K H ds vs → DatL K H es ws → DatL K H (ds ++ es) (vs ++ ws)
  | [], _, _, _, h, t => by unfold DatL at h; subst h; exact t
  | d :: ds, _, _, _, h, t => by
    unfold DatL at h
    obtain ⟨v, r, rfl, q, u⟩ := h
    exact DatL.cons q (DatL.append u t)
theorem DatL.one {d : D} {v : V} (h : Dat K H d v) : DatL K H [d] [v] := DatL.cons h DatL.nil
theorem DatL.drop : ∀ {ds : List D} {vs : List V} (n : Nat), DatL K H ds vs → DatL K H (ds.drop n) (vs.drop n)
  | _, _, 0, h => h
  | [], _, n + 1, h => by unfold DatL at h; subst h; exact DatL.nil
  | d :: ds, _, n + 1, h => by
    unfold DatL at h
    obtain ⟨v, r, rfl, q, u⟩ := h
    exact DatL.drop n u
theorem DatL.take : ∀ {ds : List D} {vs : List V} (n : Nat), DatL K H ds vs → DatL K H (ds.take n) (vs.take n)
  | _, _, 0, h => DatL.nil
  | [], _, n + 1, h => by unfold DatL at h; subst h; exact DatL.nil
  | d :: ds, _, n + 1, h => by
    unfold DatL at h
    obtain ⟨v, r, rfl, q, u⟩ := h
    exact DatL.cons q (DatL.take n u)
theorem DatL.set {d : D} {v : V} (h : Dat K H d v) : ∀ {ds : List D} {vs : List V} (n : Nat), DatL K H ds vs → DatL K H (ds.set n d) (vs.set n v)
  | [], _, n, t => by unfold DatL at t; subst t; exact DatL.nil
  | _ :: ds, _, 0, t => by
    unfold DatL at t
    obtain ⟨w, r, rfl, q, u⟩ := t
    exact DatL.cons h u
  | _ :: ds, _, n + 1, t => by
    unfold DatL at t
    obtain ⟨w, r, rfl, q, u⟩ := t
    exact DatL.cons q (DatL.set h n u)
theorem DatL.eraseIdx : ∀ {ds : List D} {vs : List V} (n : Nat), DatL K H ds vs → DatL K H (ds.eraseIdx n) (vs.eraseIdx n)
  | [], _, n, t => by unfold DatL at t; subst t; exact DatL.nil
  | _ :: ds, _, 0, t => by
    unfold DatL at t
    obtain ⟨w, r, rfl, q, u⟩ := t
    exact u
  | _ :: ds, _, n + 1, t => by
    unfold DatL at t
    obtain ⟨w, r, rfl, q, u⟩ := t
    exact DatL.cons q (DatL.eraseIdx n u)
theorem DatL.dropLast {ds : List D} {vs : List V} (h : DatL K H ds vs) : DatL K H ds.dropLast vs.dropLast := by
  rw [List.dropLast_eq_take, List.dropLast_eq_take, h.length]
  exact h.take _
end

/-! ### fields -/
def FsR (K : PySem.W.Frag) (H : Hp) : List (String × D) → List (Str × V) → Prop
  | [], vs => vs = []
  | p :: r, vs => ∃ v q, vs = (Str.ofString p.1, v) :: q ∧ Dat K H p.2 v ∧ FsR K H r q
def fGet (f : String) : List (String × D) → Option D
  | [] => none
  | p :: r => if f = p.1 then some p.2 else fGet f r
def fPut (f : String) (d : D) : List (String × D) → List (String × D)
  | [] => [(f, d)]
  | p :: r => if p.1 = f then (p.1, d) :: r else p :: fPut f d r
section
variable {K : PySem.W.Frag} {H H' : Hp}
theorem FsR.gr (g : Gr K H H') : ∀ {fs : List (String × D)} {vs : List (Str × V)}, FsR K H fs vs → FsR K H' fs vs
  | [], _, h => h
  | p :: r, _, h => by
    unfold FsR at h ⊢
    obtain ⟨v, q, e, d, t⟩ := h
    exact ⟨v, q, e, Dat.gr g _ d, FsR.gr g t⟩
theorem FsR.length : ∀ {fs : List (String × D)} {vs : List (Str × V)}, FsR K H fs vs → fs.length = vs.length
  | [], _, h => by unfold FsR at h; subst h; rfl
  | p :: r, _, h => by
    unfold FsR at h
    obtain ⟨v, q, rfl, d, t⟩ := h
    simp [FsR.length t]
theorem FsR.get : ∀ {fs : List (String × D)} {vs : List (Str × V)} {f : String} {d : D}, FsR K H fs vs → fGet f fs = some d → ∃ v, vs.lookup (Str.ofString f) = some v ∧ Dat K H d v
  | [], _, f, d, h, e => by cases e
  | p :: r, _, f, d, h, e => by
    unfold FsR at h
    obtain ⟨v, q, rfl, dv, t⟩ := h
    unfold fGet at e
    by_cases hf : f = p.1
    · rw [if_pos hf] at e; cases e
      refine ⟨v, ?_, dv⟩
      rw [hf]; simp [List.lookup]
    · rw [if_neg hf] at e
      obtain ⟨w, h1, h2⟩ := FsR.get t e
      refine ⟨w, ?_, h2⟩
      have hb : (Str.ofString f == Str.ofString p.1) = false := beq_eq_false_iff_ne.mpr fun z => hf (ofString_inj z)
      simp only [List.lookup, hb]
      exact h1
theorem FsR.none : ∀ {fs : List (String × D)} {vs : List (Str × V)} {f : String}, FsR K H fs vs → fGet f fs = none → vs.lookup (Str.ofString f) = none
  | [], _, f, h, e => by unfold FsR at h; subst h; rfl
  | p :: r, _, f, h, e => by
    unfold FsR at h
    obtain ⟨v, q, rfl, dv, t⟩ := h
    unfold fGet at e
    by_cases hf : f = p.1
    · rw [if_pos hf] at e; cases e
    · rw [if_neg hf] at e
      have hb : (Str.ofString f == Str.ofString p.1) = false := beq_eq_false_iff_ne.mpr fun z => hf (ofString_inj z)
      simp only [List.lookup, hb]
      exact FsR.none t e
theorem FsR.put {f : String} {d : D} {v : V} (hd : Dat K H d v) : ∀ {fs : List (String × D)} {vs : List (Str × V)}, FsR K H fs vs → FsR K H (fPut f d fs) (putF (Str.ofString f) v vs)
  | [], _, h => by
    unfold FsR at h; subst h
    show FsR K H [(f, d)] [(Str.ofString f, v)]
    unfold FsR
    exact ⟨v, [], rfl, hd, by unfold FsR; rfl⟩
  | p :: r, _, h => by
    unfold FsR at h
    obtain ⟨w, q, rfl, dw, t⟩ := h
    unfold fPut putF
    by_cases hf : p.1 = f
    · rw [if_pos hf, if_pos (by rw [hf])]
      unfold FsR
      exact ⟨v, q, rfl, hd, t⟩
    · rw [if_neg hf, if_neg (fun z => hf (ofString_inj z))]
      unfold FsR
      exact ⟨w, _, rfl, dw, FsR.put hd t⟩
end

/-- a dict's object, exactly -/
def pin (a : Nat) (o : Obj) : HO := .ext fun h => h.get? a = some o
/-- a value of the machine stands for a datum -/
def DatU (K : PySem.W.Frag) (H : Hp) (d : D) (u : Value) : Prop := ∃ v, RelV v u ∧ Dat K H d v
end VD

set_option Elab.async false
set_option linter.all false
set_option autoImplicit false
set_option maxRecDepth 100000
set_option maxHeartbeats 4000000
/-! VCb: the D layer, part b: the store held by the heap, judgements lifted, the rules for expressions without calls -/
namespace VD
open PySem PySem.Spec PyProof.Rows L2

/-! ### dicts -/
/-- pairs whose keys are ints and texts -/
def DkR (K : PySem.W.Frag) (H : Hp) : List (D × D) → List (Key × V) → Prop
  | [], ps => ps = []
  | kv :: r, ps => ∃ k v q, ps = (k, v) :: q ∧ ((∃ i, kv.1 = .int i ∧ k = .inl i) ∨ (∃ s, kv.1 = .str s ∧ k = .inr (Str.ofString s))) ∧ Dat K H kv.2 v ∧ DkR K H r q
-- a datum as a key, up to ==
mutual
def nkey : D → Option NestedKey
  | .non => some .none
  | .bl b => some (.num (if b = true then 1 else 0))
  | .int i => some (.num i)
  | .str s => some (.text (Str.ofString s))
  | .tup ds => match nkeys ds with
    | some ks => some (.tup ks)
    | none => none
  | .ref _ => none
  | .ty _ => none
  | .raw _ => none
def nkeys : List D → Option (List NestedKey)
  | [] => some []
  | d :: ds => match nkey d, nkeys ds with
    | some k, some ks => some (k :: ks)
    | _, _ => none
end
/-- pairs whose keys are tuples, at the machine's entries -/
def DtR (K : PySem.W.Frag) (H : Hp) : List (D × D) → List (NestedKey × Addr × Value) → Prop
  | [], xs => xs = []
  | kv :: r, xs => ∃ k a u q, xs = (k, a, u) :: q ∧ nkey kv.1 = some k ∧ k.depth ≤ 8 ∧ (∃ ds, kv.1 = .tup ds) ∧ Dat K H kv.1 (.ref a) ∧ DatU K H kv.2 u ∧ DtR K H r q
/-- the hash side of nested keys (it leans on the world alone) -/
def entN (w : World) (x : NestedKey × Addr × Value) : DictEntry := ⟨x.1.hash w, .ref x.2.1, x.2.2⟩
def DctAt (K : PySem.W.Frag) (w : World) (H : Hp) (a : Nat) (kvs : List (D × D)) : Prop :=
  (∃ ps, H a = some (.dK ps) ∧ DkR K H kvs ps) ∨
  ∃ o es ep xs, H a = some (pin a o) ∧ (a == sysModules) = false ∧ o.ExactDict ∧ o.data = .dict es ep ∧ es.toList = xs.map (entN w) ∧ (xs.map (·.1)).Nodup ∧ kvs.length ≤ sizeLine ∧ DtR K H kvs xs

def ObR (K : PySem.W.Frag) (w : World) (H : Hp) (a : Nat) : DO → Prop
  | .lst ds => ∃ vs, H a = some (.lst vs) ∧ DatL K H ds vs
  | .fl ds => ∃ vs, SqL K H a vs ∧ H a ≠ none ∧ DatL K H ds vs
  | .dct kvs => DctAt K w H a kvs
  | .ins C dx fs => ∃ vs, H a = some (.ins C dx vs) ∧ FsR K H fs vs
  | .xd fs => ∃ vs, H a = some (.xd vs) ∧ FsR K H fs vs
def StR (K : PySem.W.Frag) (w : World) (H : Hp) (S : Sto) : Prop := ∀ a o, S a = some o → ObR K w H a o
def SlR (K : PySem.W.Frag) (H : Hp) (δ : Sl) (σ : L2.St) : Prop := δ.length = σ.length ∧ ∀ (i : Nat) (d : D), δ[i]? = some (some d) → ∃ v, σ[i]? = some (some v) ∧ Dat K H d v
section
variable {K : PySem.W.Frag} {w : World} {H H' : Hp} {S : Sto} {δ : Sl} {σ : L2.St} {a p : Nat} {o : DO} {u : HO} {kvs : List (D × D)}
theorem DkR.gr (g : Gr K H H') : ∀ {kvs : List (D × D)} {ps : List (Key × V)}, DkR K H kvs ps → DkR K H' kvs ps
  | [], _, h => h
  | kv :: r, _, h => by
    unfold DkR at h ⊢
    obtain ⟨k, v, q, e, hk, hv, t⟩ := h
    exact ⟨k, v, q, e, hk, Dat.gr g _ hv, DkR.gr g t⟩
theorem DatU.gr (g : Gr K H H') {d : D} {u : Value} (h : DatU K H d u) : DatU K H' d u := let ⟨v, r, q⟩ := h; ⟨v, r, Dat.gr g d q⟩
theorem DtR.gr (g : Gr K H H') : ∀ {kvs : List (D × D)} {xs : List (NestedKey × Addr × Value)}, DtR K H kvs xs → DtR K H' kvs xs
  | [], _, h => h
  | kv :: r, _, h => by
    unfold DtR at h ⊢
    obtain ⟨k, a, u, q, e, hk, hd, ht, hv, hu, t⟩ := h
    exact ⟨k, a, u, q, e, hk, hd, ht, Dat.gr g _ hv, hu.gr g, DtR.gr g t⟩
theorem DctAt.move (g : Gr K H H') (e : H' a = H a) (h : DctAt K w H a kvs) : DctAt K w H' a kvs := by
  rcases h with ⟨ps, h1, h2⟩ | ⟨o, es, ep, xs, h1, h2, h3, h4, h5, h6, h7, h8⟩
  · exact .inl ⟨ps, e.trans h1, h2.gr g⟩
  · exact .inr ⟨o, es, ep, xs, e.trans h1, h2, h3, h4, h5, h6, h7, h8.gr g⟩
theorem ObR.there (h : ObR K w H a o) : H a ≠ none := by
  cases o with
  | lst ds => obtain ⟨vs, e, _⟩ := h; rw [e]; simp
  | fl ds => exact let ⟨_, _, n, _⟩ := h; n
  | dct kvs => rcases h with ⟨ps, h1, _⟩ | ⟨o, es, ep, xs, h1, _⟩ <;> rw [h1] <;> simp
  | ins C dx fs => obtain ⟨vs, e, _⟩ := h; rw [e]; simp
  | xd fs => obtain ⟨vs, e, _⟩ := h; rw [e]; simp
theorem StR.fresh (h : StR K w H S) (n : H a = none) : S a = none := by
  cases e : S a with
  | none => rfl
  | some o => exact absurd n (h a o e).there
theorem SlR.gr (g : Gr K H H') (h : SlR K H δ σ) : SlR K H' δ σ := ⟨h.1, fun i d e => let ⟨v, h1, h2⟩ := h.2 i d e; ⟨v, h1, Dat.gr g d h2⟩⟩
theorem SlR.set {d : D} {v : V} (h : SlR K H δ σ) (i : Nat) (hd : Dat K H d v) : SlR K H (δ.set i (some d)) (σ.set i (some v)) := by
  refine ⟨by simpa using h.1, fun j e q => ?_⟩
  by_cases hj : i = j
  · subst hj
    have hl : i < δ.length := by
      have := (List.getElem?_eq_some_iff.mp q).1
      simpa using this
    rw [List.getElem?_set_self hl] at q
    cases q
    exact ⟨v, List.getElem?_set_self (by rw [← h.1]; exact hl), hd⟩
  · rw [List.getElem?_set_ne hj] at q
    obtain ⟨w, h1, h2⟩ := h.2 j e q
    exact ⟨w, by rw [List.getElem?_set_ne hj]; exact h1, h2⟩
/-- the heap at a fresh place, at a place that is written -/
theorem rd_upd {a b : Nat} {o u : HO} (h : b ≠ a) (r : Rd H b u) : Rd (upd H a o) b u := by
  rcases r with r | ⟨w, r⟩
  · exact .inl (by rw [upd_ne h]; exact r)
  · exact .inr ⟨w, by rw [upd_ne h]; exact r⟩
theorem gr_new (n : H p = none) : Gr K H (upd H p u) := fun a vs h => by
  rcases h with h | h
  · refine .inl (rd_upd ?_ h)
    rintro rfl
    rcases h with h | ⟨w, h⟩ <;> rw [n] at h <;> cases h
  · exact .inr h
theorem gr_put {w : HO} (e : H p = some w) (m : Mut (some w)) : Gr K H (upd H p u) := fun a vs h => by
  rcases h with h | h
  · refine .inl (rd_upd ?_ h)
    rintro rfl
    rcases h with h | ⟨x, h⟩
    · rw [e] at h; cases h; exact m
    · rw [e] at h; cases h; exact m
  · exact .inr h
theorem sql_new {vs : List V} (n : H p = none) (h : SqL K H a vs) : SqL K (upd H p u) a vs := by
  rcases h with h | h
  · refine .inl (rd_upd ?_ h)
    rintro rfl
    rcases h with h | ⟨w, h⟩ <;> rw [n] at h <;> cases h
  · exact .inr h
theorem ObR.new (n : H p = none) (h : ObR K w H a o) : ObR K w (upd H p u) a o := by
  have ha : a ≠ p := fun e => h.there (e ▸ n)
  have g : Gr K H (upd H p u) := gr_new n
  cases o with
  | lst ds => obtain ⟨vs, e, q⟩ := h; exact ⟨vs, by rw [upd_ne ha]; exact e, DatL.gr g _ q⟩
  | fl ds => obtain ⟨vs, e, q, r⟩ := h; exact ⟨vs, sql_new n e, by rw [upd_ne ha]; exact q, DatL.gr g _ r⟩
  | dct kvs => exact DctAt.move g (upd_ne ha) h
  | ins C dx fs => obtain ⟨vs, e, q⟩ := h; exact ⟨vs, by rw [upd_ne ha]; exact e, FsR.gr g q⟩
  | xd fs => obtain ⟨vs, e, q⟩ := h; exact ⟨vs, by rw [upd_ne ha]; exact e, FsR.gr g q⟩
theorem StR.new (n : H p = none) (h : StR K w H S) : StR K w (upd H p u) S := fun a o e => (h a o e).new n
theorem StR.newUp (n : H p = none) (h : StR K w H S) (q : ObR K w (upd H p u) p o) : StR K w (upd H p u) (up S p o) := fun a o' e => by
  by_cases ha : a = p
  · subst ha; rw [up_same] at e; cases e; exact q
  · rw [up_ne ha] at e; exact h.new n a o' e
/-- written at p: what else stands is kept (a list that is only read is not p) -/
theorem ObR.put {w0 : HO} (e : H p = some w0) (m : Mut (some w0)) (ha : a ≠ p) (h : ObR K w H a o) : ObR K w (upd H p u) a o := by
  have g : Gr K H (upd H p u) := gr_put e m
  cases o with
  | lst ds => obtain ⟨vs, e, q⟩ := h; exact ⟨vs, by rw [upd_ne ha]; exact e, DatL.gr g _ q⟩
  | fl ds =>
    obtain ⟨vs, s, q, r⟩ := h
    refine ⟨vs, ?_, by rw [upd_ne ha]; exact q, DatL.gr g _ r⟩
    rcases s with s | s
    · exact .inl (rd_upd ha s)
    · exact .inr s
  | dct kvs => exact DctAt.move g (upd_ne ha) h
  | ins C dx fs => obtain ⟨vs, e, q⟩ := h; exact ⟨vs, by rw [upd_ne ha]; exact e, FsR.gr g q⟩
  | xd fs => obtain ⟨vs, e, q⟩ := h; exact ⟨vs, by rw [upd_ne ha]; exact e, FsR.gr g q⟩
theorem StR.put {w0 : HO} (e : H p = some w0) (m : Mut (some w0)) (h : StR K w H S) (q : ObR K w (upd H p u) p o) : StR K w (upd H p u) (up S p o) := fun a o' e' => by
  by_cases ha : a = p
  · subst ha; rw [up_same] at e'; cases e'; exact q
  · rw [up_ne ha] at e'; exact (h a o' e').put e m ha
theorem StR.le {S' : Sto} (h : StR K w H S) (l : Le S' S) : StR K w H S' := fun a o e => h a o (l a o e)
end

/-! ### readings over data, lifted -/
abbrev DK := D → Sto → Prop
abbrev XD := Value → Option Nat → Sto → Prop
abbrev TDE := Sl → Sto → DK → XD → Prop
abbrev TDT := Sl → Sto → (Bool → Sto → Prop) → XD → Prop
abbrev TDA := Sl → Sto → (List D → Sto → Prop) → XD → Prop
/-- what an exception wishes, over data -/
def ExL (K : PySem.W.Frag) (w : World) (W : WX) (σ : L2.St) (H : Hp) (Y : XD) : Prop := ∀ c dx S' H', Y c dx S' → Gr K H H' → StR K w H' S' → W c dx σ H'
def lift (K : PySem.W.Frag) (w : World) (W : WX) (t : TDE) : TE := fun σ H Q => ∃ δ S P Y, SlR K H δ σ ∧ StR K w H S ∧ t δ S P Y ∧
  (∀ d S' v H', P d S' → Gr K H H' → StR K w H' S' → Dat K H' d v → Q v H') ∧ ExL K w W σ H Y
def liftT (K : PySem.W.Frag) (w : World) (W : WX) (t : TDT) : TT := fun σ H Q => ∃ δ S P Y, SlR K H δ σ ∧ StR K w H S ∧ t δ S P Y ∧
  (∀ b S' H', P b S' → Gr K H H' → StR K w H' S' → Q b H') ∧ ExL K w W σ H Y
def liftA (K : PySem.W.Frag) (w : World) (W : WX) (t : TDA) : TA := fun σ H Q => ∃ δ S P Y, SlR K H δ σ ∧ StR K w H S ∧ t δ S P Y ∧
  (∀ ds S' vs H', P ds S' → Gr K H H' → StR K w H' S' → DatL K H' ds vs → Q vs H') ∧ ExL K w W σ H Y
structure DE (X : Cx) (e : Expr) (t : TDE) : Prop where
  ok : ∀ W, Takes X W → PE X e (lift X.K X.w W t)
structure DT (X : Cx) (e : Expr) (t : TDT) : Prop where
  ok : ∀ W, Takes X W → PT X e (liftT X.K X.w W t)
/-- a test that is a chain of and, or: PW -/
structure DW (X : Cx) (e : Expr) (t : TDT) : Prop where
  ok : ∀ W, Takes X W → PW X e (liftT X.K X.w W t)
structure DA (X : Cx) (es : List Expr) (t : TDA) : Prop where
  ok : ∀ W, Takes X W → PA X es (liftA X.K X.w W t)
structure Ed where
  nx : Sl → Sto → Prop
  rt : DK
  bk : Sl → Sto → Prop
  ct : Sl → Sto → Prop
  ex : Value → Option Nat → Sl → Sto → Prop
abbrev TDS := Ed → Sl → Sto → Prop
def liftS (K : PySem.W.Frag) (w : World) (W : WX) (t : TDS) : TS := fun D σ H => ∃ δ S E, SlR K H δ σ ∧ StR K w H S ∧ t E δ S ∧
  (∀ δ' S' σ' H', E.nx δ' S' → Gr K H H' → SlR K H' δ' σ' → StR K w H' S' → D.nx σ' H') ∧
  (∀ d S' v H', E.rt d S' → Gr K H H' → StR K w H' S' → Dat K H' d v → D.rt v H') ∧
  (∀ δ' S' σ' H', E.bk δ' S' → Gr K H H' → SlR K H' δ' σ' → StR K w H' S' → D.bk σ' H') ∧
  (∀ δ' S' σ' H', E.ct δ' S' → Gr K H H' → SlR K H' δ' σ' → StR K w H' S' → D.ct σ' H') ∧
  (∀ c dx δ' S' σ' H', E.ex c dx δ' S' → Gr K H H' → SlR K H' δ' σ' → StR K w H' S' → W c dx σ' H')
structure DS (X : Cx) (st : Stmt) (t : TDS) : Prop where
  ok : ∀ W, Takes X W → PS X st (liftS X.K X.w W t)
structure DSs (X : Cx) (sts : List Stmt) (t : TDS) : Prop where
  ok : ∀ W, Takes X W → PSs X sts (liftS X.K X.w W t)
theorem peImp {X : Cx} {e : Expr} {t t' : TE} (h : PE X e t) (i : ∀ σ H Q, t' σ H Q → t σ H Q) : PE X e t' := ⟨fun pins s σ H Q I q => h.run pins s σ H Q I (i σ H Q q)⟩
theorem ptImp {X : Cx} {e : Expr} {t t' : TT} (h : PT X e t) (i : ∀ σ H Q, t' σ H Q → t σ H Q) : PT X e t' := ⟨fun pins s σ H Q I q => h.run pins s σ H Q I (i σ H Q q)⟩
theorem pwImp {X : Cx} {e : Expr} {t t' : TT} (h : PW X e t) (i : ∀ σ H Q, t' σ H Q → t σ H Q) : PW X e t' := ⟨fun whole pins s σ H Q I q => h.run whole pins s σ H Q I (i σ H Q q)⟩
theorem paImp {X : Cx} {es : List Expr} {t t' : TA} (h : PA X es t) (i : ∀ σ H Q, t' σ H Q → t σ H Q) : PA X es t' := ⟨fun pos pins s σ H Q I q => h.run pos pins s σ H Q I (i σ H Q q)⟩
theorem psImp {X : Cx} {st : Stmt} {t t' : TS} (h : PS X st t) (i : ∀ D σ H, t' D σ H → t D σ H) : PS X st t' := ⟨fun pins s σ H D I q => h.run pins s σ H D I (i D σ H q)⟩
theorem pssImp {X : Cx} {st : List Stmt} {t t' : TS} (h : PSs X st t) (i : ∀ D σ H, t' D σ H → t D σ H) : PSs X st t' := ⟨fun pins s σ H D I q => h.run pins s σ H D I (i D σ H q)⟩
theorem ExL.gr {K : PySem.W.Frag} {w : World} {W : WX} {σ : L2.St} {H H' : Hp} {Y : XD} (h : ExL K w W σ H Y) (g : Gr K H H') : ExL K w W σ H' Y := fun c dx S' H2 y g2 r => h c dx S' H2 y (g.trans g2) r

/-! ### names, constants -/
section
variable {X : Cx}
def dVar (i : Nat) : TDE := fun δ S P _ => match δ[i]? with
  | some (some d) => P d S
  | _ => False
theorem de_var {i : Nat} {x : Str} {pos : Pos} (hN : X.N[i]? = some x) (hv : Vis X.env.scope x) (hd : (x == ("__debug__" : Str)) = false) (hcd : (x == ("__classdict__" : Str)) = false) : DE X (.Name x pos) (dVar i) :=
  ⟨fun W _ => peImp (pe_var hN hv hd hcd) fun σ H Q ⟨δ, S, P, Y, hl, hs, ht, hq, _⟩ => by
    unfold dVar at ht
    split at ht
    · rename_i d e
      obtain ⟨v, h1, h2⟩ := hl.2 i d e
      exact ⟨v, h1, hq d S v H ht Gr.refl hs h2⟩
    · exact ht.elim⟩
def dC (d : D) : TDE := fun _ S P _ => P d S
theorem de_const {e : Expr} {v : V} {d : D} (h : PE X e (tC v)) (hd : ∀ H, Dat X.K H d v) : DE X e (dC d) :=
  ⟨fun W _ => peImp h fun σ H Q ⟨δ, S, P, Y, hl, hs, ht, hq, _⟩ => hq d S v H ht Gr.refl hs (hd H)⟩
theorem de_int {i : Int} {j : Nat} {pos : Pos} : DE X (.Constant (.int i) j pos) (dC (.int i)) := de_const pe_int fun _ => by unfold Dat; rfl
theorem de_bl {b : Bool} {j : Nat} {pos : Pos} : DE X (.Constant (.bool b) j pos) (dC (.bl b)) := de_const pe_bl fun _ => by unfold Dat; rfl
theorem de_non {j : Nat} {pos : Pos} : DE X (.Constant .none j pos) (dC .non) := de_const pe_non fun _ => by unfold Dat; rfl
theorem de_str {s : String} {j : Nat} {pos : Pos} : DE X (.Constant (.str (Str.ofString s)) j pos) (dC (.str s)) := de_const pe_str fun _ => by unfold Dat; rfl
/-- a constant of the module -/
def GloIs (K : PySem.W.Frag) (mg : Str → Option Value) (x : Str) (d : D) : Prop := ∃ u v, mg x = some u ∧ RelV v u ∧ ∀ H, Dat K H d v
theorem de_glob {x : Str} {d : D} {pos : Pos} (hg : Gl X x) (h : GloIs X.K X.mg x d) (hd : (x == ("__debug__" : Str)) = false) : DE X (.Name x pos) (dC d) := by
  obtain ⟨u, v, h1, h2, h3⟩ := h
  exact de_const (pe_glob hg h1 h2 hd) h3

/-! ### operators -/
abbrev RD2 := D → D → Sto → DK → Prop
def liftR (K : PySem.W.Frag) (w : World) (r : RD2) : R2 := fun x y H Q => ∃ d1 d2 S P, Dat K H d1 x ∧ Dat K H d2 y ∧ StR K w H S ∧ r d1 d2 S P ∧ ∀ d S' v H', P d S' → Gr K H H' → StR K w H' S' → Dat K H' d v → Q v H'
def OpD (X : Cx) (f : Value → Value → Sem Value) (r : RD2) : Prop := OpR X f (liftR X.K X.w r)
def dBin (r : RD2) (ta tb : TDE) : TDE := fun δ S P Y => ta δ S (fun d1 S1 => tb δ S1 (fun d2 S2 => r d1 d2 S2 P) Y) Y
theorem bin_imp {K : PySem.W.Frag} {w : World} {W : WX} {r : RD2} {ta tb : TDE} {σ : L2.St} {H : Hp} {Q : VK} (h : lift K w W (dBin r ta tb) σ H Q) : tOp (liftR K w r) (lift K w W ta) (lift K w W tb) σ H Q := by
  obtain ⟨δ, S, P, Y, hl, hs, ht, hq, hy⟩ := h
  refine ⟨δ, S, _, Y, hl, hs, ht, fun d1 S1 v1 H1 p1 g1 s1 q1 => ⟨δ, S1, _, Y, hl.gr g1, s1, p1, fun d2 S2 v2 H2 p2 g2 s2 q2 => ?_, hy.gr g1⟩, hy⟩
  exact ⟨d1, d2, S2, P, Dat.gr g2 _ q1, q2, s2, p2, fun d S' v H' p g s q => hq d S' v H' p ((g1.trans g2).trans g) s q⟩
theorem de_op {op : Operator} {r : RD2} {a b : Expr} {ta tb : TDE} {pos : Pos} (ho : OpD X (binaryOp op) r) (ha : DE X a ta) (hb : DE X b tb) : DE X (.BinOp a op b pos) (dBin r ta tb) :=
  ⟨fun W tk => peImp (pe_op ho (ha.ok W tk) (hb.ok W tk)) fun _ _ _ h => bin_imp h⟩
theorem de_cmp {op : CmpOp} {r : RD2} {a b : Expr} {ta tb : TDE} {pos : Pos} (ho : OpD X (compareOp op) r) (ha : DE X a ta) (hb : DE X b tb) (hm : behindInMarks op b = false) : DE X (.Compare a [op] [b] pos) (dBin r ta tb) :=
  ⟨fun W tk => peImp (pe_cmpR ho (ha.ok W tk) (hb.ok W tk) hm) fun _ _ _ h => bin_imp h⟩
/-- a reading as a test -/
def dTest (t : TDE) : TDT := fun δ S P Y => t δ S (fun d S1 => match d with | .bl b => P b S1 | _ => False) Y
theorem dt_cmp {op : CmpOp} {r : RD2} {a b : Expr} {ta tb : TDE} {pos : Pos} (ho : OpD X (compareOp op) r) (ha : DE X a ta) (hb : DE X b tb) (hm : behindInMarks op b = false) : DT X (.Compare a [op] [b] pos) (dTest (dBin r ta tb)) :=
  ⟨fun W tk => ptImp (pt_cmpR ho (ha.ok W tk) (hb.ok W tk) hm) fun σ H Q ⟨δ, S, P, Y, hl, hs, ht, hq, hy⟩ => by
    refine bin_imp ⟨δ, S, _, Y, hl, hs, ht, fun d S' v H' p g s q => ?_, hy⟩
    cases d with
    | bl b =>
      unfold Dat at q
      exact ⟨b, q, hq b S' H' p g s⟩
    | _ => exact p.elim⟩
theorem dt_val {e : Expr} {t : TDE} (h : DE X e t) (he : ∀ whole, isTrue e X.env whole = (do let v ← whole; standAt e.pos; holding [v] (truthy v))) : DT X e (dTest t) :=
  ⟨fun W tk => ptImp (pt_val (h.ok W tk) he) fun σ H Q ⟨δ, S, P, Y, hl, hs, ht, hq, hy⟩ => by
    refine ⟨δ, S, _, Y, hl, hs, ht, fun d S' v H' p g s q => ?_, hy⟩
    cases d with
    | bl b =>
      unfold Dat at q
      exact ⟨b, q, hq b S' H' p g s⟩
    | _ => exact p.elim⟩
/-- truth of a list, an int, a text (not a dict) -/
def truD (d : D) (S : Sto) : Option Bool := match d with
  | .non => some false
  | .bl b => some b
  | .int i => some (i != 0)
  | .tup ds => some (!ds.isEmpty)
  | .ref a => match S a with
    | some (.lst ds) => some (!ds.isEmpty)
    | some (.fl ds) => some (!ds.isEmpty)
    | _ => none
  | _ => none
def dTru (t : TDE) : TDT := fun δ S P Y => t δ S (fun d S1 => match truD d S1 with | some b => P b S1 | none => False) Y
theorem isEmpty_dat {K : PySem.W.Frag} {H : Hp} {ds : List D} {vs : List V} (h : DatL K H ds vs) : ds.isEmpty = vs.isEmpty := by
  have := h.length
  cases ds <;> cases vs <;> simp_all
theorem dt_tru {e : Expr} {t : TDE} (h : DE X e t) (he : ∀ whole, isTrue e X.env whole = (do let v ← whole; standAt e.pos; holding [v] (truthy v))) : DT X e (dTru t) :=
  ⟨fun W tk => ptImp (pt_truth (h.ok W tk) he) fun σ H Q ⟨δ, S, P, Y, hl, hs, ht, hq, hy⟩ => by
    refine ⟨δ, S, _, Y, hl, hs, ht, fun d S' v H' p g s q => ?_, hy⟩
    cases e1 : truD d S' with
    | none => rw [e1] at p; exact p.elim
    | some b =>
      rw [e1] at p
      refine ⟨b, ?_, hq b S' H' p g s⟩
      cases d with
      | non => unfold Dat at q; subst q; simp [truD] at e1; exact e1
      | bl c => unfold Dat at q; subst q; simp [truD] at e1; exact e1.symm
      | int i => unfold Dat at q; subst q; simp only [truD, Option.some.injEq] at e1; exact e1.symm
      | str x => simp [truD] at e1
      | raw x => simp [truD] at e1
      | ty n => simp [truD] at e1
      | tup ds =>
        unfold Dat at q
        obtain ⟨a, vs, rfl, hv, hd⟩ := q
        simp only [truD, Option.some.injEq] at e1
        exact .inr (.inl ⟨vs, hv, by rw [← e1, isEmpty_dat hd]⟩)
      | ref a =>
        unfold Dat at q
        subst q
        simp only [truD] at e1
        cases e2 : S' a with
        | none => rw [e2] at e1; simp at e1
        | some o =>
          have r := s a o e2
          rw [e2] at e1
          cases o with
          | lst ds =>
            obtain ⟨vs, h1, hd⟩ := r
            simp only [Option.some.injEq] at e1
            exact .inl ⟨vs, SqL.of h1, by rw [← e1, isEmpty_dat hd]⟩
          | fl ds =>
            obtain ⟨vs, h1, _, hd⟩ := r
            simp only [Option.some.injEq] at e1
            exact .inl ⟨vs, h1, by rw [← e1, isEmpty_dat hd]⟩
          | _ => simp at e1⟩
/-! ### and, or, not, if else -/
def dAnd (t u : TDT) : TDT := fun δ S P Y => t δ S (fun b S1 => match b with | true => u δ S1 P Y | false => P false S1) Y
def dOr (t u : TDT) : TDT := fun δ S P Y => t δ S (fun b S1 => match b with | true => P true S1 | false => u δ S1 P Y) Y
def dNot (t : TDT) : TDT := fun δ S P Y => t δ S (fun b S1 => P (!b) S1) Y
variable {a b c : Expr} {ta tb : TDE} {tA tB' : TDT} {rest : List Expr} {pos : Pos}
theorem DW.dt (h : DW X a tA) : DT X a tA := ⟨fun W tk => (h.ok W tk).pt⟩
theorem dw_and1 (ha : DT X a tA) : DW X (.BoolOp .And [a] pos) tA := ⟨fun W tk => pw_and1 (ha.ok W tk)⟩
theorem dw_or1 (ha : DT X a tA) : DW X (.BoolOp .Or [a] pos) tA := ⟨fun W tk => pw_or1 (ha.ok W tk)⟩
theorem dw_and (ha : DT X a tA) (hb : DW X (.BoolOp .And (b :: rest) pos) tB') : DW X (.BoolOp .And (a :: b :: rest) pos) (dAnd tA tB') :=
  ⟨fun W tk => pwImp (pw_and (ha.ok W tk) (hb.ok W tk)) fun σ H Q ⟨δ, S, P, Y, hl, hs, ht, hq, hy⟩ => by
    refine ⟨δ, S, _, Y, hl, hs, ht, fun b S1 H1 p1 g1 s1 => ?_, hy⟩
    cases b with
    | true => exact ⟨δ, S1, P, Y, hl.gr g1, s1, p1, fun b S' H' p g s => hq b S' H' p (g1.trans g) s, hy.gr g1⟩
    | false => exact hq false S1 H1 p1 g1 s1⟩
theorem dw_or (ha : DT X a tA) (hb : DW X (.BoolOp .Or (b :: rest) pos) tB') : DW X (.BoolOp .Or (a :: b :: rest) pos) (dOr tA tB') :=
  ⟨fun W tk => pwImp (pw_or (ha.ok W tk) (hb.ok W tk)) fun σ H Q ⟨δ, S, P, Y, hl, hs, ht, hq, hy⟩ => by
    refine ⟨δ, S, _, Y, hl, hs, ht, fun b S1 H1 p1 g1 s1 => ?_, hy⟩
    cases b with
    | false => exact ⟨δ, S1, P, Y, hl.gr g1, s1, p1, fun b S' H' p g s => hq b S' H' p (g1.trans g) s, hy.gr g1⟩
    | true => exact hq true S1 H1 p1 g1 s1⟩
theorem dt_not (ha : DT X a tA) : DT X (.UnaryOp .Not a pos) (dNot tA) :=
  ⟨fun W tk => ptImp (pt_not (ha.ok W tk)) fun σ H Q ⟨δ, S, P, Y, hl, hs, ht, hq, hy⟩ => ⟨δ, S, _, Y, hl, hs, ht, fun b S1 H1 p1 g1 s1 => hq _ S1 H1 p1 g1 s1, hy⟩⟩
def dIf (t : TDT) (ta tb : TDE) : TDE := fun δ S P Y => t δ S (fun b S1 => match b with | true => ta δ S1 P Y | false => tb δ S1 P Y) Y
theorem de_if (hc : DT X c tA) (ha : DE X a ta) (hb : DE X b tb) : DE X (.IfExp c a b pos) (dIf tA ta tb) :=
  ⟨fun W tk => peImp (pe_ifExp (hc.ok W tk) (ha.ok W tk) (hb.ok W tk)) fun σ H Q ⟨δ, S, P, Y, hl, hs, ht, hq, hy⟩ => by
    refine ⟨δ, S, _, Y, hl, hs, ht, fun b S1 H1 p1 g1 s1 => ?_, hy⟩
    cases b with
    | true => exact ⟨δ, S1, P, Y, hl.gr g1, s1, p1, fun d S' v H' p g s q => hq d S' v H' p (g1.trans g) s q, hy.gr g1⟩
    | false => exact ⟨δ, S1, P, Y, hl.gr g1, s1, p1, fun d S' v H' p g s q => hq d S' v H' p (g1.trans g) s q, hy.gr g1⟩⟩
/-- and, or, not as values: truth values in, a truth value out -/
def dAndV (ta tb : TDE) : TDE := fun δ S P Y => ta δ S (fun d S1 => match d with | .bl true => tb δ S1 P Y | .bl false => P (.bl false) S1 | _ => False) Y
def dOrV (ta tb : TDE) : TDE := fun δ S P Y => ta δ S (fun d S1 => match d with | .bl true => P (.bl true) S1 | .bl false => tb δ S1 P Y | _ => False) Y
def dNotV (ta : TDE) : TDE := fun δ S P Y => ta δ S (fun d S1 => match d with | .bl b => P (.bl (!b)) S1 | _ => False) Y
theorem de_one {op : BoolOp} (h : DE X a ta) : DE X (.BoolOp op [a] pos) ta := ⟨fun W tk => pe_one (h.ok W tk)⟩
theorem de_and (ha : DE X a ta) (hb : DE X (.BoolOp .And (b :: rest) pos) tb) : DE X (.BoolOp .And (a :: b :: rest) pos) (dAndV ta tb) :=
  ⟨fun W tk => peImp (pe_and (ha.ok W tk) (hb.ok W tk)) fun σ H Q ⟨δ, S, P, Y, hl, hs, ht, hq, hy⟩ => by
    refine ⟨δ, S, _, Y, hl, hs, ht, fun d S1 v H1 p1 g1 s1 q1 => ?_, hy⟩
    cases d with
    | bl b =>
      unfold Dat at q1
      refine ⟨b, q1, ?_⟩
      cases b with
      | true => exact ⟨δ, S1, P, Y, hl.gr g1, s1, p1, fun d S' v H' p g s q => hq d S' v H' p (g1.trans g) s q, hy.gr g1⟩
      | false => exact hq _ S1 _ H1 p1 g1 s1 (by unfold Dat; rfl)
    | _ => exact p1.elim⟩
theorem de_or (ha : DE X a ta) (hb : DE X (.BoolOp .Or (b :: rest) pos) tb) : DE X (.BoolOp .Or (a :: b :: rest) pos) (dOrV ta tb) :=
  ⟨fun W tk => peImp (pe_or (ha.ok W tk) (hb.ok W tk)) fun σ H Q ⟨δ, S, P, Y, hl, hs, ht, hq, hy⟩ => by
    refine ⟨δ, S, _, Y, hl, hs, ht, fun d S1 v H1 p1 g1 s1 q1 => ?_, hy⟩
    cases d with
    | bl b =>
      unfold Dat at q1
      refine ⟨b, q1, ?_⟩
      cases b with
      | false => exact ⟨δ, S1, P, Y, hl.gr g1, s1, p1, fun d S' v H' p g s q => hq d S' v H' p (g1.trans g) s q, hy.gr g1⟩
      | true => exact hq _ S1 _ H1 p1 g1 s1 (by unfold Dat; rfl)
    | _ => exact p1.elim⟩
theorem de_not (ha : DE X a ta) : DE X (.UnaryOp .Not a pos) (dNotV ta) :=
  ⟨fun W tk => peImp (pe_not (ha.ok W tk)) fun σ H Q ⟨δ, S, P, Y, hl, hs, ht, hq, hy⟩ => by
    refine ⟨δ, S, _, Y, hl, hs, ht, fun d S1 v H1 p1 g1 s1 q1 => ?_, hy⟩
    cases d with
    | bl b =>
      unfold Dat at q1
      exact ⟨b, q1, hq _ S1 _ H1 p1 g1 s1 (by unfold Dat; rfl)⟩
    | _ => exact p1.elim⟩

/-! ### arguments, displays -/
def dNil : TDA := fun _ S P _ => P [] S
def dCons (te : TDE) (t : TDA) : TDA := fun δ S P Y => te δ S (fun d S1 => t δ S1 (fun ds S2 => P (d :: ds) S2) Y) Y
variable {e : Expr} {es : List Expr} {te : TDE} {t : TDA}
theorem da_nil : DA X [] dNil := ⟨fun W _ => paImp pa_nil fun σ H Q ⟨δ, S, P, Y, hl, hs, ht, hq, _⟩ => hq [] S [] H ht Gr.refl hs DatL.nil⟩
theorem da_cons (ha : DE X e te) (hr : DA X es t) (hs : starEach (e :: es) X.env = (false, eval e X.env) :: starEach es X.env) : DA X (e :: es) (dCons te t) :=
  ⟨fun W tk => paImp (pa_cons (ha.ok W tk) (hr.ok W tk) hs) fun σ H Q ⟨δ, S, P, Y, hl, hs, ht, hq, hy⟩ =>
    ⟨δ, S, _, Y, hl, hs, ht, fun d S1 v H1 p1 g1 s1 q1 => ⟨δ, S1, _, Y, hl.gr g1, s1, p1, fun ds S2 vs H2 p2 g2 s2 q2 =>
      hq (d :: ds) S2 (v :: vs) H2 p2 (g1.trans g2) s2 (DatL.cons (Dat.gr g2 _ q1) q2), hy.gr g1⟩, hy⟩⟩
def dTup (t : TDA) : TDE := fun δ S P Y => t δ S (fun ds S1 => ds.length ≤ sizeLine ∧ P (.tup ds) S1) Y
def dLst (t : TDA) : TDE := fun δ S P Y => t δ S (fun ds S1 => ds.length ≤ sizeLine ∧ ∀ p, S1 p = none → P (.ref p) (up S1 p (.lst ds))) Y
theorem dat_newtup {K : PySem.W.Frag} {H : Hp} {p : Nat} {ds : List D} {vs : List V} (n : H p = none) (h : DatL K H ds vs) : Dat K (upd H p (.tup vs)) (.tup ds) (.ref p) := by
  unfold Dat
  exact ⟨p, vs, rfl, SqT.of upd_same, DatL.gr (gr_new n) _ h⟩
theorem obr_newlst {K : PySem.W.Frag} {w : World} {H : Hp} {p : Nat} {ds : List D} {vs : List V} (n : H p = none) (h : DatL K H ds vs) : ObR K w (upd H p (.lst vs)) p (.lst ds) :=
  ⟨vs, upd_same, DatL.gr (gr_new n) _ h⟩
theorem de_tup {k : Nat} (h : DA X es t) : DE X (.Tuple es k pos) (dTup t) :=
  ⟨fun W tk => peImp (pe_tup (h.ok W tk)) fun σ H Q ⟨δ, S, P, Y, hl, hs, ht, hq, hy⟩ =>
    ⟨δ, S, _, Y, hl, hs, ht, fun ds S1 vs H1 p1 g1 s1 q1 => ⟨by rw [← q1.length]; exact p1.1, fun p n =>
      hq _ S1 _ _ p1.2 (g1.trans (gr_new n)) (s1.new n) (dat_newtup n q1)⟩, hy⟩⟩
theorem de_lst (h : DA X es t) : DE X (.List es pos) (dLst t) :=
  ⟨fun W tk => peImp (pe_lst (h.ok W tk)) fun σ H Q ⟨δ, S, P, Y, hl, hs, ht, hq, hy⟩ =>
    ⟨δ, S, _, Y, hl, hs, ht, fun ds S1 vs H1 p1 g1 s1 q1 => ⟨by rw [← q1.length]; exact p1.1, fun p n =>
      hq _ _ _ _ (p1.2 p (s1.fresh n)) (g1.trans (gr_new n)) (s1.newUp n (obr_newlst n q1)) (by unfold Dat; rfl)⟩, hy⟩⟩
end
end VD

set_option Elab.async false
set_option linter.all false
set_option autoImplicit false
set_option maxRecDepth 100000
set_option maxHeartbeats 4000000
/-! VCc: the D layer, part c: calls of defs, methods, classes; attributes -/
namespace VD
open PySem PySem.Spec PyProof.Rows L2

/-! ### shapes of syntax -/
def isStar : PySem.Expr → Bool
  | .Starred _ _ => true
  | _ => false
def noStars : List PySem.Expr → Bool
  | [] => true
  | e :: es => !isStar e && noStars es
theorem star_cons {e : PySem.Expr} {es : List PySem.Expr} {env : Env} (h : isStar e = false) : starEach (e :: es) env = (false, eval e env) :: starEach es env := by
  cases e <;> first | rfl | (cases h)
theorem star_any : ∀ {es : List PySem.Expr} {env : Env} (pos : Pos), noStars es = true → (backTo pos (starEach es env)).any (·.1) = false
  | [], _, _, _ => rfl
  | e :: es, env, pos, h => by
    unfold noStars at h
    rw [Bool.and_eq_true, Bool.not_eq_true'] at h
    rw [star_cons h.1]
    have ih := star_any (es := es) (env := env) pos h.2
    unfold backTo at ih ⊢
    rw [List.map_cons, List.any_cons, ih]
    rfl
theorem star_all : ∀ {es : List PySem.Expr} {env : Env} (pos : Pos), noStars es = true → (backTo pos (starEach es env)).all (fun x => !x.1) = true
  | [], _, _, _ => rfl
  | e :: es, env, pos, h => by
    unfold noStars at h
    rw [Bool.and_eq_true, Bool.not_eq_true'] at h
    rw [star_cons h.1]
    have ih := star_all (es := es) (env := env) pos h.2
    unfold backTo at ih ⊢
    rw [List.map_cons, List.all_cons, ih]
    rfl
/-- no bare call of a name: what is asked of a receiver -/
def plainBase : PySem.Expr → Bool
  | .Call (.Name _ _) [] [] _ => false
  | _ => true
theorem base_of {o : PySem.Expr} {f : Str} {env : Env} {t : Sem Value} (h : plainBase o = true) : attributeBase o f env t = t := by
  unfold attributeBase
  split
  · cases h
  · rfl
/-- a method's call, its arguments plain and few, on one line -/
theorem evalCallMeth {o : PySem.Expr} {name : Str} {apos pos : Pos} {args : List PySem.Expr} {env : Env} (hb : plainBase o = true) (hn : noStars args = true) (hl : (apos.endLine == pos.line) = true) (hf : args.length < 30) :
    eval (.Call (.Attribute o name apos) args [] pos) env = (do
      let ov ← eval o env
      standAt apos.atName
      let (f, first) ← holding [ov] (getMethod ov name (do return (← importBound o env).getD true))
      callWith pos f first (backTo pos (starEach args env)) (backToKw pos (keywordEach [] env))) := by
  have hform : methodCallForm (args.length + ([] : List Keyword).length) (backTo pos (starEach args env)) (backToKw pos (keywordEach [] env)) = true := by
    unfold methodCallForm
    rw [star_all pos hn]
    show (true && true && decide (args.length + 0 + 0 < 30)) = true
    simp [hf]
  rw [arm_eval_Call, base_of hb]
  unfold methodCall
  rw [hform]
  unfold calleeOf methodCallPos
  simp only [Bool.not_true, hl, Bool.or_true, Bool.false_or, if_true]
  rfl

/-! ### promises over data -/
abbrev DSp := List D → Sto → DK → XD → Prop
def liftSp (K : PySem.W.Frag) (w : World) (sp : DSp) : Sp := fun vs H Q E => ∃ ds S P Y, DatL K H ds vs ∧ StR K w H S ∧ sp ds S P Y ∧
  (∀ d S' v H', P d S' → Gr K H H' → StR K w H' S' → Dat K H' d v → Q v H') ∧
  (∀ c dx S' H', Y c dx S' → Gr K H H' → StR K w H' S' → E c dx H')
/-- where the text's functions stand: the world, the written part, the level -/
structure Wo where
  P : Program
  w : World
  K : PySem.W.Frag
  mg : Str → Option Value
  base : Heap
def Wo.of (X : Cx) : Wo := ⟨X.prog, X.w, X.K, X.mg, X.base⟩
/-- room, and no text is under way around -/
structure Rm (k : Nat) (A : Around) : Prop where
  room : Room k A
  gd : A.guards = some []
theorem Rm.mono {j k : Nat} {A : Around} (r : Rm k A) (h : j ≤ k) : Rm j A := ⟨r.room.mono h, r.gd⟩
theorem Rm.make {k : Nat} {A : Around} (r : Rm (k + 1) A) (C : Addr) (us : List Value) : Rm k (A.under (.builtin "type.__call__" ⟨.ref C :: us, []⟩)) :=
  ⟨r.room.make C us [], by
    have e : (A.under (.builtin "type.__call__" ⟨.ref C :: us, []⟩)).guards = A.guards := rfl
    rw [e]; exact r.gd⟩
/-- as the hand layer's FnOk, where no text is under way around -/
structure FnG (P : Program) (w : World) (K : PySem.W.Frag) (mg : Str → Option Value) (base : Heap) (k : Nat) (f : Addr) (fd : FuncData) (ps : List Str) (sp : Sp) : Prop where
  len : ∀ vs H Q E, sp vs H Q E → vs.length = ps.length
  run : ∀ (A : Around) (outer : List Env) (s : Shared) (H : Hp) (args : Args) (us : List Value) (vs : List V) (Q : VK) (E : XK), Rm k A →
    Env0 P w K mg base A outer s H → BindsTo s fd args (ps.zip us) → Vals vs us → sp vs H Q E →
    codeAny (model P w) A (.call (.ref f) args) (CR (L2.CX P w) outer P w H s Q E) s
/-- a function keeps a promise at level k -/
def FnAt (G : Wo) (k : Nat) (f : Nat) (n : Nat) (sp : DSp) : Prop := ∃ fd ps, FnG G.P G.w G.K G.mg G.base k f fd ps (liftSp G.K G.w sp) ∧ Binds G.K fd ps [] ∧ ps.length = n ∧ PySem.W.keepIn G.K (.ref f) = true
theorem FnG.mono {P : Program} {w : World} {K : PySem.W.Frag} {mg : Str → Option Value} {base : Heap} {j k : Nat} {f : Addr} {fd : FuncData} {ps : List Str} {sp : Sp} (F : FnG P w K mg base j f fd ps sp) (l : j ≤ k) : FnG P w K mg base k f fd ps sp :=
  ⟨F.len, fun A outer s H args us vs Q E r e b v q => F.run A outer s H args us vs Q E (r.mono l) e b v q⟩
theorem FnAt.mono {G : Wo} {j k f n : Nat} {sp : DSp} (h : FnAt G j f n sp) (l : j ≤ k) : FnAt G k f n sp := let ⟨fd, ps, F, b, e, kp⟩ := h; ⟨fd, ps, F.mono l, b, e, kp⟩
/-- a callee runs; what it raises is wished for at the caller's slots -/
theorem runG {X : Cx} {k : Nat} {f : Addr} {fd : FuncData} {ps : List Str} {sp : Sp} {E : L2.St → XK} {pins : List (Addr × Obj)} {σ : L2.St} {H : Hp} {s : Shared} {Q : VK} {us : List Value} {vs : List V}
    (F : FnG X.prog X.w X.K X.mg X.base k f fd ps sp) (hr : Rm k X.A) (hb : Binds X.K fd ps []) (hx : PassesAt (L2.CX X.prog X.w) X σ (E σ))
    (I : Inv X pins σ H s) (r : Vals vs us) (h : sp vs H Q (E σ)) : wpAny (model X.prog X.w) X.A (call (.ref f) us) (EP X pins σ Q) X.xe s := by
  have e1 : us.length = ps.length := r.length.symm.trans (F.len _ _ _ _ h)
  have b := hb s us I.kIn (by rw [List.append_nil]; exact e1)
  rw [List.append_nil] at b
  refine wpAny_call (codeAny_mono (F.run _ _ s H ⟨us, []⟩ us vs Q _ hr I.env0 b r h) fun res s' hres => ?_)
  match res, hres with
  | .error e, hres => exact hx pins H s e s' I hres
  | .ok (.ret u), hres => exact I.after hres
  | .ok .next, hres => exact False.elim hres
  | .ok .brk, hres => exact False.elim hres
  | .ok .cont, hres => exact False.elim hres
def FnIs (G : Wo) (k : Nat) (x : String) (n : Nat) (sp : DSp) : Prop := ∃ f, G.mg (Str.ofString x) = some (.ref f) ∧ FnAt G k f n sp
def MtIs (G : Wo) (k : Nat) (C : Nat) (m : String) (n : Nat) (sp : DSp) : Prop := ∃ f, Cls G.K C ∧ Meth G.K C (Str.ofString m) f ∧ FnAt G k f n sp
def MkIs (G : Wo) (k : Nat) (x : String) (C : Nat) (n : Nat) (sp : DSp) : Prop := ∃ f, G.mg (Str.ofString x) = some (.ref C) ∧ Mk G.K C f ∧ FnAt G k f n sp
section
variable {X : Cx} {k f C n : Nat} {fd : FuncData} {ps : List Str} {sp : DSp} {x m : String} {p pos apos : Pos} {e o : PySem.Expr} {es : List PySem.Expr} {ta : TDE} {t : TDA}
def dCall (sp : DSp) (t : TDA) : TDE := fun δ S P Y => t δ S (fun ds S1 => sp ds S1 P Y) Y
theorem call_imp {W : WX} {σ : L2.St} {H : Hp} {Q : VK} {ds : List D} {vs : List V} {S1 : Sto} {H1 : Hp} {P : DK} {Y : XD} (h : sp ds S1 P Y) (g : Gr X.K H H1) (s1 : StR X.K X.w H1 S1) (q1 : DatL X.K H1 ds vs)
    (hq : ∀ d S' v H', P d S' → Gr X.K H H' → StR X.K X.w H' S' → Dat X.K H' d v → Q v H') (hy : ExL X.K X.w W σ H Y) : liftSp X.K X.w sp vs H1 Q (WE W σ) :=
  ⟨ds, S1, P, Y, q1, s1, h, fun d S' v H' p g2 s q => hq d S' v H' p (g.trans g2) s q, fun c dx S' H' y g2 s => hy c dx S' H' y (g.trans g2) s⟩
theorem de_call (F : FnIs (Wo.of X) k x n sp) (hr : Rm k X.A) (hg : Gl X (Str.ofString x)) (ha : DA X (e :: es) t) (hdb : (Str.ofString x == ("__debug__" : Str)) = false) (hn : noStars (e :: es) = true) :
    DE X (.Call (.Name (Str.ofString x) p) (e :: es) [] pos) (dCall sp t) := by
  obtain ⟨f, hm, fd, ps, F, b, _, kp⟩ := F
  have h2 : isStar e = false ∧ noStars es = true := by unfold noStars at hn; rw [Bool.and_eq_true, Bool.not_eq_true'] at hn; exact hn
  refine ⟨fun W tk => ⟨fun pins s σ H Q I h => ?_⟩⟩
  obtain ⟨δ, S, P, Y, hl, hs, ht, hq, hy⟩ := h
  refine wpAny_Call_Name_kw (ld_glob I hg hm ?_ hdb)
  have hA := (ha.ok W tk).run pos pins s σ H (fun vs H1 => liftSp X.K X.w sp vs H1 Q (WE W σ)) I ⟨δ, S, _, Y, hl, hs, ht, fun ds S1 vs H1 p1 g1 s1 q1 => call_imp p1 g1 s1 q1 hq hy, hy⟩
  refine PySem.W.callWith_K (h₀ := X.base) I.ok.mod.kin kp (thn hA fun us s1 ⟨vs, H1, I1, r, q⟩ => ⟨I1.kIn, ?_⟩) (star_cons h2.1) (star_any pos h2.2)
  exact runG (E := WE W) F hr b (passAt tk σ) I1 r q
/-- f() -/
theorem de_call0 (F : FnIs (Wo.of X) k x n sp) (hr : Rm k X.A) (hg : Gl X (Str.ofString x)) (hdb : (Str.ofString x == ("__debug__" : Str)) = false) :
    DE X (.Call (.Name (Str.ofString x) p) [] [] pos) (dCall sp dNil) := by
  obtain ⟨f, hm, fd, ps, F, b, _, kp⟩ := F
  refine ⟨fun W tk => ⟨fun pins s σ H Q I h => ?_⟩⟩
  obtain ⟨δ, S, P, Y, hl, hs, ht, hq, hy⟩ := h
  refine wpAny_Call_Name_kw (ld_glob I hg hm ?_ hdb)
  exact PySem.W.callWith_K0 I.kIn kp (runG (us := []) (E := WE W) F hr b (passAt tk σ) I .nil (call_imp ht Gr.refl hs DatL.nil hq hy))
/-- o.m(..), o an instance of the class at C -/
def dMeth (C : Nat) (m : String) (sp : DSp) (ta : TDE) (t : TDA) : TDE := fun δ S P Y => ta δ S (fun d S1 => match d with
  | .ref a => (match S1 a with
    | some (.ins C' _ fs) => C' = C ∧ fGet m fs = none ∧ t δ S1 (fun ds S2 => sp (.ref a :: ds) S2 P Y) Y
    | _ => False)
  | _ => False) Y
theorem meth_imp {W : WX} {σ : L2.St} {H : Hp} {P : DK} {Y : XD} {R : Nat → Hp → Prop} {δ : Sl} {S : Sto} (ht : dMeth C m sp ta t δ S P Y) (hl2 : SlR X.K H δ σ) (hs : StR X.K X.w H S) (hy : ExL X.K X.w W σ H Y)
    (hr : ∀ a dx fs S1 H1, S1 a = some (.ins C dx fs) → t δ S1 (fun ds S2 => sp (.ref a :: ds) S2 P Y) Y → Gr X.K H H1 → StR X.K X.w H1 S1 → R a H1) :
    lift X.K X.w W ta σ H (fun x H1 => ∃ a dx fs, x = .ref a ∧ H1 a = some (.ins C dx fs) ∧ fs.lookup (Str.ofString m) = none ∧ R a H1) := by
  refine ⟨δ, S, _, Y, hl2, hs, ht, fun d S1 v H1 p1 g1 s1 q1 => ?_, hy⟩
  cases d with
  | ref a =>
    dsimp only at p1
    split at p1
    · rename_i C' dx fs e
      obtain ⟨rfl, hno, p1⟩ := p1
      obtain ⟨vs, hv, hf2⟩ := s1 a _ e
      exact ⟨a, dx, vs, by unfold Dat at q1; exact q1, hv, hf2.none hno, hr a dx fs S1 H1 e p1 g1 s1⟩
    · exact p1.elim
  | _ => exact p1.elim
theorem de_meth (F : MtIs (Wo.of X) k C m n sp) (hr : Rm k X.A) (ho : DE X o ta) (ha : DA X (e :: es) t) (hb : plainBase o = true) (hn : noStars (e :: es) = true) (hl : (apos.endLine == pos.line) = true) (hf : (e :: es).length < 30) :
    DE X (.Call (.Attribute o (Str.ofString m) apos) (e :: es) [] pos) (dMeth C m sp ta t) := by
  obtain ⟨f, hC, hm, fd, ps, F, b, _, kp⟩ := F
  have h2 : isStar e = false ∧ noStars es = true := by unfold noStars at hn; rw [Bool.and_eq_true, Bool.not_eq_true'] at hn; exact hn
  refine ⟨fun W tk => ⟨fun pins s σ H Q I h => ?_⟩⟩
  obtain ⟨δ, S, P, Y, hl2, hs, ht, hq, hy⟩ := h
  have hpe := (ho.ok W tk).run pins s σ H _ I (meth_imp (R := fun a H1 => liftA X.K X.w W t σ H1 fun vs H2 => liftSp X.K X.w sp (.ref a :: vs) H2 Q (WE W σ)) ht hl2 hs hy
    fun a dx fs S1 H1 e1 p1 g1 s1 => ⟨δ, S1, _, Y, hl2.gr g1, s1, p1, fun ds S2 ws H2 p2 g2 s2 q2 => call_imp p2 (g1.trans g2) s2 (DatL.cons (by unfold Dat; rfl) q2) hq hy, hy.gr g1⟩)
  refine PySem.W.methodCall_KW (thn hpe fun u s1 ⟨z, H1, I1, rz, a, dx, fs, ez, ea, l, q⟩ => ?_) (evalCallMeth hb hn hl hf)
  subst ez
  obtain rfl : u = Value.ref a := rz
  refine getmeth_ok I1 ea hC hm l ?_
  refine PySem.W.callWith_K (first := [.ref a]) (h₀ := X.base) I.ok.mod.kin hm.kp (thn ((ha.ok W tk).run pos pins s1 σ H1 _ I1 q) fun us s2 ⟨vs, H2, I2, r, q2⟩ => ⟨I2.kIn, ?_⟩) (star_cons h2.1) (star_any pos h2.2)
  exact runG (us := .ref a :: us) (vs := .ref a :: vs) (E := WE W) F hr b (passAt tk σ) I2 (.cons rfl r) q2
/-- o.m() -/
theorem de_meth0 (F : MtIs (Wo.of X) k C m n sp) (hr : Rm k X.A) (ho : DE X o ta) (hb : plainBase o = true) (hl : (apos.endLine == pos.line) = true) :
    DE X (.Call (.Attribute o (Str.ofString m) apos) [] [] pos) (dMeth C m sp ta dNil) := by
  obtain ⟨f, hC, hm, fd, ps, F, b, _, kp⟩ := F
  refine ⟨fun W tk => ⟨fun pins s σ H Q I h => ?_⟩⟩
  obtain ⟨δ, S, P, Y, hl2, hs, ht, hq, hy⟩ := h
  have hpe := (ho.ok W tk).run pins s σ H _ I (meth_imp (R := fun a H1 => liftSp X.K X.w sp [.ref a] H1 Q (WE W σ)) ht hl2 hs hy
    fun a dx fs S1 H1 e1 p1 g1 s1 => call_imp p1 g1 s1 (DatL.one (by unfold Dat; rfl)) hq hy)
  refine PySem.W.methodCall_KW (thn hpe fun u s1 ⟨z, H1, I1, rz, a, dx, fs, ez, ea, l, q⟩ => ?_) (evalCallMeth hb rfl hl (by decide))
  subst ez
  obtain rfl : u = Value.ref a := rz
  refine getmeth_ok I1 ea hC hm l ?_
  exact PySem.W.callWith_K0 (first := [.ref a]) I1.kIn hm.kp (runG (us := [.ref a]) (vs := [.ref a]) (E := WE W) F hr b (passAt tk σ) I1 (.cons rfl .nil) q)

/-! ### a new instance -/
theorem makeS {f : Nat} {spv : Sp} {E : L2.St → XK} {pins : List (Addr × Obj)} {σ : L2.St} {H : Hp} {s : Shared} {Q : VK} {us : List Value} {vs : List V} (M : Mk X.K C f) (F : FnG X.prog X.w X.K X.mg X.base k f fd ps spv) (hr : Rm (k + 1) X.A) (hb : Binds X.K fd ps [])
    (hx : PassesAt (L2.CX X.prog X.w) X σ (E σ)) (I : Inv X pins σ H s) (r : Vals vs us)
    (h : ∀ x dx, H x = none → H dx = none → dx ≠ x → spv (.ref x :: vs) (upd (upd H dx (.own x)) x (.ins C dx [])) (fun v H2 => v = .non ∧ Q (.ref x) H2) (E σ)) :
    wpAny (model X.prog X.w) X.A (call (.ref C) us) (EP X pins σ Q) X.xe s := by
  have hq := h (s.heap.objs.size + 1) s.heap.objs.size (I.hok.fresh (Nat.le_succ _)) (I.hok.fresh (Nat.le_refl _)) (Nat.ne_of_lt (Nat.lt_succ_self _))
  have J := Inv.made (C := C) I
  have rr : Vals (V.ref (s.heap.objs.size + 1) :: vs) (Value.ref (s.heap.objs.size + 1) :: us) := .cons rfl r
  have hlen : (Value.ref (s.heap.objs.size + 1) :: us).length = ps.length := by rw [← rr.length]; exact F.len _ _ _ _ hq
  have bb := hb _ (Value.ref (s.heap.objs.size + 1) :: us) J.kIn (by rw [List.append_nil]; exact hlen)
  rw [List.append_nil] at bb
  refine wpAny_call (make_map (f := f) I.kIn M.makes M.init (beq_iff_eq.mp M.fn) (codeAny_mono (F.run _ X.stack _ _ ⟨Value.ref (s.heap.objs.size + 1) :: us, []⟩ _ _ _ (E σ) (hr.make C us) (J.env0.make C us []) bb rr hq) fun res s' hres => ?_))
  cases res with
  | error e => exact hx pins _ _ e s' J hres
  | ok fl =>
    cases fl with
    | ret u =>
      obtain ⟨v, H', J3, rv, ev, q3⟩ := J.after hres
      subst ev
      exact ⟨rv, ⟨V.ref (s.heap.objs.size + 1), H', J3, rfl, q3⟩⟩
    | next => exact hres.elim
    | brk => exact hres.elim
    | cont => exact hres.elim
def dMake (C : Nat) (sp : DSp) (t : TDA) : TDE := fun δ S P Y => t δ S (fun ds S1 => ∀ x dx, S1 x = none → S1 dx = none → dx ≠ x → sp (.ref x :: ds) (up S1 x (.ins C dx [])) (fun d S2 => d = .non ∧ P (.ref x) S2) Y) Y
theorem make_imp {W : WX} {σ : L2.St} {H : Hp} {Q : VK} {ds : List D} {vs : List V} {S1 : Sto} {H1 : Hp} {P : DK} {Y : XD} (h : ∀ x dx, S1 x = none → S1 dx = none → dx ≠ x → sp (.ref x :: ds) (up S1 x (.ins C dx [])) (fun d S2 => d = .non ∧ P (.ref x) S2) Y)
    (g : Gr X.K H H1) (s1 : StR X.K X.w H1 S1) (q1 : DatL X.K H1 ds vs) (hq : ∀ d S' v H', P d S' → Gr X.K H H' → StR X.K X.w H' S' → Dat X.K H' d v → Q v H') (hy : ExL X.K X.w W σ H Y) (x dx : Nat) (n1 : H1 x = none) (n2 : H1 dx = none) (ne : dx ≠ x) :
    liftSp X.K X.w sp (.ref x :: vs) (upd (upd H1 dx (.own x)) x (.ins C dx [])) (fun v H2 => v = .non ∧ Q (.ref x) H2) (WE W σ) := by
  have ga : Gr X.K H1 (upd H1 dx (.own x)) := gr_new n2
  have nx : upd H1 dx (.own x) x = none := by rw [upd_ne (Ne.symm ne)]; exact n1
  have gb : Gr X.K H1 (upd (upd H1 dx (.own x)) x (.ins C dx [])) := ga.trans (gr_new nx)
  refine ⟨.ref x :: ds, up S1 x (.ins C dx []), _, Y, DatL.cons (by unfold Dat; rfl) (DatL.gr gb _ q1), (s1.new n2).newUp nx ⟨[], upd_same, by unfold FsR; rfl⟩, h x dx (s1.fresh n1) (s1.fresh n2) ne,
    fun d S' v H' p g2 s q => ?_, fun c dx' S' H' y g2 s => hy c dx' S' H' y ((g.trans gb).trans g2) s⟩
  obtain ⟨rfl, p⟩ := p
  unfold Dat at q
  exact ⟨q, hq _ S' _ H' p ((g.trans gb).trans g2) s (by unfold Dat; rfl)⟩
theorem de_make (F : MkIs (Wo.of X) k x C n sp) (hr : Rm (k + 1) X.A) (hg : Gl X (Str.ofString x)) (ha : DA X (e :: es) t) (hdb : (Str.ofString x == ("__debug__" : Str)) = false) (hn : noStars (e :: es) = true) :
    DE X (.Call (.Name (Str.ofString x) p) (e :: es) [] pos) (dMake C sp t) := by
  obtain ⟨f, hm, M, fd, ps, F, b, _, kp⟩ := F
  have h2 : isStar e = false ∧ noStars es = true := by unfold noStars at hn; rw [Bool.and_eq_true, Bool.not_eq_true'] at hn; exact hn
  refine ⟨fun W tk => ⟨fun pins s σ H Q I h => ?_⟩⟩
  obtain ⟨δ, S, P, Y, hl, hs, ht, hq, hy⟩ := h
  refine wpAny_Call_Name_kw (ld_glob I hg hm ?_ hdb)
  have hA := (ha.ok W tk).run pos pins s σ H (fun vs H1 => ∀ x dx, H1 x = none → H1 dx = none → dx ≠ x → liftSp X.K X.w sp (.ref x :: vs) (upd (upd H1 dx (.own x)) x (.ins C dx [])) (fun v H2 => v = .non ∧ Q (.ref x) H2) (WE W σ)) I
    ⟨δ, S, _, Y, hl, hs, ht, fun ds S1 vs H1 p1 g1 s1 q1 => make_imp p1 g1 s1 q1 hq hy, hy⟩
  refine PySem.W.callWith_K (h₀ := X.base) I.ok.mod.kin M.kp (thn hA fun us s1 ⟨vs, H1, I1, r, q⟩ => ⟨I1.kIn, ?_⟩) (star_cons h2.1) (star_any pos h2.2)
  exact makeS (E := WE W) M F hr b (passAt tk σ) I1 r q
theorem de_make0 (F : MkIs (Wo.of X) k x C n sp) (hr : Rm (k + 1) X.A) (hg : Gl X (Str.ofString x)) (hdb : (Str.ofString x == ("__debug__" : Str)) = false) :
    DE X (.Call (.Name (Str.ofString x) p) [] [] pos) (dMake C sp dNil) := by
  obtain ⟨f, hm, M, fd, ps, F, b, _, kp⟩ := F
  refine ⟨fun W tk => ⟨fun pins s σ H Q I h => ?_⟩⟩
  obtain ⟨δ, S, P, Y, hl, hs, ht, hq, hy⟩ := h
  refine wpAny_Call_Name_kw (ld_glob I hg hm ?_ hdb)
  exact PySem.W.callWith_K0 I.kIn M.kp (makeS (us := []) (E := WE W) M F hr b (passAt tk σ) I .nil (make_imp ht Gr.refl hs DatL.nil hq hy))

/-! ### attributes -/
/-- a class whose instances have plain fields of these names -/
def ClIs (K : PySem.W.Frag) (C : Nat) (f : String) : Prop := Cls K C ∧ NoAttr K C (Str.ofString f)
def dFld (C : Nat) (f : String) (ta : TDE) : TDE := fun δ S P Y => ta δ S (fun d S1 => match d with
  | .ref a => (match S1 a with
    | some (.ins C' _ fs) => (match fGet f fs with
      | some v => C' = C ∧ P v S1
      | none => False)
    | _ => False)
  | _ => False) Y
theorem de_fld {f : String} (c : ClIs X.K C f) (ho : DE X o ta) (hb : plainBase o = true) : DE X (.Attribute o (Str.ofString f) pos) (dFld C f ta) :=
  ⟨fun W tk => peImp (pe_fld (ho.ok W tk) (base_of hb)) fun σ H Q ⟨δ, S, P, Y, hl, hs, ht, hq, hy⟩ => by
    refine ⟨δ, S, _, Y, hl, hs, ht, fun d S1 v H1 p1 g1 s1 q1 => ?_, hy⟩
    cases d with
    | ref a =>
      dsimp only at p1
      split at p1
      · rename_i C' dx fs e
        split at p1
        · rename_i d' e2
          obtain ⟨rfl, p1⟩ := p1
          obtain ⟨vs, hv, hf⟩ := s1 a _ e
          obtain ⟨v', l, q'⟩ := hf.get e2
          exact ⟨a, C', dx, vs, v', by unfold Dat at q1; exact q1, hv, c.1, c.2, l, hq d' S1 v' H1 p1 g1 s1 q'⟩
        · exact p1.elim
      · exact p1.elim
    | _ => exact p1.elim⟩
end
end VD

set_option Elab.async false
set_option linter.all false
set_option autoImplicit false
set_option maxRecDepth 100000
set_option maxHeartbeats 4000000
/-! VCd: the D layer, part d: data without references as the library's data; operators on data -/
namespace VD
open PySem PySem.Spec PyProof.Rows L2

/-! ### data at any depth, as the library's -/
mutual
def pyW (f : Nat → Option PyData) : D → Option PyData
  | .non => some .none
  | .bl b => some (.bool b)
  | .int i => some (.int i)
  | .str s => some (.str (Str.ofString s))
  | .tup ds => match pyWL f ds with
    | some xs => some (.tuple xs)
    | none => none
  | .ref a => f a
  | .ty _ => none
  | .raw _ => none
def pyWL (f : Nat → Option PyData) : List D → Option (List PyData)
  | [] => some []
  | d :: ds => match pyW f d, pyWL f ds with
    | some x, some xs => some (x :: xs)
    | _, _ => none
end
/-- data without references; data over lists, so deep -/
abbrev toPy : D → Option PyData := pyW fun _ => none
abbrev toPyL : List D → Option (List PyData) := pyWL fun _ => none
def pyAt : Nat → Sto → Nat → Option PyData
  | 0, _, _ => none
  | n + 1, S, a => match S a with
    | some (.lst ds) => (pyWL (pyAt n S) ds).map .list
    | some (.fl ds) => (pyWL (pyAt n S) ds).map .list
    | _ => none
def pyOf (n : Nat) (S : Sto) : D → Option PyData := pyW (pyAt n S)
section
variable {K : PySem.W.Frag} {w : World} {H : Hp} {S : Sto} {f : Nat → Option PyData}
mutual
theorem dp_of (hf : ∀ a x, f a = some x → Dp K H (.ref a) x) : ∀ (d : D) {v : V} {x : PyData}, Dat K H d v → pyW f d = some x → Dp K H v x
  | .non, v, x, h, e => by unfold Dat at h; unfold pyW at e; cases e; subst h; exact .non
  | .bl b, v, x, h, e => by unfold Dat at h; unfold pyW at e; cases e; subst h; exact .bl b
  | .int i, v, x, h, e => by unfold Dat at h; unfold pyW at e; cases e; subst h; exact .int i
  | .str s, v, x, h, e => by unfold Dat at h; unfold pyW at e; cases e; subst h; exact .str _
  | .ty n, v, x, h, e => by unfold pyW at e; cases e
  | .raw n, v, x, h, e => by unfold pyW at e; cases e
  | .ref a, v, x, h, e => by unfold Dat at h; unfold pyW at e; subst h; exact hf a x e
  | .tup ds, v, x, h, e => by
    unfold Dat at h
    obtain ⟨a, vs, rfl, hq, hd⟩ := h
    unfold pyW at e
    split at e
    · rename_i xs e2
      cases e
      exact .tup hq (dpL_of hf ds hd e2)
    · cases e
theorem dpL_of (hf : ∀ a x, f a = some x → Dp K H (.ref a) x) : ∀ (ds : List D) {vs : List V} {xs : List PyData}, DatL K H ds vs → pyWL f ds = some xs → DpAll K H vs xs
  | [], vs, xs, h, e => by unfold DatL at h; unfold pyWL at e; cases e; subst h; exact .nil
  | d :: ds, vs, xs, h, e => by
    unfold DatL at h
    obtain ⟨v, r, rfl, hd, ht⟩ := h
    unfold pyWL at e
    split at e
    · rename_i x xs e1 e2
      cases e
      exact .cons (dp_of hf d hd e1) (dpL_of hf ds ht e2)
    · cases e
end
theorem dp_at (hs : StR K w H S) : ∀ (n : Nat) (a : Nat) (x : PyData), pyAt n S a = some x → Dp K H (.ref a) x
  | 0, a, x, e => by cases e
  | n + 1, a, x, e => by
    unfold pyAt at e
    split at e
    · rename_i ds e1
      obtain ⟨vs, h1, h2⟩ := hs a _ e1
      obtain ⟨xs, e2, rfl⟩ := Option.map_eq_some_iff.mp e
      exact .lst (SqL.of h1) (dpL_of (dp_at hs n) ds h2 e2)
    · rename_i ds e1
      obtain ⟨vs, h1, _, h2⟩ := hs a _ e1
      obtain ⟨xs, e2, rfl⟩ := Option.map_eq_some_iff.mp e
      exact .lst h1 (dpL_of (dp_at hs n) ds h2 e2)
    · cases e
theorem dp_py (hs : StR K w H S) {n : Nat} {d : D} {v : V} {x : PyData} (h : Dat K H d v) (e : pyOf n S d = some x) : Dp K H v x := dp_of (dp_at hs n) d h e
theorem dp_to {d : D} {v : V} {x : PyData} (h : Dat K H d v) (e : toPy d = some x) : Dp K H v x := dp_of (f := fun _ => none) (fun _ _ z => by cases z) d h e
end
/-! depth -/
mutual
def dep : D → Nat
  | .tup ds => depL ds + 1
  | _ => 0
def depL : List D → Nat
  | [] => 0
  | d :: ds => max (dep d) (depL ds)
end
theorem strOk_str (s : String) : PyData.strOk (Str.ofString s) = true := by
  unfold PyData.strOk
  rw [← Array.all_toList, ofString_cps]
  apply List.all_eq_true.mpr
  intro c hc
  obtain ⟨x, _, rfl⟩ := List.mem_map.mp hc
  have hv := x.valid
  simp only [UInt32.isValidChar, Nat.isValidChar] at hv
  have : x.toNat = x.val.toNat := rfl
  exact decide_eq_true (by omega)
mutual
theorem lay_of : ∀ (d : D) {x : PyData}, toPy d = some x → x.canLay0 = true ∧ x.depth = dep d
  | .non, x, e => by unfold toPy pyW at e; cases e; exact ⟨by simp [PyData.canLay0], by simp [PyData.depth, dep]⟩
  | .bl b, x, e => by unfold toPy pyW at e; cases e; exact ⟨by simp [PyData.canLay0], by simp [PyData.depth, dep]⟩
  | .int i, x, e => by unfold toPy pyW at e; cases e; exact ⟨by simp [PyData.canLay0], by simp [PyData.depth, dep]⟩
  | .str s, x, e => by unfold toPy pyW at e; cases e; exact ⟨by simp [PyData.canLay0, strOk_str], by simp [PyData.depth, dep]⟩
  | .ty n, x, e => by unfold toPy pyW at e; cases e
  | .raw n, x, e => by unfold toPy pyW at e; cases e
  | .ref a, x, e => by unfold toPy pyW at e; cases e
  | .tup ds, x, e => by
    unfold toPy pyW at e
    split at e
    · rename_i xs e2
      cases e
      obtain ⟨h1, h2⟩ := layL_of ds e2
      exact ⟨by simp only [PyData.canLay0]; exact h1, by simp only [PyData.depth, dep, h2]⟩
    · cases e
theorem layL_of : ∀ (ds : List D) {xs : List PyData}, toPyL ds = some xs → PyData.canLayAll0 xs = true ∧ PyData.depthAll xs = depL ds
  | [], xs, e => by unfold toPyL pyWL at e; cases e; exact ⟨by simp [PyData.canLayAll0], by simp [PyData.depthAll, depL]⟩
  | d :: ds, xs, e => by
    unfold toPyL pyWL at e
    split at e
    · rename_i x ys e1 e2
      cases e
      obtain ⟨h1, h2⟩ := lay_of d e1
      obtain ⟨h3, h4⟩ := layL_of ds e2
      exact ⟨by simp only [PyData.canLayAll0, h1, h3]; rfl, by simp only [PyData.depthAll, depL, h2, h4]⟩
    · cases e
end
/-! == of data without references -/
mutual
def deq : D → D → Bool
  | .non, .non => true
  | .bl a, .bl b => a == b
  | .bl a, .int j => (if a then 1 else 0) == j
  | .int i, .bl b => i == (if b then 1 else 0)
  | .int i, .int j => i == j
  | .str x, .str y => x == y
  | .tup xs, .tup ys => deqL xs ys
  | _, _ => false
def deqL : List D → List D → Bool
  | [], [] => true
  | x :: xs, y :: ys => deq x y && deqL xs ys
  | _, _ => false
end
theorem str_beq (a b : String) : (Str.ofString a == Str.ofString b) = (a == b) := by
  rw [Bool.eq_iff_iff, beq_iff_eq, beq_iff_eq, ofString_eq_iff]
mutual
theorem deq_eqv : ∀ (d e : D) {x y : PyData}, toPy d = some x → toPy e = some y → PyData.eqv x y = deq d e
  | .non, e, x, y, h1, h2 => by
    unfold toPy pyW at h1; cases h1
    cases e <;> simp only [toPy, pyW] at h2 <;> first | (cases h2; simp [PyData.eqv, deq]) | (split at h2 <;> cases h2; simp [PyData.eqv, deq]) | cases h2
  | .bl a, e, x, y, h1, h2 => by
    unfold toPy pyW at h1; cases h1
    cases e <;> simp only [toPy, pyW] at h2 <;> first | (cases h2; simp [PyData.eqv, deq]) | (split at h2 <;> cases h2; simp [PyData.eqv, deq]) | cases h2
  | .int i, e, x, y, h1, h2 => by
    unfold toPy pyW at h1; cases h1
    cases e <;> simp only [toPy, pyW] at h2 <;> first | (cases h2; simp [PyData.eqv, deq]) | (split at h2 <;> cases h2; simp [PyData.eqv, deq]) | cases h2
  | .str s, e, x, y, h1, h2 => by
    unfold toPy pyW at h1; cases h1
    cases e <;> simp only [toPy, pyW] at h2 <;> first | (cases h2; simp [PyData.eqv, deq, str_beq]) | (split at h2 <;> cases h2; simp [PyData.eqv, deq]) | cases h2
  | .ty n, e, x, y, h1, h2 => by unfold toPy pyW at h1; cases h1
  | .raw n, e, x, y, h1, h2 => by unfold toPy pyW at h1; cases h1
  | .ref a, e, x, y, h1, h2 => by unfold toPy pyW at h1; cases h1
  | .tup ds, e, x, y, h1, h2 => by
    unfold toPy pyW at h1
    split at h1
    · rename_i xs e1
      cases h1
      cases e with
      | tup es =>
        unfold toPy pyW at h2
        split at h2
        · rename_i ys e2
          cases h2
          simp only [PyData.eqv, deq]
          exact deqL_eqv ds es e1 e2
        · cases h2
      | ref a => simp only [toPy, pyW] at h2; cases h2
      | ty n => simp only [toPy, pyW] at h2; cases h2
      | raw n => simp only [toPy, pyW] at h2; cases h2
      | _ => simp only [toPy, pyW] at h2; cases h2; simp [PyData.eqv, deq]
    · cases h1
theorem deqL_eqv : ∀ (ds es : List D) {xs ys : List PyData}, toPyL ds = some xs → toPyL es = some ys → PyData.eqvAll xs ys = deqL ds es
  | [], es, xs, ys, h1, h2 => by
    unfold toPyL pyWL at h1; cases h1
    cases es with
    | nil => unfold toPyL pyWL at h2; cases h2; simp [PyData.eqvAll, deqL]
    | cons e es =>
      unfold toPyL pyWL at h2
      split at h2
      · cases h2; simp [PyData.eqvAll, deqL]
      · cases h2
  | d :: ds, es, xs, ys, h1, h2 => by
    unfold toPyL pyWL at h1
    split at h1
    · rename_i x xs' e1 e2
      cases h1
      cases es with
      | nil => unfold toPyL pyWL at h2; cases h2; simp [PyData.eqvAll, deqL]
      | cons e es =>
        unfold toPyL pyWL at h2
        split at h2
        · rename_i y ys' e3 e4
          cases h2
          simp only [PyData.eqvAll, deqL]
          rw [deq_eqv d e e1 e3, deqL_eqv ds es e2 e4]
        · cases h2
    · cases h1
end
def noRef (d : D) : Bool := (toPy d).isSome
def noRefL (ds : List D) : Bool := (toPyL ds).isSome
def shallow (d e : D) : Bool := decide (dep d ≤ 40) || decide (dep e ≤ 40)
end VD

set_option Elab.async false
set_option linter.all false
set_option autoImplicit false
set_option maxRecDepth 100000
set_option maxHeartbeats 4000000
/-! VCe: the D layer, part e: operators -/
namespace VD
open PySem PySem.Spec PyProof.Rows L2

theorem OpRi {X : Cx} {f : Value → Value → Sem Value} {r r' : R2} (h : OpR X f r) (i : ∀ x y H Q, r' x y H Q → r x y H Q) : OpR X f r' := fun pins s σ H x y v u Q I rx ry q => h pins s σ H x y v u Q I rx ry (i x y H Q q)
section
variable {K : PySem.W.Frag} {H : Hp}
theorem dnon {v : V} (h : Dat K H .non v) : v = .non := by unfold Dat at h; exact h
theorem dbl {b : Bool} {v : V} (h : Dat K H (.bl b) v) : v = .bl b := by unfold Dat at h; exact h
theorem dint {i : Int} {v : V} (h : Dat K H (.int i) v) : v = .int i := by unfold Dat at h; exact h
theorem dstr {x : String} {v : V} (h : Dat K H (.str x) v) : v = .str (Str.ofString x) := by unfold Dat at h; exact h
theorem dref {a : Nat} {v : V} (h : Dat K H (.ref a) v) : v = .ref a := by unfold Dat at h; exact h
theorem dty {n : String} {v : V} (h : Dat K H (.ty n) v) : v = .ty n := by unfold Dat at h; exact h
theorem draw {x : Str} {v : V} (h : Dat K H (.raw x) v) : v = .str x := by unfold Dat at h; exact h
theorem dtup {ds : List D} {v : V} (h : Dat K H (.tup ds) v) : ∃ a vs, v = .ref a ∧ SqT K H a vs ∧ DatL K H ds vs := by unfold Dat at h; exact h
theorem mint {i : Int} : Dat K H (.int i) (.int i) := by unfold Dat; rfl
theorem mbl {b : Bool} : Dat K H (.bl b) (.bl b) := by unfold Dat; rfl
theorem mnon : Dat K H .non .non := by unfold Dat; rfl
theorem mstr {x : String} : Dat K H (.str x) (.str (Str.ofString x)) := by unfold Dat; rfl
theorem mraw {x : Str} : Dat K H (.raw x) (.str x) := by unfold Dat; rfl
theorem mref {a : Nat} : Dat K H (.ref a) (.ref a) := by unfold Dat; rfl
theorem mtup {ds : List D} {a : Nat} {vs : List V} (h : SqT K H a vs) (q : DatL K H ds vs) : Dat K H (.tup ds) (.ref a) := by unfold Dat; exact ⟨a, vs, rfl, h, q⟩
end

/-! ### + - * // % ** -/
def addD : RD2 := fun d e S P => match d, e with
  | .int i, .int j => P (.int (i + j)) S
  | .str x, .str y => x.length + y.length ≤ sizeLine ∧ P (.str (x ++ y)) S
  | .tup xs, .tup ys => xs ≠ [] ∧ xs.length + ys.length ≤ sizeLine ∧ P (.tup (xs ++ ys)) S
  | .ref a, .ref b => (match S a, S b with
    | some (.lst xs), some (.lst ys) => xs.length + ys.length ≤ sizeLine ∧ ∀ p, S p = none → P (.ref p) (up S p (.lst (xs ++ ys)))
    | _, _ => False)
  | _, _ => False
def intD (C : Int → Int → Prop) (g : Int → Int → D) : RD2 := fun d e S P => match d, e with
  | .int i, .int j => C i j ∧ P (g i j) S
  | _, _ => False
def intD0 (g : Int → Int → D) : RD2 := fun d e S P => match d, e with
  | .int i, .int j => P (g i j) S
  | _, _ => False
abbrev subD : RD2 := intD0 fun i j => .int (i - j)
def mulD : RD2 := fun d e S P => match d, e with
  | .int i, .int j => CMul i j ∧ P (.int (i * j)) S
  | _, _ => False
abbrev fdivD : RD2 := intD CDiv fun i j => .int (i / j)
abbrev modD : RD2 := intD (fun _ j => 0 < j) fun i j => .int (i % j)
abbrev powD : RD2 := intD CPow fun i j => .int (i ^ j.toNat)
abbrev shlD : RD2 := intD CPow fun i j => .int (i * 2 ^ j.toNat)
abbrev ltD : RD2 := intD0 fun i j => .bl (decide (i < j))
abbrev leD : RD2 := intD0 fun i j => .bl (decide (i ≤ j))
abbrev gtD : RD2 := intD0 fun i j => .bl (decide (j < i))
abbrev geD : RD2 := intD0 fun i j => .bl (decide (j ≤ i))
theorem intD_inv {C : Int → Int → Prop} {g : Int → Int → D} {d e : D} {S : Sto} {P : DK} (h : intD C g d e S P) : ∃ i j, d = .int i ∧ e = .int j ∧ C i j ∧ P (g i j) S := by
  unfold intD at h
  split at h
  · exact ⟨_, _, rfl, rfl, h.1, h.2⟩
  · exact h.elim
theorem intD0_inv {g : Int → Int → D} {d e : D} {S : Sto} {P : DK} (h : intD0 g d e S P) : ∃ i j, d = .int i ∧ e = .int j ∧ P (g i j) S := by
  unfold intD0 at h
  split at h
  · exact ⟨_, _, rfl, rfl, h⟩
  · exact h.elim
theorem mulD_inv {d e : D} {S : Sto} {P : DK} (h : mulD d e S P) : ∃ i j, d = .int i ∧ e = .int j ∧ CMul i j ∧ P (.int (i * j)) S := by
  unfold mulD at h
  split at h
  · exact ⟨_, _, rfl, rfl, h.1, h.2⟩
  · exact h.elim
section
variable {X : Cx}
theorem op_intD {f : Value → Value → Sem Value} {C : Int → Int → Prop} {g : Int → Int → D} {gv : Int → Int → V} (h : OpR X f (rI C gv)) (hg : ∀ i j H, Dat X.K H (g i j) (gv i j)) : OpD X f (intD C g) :=
  OpRi h fun x y H Q ⟨d, e, S, P, hd, he, hs, hr, hq⟩ => by
    obtain ⟨i, j, rfl, rfl, hc, hr⟩ := intD_inv hr
    exact ⟨i, j, dint hd, dint he, hc, hq _ S _ H hr Gr.refl hs (hg i j H)⟩
theorem op_intD0 {f : Value → Value → Sem Value} {g : Int → Int → D} {gv : Int → Int → V} (h : OpR X f (rI0 gv)) (hg : ∀ i j H, Dat X.K H (g i j) (gv i j)) : OpD X f (intD0 g) :=
  OpRi h fun x y H Q ⟨d, e, S, P, hd, he, hs, hr, hq⟩ => by
    obtain ⟨i, j, rfl, rfl, hr⟩ := intD0_inv hr
    exact ⟨i, j, dint hd, dint he, hq _ S _ H hr Gr.refl hs (hg i j H)⟩
theorem od_sub : OpD X (binaryOp .Sub) subD := op_intD0 op_sub fun _ _ _ => mint
theorem od_mul : OpD X (binaryOp .Mult) mulD := OpRi op_mul fun x y H Q ⟨d, e, S, P, hd, he, hs, hr, hq⟩ => by
    obtain ⟨i, j, rfl, rfl, hc, hr⟩ := mulD_inv hr
    exact ⟨i, j, dint hd, dint he, hc, hq _ S _ H hr Gr.refl hs mint⟩
theorem od_fdiv : OpD X (binaryOp .FloorDiv) fdivD := op_intD op_fdiv fun _ _ _ => mint
theorem od_mod : OpD X (binaryOp .Mod) modD := op_intD op_mod fun _ _ _ => mint
theorem od_pow : OpD X (binaryOp .Pow) powD := op_intD op_pow fun _ _ _ => mint
theorem od_shl : OpD X (binaryOp .LShift) shlD := op_intD op_shl fun _ _ _ => mint
theorem od_lt : OpD X (compareOp .Lt) ltD := op_intD0 op_lt fun _ _ _ => mbl
theorem od_le : OpD X (compareOp .LtE) leD := op_intD0 op_le fun _ _ _ => mbl
theorem od_gt : OpD X (compareOp .Gt) gtD := op_intD0 op_gt fun _ _ _ => mbl
theorem od_ge : OpD X (compareOp .GtE) geD := op_intD0 op_ge fun _ _ _ => mbl
theorem nil_dat {K : PySem.W.Frag} {H : Hp} {ds : List D} {vs : List V} (h : DatL K H ds vs) : vs = [] ↔ ds = [] := by
  have := h.length
  cases ds <;> cases vs <;> simp_all
theorem od_add : OpD X (binaryOp .Add) addD := by
  refine OpRi (op_add.or (op_add_str.or (op_cat.or op_catT))) fun x y H Q ⟨d, e, S, P, hd, he, hs, hr, hq⟩ => ?_
  cases d with
  | int i =>
    cases e with
    | int j => exact .inl ⟨i, j, dint hd, dint he, hq _ S _ H hr Gr.refl hs mint⟩
    | _ => exact hr.elim
  | str a =>
    cases e with
    | str b =>
      refine .inr (.inl ⟨_, _, dstr hd, dstr he, by rw [ofString_length, ofString_length]; exact hr.1, ?_⟩)
      rw [ofString_append]
      exact hq _ S _ H hr.2 Gr.refl hs mstr
    | _ => exact hr.elim
  | tup xs =>
    cases e with
    | tup ys =>
      obtain ⟨a, vs, rfl, ha, hv⟩ := dtup hd
      obtain ⟨b, ws, rfl, hb, hw⟩ := dtup he
      refine .inr (.inr (.inr ⟨a, b, vs, ws, rfl, rfl, ha, hb, fun z => hr.1 ((nil_dat hv).mp z), by rw [← hv.length, ← hw.length]; exact hr.2.1, fun z => ?_, fun z p n => ?_⟩))
      · have : ys = [] := (nil_dat hw).mp z
        subst this
        have p2 := hr.2.2
        rw [List.append_nil] at p2
        exact hq _ S _ H p2 Gr.refl hs (mtup ha hv)
      · exact hq _ S _ _ hr.2.2 (gr_new n) (hs.new n) (dat_newtup n (hv.append hw))
    | _ => exact hr.elim
  | ref a =>
    cases e with
    | ref b =>
      unfold addD at hr
      dsimp only at hr
      split at hr
      · rename_i xs ys e1 e2
        obtain ⟨vs, h1, hv⟩ := hs a _ e1
        obtain ⟨ws, h2, hw⟩ := hs b _ e2
        refine .inr (.inr (.inl ⟨a, b, vs, ws, dref hd, dref he, h1, h2, by rw [← hv.length, ← hw.length]; exact hr.1, fun p n => ?_⟩))
        exact hq _ _ _ _ (hr.2 p (hs.fresh n)) (gr_new n) (hs.newUp n (obr_newlst n (hv.append hw))) mref
      · exact hr.elim
    | _ => exact hr.elim
  | _ => cases e <;> exact hr.elim

/-! ### == -/
def eqWith (neg : Bool) : RD2 := fun d e S P => match d, e with
  | .ref a, .ref b => (match pyAt 4 S a, pyAt 4 S b with
    | some x, some y => SeqAt.shaped x = true ∧ SeqAt.shaped y = true ∧ P (.bl (xor neg (PyData.eqv x y))) S
    | _, _ => False)
  | .raw x, .raw y => P (.bl (xor neg (decide (x = y)))) S
  | d, e => noRef d = true ∧ noRef e = true ∧ dep d ≤ 40 ∧ dep e ≤ 40 ∧ P (.bl (xor neg (deq d e))) S
abbrev eqD : RD2 := eqWith false
abbrev neD : RD2 := eqWith true
theorem eq_data {K : PySem.W.Frag} {w : World} {H : Hp} {Q : VK} {x y : V} {neg : Bool} (h : liftR K w (eqWith neg) x y H Q) :
    (∃ a b, x = .str a ∧ y = .str b ∧ Q (.bl (xor neg (decide (a = b)))) H) ∨
    ∃ d e, Dp K H x d ∧ Dp K H y e ∧ SeqAt.shaped d = true ∧ SeqAt.shaped e = true ∧ Q (.bl (xor neg (PyData.eqv d e))) H := by
  obtain ⟨d, e, S, P, hd, he, hs, hr, hq⟩ := h
  have plain : noRef d = true ∧ noRef e = true ∧ dep d ≤ 40 ∧ dep e ≤ 40 ∧ P (.bl (xor neg (deq d e))) S → (∃ a b, x = .str a ∧ y = .str b ∧ Q (.bl (xor neg (decide (a = b)))) H) ∨
      ∃ d e, Dp K H x d ∧ Dp K H y e ∧ SeqAt.shaped d = true ∧ SeqAt.shaped e = true ∧ Q (.bl (xor neg (PyData.eqv d e))) H := by
    rintro ⟨h1, h2, h3, h4, p⟩
    obtain ⟨x', e1⟩ := Option.isSome_iff_exists.mp h1
    obtain ⟨y', e2⟩ := Option.isSome_iff_exists.mp h2
    obtain ⟨l1, l2⟩ := lay_of d e1
    obtain ⟨l3, l4⟩ := lay_of e e2
    refine .inr ⟨x', y', dp_to hd e1, dp_to he e2, ?_, ?_, ?_⟩
    · unfold SeqAt.shaped; rw [l1]; simp; omega
    · unfold SeqAt.shaped; rw [l3]; simp; omega
    · rw [deq_eqv d e e1 e2]
      exact hq _ S _ H p Gr.refl hs mbl
  cases d with
  | ref a =>
    cases e with
    | ref b =>
      unfold eqWith at hr
      dsimp only at hr
      split at hr
      · rename_i x' y' e1 e2
        have hx := dp_at hs 4 a x' e1
        have hy := dp_at hs 4 b y' e2
        obtain rfl := dref hd
        obtain rfl := dref he
        exact .inr ⟨x', y', hx, hy, hr.1, hr.2.1, hq _ S _ H hr.2.2 Gr.refl hs mbl⟩
      · exact hr.elim
    | _ => exact plain hr
  | raw a =>
    cases e with
    | raw b => exact .inl ⟨a, b, draw hd, draw he, hq _ S _ H hr Gr.refl hs mbl⟩
    | _ => exact plain hr
  | _ => cases e <;> exact plain hr
theorem od_eq (hu : X.A.units + 64 < cLine) : OpD X (compareOp .Eq) eqD := OpRi (op_eq.or (op_eqD hu)) fun x y H Q h => by
  rcases eq_data h with ⟨a, b, h1, h2, q⟩ | ⟨d, e, h1, h2, h3, h4, q⟩
  · subst h1; subst h2
    refine .inl ⟨rfl, ?_⟩
    simpa using q
  · exact .inr ⟨d, e, h1, h2, h3, h4, by simpa using q⟩
theorem od_ne (hu : X.A.units + 64 < cLine) : OpD X (compareOp .NotEq) neD := OpRi (op_ne.or (op_neD hu)) fun x y H Q h => by
  rcases eq_data h with ⟨a, b, h1, h2, q⟩ | ⟨d, e, h1, h2, h3, h4, q⟩
  · subst h1; subst h2
    refine .inl ⟨rfl, ?_⟩
    simpa using q
  · exact .inr ⟨d, e, h1, h2, h3, h4, by simpa using q⟩

/-! ### is -/
def isWith (neg : Bool) : RD2 := fun d e S P => match e with
  | .non => (match d with
    | .non => P (.bl (xor neg true)) S
    | _ => P (.bl (xor neg false)) S)
  | .bl b => (match d with
    | .bl a => P (.bl (xor neg (a == b))) S
    | _ => False)
  | _ => False
abbrev isD : RD2 := isWith false
abbrev isnD : RD2 := isWith true
def isNon : D → Bool
  | .non => true
  | _ => false
theorem dat_non_iff {K : PySem.W.Frag} {H : Hp} {d : D} {x : V} (h : Dat K H d x) : decide (x = .non) = isNon d := by
  cases d with
  | non => rw [dnon h]; rfl
  | bl b => rw [dbl h]; rfl
  | int i => rw [dint h]; rfl
  | str s => rw [dstr h]; rfl
  | ref a => rw [dref h]; rfl
  | ty n => rw [dty h]; rfl
  | raw z => rw [draw h]; rfl
  | tup ds => obtain ⟨a, vs, rfl, _⟩ := dtup h; rfl
theorem od_is : OpD X (compareOp .Is) isD := OpRi (op_isN.or op_isBl) fun x y H Q ⟨d, e, S, P, hd, he, hs, hr, hq⟩ => by
  cases e with
  | non =>
    refine .inl ⟨dnon he, ?_⟩
    rw [dat_non_iff hd]
    cases d <;> exact hq _ S _ H hr Gr.refl hs mbl
  | bl b =>
    cases d with
    | bl a => exact .inr ⟨a, b, dbl hd, dbl he, hq _ S _ H (by have z := hr; simp only [isWith, Bool.false_xor] at z; rw [Bool.beq_eq_decide_eq] at z; exact z) Gr.refl hs mbl⟩
    | _ => exact hr.elim
  | _ => exact hr.elim
theorem od_isn : OpD X (compareOp .IsNot) isnD := OpRi (op_notN.or op_notBl) fun x y H Q ⟨d, e, S, P, hd, he, hs, hr, hq⟩ => by
  cases e with
  | non =>
    refine .inl ⟨dnon he, ?_⟩
    rw [dat_non_iff hd]
    cases d <;> exact hq _ S _ H hr Gr.refl hs mbl
  | bl b =>
    cases d with
    | bl a => exact .inr ⟨a, b, dbl hd, dbl he, hq _ S _ H (by have z := hr; simp only [isWith, Bool.true_xor] at z; rw [Bool.beq_eq_decide_eq] at z; exact z) Gr.refl hs mbl⟩
    | _ => exact hr.elim
  | _ => exact hr.elim

/-! ### in: a sign in a text, a datum in a tuple or a list -/
def memD (d : D) (ds : List D) : Bool := ds.any fun e => deq e d
theorem any_eqv : ∀ (ds : List D) {xs : List PyData} {d : D} {x : PyData}, toPyL ds = some xs → toPy d = some x → (xs.any fun z => PyData.eqv z x) = memD d ds
  | [], xs, d, x, e, _ => by unfold toPyL pyWL at e; cases e; rfl
  | c :: ds, xs, d, x, e, e2 => by
    unfold toPyL pyWL at e
    split at e
    · rename_i y ys e3 e4
      cases e
      have ih := any_eqv ds e4 e2
      unfold memD at ih ⊢
      rw [List.any_cons, List.any_cons, ih, deq_eqv c d e3 e2]
    · cases e
def rInDT (K : PySem.W.Frag) (neg : Bool) : R2 := fun x y H Q => ∃ d ds, Dp K H x d ∧ (Dp K H y (.list ds) ∨ Dp K H y (.tuple ds)) ∧ d.canLay0 = true ∧ d.depth ≤ 60 ∧ PyData.canLayAll0 ds = true ∧ Q (.bl (xor neg (ds.any fun z => PyData.eqv z d))) H
theorem op_inDT (hu : X.A.units + 64 < cLine) : OpR X (compareOp .In) (rInDT X.K false) := by
  intro pins s σ H x y v u Q I rx ry h
  obtain ⟨d, ds, hd, he, l1, l2, l3, q⟩ := h
  obtain ⟨as, r1⟩ := Dp.reads I d x v hd rx
  rcases he with he | he
  · obtain ⟨bs, r2⟩ := Dp.reads I (.list ds) y u he ry
    exact SeqAt.in_list_reads r2 r1 l3 l1 (by omega) ⟨.bl _, H, I, rfl, by simpa using q⟩
  · obtain ⟨bs, r2⟩ := Dp.reads I (.tuple ds) y u he ry
    exact SeqAt.in_tuple_reads r2 r1 l3 l1 (by omega) ⟨.bl _, H, I, rfl, by simpa using q⟩
theorem op_notInDT (hu : X.A.units + 64 < cLine) : OpR X (compareOp .NotIn) (rInDT X.K true) := by
  intro pins s σ H x y v u Q I rx ry h
  obtain ⟨d, ds, hd, he, l1, l2, l3, q⟩ := h
  obtain ⟨as, r1⟩ := Dp.reads I d x v hd rx
  rcases he with he | he
  · obtain ⟨bs, r2⟩ := Dp.reads I (.list ds) y u he ry
    exact SeqAt.notIn_list_reads r2 r1 l3 l1 (by omega) ⟨.bl _, H, I, rfl, by simpa using q⟩
  · obtain ⟨bs, r2⟩ := Dp.reads I (.tuple ds) y u he ry
    exact SeqAt.notIn_tuple_reads r2 r1 l3 l1 (by omega) ⟨.bl _, H, I, rfl, by simpa using q⟩
def inWith (neg : Bool) : RD2 := fun d e S P => match e with
  | .str y => (match d with
    | .str x => (match x.toList with
      | [c] => P (.bl (xor neg (decide (c ∈ y.toList)))) S
      | _ => False)
    | _ => False)
  | .tup es => noRef d = true ∧ noRefL es = true ∧ dep d ≤ 40 ∧ P (.bl (xor neg (memD d es))) S
  | .ref a => (match S a with
    | some (.lst es) => noRef d = true ∧ noRefL es = true ∧ dep d ≤ 40 ∧ P (.bl (xor neg (memD d es))) S
    | some (.fl es) => noRef d = true ∧ noRefL es = true ∧ dep d ≤ 40 ∧ P (.bl (xor neg (memD d es))) S
    | _ => False)
  | _ => False
abbrev inD : RD2 := inWith false
abbrev notInD : RD2 := inWith true
def rInSg (neg : Bool) : R2 := fun x y H Q => ∃ (c : Nat) (z : Str), x = .str ⟨#[c]⟩ ∧ y = .str z ∧ Q (.bl (xor neg (decide (c ∈ z.cps.toList)))) H
theorem in_data {K : PySem.W.Frag} {w : World} {H : Hp} {Q : VK} {x y : V} {neg : Bool} (h : liftR K w (inWith neg) x y H Q) : rInSg neg x y H Q ∨ rInDT K neg x y H Q := by
  obtain ⟨d, e, S, P, hd, he, hs, hr, hq⟩ := h
  have seq : ∀ {es : List D} {py : List PyData → PyData}, (py = .list ∨ py = .tuple) → (∀ ys, toPyL es = some ys → Dp K H y (py ys)) → noRef d = true ∧ noRefL es = true ∧ dep d ≤ 40 ∧ P (.bl (xor neg (memD d es))) S → rInDT K neg x y H Q := by
    rintro es py hpy hw ⟨h1, h2, h3, p⟩
    obtain ⟨x', e1⟩ := Option.isSome_iff_exists.mp h1
    obtain ⟨ys, e2⟩ := Option.isSome_iff_exists.mp h2
    obtain ⟨l1, l2⟩ := lay_of d e1
    obtain ⟨l3, l4⟩ := layL_of es e2
    refine ⟨x', ys, dp_to hd e1, ?_, l1, by omega, l3, ?_⟩
    · rcases hpy with rfl | rfl
      · exact .inl (hw ys e2)
      · exact .inr (hw ys e2)
    · rw [any_eqv es e2 e1]
      exact hq _ S _ H p Gr.refl hs mbl
  cases e with
  | str z =>
    cases d with
    | str a =>
      unfold inWith at hr
      dsimp only at hr
      split at hr
      · rename_i c ec
        refine .inl ⟨c.toNat, Str.ofString z, ?_, dstr he, ?_⟩
        · rw [dstr hd]
          congr 1
          apply str_ext
          rw [ofString_cps, ec]; rfl
        · rw [ofString_cps]
          have e5 : decide (c.toNat ∈ z.toList.map Char.toNat) = decide (c ∈ z.toList) := by
            apply decide_eq_decide.mpr
            constructor
            · intro hm
              obtain ⟨c', hc', e'⟩ := List.mem_map.mp hm
              exact toNat_inj e' ▸ hc'
            · exact fun hm => List.mem_map.mpr ⟨c, hm, rfl⟩
          rw [e5]
          exact hq _ S _ H hr Gr.refl hs mbl
      · exact hr.elim
    | _ => exact hr.elim
  | tup es =>
    obtain ⟨a, vs, rfl, ha, hv⟩ := dtup he
    exact .inr (seq (.inr rfl) (fun ys e2 => .tup ha (dpL_of (f := fun _ => none) (fun _ _ z => by cases z) es hv e2)) hr)
  | ref a =>
    obtain rfl := dref he
    unfold inWith at hr
    dsimp only at hr
    split at hr
    · rename_i es e1
      obtain ⟨vs, h1, hv⟩ := hs a _ e1
      exact .inr (seq (.inl rfl) (fun ys e2 => .lst (SqL.of h1) (dpL_of (f := fun _ => none) (fun _ _ z => by cases z) es hv e2)) hr)
    · rename_i es e1
      obtain ⟨vs, h1, _, hv⟩ := hs a _ e1
      exact .inr (seq (.inl rfl) (fun ys e2 => .lst h1 (dpL_of (f := fun _ => none) (fun _ _ z => by cases z) es hv e2)) hr)
    · exact hr.elim
  | _ => exact hr.elim
theorem od_in (hu : X.A.units + 64 < cLine) : OpD X (compareOp .In) inD := OpRi (op_in_sign.or (op_inDT hu)) fun x y H Q h => by
  rcases in_data h with ⟨c, z, h1, h2, q⟩ | h
  · exact .inl ⟨c, z, h1, h2, by simpa using q⟩
  · exact .inr h
theorem od_notIn (hu : X.A.units + 64 < cLine) : OpD X (compareOp .NotIn) notInD := OpRi (op_notIn_sign.or (op_notInDT hu)) fun x y H Q h => by
  rcases in_data h with ⟨c, z, h1, h2, q⟩ | h
  · exact .inl ⟨c, z, h1, h2, by simpa using q⟩
  · exact .inr h
end
end VD

set_option Elab.async false
set_option linter.all false
set_option autoImplicit false
set_option maxRecDepth 100000
set_option maxHeartbeats 4000000
/-! VCf: the D layer, part f: subscripts, slices, built-ins, methods of lists, tuples, texts -/
namespace VD
open PySem PySem.Spec PyProof.Rows L2

/-! ### subscripts -/
/-- what is read as a list or tuple -/
def seqD (d : D) (S : Sto) : Option (List D) := match d with
  | .tup ds => some ds
  | .ref a => (match S a with
    | some (.lst ds) => some ds
    | some (.fl ds) => some ds
    | _ => none)
  | _ => none
theorem seq_sq {K : PySem.W.Frag} {w : World} {H : Hp} {S : Sto} {d : D} {v : V} {ds : List D} (hs : StR K w H S) (hd : Dat K H d v) (e : seqD d S = some ds) : ∃ a vs, v = .ref a ∧ (SqL K H a vs ∨ SqT K H a vs) ∧ DatL K H ds vs := by
  unfold seqD at e
  split at e
  · cases e
    obtain ⟨a, vs, h1, h2, h3⟩ := dtup hd
    exact ⟨a, vs, h1, .inr h2, h3⟩
  · rename_i a
    split at e
    · rename_i es e1
      cases e
      obtain ⟨vs, h1, h2⟩ := hs a _ e1
      exact ⟨a, vs, dref hd, .inl (SqL.of h1), h2⟩
    · rename_i es e1
      cases e
      obtain ⟨vs, h1, _, h2⟩ := hs a _ e1
      exact ⟨a, vs, dref hd, .inl h1, h2⟩
    · cases e
  · cases e
/-- what is read as a list -/
def lisD (d : D) (S : Sto) : Option (List D) := match d with
  | .ref a => (match S a with
    | some (.lst ds) => some ds
    | some (.fl ds) => some ds
    | _ => none)
  | _ => none
theorem lis_sq {K : PySem.W.Frag} {w : World} {H : Hp} {S : Sto} {d : D} {v : V} {ds : List D} (hs : StR K w H S) (hd : Dat K H d v) (e : lisD d S = some ds) : ∃ a vs, v = .ref a ∧ SqL K H a vs ∧ DatL K H ds vs := by
  unfold lisD at e
  split at e
  · rename_i a
    split at e
    · rename_i es e1
      cases e
      obtain ⟨vs, h1, h2⟩ := hs a _ e1
      exact ⟨a, vs, dref hd, SqL.of h1, h2⟩
    · rename_i es e1
      cases e
      obtain ⟨vs, h1, _, h2⟩ := hs a _ e1
      exact ⟨a, vs, dref hd, h1, h2⟩
    · cases e
  · cases e
theorem dat_at {K : PySem.W.Frag} {H : Hp} {ds : List D} {vs : List V} {i : Int} {d : D} (h : DatL K H ds vs) (e : atI ds i = some d) : ∃ v, atI vs i = some v ∧ Dat K H d v := by
  unfold atI at e ⊢
  rw [← h.length]
  cases e1 : ixN ds.length i with
  | none => rw [e1] at e; cases e
  | some j =>
    rw [e1] at e
    obtain ⟨v, h1, h2⟩ := h.get (by simpa using e)
    exact ⟨v, by simpa using h1, h2⟩
def ixD : RD2 := fun d e S P => match e with
  | .int i => (match d with
    | .str z => z.length ≤ sizeLine ∧ (match atI z.toList i with
      | some c => P (.str (String.singleton c)) S
      | none => False)
    | d => (match seqD d S with
      | some ds => (match atI ds i with
        | some x => P x S
        | none => False)
      | none => False))
  | _ => False
def IxD (X : Cx) (r : RD2) : Prop := IxR X (liftR X.K X.w r)
theorem IxRi {X : Cx} {r r' : R2} (h : IxR X r) (i : ∀ x y H Q, r' x y H Q → r x y H Q) : IxR X r' := fun value slice pins s σ H x y v u Q I rx ry q hp => h value slice pins s σ H x y v u Q I rx ry (i x y H Q q) hp
theorem atI_map {α β : Type} {f : α → β} {xs : List α} {i : Int} {c : α} (e : atI xs i = some c) : atI (xs.map f) i = some (f c) := by
  unfold atI at e ⊢
  rw [List.length_map]
  cases e1 : ixN xs.length i with
  | none => rw [e1] at e; cases e
  | some j =>
    rw [e1] at e
    have e2 : xs[j]? = some c := by simpa using e
    show (xs.map f)[j]? = some (f c)
    rw [List.getElem?_map, e2]; rfl
theorem id_seq {X : Cx} : IxD X ixD := IxRi (ix_list.or (ix_tup.or ix_str)) fun x y H Q ⟨d, e, S, P, hd, he, hs, hr, hq⟩ => by
  have seq : ∀ {i : Int}, e = .int i → (match seqD d S with
      | some ds => (match atI ds i with
        | some x => P x S
        | none => False)
      | none => False) → rIxL X.K x y H Q ∨ rIxT X.K x y H Q ∨ rIxS x y H Q := by
    rintro i rfl h
    split at h
    · rename_i ds e1
      split at h
      · rename_i c e2
        obtain ⟨a, vs, rfl, hq1, hv⟩ := seq_sq hs hd e1
        obtain ⟨v, h3, h4⟩ := dat_at hv e2
        rcases hq1 with hq1 | hq1
        · exact .inl ⟨a, vs, i, v, rfl, dint he, hq1, h3, hq _ S _ H h Gr.refl hs h4⟩
        · exact .inr (.inl ⟨a, vs, i, v, rfl, dint he, hq1, h3, hq _ S _ H h Gr.refl hs h4⟩)
      · exact h.elim
    · exact h.elim
  cases e with
  | int i =>
    cases d with
    | str z =>
      obtain ⟨h1, h2⟩ := hr
      split at h2
      · rename_i c e2
        refine .inr (.inr ⟨Str.ofString z, i, c.toNat, dstr hd, dint he, by rw [ofString_length]; exact h1, ?_, ?_⟩)
        · rw [ofString_cps]; exact atI_map e2
        · rw [← ofString_sing]
          exact hq _ S _ H h2 Gr.refl hs mstr
      · exact h2.elim
    | _ => exact seq rfl hr
  | _ => exact hr.elim
section
variable {X : Cx} {a b e o : PySem.Expr} {es : List PySem.Expr} {ta tb te : TDE} {t : TDA} {pos p p2 apos : Pos} {r : RD2}
theorem de_ix (ho : IxD X r) (ha : DE X a ta) (hb : DE X b tb) (hp : PlainIx b) : DE X (.Subscript a b pos) (dBin r ta tb) :=
  ⟨fun W tk => peImp (pe_ix ho (ha.ok W tk) (hb.ok W tk) hp) fun _ _ _ h => bin_imp h⟩

/-! ### slices -/
abbrev TDO := Sl → Sto → (Option Int → Sto → Prop) → XD → Prop
def liftO (K : PySem.W.Frag) (w : World) (W : WX) (t : TDO) : TO := fun σ H Q => ∃ δ S P Y, SlR K H δ σ ∧ StR K w H S ∧ t δ S P Y ∧
  (∀ o S' H', P o S' → Gr K H H' → StR K w H' S' → Q o H') ∧ ExL K w W σ H Y
structure DP (X : Cx) (e : Option PySem.Expr) (t : TDO) : Prop where
  ok : ∀ W, Takes X W → PO X e (liftO X.K X.w W t)
theorem poImp {X : Cx} {e : Option PySem.Expr} {t t' : TO} (h : PO X e t) (i : ∀ σ H Q, t' σ H Q → t σ H Q) : PO X e t' := ⟨fun pins s σ H Q I q => h.run pins s σ H Q I (i σ H Q q)⟩
def dPn : TDO := fun _ S P _ => P none S
def dPs (te : TDE) : TDO := fun δ S P Y => te δ S (fun d S1 => match d with
  | .int i => P (some i) S1
  | _ => False) Y
theorem dp_none : DP X none dPn := ⟨fun W _ => poImp po_none fun σ H Q ⟨δ, S, P, Y, hl, hs, ht, hq, hy⟩ => hq none S H ht Gr.refl hs⟩
theorem dp_some (h : DE X e te) : DP X (some e) (dPs te) := ⟨fun W tk => poImp (po_some (h.ok W tk)) fun σ H Q ⟨δ, S, P, Y, hl, hs, ht, hq, hy⟩ => by
  refine ⟨δ, S, _, Y, hl, hs, ht, fun d S1 v H1 p1 g1 s1 q1 => ?_, hy⟩
  cases d with
  | int i => exact ⟨i, dint q1, hq _ S1 H1 p1 g1 s1⟩
  | _ => exact p1.elim⟩
def cutD {α : Type} (xs : List α) (lo hi : Option Int) : List α := (xs.drop (HT.sIx xs.length 0 lo)).take (HT.sIx xs.length xs.length hi - HT.sIx xs.length 0 lo)
theorem dat_cut {K : PySem.W.Frag} {H : Hp} {ds : List D} {vs : List V} (h : DatL K H ds vs) (lo hi : Option Int) : DatL K H (cutD ds lo hi) (cutV vs lo hi) := by
  unfold cutD cutV
  rw [h.length]
  exact (h.drop _).take _
def sliceD (d : D) (lo hi : Option Int) (S : Sto) (P : DK) : Prop := match d with
  | .str z => z.length ≤ sizeLine ∧ P (.str (String.ofList (cutD z.toList lo hi))) S
  | .tup ds => ¬ (HT.sIx ds.length 0 lo = 0 ∧ HT.sIx ds.length ds.length hi = ds.length) ∧ P (.tup (cutD ds lo hi)) S
  | d => (match lisD d S with
    | some ds => ∀ p, S p = none → P (.ref p) (up S p (.lst (cutD ds lo hi)))
    | none => False)
def dSl (te : TDE) (tl th : TDO) : TDE := fun δ S P Y => te δ S (fun d S1 => tl δ S1 (fun lo S2 => th δ S2 (fun hi S3 => sliceD d lo hi S3 P) Y) Y) Y
theorem SlRor {r r' : V → Option Int → Option Int → Hp → VK → Prop} (h : L2.SlR X r) (g : L2.SlR X r') : L2.SlR X (fun x lo hi H Q => r x lo hi H Q ∨ r' x lo hi H Q) :=
  fun pins s σ H x v vl vu lo hi sl Q I rv hsl pl pu q => q.elim (fun q => h pins s σ H x v vl vu lo hi sl Q I rv hsl pl pu q) (fun q => g pins s σ H x v vl vu lo hi sl Q I rv hsl pl pu q)
theorem de_sl {lo hi : Option PySem.Expr} {tl th : TDO} (h : DE X e te) (hl : DP X lo tl) (hh : DP X hi th) : DE X (.Subscript e (.Slice lo hi none p2) pos) (dSl te tl th) :=
  ⟨fun W tk => peImp (pe_slice (SlRor sl_list (SlRor sl_tup sl_str)) (h.ok W tk) (hl.ok W tk) (hh.ok W tk)) fun σ H Q ⟨δ, S, P, Y, hsl, hs, ht, hq, hy⟩ => by
    refine ⟨δ, S, _, Y, hsl, hs, ht, fun d S1 v H1 p1 g1 s1 q1 => ⟨δ, S1, _, Y, hsl.gr g1, s1, p1, fun lo S2 H2 p2 g2 s2 => ⟨δ, S2, _, Y, (hsl.gr g1).gr g2, s2, p2, fun hi S3 H3 p3 g3 s3 => ?_, (hy.gr g1).gr g2⟩, hy.gr g1⟩, hy⟩
    have q3 := Dat.gr g3 d (Dat.gr g2 d q1)
    have gg := (g1.trans g2).trans g3
    have lst : ∀ {d' : D}, Dat X.K H3 d' v → (match lisD d' S3 with
      | some ds => ∀ p, S3 p = none → P (.ref p) (up S3 p (.lst (cutD ds lo hi)))
      | none => False) → rSlL X.K v lo hi H3 Q := by
      intro d' hd' h
      split at h
      · rename_i ds e1
        obtain ⟨a, vs, rfl, h1, h2⟩ := lis_sq s3 hd' e1
        refine ⟨a, vs, rfl, h1, fun p n => ?_⟩
        exact hq _ _ _ _ (h p (s3.fresh n)) (gg.trans (gr_new n)) (s3.newUp n (obr_newlst n (dat_cut h2 lo hi))) mref
      · exact h.elim
    cases d with
    | str z =>
      obtain ⟨h1, h2⟩ := p3
      refine .inr (.inr ⟨_, dstr q3, by rw [ofString_length]; exact h1, ?_⟩)
      have e : cutS (Str.ofString z) lo hi = Str.ofString (String.ofList (cutD z.toList lo hi)) := by
        apply str_ext
        unfold cutS cutD
        rw [ofString_cps, ofString_cps, ofString_length]
        simp [String.length_toList, List.map_take, List.map_drop]
      rw [e]
      exact hq _ S3 _ H3 h2 gg s3 mstr
    | tup ds =>
      obtain ⟨h1, h2⟩ := p3
      obtain ⟨a, vs, rfl, h3, h4⟩ := dtup q3
      refine .inr (.inl ⟨a, vs, rfl, h3, by rw [← h4.length]; exact h1, fun p n => ?_⟩)
      exact hq _ S3 _ _ h2 (gg.trans (gr_new n)) (s3.new n) (dat_newtup n (dat_cut h4 lo hi))
    | _ => exact .inl (lst q3 p3)⟩

/-! ### built-ins -/
abbrev CD := List D → Sto → DK → Prop
def liftC (K : PySem.W.Frag) (w : World) (r : CD) : List V → Hp → VK → Prop := fun xs H Q => ∃ ds S P, DatL K H ds xs ∧ StR K w H S ∧ r ds S P ∧ ∀ d S' v H', P d S' → Gr K H H' → StR K w H' S' → Dat K H' d v → Q v H'
def CallD (X : Cx) (f : Value) (r : CD) : Prop := CallR X f (liftC X.K X.w r)
theorem CRi {f : Value} {r r' : List V → Hp → VK → Prop} (h : CallR X f r) (i : ∀ xs H Q, r' xs H Q → r xs H Q) : CallR X f r' := fun pins s σ H xs us Q I v q => h pins s σ H xs us Q I v (i xs H Q q)
theorem CRor {f : Value} {r r' : List V → Hp → VK → Prop} (h : CallR X f r) (g : CallR X f r') : CallR X f (fun xs H Q => r xs H Q ∨ r' xs H Q) := fun pins s σ H xs us Q I v q => q.elim (fun q => h pins s σ H xs us Q I v q) (fun q => g pins s σ H xs us Q I v q)
def dCB (r : CD) (t : TDA) : TDE := fun δ S P Y => t δ S (fun ds S1 => r ds S1 P) Y
theorem cb_imp {K : PySem.W.Frag} {w : World} {W : WX} {r : CD} {t : TDA} {σ : L2.St} {H : Hp} {Q : VK} (h : lift K w W (dCB r t) σ H Q) : tCB (liftC K w r) (liftA K w W t) σ H Q := by
  obtain ⟨δ, S, P, Y, hl, hs, ht, hq, hy⟩ := h
  exact ⟨δ, S, _, Y, hl, hs, ht, fun ds S1 vs H1 p1 g1 s1 q1 => ⟨ds, S1, P, q1, s1, p1, fun d S' v H' p g s q => hq d S' v H' p (g1.trans g) s q⟩, hy⟩
theorem de_cb {x : String} {id : String} {r : CD} (hr : CallD X (.builtin id) r) (hg : Gl X (Str.ofString x)) (hm : X.mg (Str.ofString x) = none) (hb : bootBuiltins (Str.ofString x) = some (.builtin id)) (ha : DA X (e :: es) t)
    (h1 : Str.ofString x ≠ Str.ofString "__name__") (h2 : (Str.ofString x == ("__debug__" : Str)) = false) (hn : noStars (e :: es) = true) : DE X (.Call (.Name (Str.ofString x) p) (e :: es) [] pos) (dCB r t) :=
  ⟨fun W tk => peImp (pe_callB hr hg hm hb (ha.ok W tk) h1 h2 (by unfold noStars at hn; rw [Bool.and_eq_true, Bool.not_eq_true'] at hn; exact star_cons hn.1) (by unfold noStars at hn; rw [Bool.and_eq_true, Bool.not_eq_true'] at hn; exact star_any pos hn.2)) fun _ _ _ h => cb_imp h⟩
theorem de_ct {x : String} {T : String} {r : CD} (hr : CallD X (.type T) r) (hg : Gl X (Str.ofString x)) (hm : X.mg (Str.ofString x) = none) (hb : bootBuiltins (Str.ofString x) = some (.type T)) (ha : DA X (e :: es) t)
    (h1 : Str.ofString x ≠ Str.ofString "__name__") (h2 : (Str.ofString x == ("__debug__" : Str)) = false) (hn : noStars (e :: es) = true) : DE X (.Call (.Name (Str.ofString x) p) (e :: es) [] pos) (dCB r t) :=
  ⟨fun W tk => peImp (pe_callTy hr hg hm hb (ha.ok W tk) h1 h2 (by unfold noStars at hn; rw [Bool.and_eq_true, Bool.not_eq_true'] at hn; exact star_cons hn.1) (by unfold noStars at hn; rw [Bool.and_eq_true, Bool.not_eq_true'] at hn; exact star_any pos hn.2)) fun _ _ _ h => cb_imp h⟩
theorem one_dat {K : PySem.W.Frag} {H : Hp} {d : D} {vs : List V} (h : DatL K H [d] vs) : ∃ v, vs = [v] ∧ Dat K H d v := by
  unfold DatL at h
  obtain ⟨v, r, rfl, q, t⟩ := h
  unfold DatL at t
  subst t
  exact ⟨v, rfl, q⟩
theorem two_dat {K : PySem.W.Frag} {H : Hp} {d e : D} {vs : List V} (h : DatL K H [d, e] vs) : ∃ v w, vs = [v, w] ∧ Dat K H d v ∧ Dat K H e w := by
  unfold DatL at h
  obtain ⟨v, r, rfl, q, t⟩ := h
  obtain ⟨w, rfl, q2⟩ := one_dat t
  exact ⟨v, w, rfl, q, q2⟩
/-- len of a list, tuple, text -/
def lenD : CD := fun ds S P => match ds with
  | [d] => (match d with
    | .str z => z.length ≤ sizeLine ∧ P (.int z.length) S
    | d => (match seqD d S with
      | some xs => P (.int xs.length) S
      | none => False))
  | _ => False
theorem cd_len : CallD X (.builtin "len") lenD := CRi (CRor call_len_seq call_len_str) fun xs H Q ⟨ds, S, P, hd, hs, hr, hq⟩ => by
  match ds, hr with
  | [d], hr =>
    obtain ⟨v, rfl, hv⟩ := one_dat hd
    have seq : (match seqD d S with
        | some xs => P (.int xs.length) S
        | none => False) → ∃ p ys, [v] = [V.ref p] ∧ (SqL X.K H p ys ∨ SqT X.K H p ys) ∧ Q (V.int ↑(List.length ys)) H := by
      intro h
      split at h
      · rename_i es e1
        obtain ⟨a, vs, rfl, h1, h2⟩ := seq_sq hs hv e1
        refine ⟨a, vs, rfl, h1, ?_⟩
        rw [← h2.length]
        exact hq _ S _ H h Gr.refl hs mint
      · exact h.elim
    cases d with
    | str z =>
      obtain ⟨h1, h2⟩ := hr
      refine .inr ⟨_, by rw [dstr hv], by rw [ofString_length]; exact h1, ?_⟩
      rw [ofString_length]
      exact hq _ S _ H h2 Gr.refl hs mint
    | _ => exact .inl (seq hr)
  | [], hr => exact hr.elim
  | _ :: _ :: _, hr => exact hr.elim
/-- int of an int or truth value -/
def intCD : CD := fun ds S P => match ds with
  | [d] => (match d with
    | .int i => P (.int i) S
    | .bl b => P (.int (if b = true then 1 else 0)) S
    | _ => False)
  | _ => False
theorem cd_int : CallD X (.type "int") intCD := CRi call_int1 fun xs H Q ⟨ds, S, P, hd, hs, hr, hq⟩ => by
  match ds, hr with
  | [d], hr =>
    obtain ⟨v, rfl, hv⟩ := one_dat hd
    cases d with
    | int i => exact .inl ⟨i, by rw [dint hv], hq _ S _ H hr Gr.refl hs mint⟩
    | bl b => exact .inr ⟨b, by rw [dbl hv], hq _ S _ H hr Gr.refl hs mint⟩
    | _ => exact hr.elim
  | [], hr => exact hr.elim
  | _ :: _ :: _, hr => exact hr.elim
/-- tuple of a list or a tuple -/
def tupCD : CD := fun ds S P => match ds with
  | [d] => (match seqD d S with
    | some xs => P (.tup xs) S
    | none => False)
  | _ => False
theorem cd_tup : CallD X (.type "tuple") tupCD := CRi call_tuple_of fun xs H Q ⟨ds, S, P, hd, hs, hr, hq⟩ => by
  match ds, hr with
  | [d], hr =>
    obtain ⟨v, rfl, hv⟩ := one_dat hd
    unfold tupCD at hr
    dsimp only at hr
    split at hr
    · rename_i es e1
      obtain ⟨a, vs, rfl, h1, h2⟩ := seq_sq hs hv e1
      rcases h1 with h1 | h1
      · exact ⟨a, vs, rfl, .inl ⟨h1, fun p n => hq _ S _ _ hr (gr_new n) (hs.new n) (dat_newtup n h2)⟩⟩
      · exact ⟨a, vs, rfl, .inr ⟨h1, hq _ S _ H hr Gr.refl hs (mtup h1 h2)⟩⟩
    · exact hr.elim
  | [], hr => exact hr.elim
  | _ :: _ :: _, hr => exact hr.elim
/-- list of a list or a tuple -/
def lisCD : CD := fun ds S P => match ds with
  | [d] => (match seqD d S with
    | some xs => ∀ p, S p = none → P (.ref p) (up S p (.lst xs))
    | none => False)
  | _ => False
theorem cd_lis : CallD X (.type "list") lisCD := CRi call_list_of fun xs H Q ⟨ds, S, P, hd, hs, hr, hq⟩ => by
  match ds, hr with
  | [d], hr =>
    obtain ⟨v, rfl, hv⟩ := one_dat hd
    unfold lisCD at hr
    dsimp only at hr
    split at hr
    · rename_i es e1
      obtain ⟨a, vs, rfl, h1, h2⟩ := seq_sq hs hv e1
      exact ⟨a, vs, rfl, h1, fun p n => hq _ _ _ _ (hr p (hs.fresh n)) (gr_new n) (hs.newUp n (obr_newlst n h2)) mref⟩
    · exact hr.elim
  | [], hr => exact hr.elim
  | _ :: _ :: _, hr => exact hr.elim
def maxCD : CD := fun ds S P => match ds with
  | [.int i, .int j] => P (.int (if j > i then j else i)) S
  | _ => False
def minCD : CD := fun ds S P => match ds with
  | [.int i, .int j] => P (.int (if j < i then j else i)) S
  | _ => False
theorem max_inv {g : Int → Int → Int} {ds : List D} {S : Sto} {P : DK} (h : match ds with
  | [.int i, .int j] => P (.int (g i j)) S
  | _ => False) : ∃ i j, ds = [.int i, .int j] ∧ P (.int (g i j)) S := by
  split at h
  · exact ⟨_, _, rfl, h⟩
  · exact h.elim
theorem cd_max (hc : X.calm = true) : CallD X (.builtin "max") maxCD := CRi (call_max2 hc) fun xs H Q ⟨ds, S, P, hd, hs, hr, hq⟩ => by
  obtain ⟨i, j, rfl, hr⟩ := max_inv hr
  obtain ⟨v, w, rfl, hv, hw⟩ := two_dat hd
  exact ⟨i, j, by rw [dint hv, dint hw], hq _ S _ H hr Gr.refl hs mint⟩
theorem cd_min (hc : X.calm = true) : CallD X (.builtin "min") minCD := CRi (call_min2 hc) fun xs H Q ⟨ds, S, P, hd, hs, hr, hq⟩ => by
  obtain ⟨i, j, rfl, hr⟩ := max_inv hr
  obtain ⟨v, w, rfl, hv, hw⟩ := two_dat hd
  exact ⟨i, j, by rw [dint hv, dint hw], hq _ S _ H hr Gr.refl hs mint⟩
/-- repr of data that lies in a list or a tuple -/
def reprCD : CD := fun ds S P => match ds with
  | [d] => (match pyOf 6 S d with
    | some x => x.showable = true ∧ x.hasDict = false ∧ x.depth ≤ 40 ∧ Str.length x.shown ≤ sizeLine ∧ P (.raw x.shown) S
    | none => False) ∧ (match d with
      | .tup _ => True
      | .ref _ => True
      | _ => False)
  | _ => False
theorem cd_repr (hA : X.A.guards = some []) (hu : X.A.units + 64 < cLine) : CallD X (.builtin "repr") reprCD := by
  intro pins s σ H xs us Q I hv ⟨ds, S, P, hd, hs, hr, hq⟩
  match ds, hr with
  | [d], hr =>
    obtain ⟨v, rfl, hvd⟩ := one_dat hd
    obtain ⟨h1, h2⟩ := hr
    split at h1
    · rename_i x e1
      obtain ⟨hsh, hdi, hdp, hln, hp⟩ := h1
      have hdx := dp_py hs hvd e1
      cases hv with
      | cons hvu ht =>
        cases ht
        rename_i u
        obtain ⟨as, r⟩ := Dp.reads I x v u hdx hvu
        have hb : ∃ b, u = .ref b := by
          cases d with
          | tup ds => obtain ⟨b, _, rfl, _⟩ := dtup hvd; exact ⟨b, hvu⟩
          | ref b => obtain rfl := dref hvd; exact ⟨b, hvu⟩
          | _ => exact h2.elim
        obtain ⟨b, rfl⟩ := hb
        refine repr_of_reads' r hsh (fun z => absurd z (by rw [hdi]; simp)) hA (by omega) (fun _ _ z => z) (fun h' t tk hk => ?_) hln
        exact ⟨.str x.shown, H, I.kept hk, ⟨t, rfl⟩, hq _ S _ H hp Gr.refl hs mraw⟩
    · exact h1.elim
  | [], hr => exact hr.elim
  | _ :: _ :: _, hr => exact hr.elim
/-- str of an int -/
def strCD : CD := fun ds S P => match ds with
  | [d] => (match d with
    | .int i => i.natAbs.log2 < 1920 ∧ P (.str (toString i)) S
    | _ => False)
  | _ => False
theorem cd_str : CallD X (.type "str") strCD := CRi call_str_int fun xs H Q ⟨ds, S, P, hd, hs, hr, hq⟩ => by
  match ds, hr with
  | [d], hr =>
    obtain ⟨v, rfl, hv⟩ := one_dat hd
    cases d with
    | int i => exact ⟨i, by rw [dint hv], hr.1, hq _ S _ H hr.2 Gr.refl hs mstr⟩
    | _ => exact hr.elim
  | [], hr => exact hr.elim
  | _ :: _ :: _, hr => exact hr.elim
end
end VD

set_option Elab.async false
set_option linter.all false
set_option autoImplicit false
set_option maxRecDepth 100000
set_option maxHeartbeats 4000000
/-! VCg: the D layer, part g: methods of built-in types -/
namespace VD
open PySem PySem.Spec PyProof.Rows L2

abbrev MD := D → List D → Sto → DK → Prop
def liftM (K : PySem.W.Frag) (w : World) (r : MD) : V → List V → Hp → VK → Prop := fun x xs H Q => ∃ d ds S P, Dat K H d x ∧ DatL K H ds xs ∧ StR K w H S ∧ r d ds S P ∧ ∀ d' S' v H', P d' S' → Gr K H H' → StR K w H' S' → Dat K H' d' v → Q v H'
def MtD (X : Cx) (id : String) (r : MD) : Prop := MtR X id (liftM X.K X.w r)
theorem MRi {X : Cx} {id : String} {r r' : V → List V → Hp → VK → Prop} (h : MtR X id r) (i : ∀ x xs H Q, r' x xs H Q → r x xs H Q) : MtR X id r' := fun pins s σ H x xs v us Q I rx rs q => h pins s σ H x xs v us Q I rx rs (i x xs H Q q)
theorem MRor {X : Cx} {id : String} {r r' : V → List V → Hp → VK → Prop} (h : MtR X id r) (g : MtR X id r') : MtR X id (fun x xs H Q => r x xs H Q ∨ r' x xs H Q) := fun pins s σ H x xs v us Q I rx rs q => q.elim (fun q => h pins s σ H x xs v us Q I rx rs q) (fun q => g pins s σ H x xs v us Q I rx rs q)
/-- what a receiver is -/
inductive Rc where
  | str | lst | dct
def Rc.nm : Rc → String
  | .str => "str"
  | .lst => "list"
  | .dct => "dict"
def tyD (T : Rc) (d : D) (S : Sto) : Prop := match T with
  | .str => (match d with
    | .str _ => True
    | _ => False)
  | .lst => (match lisD d S with
    | some _ => True
    | none => False)
  | .dct => False
theorem ty_of {K : PySem.W.Frag} {w : World} {H : Hp} {S : Sto} {T : Rc} {d : D} {v : V} (hs : StR K w H S) (hd : Dat K H d v) (h : tyD T d S) : tyV K T.nm v H := by
  cases T with
  | str =>
    cases d with
    | str z => rw [dstr hd]; rfl
    | _ => exact h.elim
  | lst =>
    unfold tyD at h
    dsimp only at h
    split at h
    · rename_i ds e
      obtain ⟨a, vs, rfl, h1, _⟩ := lis_sq hs hd e
      exact .inl ⟨rfl, vs, h1⟩
    · exact h.elim
  | dct => exact h.elim
def dBM (T : Rc) (r : MD) (te : TDE) (t : TDA) : TDE := fun δ S P Y => te δ S (fun d S1 => tyD T d S1 ∧ t δ S1 (fun ds S2 => r d ds S2 P) Y) Y
section
variable {X : Cx} {o e : PySem.Expr} {es : List PySem.Expr} {te : TDE} {t : TDA} {apos pos p : Pos} {r : MD} {T : Rc} {name id : String}
theorem few_of {es : List PySem.Expr} {env : Env} {cpos : Pos} (hn : noStars es = true) (hf : es.length < 30) : ((backTo cpos (starEach es env)).all (fun x => !x.1) && (backToKw cpos (keywordEach [] env)).all (fun x => x.1.isSome)
      && decide (es.length + ([] : List Keyword).length + (if ([] : List Keyword).isEmpty then 0 else 1) < 30)) = true := by
  rw [star_all cpos hn]
  show (true && true && decide (es.length + 0 + 0 < 30)) = true
  simp [hf]
theorem de_bm (pa : PlainAttrs T.nm) (slot : Slot T.nm (Str.ofString name) id) (hty : typeOf (.builtin id) = pure (.type "method_descriptor")) (hm : MtD X id r) (ho : DE X o te) (ha : DA X (e :: es) t)
    (hb : plainBase o = true) (hn : noStars (e :: es) = true) (hl : (apos.endLine == pos.line) = true) (hf : (e :: es).length < 30) : DE X (.Call (.Attribute o (Str.ofString name) apos) (e :: es) [] pos) (dBM T r te t) := by
  have h2 : isStar e = false ∧ noStars es = true := by unfold noStars at hn; rw [Bool.and_eq_true, Bool.not_eq_true'] at hn; exact hn
  refine ⟨fun W tk => peImp (pe_bm pa slot hty hm (ho.ok W tk) (ha.ok W tk) (base_of hb) (few_of hn hf) hl (star_cons h2.1) (star_any pos h2.2)) fun σ H Q ⟨δ, S, P, Y, hsl, hs, ht, hq, hy⟩ => ?_⟩
  exact ⟨δ, S, _, Y, hsl, hs, ht, fun d S1 v H1 p1 g1 s1 q1 => ⟨ty_of s1 q1 p1.1, δ, S1, _, Y, hsl.gr g1, s1, p1.2, fun ds S2 vs H2 p2 g2 s2 q2 =>
    ⟨d, ds, S2, P, Dat.gr g2 _ q1, q2, s2, p2, fun d' S' v' H' p g s q => hq d' S' v' H' p ((g1.trans g2).trans g) s q⟩, hy.gr g1⟩, hy⟩
def dBM0 (T : Rc) (r : MD) (te : TDE) : TDE := fun δ S P Y => te δ S (fun d S1 => tyD T d S1 ∧ r d [] S1 P) Y
theorem de_bm0 (pa : PlainAttrs T.nm) (slot : Slot T.nm (Str.ofString name) id) (hty : typeOf (.builtin id) = pure (.type "method_descriptor")) (hm : MtD X id r) (ho : DE X o te)
    (hb : plainBase o = true) (hl : (apos.endLine == pos.line) = true) : DE X (.Call (.Attribute o (Str.ofString name) apos) [] [] pos) (dBM0 T r te) := by
  refine ⟨fun W tk => peImp (pe_bm0 pa slot hty hm (ho.ok W tk) (base_of hb) hl) fun σ H Q ⟨δ, S, P, Y, hsl, hs, ht, hq, hy⟩ => ?_⟩
  exact ⟨δ, S, _, Y, hsl, hs, ht, fun d S1 v H1 p1 g1 s1 q1 => ⟨ty_of s1 q1 p1.1, d, [], S1, P, q1, DatL.nil, s1, p1.2, fun d' S' v' H' p g s q => hq d' S' v' H' p (g1.trans g) s q⟩, hy⟩

/-! lists -/
def appendM : MD := fun d ds S P => match d, ds with
  | .ref a, [x] => (match S a with
    | some (.lst xs) => xs.length < sizeLine ∧ P .non (up S a (.lst (xs ++ [x])))
    | _ => False)
  | _, _ => False
theorem obr_putlst {K : PySem.W.Frag} {w : World} {H : Hp} {a : Nat} {vs ws : List V} {ds : List D} (h : H a = some (.lst vs)) (q : DatL K H ds ws) : ObR K w (upd H a (.lst ws)) a (.lst ds) := ⟨ws, upd_same, DatL.gr (gr_put h trivial) _ q⟩
theorem md_append : MtD X "list.append" appendM := MRi mt_append fun x xs H Q ⟨d, ds, S, P, hd, hds, hs, hr, hq⟩ => by
  cases d with
  | ref a =>
    match ds, hr with
    | [y], hr =>
      obtain ⟨u, rfl, hu⟩ := one_dat hds
      unfold appendM at hr
      dsimp only at hr
      split at hr
      · rename_i ys e
        obtain ⟨vs, h1, h2⟩ := hs a _ e
        have q := obr_putlst (w := X.w) h1 (h2.append (DatL.one hu))
        exact ⟨a, vs, u, dref hd, rfl, h1, by rw [← h2.length]; exact hr.1, hq _ _ _ _ hr.2 (gr_put h1 trivial) (hs.put h1 trivial q) mnon⟩
      · exact hr.elim
    | [], hr => exact hr.elim
    | _ :: _ :: _, hr => exact hr.elim
  | _ => exact hr.elim
def extendM : MD := fun d ds S P => match d, ds with
  | .ref a, [.ref b] => (match S a, S b with
    | some (.lst xs), some (.lst ys) => xs.length + ys.length ≤ sizeLine ∧ P .non (up S a (.lst (xs ++ ys)))
    | _, _ => False)
  | _, _ => False
theorem extend_inv {d : D} {ds : List D} {S : Sto} {P : DK} (h : extendM d ds S P) : ∃ a b xs ys, d = .ref a ∧ ds = [.ref b] ∧ S a = some (.lst xs) ∧ S b = some (.lst ys) ∧ xs.length + ys.length ≤ sizeLine ∧ P .non (up S a (.lst (xs ++ ys))) := by
  unfold extendM at h
  split at h
  · split at h
    · rename_i h1 h2
      exact ⟨_, _, _, _, rfl, rfl, h1, h2, h.1, h.2⟩
    · exact h.elim
  · exact h.elim
theorem md_extend : MtD X "list.extend" extendM := MRi mt_extend fun x xs H Q ⟨d, ds, S, P, hd, hds, hs, hr, hq⟩ => by
  obtain ⟨a, b, ys, zs, rfl, rfl, e1, e2, hl, hp⟩ := extend_inv hr
  obtain ⟨u, rfl, hu⟩ := one_dat hds
  obtain ⟨vs, h1, h2⟩ := hs a _ e1
  obtain ⟨ws, h3, h4⟩ := hs b _ e2
  obtain rfl := dref hu
  have q := obr_putlst (w := X.w) h1 (h2.append h4)
  exact ⟨a, b, vs, ws, dref hd, rfl, h1, h3, by rw [← h2.length, ← h4.length]; exact hl, hq _ _ _ _ hp (gr_put h1 trivial) (hs.put h1 trivial q) mnon⟩
def popM : MD := fun d ds S P => match d, ds with
  | .ref a, [] => (match S a with
    | some (.lst xs) => (match xs[xs.length - 1]? with
      | some y => P y (up S a (.lst xs.dropLast))
      | none => False)
    | _ => False)
  | _, _ => False
theorem md_pop : MtD X "list.pop" popM := MRi mt_pop fun x xs H Q ⟨d, ds, S, P, hd, hds, hs, hr, hq⟩ => by
  cases d with
  | ref a =>
    match ds, hr with
    | [], hr =>
      unfold DatL at hds
      subst hds
      unfold popM at hr
      dsimp only at hr
      split at hr
      · rename_i ys e
        split at hr
        · rename_i y e2
          obtain ⟨vs, h1, h2⟩ := hs a _ e
          obtain ⟨v, h3, h4⟩ := h2.get e2
          have q := obr_putlst (w := X.w) h1 h2.dropLast
          exact ⟨a, vs, v, dref hd, rfl, h1, by rw [← h2.length]; exact h3, hq _ _ _ _ hr (gr_put h1 trivial) (hs.put h1 trivial q) (Dat.gr (gr_put h1 trivial) _ h4)⟩
        · exact hr.elim
      · exact hr.elim
    | _ :: _, hr => exact hr.elim
  | _ => exact hr.elim
def popAtM : MD := fun d ds S P => match d, ds with
  | .ref a, [.int i] => (match S a with
    | some (.lst xs) => -2 ^ 63 ≤ i ∧ i < 2 ^ 63 ∧ (match seqIndex? i xs.length with
      | some k => (match xs[k]? with
        | some y => P y (up S a (.lst (xs.eraseIdx k)))
        | none => False)
      | none => False)
    | _ => False)
  | _, _ => False
theorem popAt_inv {d : D} {ds : List D} {S : Sto} {P : DK} (h : popAtM d ds S P) : ∃ a i xs k y, d = .ref a ∧ ds = [.int i] ∧ S a = some (.lst xs) ∧ -2 ^ 63 ≤ i ∧ i < 2 ^ 63 ∧ seqIndex? i xs.length = some k ∧ xs[k]? = some y ∧ P y (up S a (.lst (xs.eraseIdx k))) := by
  unfold popAtM at h
  split at h
  · split at h
    · rename_i e
      obtain ⟨h1, h2, h⟩ := h
      split at h
      · rename_i e2
        split at h
        · rename_i e3
          exact ⟨_, _, _, _, _, rfl, rfl, e, h1, h2, e2, e3, h⟩
        · exact h.elim
      · exact h.elim
    · exact h.elim
  · exact h.elim
theorem md_popAt : MtD X "list.pop" popAtM := MRi mt_popAt fun x xs H Q ⟨d, ds, S, P, hd, hds, hs, hr, hq⟩ => by
  obtain ⟨a, i, ys, k, y, rfl, rfl, e1, b1, b2, e2, e3, hp⟩ := popAt_inv hr
  obtain ⟨u, rfl, hu⟩ := one_dat hds
  obtain ⟨vs, h1, h2⟩ := hs a _ e1
  obtain ⟨v, h3, h4⟩ := h2.get e3
  have q := obr_putlst (w := X.w) h1 (h2.eraseIdx k)
  exact ⟨a, vs, i, k, v, dref hd, by rw [dint hu], h1, b1, b2, by rw [← h2.length]; exact e2, h3, hq _ _ _ _ hp (gr_put h1 trivial) (hs.put h1 trivial q) (Dat.gr (gr_put h1 trivial) _ h4)⟩

/-! texts -/
/-- the texts of a list -/
def strsD : List D → Option (List String)
  | [] => some []
  | .str z :: r => (strsD r).map (z :: ·)
  | _ => none
theorem strs_dat {K : PySem.W.Frag} {H : Hp} : ∀ {ds : List D} {zs : List String} {vs : List V}, strsD ds = some zs → DatL K H ds vs → vs = (zs.map Str.ofString).map V.str
  | [], zs, vs, e, h => by unfold DatL at h; unfold strsD at e; cases e; exact h
  | d :: ds, zs, vs, e, h => by
    unfold DatL at h
    obtain ⟨v, r, rfl, hd, ht⟩ := h
    cases d with
    | str z =>
      unfold strsD at e
      obtain ⟨zr, e1, rfl⟩ := Option.map_eq_some_iff.mp e
      rw [dstr hd, strs_dat e1 ht]
      rfl
    | _ => unfold strsD at e; cases e
theorem strsD_map (zs : List String) : strsD (zs.map D.str) = some zs := by
  induction zs with
  | nil => rfl
  | cons z zs ih => show (strsD (zs.map D.str)).map (z :: ·) = _; rw [ih]; rfl
def joinM : MD := fun d ds S P => match d, ds with
  | .str a, [x] => (match seqD x S with
    | some xs => (match strsD xs with
      | some zs => (zs.map (·.length)).sum + zs.length * a.length ≤ 16777216 ∧ P (.str (String.intercalate a zs)) S
      | none => False)
    | none => False)
  | _, _ => False
theorem join_inter (a : String) : ∀ zs : List String, Txt.join (Str.ofString a) (zs.map Str.ofString) = Str.ofString (String.intercalate a zs) := by
  intro zs
  rw [TL.join_eq]
  induction zs with
  | nil => rfl
  | cons z zs ih =>
    cases zs with
    | nil => rw [String.intercalate_singleton]; rfl
    | cons y zs =>
      rw [String.intercalate_cons_cons, ← ofString_append, ← ofString_append, ← ih]
      rfl
theorem md_join : MtD X "str.join" joinM := MRi mt_join fun x xs H Q ⟨d, ds, S, P, hd, hds, hs, hr, hq⟩ => by
  cases d with
  | str a =>
    match ds, hr with
    | [y], hr =>
      obtain ⟨u, rfl, hu⟩ := one_dat hds
      unfold joinM at hr
      dsimp only at hr
      split at hr
      · rename_i ys e1
        split at hr
        · rename_i zs e2
          obtain ⟨p, vs, rfl, h1, h2⟩ := seq_sq hs hu e1
          obtain rfl := strs_dat e2 h2
          refine ⟨Str.ofString a, p, zs.map Str.ofString, dstr hd, rfl, h1, ?_, ?_⟩
          · rw [List.map_map, List.length_map, ofString_length]
            have : (fun x : Str => x.length) ∘ Str.ofString = fun x : String => x.length := by funext x; exact ofString_length x
            rw [this]
            exact hr.1
          · rw [join_inter]
            exact hq _ S _ H hr.2 Gr.refl hs mstr
        · exact hr.elim
      · exact hr.elim
    | [], hr => exact hr.elim
    | _ :: _ :: _, hr => exact hr.elim
  | _ => exact hr.elim
/-- the place of one sign -/
def indexM : MD := fun d ds S P => match d, ds with
  | .str a, [.str x] => (match x.toList with
    | [c] => c ∈ a.toList ∧ P (.int (a.toList.idxOf c)) S
    | _ => False)
  | _, _ => False
theorem index_inv {d : D} {ds : List D} {S : Sto} {P : DK} (h : indexM d ds S P) : ∃ a x c, d = .str a ∧ ds = [.str x] ∧ x.toList = [c] ∧ c ∈ a.toList ∧ P (.int (a.toList.idxOf c)) S := by
  unfold indexM at h
  split at h
  · split at h
    · rename_i e
      exact ⟨_, _, _, rfl, rfl, e, h.1, h.2⟩
    · exact h.elim
  · exact h.elim
theorem at_sign {a x : String} {c : Char} (ex : x.toList = [c]) (i : Nat) : StrLaws.At (Str.ofString a) (Str.ofString x) (Str.ofString a).length i ↔ a.toList[i]? = some c := by
  have hl : (Str.ofString x).length = 1 := by rw [ofString_length, ← String.length_toList, ex]; rfl
  have hx : (Str.ofString x).cps = #[c.toNat] := by
    apply Array.toList_inj.mp
    rw [ofString_cps, ex]; rfl
  unfold StrLaws.At Builtin.Str.subAt
  rw [hl, hx]
  have hsz : (Str.ofString a).length = (Str.ofString a).cps.size := rfl
  have hz : (Str.ofString a).cps.size = a.toList.length := by rw [← Array.length_toList, ofString_cps, List.length_map]
  rw [hsz, hz]
  have hg : ∀ j : Nat, (Str.ofString a).cps[j]? = (a.toList[j]?).map Char.toNat := by
    intro j
    rw [← Array.getElem?_toList, ofString_cps, List.getElem?_map]
  constructor
  · rintro ⟨h1, h2⟩
    have hi : i < a.toList.length := by omega
    have e := beq_iff_eq.mp h2
    have e0 : ((Str.ofString a).cps.extract i (i + 1))[0]? = some c.toNat := by rw [e]; rfl
    rw [Array.getElem?_extract] at e0
    simp only [Nat.add_zero] at e0
    rw [hg] at e0
    split at e0
    · rw [List.getElem?_eq_getElem hi] at e0 ⊢
      have := toNat_inj (Option.some.inj e0)
      rw [this]
    · cases e0
  · intro h
    obtain ⟨hi, e⟩ := List.getElem?_eq_some_iff.mp h
    refine ⟨by omega, beq_iff_eq.mpr ?_⟩
    apply Array.ext
    · simp; omega
    · intro j h1 h2
      have hj : j = 0 := by simp at h2; omega
      subst hj
      have e2 : (Str.ofString a).cps[i]? = some c.toNat := by rw [hg, h]; rfl
      obtain ⟨h3, e3⟩ := Array.getElem?_eq_some_iff.mp e2
      simp [e3]
theorem md_index : MtD X "str.index" indexM := MRi mt_sindex fun x xs H Q ⟨d, ds, S, P, hd, hds, hs, hr, hq⟩ => by
  obtain ⟨a, y, c, rfl, rfl, e, hc, hp⟩ := index_inv hr
  obtain ⟨u, rfl, hu⟩ := one_dat hds
  rcases StrLaws.occ_head (Str.ofString a) (Str.ofString y) 1 (Nat.le_refl _) with ⟨_, hno⟩ | ⟨i, r, ho, hi, hmin⟩
  · obtain ⟨j, hj⟩ := List.getElem?_of_mem hc
    exact absurd ((at_sign e j).mpr hj) (hno j)
  · refine ⟨Str.ofString a, Str.ofString y, i, r, dstr hd, by rw [dstr hu], ho, ?_⟩
    have h1 := (at_sign e i).mp hi
    have h2 : ∀ k, k < i → a.toList[k]? ≠ some c := fun k hk z => hmin k hk ((at_sign e k).mpr z)
    have e3 : a.toList.idxOf c = i := by
      obtain ⟨hil, hic⟩ := List.getElem?_eq_some_iff.mp h1
      have hle : a.toList.idxOf c ≤ i := by
        rcases Nat.lt_or_ge i (a.toList.idxOf c) with hlt | hge
        · have := List.not_of_lt_findIdx (p := (· == c)) (xs := a.toList) (i := i) hlt
          simp [hic] at this
        · exact hge
      rcases Nat.lt_or_ge (a.toList.idxOf c) i with hlt | hge
      · have hlen : a.toList.idxOf c < a.toList.length := List.idxOf_lt_length_iff.mpr hc
        have : a.toList[a.toList.idxOf c]? = some c := by
          rw [List.getElem?_eq_getElem hlen]
          congr 1
          exact List.getElem_idxOf hlen
        exact absurd this (h2 _ hlt)
      · omega
    rw [e3] at hp
    exact hq _ S _ H hp Gr.refl hs mint
end

/-! ### t.index(x) of a tuple of the module -/
/-- a tuple that is a constant of the module -/
def GloT (K : PySem.W.Frag) (mg : Str → Option Value) (x : Str) (ds : List D) : Prop := ∃ a o vs, mg x = some (.ref a) ∧ K.lookup a = some o ∧ o.cls = .type "tuple" ∧ o.dict = none ∧ (∀ H, SqT K H a vs) ∧ ∀ H, DatL K H ds vs
theorem GloT.is {K : PySem.W.Frag} {mg : Str → Option Value} {x : Str} {ds : List D} (h : GloT K mg x ds) : GloIs K mg x (.tup ds) := let ⟨a, _, vs, h1, _, _, _, h2, h3⟩ := h; ⟨.ref a, .ref a, h1, rfl, fun H => mtup (h2 H) (h3 H)⟩
def rTIx (K : PySem.W.Frag) : V → List V → Hp → VK → Prop := fun x xs H Q => ∃ (a : Addr) (y : V) (d : PyData) (ds : List PyData) (j : Nat) (z : PyData), x = V.ref a ∧ xs = [y] ∧ Dp K H (V.ref a) (.tuple ds) ∧ Dp K H y d ∧
  SeqAt.shaped (.tuple ds) = true ∧ SeqAt.shaped d = true ∧ ds[j]? = some z ∧ PyData.eqv z d = true ∧ (∀ (m : Nat) (z' : PyData), m < j → ds[m]? = some z' → PyData.eqv z' d = false) ∧ Q (.int (j : Nat)) H
section
variable {X : Cx}
theorem mt_tupIxD (hu : X.A.units + 65 < cLine) : MtR X "tuple.index" (rTIx X.K) := by
  intro pins s σ H x xs v us Q I rx rxs h
  obtain ⟨a, y, d, ds, j, z, rfl, rfl, hl, hy, sl, sd, hz, hzj, hno, q⟩ := h
  cases rx
  cases rxs with
  | cons ry rt =>
    rename_i uy ut
    cases rt
    obtain ⟨bs, r1⟩ := Dp.reads I d y uy hy ry
    have hxs : PyData.canLayAll0 ds = true := SeqAt.canLay_of_shaped (d := .tuple ds) sl
    have hroom : X.A.units + 1 + min (PyData.depthAll ds) d.depth < cLine := room_in_shaped sd hu
    cases hl with
    | tup hs ha =>
      obtain ⟨its, rv, ⟨⟨cls, dd, data, sls⟩, ho, hc, n, hdt⟩, hlen⟩ := I.tuple hs
      simp only at hc hdt
      subst hc hdt
      obtain ⟨as, h4⟩ := Dp.readsAll I ds _ its ha rv
      have hn : its.length = ds.length := SeqAt.ReadsAll.length ds its as h4
      have hmap : its.map (SeqAt.readOf s.heap) = ds := SeqAt.readsAll_map ds its as hxs h4
      have hvl := rv.length
      obtain ⟨hjd, _⟩ := List.getElem?_eq_some_iff.mp hz
      have hjl : j < its.length := by omega
      have hj : j < its.toArray.size := by simpa using hjl
      have at_ : ∀ (m : Nat) (hm : m < its.toArray.size) (z' : PyData), ds[m]? = some z' → SeqAt.readOf s.heap its.toArray[m] = z' := by
        intro m hm z' hz'
        have hml : m < its.length := by simpa using hm
        rw [← hmap, List.getElem?_map, List.getElem?_eq_getElem hml] at hz'
        have e1 : SeqAt.readOf s.heap its[m] = z' := Option.some.inj (show some (SeqAt.readOf s.heap its[m]) = some z' from hz')
        simpa using e1
      refine call_meets PySem.F.slot_tuple_index ⟨_, ho, rfl⟩ PySem.F.entry_tuple_index (PySem.F.args_tuple_index_2 _ _)
        (TI.tuple_indexAt a its.toArray n dd sls uy (fun u => PyData.eqv (SeqAt.readOf s.heap u) d) j hj ?_ ?_) ⟨ho, SeqAt.items_eqAt (vs := its.toArray) (show ReadsAll s.heap its.toArray.toList ds as from h4) r1 hxs (SeqAt.canLay_of_shaped sd) hroom, ?_⟩
      · show PyData.eqv (SeqAt.readOf s.heap its.toArray[j]) d = true
        rw [at_ j hj z hz]
        exact hzj
      · intro m hm hmj
        have hmd : m < ds.length := by omega
        have hz' : ds[m]? = some ds[m] := List.getElem?_eq_getElem hmd
        show PyData.eqv (SeqAt.readOf s.heap its.toArray[m]) d = false
        rw [at_ m hm _ hz']
        exact hno m _ hmj hz'
      · exact ⟨.int (j : Nat), H, I.tok _, ⟨_, rfl⟩, q⟩
/-- the first place of a datum -/
def idxD (d : D) : List D → Option Nat
  | [] => none
  | e :: r => if deq e d = true then some 0 else (idxD d r).map (· + 1)
def dTIx (ds : List D) (t : TDE) : TDE := fun δ S P Y => t δ S (fun d S1 => noRef d = true ∧ dep d ≤ 40 ∧ (match idxD d ds with
  | some j => P (.int (j : Nat)) S1
  | none => False)) Y
theorem idx_of {d : D} {x : PyData} (ex : toPy d = some x) : ∀ {ds : List D} {xs : List PyData} {j : Nat}, toPyL ds = some xs → idxD d ds = some j → ∃ z, xs[j]? = some z ∧ PyData.eqv z x = true ∧ ∀ (m : Nat) (z' : PyData), m < j → xs[m]? = some z' → PyData.eqv z' x = false
  | [], xs, j, e, h => by unfold idxD at h; cases h
  | c :: ds, xs, j, e, h => by
    unfold toPyL pyWL at e
    split at e
    · rename_i y ys e1 e2
      cases e
      unfold idxD at h
      by_cases hc : deq c d = true
      · rw [if_pos hc] at h; cases h
        exact ⟨y, rfl, by rw [deq_eqv c d e1 ex]; exact hc, fun m z' hm => absurd hm (Nat.not_lt_zero _)⟩
      · rw [if_neg hc] at h
        obtain ⟨j', h1, rfl⟩ := Option.map_eq_some_iff.mp h
        obtain ⟨z, h2, h3, h4⟩ := idx_of ex e2 h1
        refine ⟨z, by simpa using h2, h3, fun m z' hm hz => ?_⟩
        cases m with
        | zero =>
          simp at hz; subst hz
          rw [deq_eqv c d e1 ex]
          exact Bool.not_eq_true _ |>.mp hc
        | succ m => exact h4 m z' (by omega) (by simpa using hz)
    · cases e
theorem de_tix {x : Str} {e : PySem.Expr} {ds : List D} {te : TDE} {apos pos p : Pos} (hu : X.A.units + 65 < cLine) (hg : Gl X x) (h : GloT X.K X.mg x ds) (hd : (x == ("__debug__" : Str)) = false) (he : DE X e te) (hds : noRefL ds = true) (hdp : depL ds ≤ 40)
    (hn : isStar e = false) (hl : (apos.endLine == pos.line) = true) : DE X (.Call (.Attribute (.Name x p) (Str.ofString "index") apos) [e] [] pos) (dTIx ds te) := by
  obtain ⟨a, o, vs, h1, h2, h3, h4, h5, h6⟩ := h
  have hn' : noStars [e] = true := by unfold noStars noStars; rw [hn]; rfl
  have ha : DA X [e] (dCons te dNil) := da_cons he da_nil (star_cons hn)
  obtain ⟨xs, e2⟩ := Option.isSome_iff_exists.mp hds
  obtain ⟨l3, l4⟩ := layL_of ds e2
  refine ⟨fun W tk => peImp (pe_bm PySem.F.plainAttrs_tuple PySem.F.slot_tuple_index PySem.F.type_tuple_index (mt_tupIxD hu) (pe_glob hg h1 (v := .ref a) rfl hd) (ha.ok W tk) (base_of rfl) (few_of hn' (by simp)) hl (star_cons hn) rfl) fun σ H Q ⟨δ, S, P, Y, hsl, hs, ht, hq, hy⟩ => ?_⟩
  refine ⟨.inr (.inl ⟨rfl, o, h2, h3, h4⟩), δ, S, fun ds' S2 => ∃ d, ds' = [d] ∧ noRef d = true ∧ dep d ≤ 40 ∧ (match idxD d ds with
    | some j => P (.int (j : Nat)) S2
    | none => False), Y, hsl, hs, ?_, fun ds' S2 us H2 ⟨d, ed, n1, n2, p2⟩ g2 s2 q2 => ?_, hy⟩
  · exact Eq.mp (congrArg (fun k => te δ S k Y) (by funext d S1; apply propext; constructor; exact fun z => ⟨d, rfl, z⟩; rintro ⟨d', e', z⟩; cases e'; exact z)) ht
  · subst ed
    obtain ⟨u, rfl, hu2⟩ := one_dat q2
    obtain ⟨x', e1⟩ := Option.isSome_iff_exists.mp n1
    obtain ⟨l1, l2⟩ := lay_of d e1
    split at p2
    · rename_i j ej
      obtain ⟨z, k1, k2, k3⟩ := idx_of e1 e2 ej
      refine ⟨a, u, x', xs, j, z, rfl, rfl, .tup (h5 H2) (dpL_of (f := fun _ => none) (fun _ _ z => by cases z) ds (h6 H2) e2), dp_to hu2 e1, ?_, ?_, k1, k2, k3, hq _ S2 _ H2 p2 g2 s2 mint⟩
      · unfold SeqAt.shaped; simp only [PyData.canLay0, PyData.depth, l3, l4]; simp; omega
      · unfold SeqAt.shaped; rw [l1]; simp; omega
    · exact p2.elim
end
end VD

set_option Elab.async false
set_option linter.all false
set_option autoImplicit false
set_option maxRecDepth 100000
set_option maxHeartbeats 4000000
/-! VCh: the D layer, part h: targets, statements, loops, comprehensions -/
namespace VD
open PySem PySem.Spec PyProof.Rows L2

/-- what the rules of a level ask of their place -/
structure Std (k : Nat) (X : Cx) : Prop where
  rm : Rm k X.A
  calm : X.calm = true
  po : PassesOwn (model X.prog X.w) X.A X.env X.xe
  nd : X.N.Nodup
theorem Std.hu {k : Nat} {X : Cx} (s : Std k X) : X.A.units + 64 < cLine := by have := s.rm.room.un; omega
theorem Std.hu1 {k : Nat} {X : Cx} (s : Std k X) : X.A.units + 65 < cLine := by have := s.rm.room.un; omega
theorem Std.mono {j k : Nat} {X : Cx} (s : Std k X) (h : j ≤ k) : Std j X := ⟨s.rm.mono h, s.calm, s.po, s.nd⟩

/-! ### targets -/
abbrev TDG := D → Sl → Sto → (Sl → Sto → Prop) → XD → Prop
abbrev TDGs := List D → Sl → Sto → (Sl → Sto → Prop) → XD → Prop
def liftG (K : PySem.W.Frag) (w : World) (W : WX) (t : TDG) : TG := fun v σ H Q => ∃ d δ S P Y, Dat K H d v ∧ SlR K H δ σ ∧ StR K w H S ∧ t d δ S P Y ∧
  (∀ δ' S' σ' H', P δ' S' → Gr K H H' → SlR K H' δ' σ' → StR K w H' S' → Q σ' H') ∧ ExL K w W σ H Y
def liftGs (K : PySem.W.Frag) (w : World) (W : WX) (t : TDGs) : TGs := fun vs σ H Q => ∃ ds δ S P Y, DatL K H ds vs ∧ SlR K H δ σ ∧ StR K w H S ∧ t ds δ S P Y ∧
  (∀ δ' S' σ' H', P δ' S' → Gr K H H' → SlR K H' δ' σ' → StR K w H' S' → Q σ' H') ∧ ExL K w W σ H Y
structure DG (X : Cx) (e : PySem.Expr) (t : TDG) : Prop where
  ok : ∀ W, Takes X W → PG X e (liftG X.K X.w W t)
/-- a target that raises nothing (no exception's wish moves with the slots) -/
structure DGs (X : Cx) (es : List PySem.Expr) (t : TDGs) : Prop where
  ok : ∀ W, Takes X W → PGs X es (liftGs X.K X.w W t)
theorem pgImp {X : Cx} {e : PySem.Expr} {t t' : TG} (h : PG X e t) (i : ∀ v σ H Q, t' v σ H Q → t v σ H Q) : PG X e t' := ⟨fun pins s σ H v u Q I r q => h.run pins s σ H v u Q I r (i v σ H Q q)⟩
theorem pgsImp {X : Cx} {e : List PySem.Expr} {t t' : TGs} (h : PGs X e t) (i : ∀ v σ H Q, t' v σ H Q → t v σ H Q) : PGs X e t' := ⟨fun pins s σ H v u Q I r q => h.run pins s σ H v u Q I r (i v σ H Q q)⟩
section
variable {X : Cx} {pos p : Pos} {e o i : PySem.Expr} {es : List PySem.Expr} {te to ti : TDE} {g : TDG} {gs : TDGs}
def gNm (i : Nat) : TDG := fun d δ S P _ => P (δ.set i (some d)) S
theorem dg_name {i : Nat} {x : Str} (hN : X.N.Nodup) (hi : X.N[i]? = some x) (hx : L2.Loc X.env.scope x) (hf : X.fn x = true ∨ X.env.scope.names.lookup x = some .local) : DG X (.Name x pos) (gNm i) :=
  ⟨fun W tk => pgImp (pg_name hN hi hx hf) fun v σ H Q ⟨d, δ, S, P, Y, hd, hl, hs, ht, hq, hy⟩ => hq _ S _ H ht Gr.refl (hl.set i hd) hs⟩
def gNl : TDGs := fun ds δ S P _ => ds = [] ∧ P δ S
def gCs (t : TDG) (u : TDGs) : TDGs := fun ds δ S P Y => match ds with
  | d :: r => t d δ S (fun δ1 S1 => u r δ1 S1 P (fun _ _ _ => False)) Y
  | [] => False
theorem ExL.never {K : PySem.W.Frag} {w : World} {W : WX} {σ : L2.St} {H : Hp} : ExL K w W σ H (fun _ _ _ => False) := fun _ _ _ _ y => y.elim
theorem dgs_nil : DGs X [] gNl := ⟨fun W tk => pgsImp pgs_nil fun v σ H Q ⟨d, δ, S, P, Y, hd, hl, hs, ht, hq, hy⟩ => by
  obtain ⟨rfl, ht⟩ := ht
  unfold DatL at hd
  exact ⟨hd, hq _ S _ H ht Gr.refl hl hs⟩⟩
theorem dgs_cons (h1 : DG X e g) (h2 : DGs X es gs) (hs : (assignEach (e :: es) X.env).map (·.2) = assign e X.env :: (assignEach es X.env).map (·.2)) : DGs X (e :: es) (gCs g gs) :=
  ⟨fun W tk => pgsImp (pgs_cons (h1.ok W tk) (h2.ok W tk) hs) fun v σ H Q ⟨ds, δ, S, P, Y, hd, hl, hs, ht, hq, hy⟩ => by
    cases ds with
    | nil => exact ht.elim
    | cons d r =>
      unfold DatL at hd
      obtain ⟨v1, r1, rfl, q1, qr⟩ := hd
      exact ⟨v1, r1, rfl, d, δ, S, _, Y, q1, hl, hs, ht, fun δ' S' σ' H' p g1 l s => ⟨r, δ', S', P, _, DatL.gr g1 _ qr, l, s, p, fun δ2 S2 σ2 H2 p2 g2 l2 s2 => hq δ2 S2 σ2 H2 p2 (g1.trans g2) l2 s2, ExL.never⟩, hy⟩⟩
def gTp (n : Nat) (t : TDGs) : TDG := fun d δ S P Y => match d with
  | .tup ds => ds.length = n ∧ t ds δ S P Y
  | _ => False
theorem dg_tup {k n : Nat} (hc : X.calm = true) (h : DGs X es gs) (hn : (assignEach es X.env).length = n) (hst : (assignEach es X.env).findIdx? (·.1) = none) : DG X (.Tuple es k pos) (gTp n gs) :=
  ⟨fun W tk => pgImp (pg_tup hc (h.ok W tk) hn hst) fun v σ H Q ⟨d, δ, S, P, Y, hd, hl, hs, ht, hq, hy⟩ => by
    cases d with
    | tup ds =>
      obtain ⟨a, vs, rfl, h1, h2⟩ := dtup hd
      exact ⟨a, vs, rfl, h1, by rw [← h2.length]; exact ht.1, ds, δ, S, P, Y, h2, hl, hs, ht.2, hq, hy⟩
    | _ => exact ht.elim⟩
/-! o[i] = v -/
abbrev TDSet := D → D → D → Sto → (Sto → Prop) → Prop
def liftSet (K : PySem.W.Frag) (w : World) (t : TDSet) : TSet := fun x y z H Q => ∃ o i d S P, Dat K H o x ∧ Dat K H i y ∧ Dat K H d z ∧ StR K w H S ∧ t o i d S P ∧ ∀ S' H', P S' → Gr K H H' → StR K w H' S' → Q H'
def SetD (X : Cx) (t : TDSet) : Prop := PSet X (liftSet X.K X.w t)
theorem PSetImp {t t' : TSet} (h : PSet X t) (f : ∀ x y z H Q, t' x y z H Q → t x y z H Q) : PSet X t' := fun pins s σ H o i v ov iv u Q I r1 r2 r3 q => h pins s σ H o i v ov iv u Q I r1 r2 r3 (f _ _ _ _ _ q)
def gSb (to ti : TDE) (t : TDSet) : TDG := fun d δ S P Y => to δ S (fun o S1 => ti δ S1 (fun i S2 => t o i d S2 (fun S3 => P δ S3)) Y) Y
theorem dg_sub {st : TDSet} (ho : DE X o to) (hi : DE X i ti) (hs : SetD X st) (ha : ∀ v, assign (.Subscript o i pos) X.env v = (do
      let ov ← holding [v] (eval o X.env)
      let iv ← holding [v, ov] (eval i X.env)
      standAt pos
      holding [v, ov, iv] (setItem ov iv v)
      release [v, ov, iv] [])) : DG X (.Subscript o i pos) (gSb to ti st) :=
  ⟨fun W tk => pgImp (pg_sub (ho.ok W tk) (hi.ok W tk) hs ha) fun v σ H Q ⟨d, δ, S, P, Y, hd, hl, hs, ht, hq, hy⟩ =>
    ⟨δ, S, _, Y, hl, hs, ht, fun o' S1 v1 H1 p1 g1 s1 q1 => ⟨δ, S1, _, Y, hl.gr g1, s1, p1, fun i' S2 v2 H2 p2 g2 s2 q2 =>
      ⟨o', i', d, S2, _, Dat.gr g2 _ q1, q2, Dat.gr (g1.trans g2) _ hd, s2, p2, fun S' H' p g s => hq δ S' σ H' p ((g1.trans g2).trans g) (hl.gr ((g1.trans g2).trans g)) s⟩, hy.gr g1⟩, hy⟩⟩
def setLD : TDSet := fun o i d S P => match o, i with
  | .ref a, .int k => (match S a with
    | some (.lst xs) => (match ixN xs.length k with
      | some j => P (up S a (.lst (xs.set j d)))
      | none => False)
    | _ => False)
  | _, _ => False
theorem sd_list : SetD X setLD := PSetImp set_list fun x y z H Q ⟨o, i, d, S, P, ho, hi, hd, hs, hr, hq⟩ => by
  cases o with
  | ref a =>
    cases i with
    | int k =>
      unfold setLD at hr
      dsimp only at hr
      split at hr
      · rename_i xs e
        split at hr
        · rename_i j ej
          obtain ⟨vs, h1, h2⟩ := hs a _ e
          have q := obr_putlst (w := X.w) h1 (h2.set hd j)
          exact ⟨a, vs, k, j, dref ho, dint hi, h1, by rw [← h2.length]; exact ej, hq _ _ hr (gr_put h1 trivial) (hs.put h1 trivial q)⟩
        · exact hr.elim
      · exact hr.elim
    | _ => exact hr.elim
  | _ => exact hr.elim
end

/-! ### statements -/
def Ed.y (E : Ed) (δ : Sl) : XD := fun c dx S' => E.ex c dx δ S'
section
variable {X : Cx} {st : Stmt} {rest sa sb : List Stmt} {t u : TDS} {e tg c o v : PySem.Expr} {te to tv : TDE} {tc : TDT} {g : TDG} {pos p p2 : Pos}
def dNx : TDS := fun E δ S => E.nx δ S
/-- the ends of a first part, of a turn -/
def Ed.sq (u : TDS) (E : Ed) : Ed := ⟨u E, E.rt, E.bk, E.ct, E.ex⟩
def Ed.lp (n : Sl → Sto → Prop) (E : Ed) : Ed := ⟨n, E.rt, E.nx, n, E.ex⟩
def dSq (t u : TDS) : TDS := fun E δ S => t (E.sq u) δ S
theorem ds_pass : DS X (.Pass pos) dNx := ⟨fun W _ => psImp ps_pass fun D σ H ⟨δ, S, E, hl, hs, ht, h1, _⟩ => h1 δ S σ H ht Gr.refl hl hs⟩
theorem ds_break : DS X (.Break pos) (fun E δ S => E.bk δ S) := ⟨fun W _ => psImp ps_break fun D σ H ⟨δ, S, E, hl, hs, ht, _, _, h3, _⟩ => h3 δ S σ H ht Gr.refl hl hs⟩
theorem ds_cont : DS X (.Continue pos) (fun E δ S => E.ct δ S) := ⟨fun W _ => psImp ps_continue fun D σ H ⟨δ, S, E, hl, hs, ht, _, _, _, h4, _⟩ => h4 δ S σ H ht Gr.refl hl hs⟩
theorem ds_never : DS X st (fun _ _ _ => False) := ⟨fun W _ => psImp ps_never fun D σ H ⟨δ, S, E, hl, hs, ht, _⟩ => ht⟩
theorem dss_never : DSs X rest (fun _ _ _ => False) := ⟨fun W _ => pssImp pss_never fun D σ H ⟨δ, S, E, hl, hs, ht, _⟩ => ht⟩
theorem de_never : DE X e (fun _ _ _ _ => False) := ⟨fun W _ => ⟨fun pins s σ H Q I ⟨δ, S, P, Y, hl, hs, ht, _⟩ => ht.elim⟩⟩
theorem dss_nil : DSs X [] dNx := ⟨fun W _ => pssImp pss_nil fun D σ H ⟨δ, S, E, hl, hs, ht, h1, _⟩ => h1 δ S σ H ht Gr.refl hl hs⟩
theorem dss_one (h : DS X st t) : DSs X [st] t := ⟨fun W tk => pss_one (h.ok W tk)⟩
theorem dss_cons (h1 : DS X st t) (h2 : DSs X rest u) : DSs X (st :: rest) (dSq t u) :=
  ⟨fun W tk => pssImp (pss_cons (h1.ok W tk) (h2.ok W tk)) fun D σ H ⟨δ, S, E, hl, hs, ht, k1, k2, k3, k4, k5⟩ =>
    ⟨δ, S, E.sq u, hl, hs, ht, fun δ' S' σ' H' p gg l s => ⟨δ', S', E, l, s, p, fun δ2 S2 σ2 H2 p2 g2 => k1 δ2 S2 σ2 H2 p2 (gg.trans g2), fun d S2 v2 H2 p2 g2 => k2 d S2 v2 H2 p2 (gg.trans g2),
      fun δ2 S2 σ2 H2 p2 g2 => k3 δ2 S2 σ2 H2 p2 (gg.trans g2), fun δ2 S2 σ2 H2 p2 g2 => k4 δ2 S2 σ2 H2 p2 (gg.trans g2), fun c dx δ2 S2 σ2 H2 p2 g2 => k5 c dx δ2 S2 σ2 H2 p2 (gg.trans g2)⟩, k2, k3, k4, k5⟩⟩
theorem exl_of {K : PySem.W.Frag} {w : World} {W : WX} {σ : L2.St} {H : Hp} {E : Ed} {δ : Sl} (hl : SlR K H δ σ) (h5 : ∀ c dx δ' S' σ' H', E.ex c dx δ' S' → Gr K H H' → SlR K H' δ' σ' → StR K w H' S' → W c dx σ' H') : ExL K w W σ H (E.y δ) :=
  fun c dx S' H' y g s => h5 c dx δ S' σ H' y g (hl.gr g) s
def dAsg (te : TDE) (g : TDG) : TDS := fun E δ S => te δ S (fun d S1 => g d δ S1 E.nx (E.y δ)) (E.y δ)
theorem asg_imp {K : PySem.W.Frag} {w : World} {W : WX} {D : Ends} {σ : L2.St} {H : Hp} (h : liftS K w W (dAsg te g) D σ H) : tAsg (lift K w W te) (liftG K w W g) D σ H := by
  obtain ⟨δ, S, E, hl, hs, ht, k1, k2, k3, k4, k5⟩ := h
  exact ⟨δ, S, _, _, hl, hs, ht, fun d S1 v H1 p1 g1 s1 q1 => ⟨d, δ, S1, _, _, q1, hl.gr g1, s1, p1, fun δ' S' σ' H' p g' l s => k1 δ' S' σ' H' p (g1.trans g') l s, (exl_of hl k5).gr g1⟩, exl_of hl k5⟩
theorem ds_asg (he : DE X e te) (hg : DG X tg g) (hs : swapsWithSole [tg] e pos.line X.env = pure false) (hw : swappedStores [tg] e X.env = pure none)
    (h1 : (assignEach [tg] X.env).map (·.2) = [assign tg X.env]) : DS X (.Assign [tg] e pos) (dAsg te g) := ⟨fun W tk => psImp (ps_asg (he.ok W tk) (hg.ok W tk) hs hw h1) fun D σ H h => asg_imp h⟩
theorem ds_set {i : Nat} {x : Str} (hN : X.N.Nodup) (hi : X.N[i]? = some x) (hx : L2.Loc X.env.scope x) (he : DE X e te) (hs : swapsWith e (some (.Name x p)) pos.line X.env = pure false) (hf : X.fn x = true ∨ X.env.scope.names.lookup x = some .local) :
    DS X (.Assign [.Name x p] e pos) (dAsg te (gNm i)) := ⟨fun W tk => psImp (ps_set hN hi hx (he.ok W tk) hs hf) fun D σ H ⟨δ, S, E, hl, hs, ht, k1, k2, k3, k4, k5⟩ =>
      ⟨δ, S, _, _, hl, hs, ht, fun d S1 v H1 p1 g1 s1 q1 => k1 _ S1 _ H1 p1 g1 ((hl.gr g1).set i q1) s1, exl_of hl k5⟩⟩
def dDrop (te : TDE) : TDS := fun E δ S => te δ S (fun _ S1 => E.nx δ S1) (E.y δ)
theorem ds_expr (he : DE X e te) (hs : swapsWith e none pos.line X.env = pure false) : DS X (.Expr e pos) (dDrop te) :=
  ⟨fun W tk => psImp (ps_expr (he.ok W tk) hs) fun D σ H ⟨δ, S, E, hl, hs, ht, k1, k2, k3, k4, k5⟩ => ⟨δ, S, _, _, hl, hs, ht, fun d S1 v H1 p1 g1 s1 q1 => k1 δ S1 σ H1 p1 g1 (hl.gr g1) s1, exl_of hl k5⟩⟩
theorem ds_doc {x : Str} {j : Nat} : DS X (.Expr (.Constant (.str x) j p) p2) dNx := ⟨fun W _ => psImp ps_doc fun D σ H ⟨δ, S, E, hl, hs, ht, h1, _⟩ => h1 δ S σ H ht Gr.refl hl hs⟩
def dRet (te : TDE) : TDS := fun E δ S => te δ S E.rt (E.y δ)
theorem ds_ret (he : DE X e te) : DS X (.Return (some e) pos) (dRet te) := ⟨fun W tk => psImp (ps_ret (he.ok W tk)) fun D σ H ⟨δ, S, E, hl, hs, ht, k1, k2, k3, k4, k5⟩ => ⟨δ, S, _, _, hl, hs, ht, fun d S1 v H1 p1 g1 s1 q1 => k2 d S1 v H1 p1 g1 s1 q1, exl_of hl k5⟩⟩
def dRetN : TDS := fun E _ S => E.rt .non S
theorem ds_retN : DS X (.Return none pos) dRetN := ⟨fun W tk => psImp ps_retN fun D σ H ⟨δ, S, E, hl, hs, ht, k1, k2, k3, k4, k5⟩ => k2 .non S _ H ht Gr.refl hs mnon⟩
def dIfS (c : TDT) (t u : TDS) : TDS := fun E δ S => c δ S (fun b S1 => match b with | true => t E δ S1 | false => u E δ S1) (E.y δ)
theorem ds_if (hc : DT X c tc) (ha : DSs X sa t) (hb : DSs X sb u) : DS X (.If c sa sb pos) (dIfS tc t u) :=
  ⟨fun W tk => psImp (ps_if (hc.ok W tk) (ha.ok W tk) (hb.ok W tk)) fun D σ H ⟨δ, S, E, hl, hs, ht, k1, k2, k3, k4, k5⟩ => by
    refine ⟨δ, S, _, _, hl, hs, ht, fun b S1 H1 p1 g1 s1 => ?_, exl_of hl k5⟩
    have rest : ∀ {t : TDS}, t E δ S1 → liftS X.K X.w W t D σ H1 := fun p => ⟨δ, S1, E, hl.gr g1, s1, p, fun δ2 S2 σ2 H2 p2 g2 => k1 δ2 S2 σ2 H2 p2 (g1.trans g2), fun d S2 v2 H2 p2 g2 => k2 d S2 v2 H2 p2 (g1.trans g2),
      fun δ2 S2 σ2 H2 p2 g2 => k3 δ2 S2 σ2 H2 p2 (g1.trans g2), fun δ2 S2 σ2 H2 p2 g2 => k4 δ2 S2 σ2 H2 p2 (g1.trans g2), fun c dx δ2 S2 σ2 H2 p2 g2 => k5 c dx δ2 S2 σ2 H2 p2 (g1.trans g2)⟩
    cases b with
    | true => exact rest p1
    | false => exact rest p1⟩
/-- o.f = v -/
def dPutF (C : Nat) (f : String) (to tv : TDE) : TDS := fun E δ S => tv δ S (fun d S1 => to δ S1 (fun o S2 => match o with
  | .ref a => (match S2 a with
    | some (.ins C' dx fs) => C' = C ∧ fs.length < 1000 ∧ E.nx δ (up S2 a (.ins C dx (fPut f d fs)))
    | _ => False)
  | _ => False) (E.y δ)) (E.y δ)
theorem ds_fld {C : Nat} {f : String} (c : ClIs X.K C f) (ho : DE X o to) (hv : DE X v tv) (hs : swapsWith v (some (.Attribute o (Str.ofString f) p)) pos.line X.env = pure false) : DS X (.Assign [.Attribute o (Str.ofString f) p] v pos) (dPutF C f to tv) :=
  ⟨fun W tk => psImp (ps_fld (ho.ok W tk) (hv.ok W tk) hs) fun D σ H ⟨δ, S, E, hl, hs, ht, k1, k2, k3, k4, k5⟩ => by
    refine ⟨δ, S, _, _, hl, hs, ht, fun d S1 x H1 p1 g1 s1 q1 => ⟨δ, S1, _, _, hl.gr g1, s1, p1, fun oo S2 y H2 p2 g2 s2 q2 => ?_, (exl_of hl k5).gr g1⟩, exl_of hl k5⟩
    cases oo with
    | ref a =>
      dsimp only at p2
      split at p2
      · rename_i C' dx fs e
        obtain ⟨rfl, hlen, p2⟩ := p2
        obtain ⟨vs, h1, h2⟩ := s2 a _ e
        have g3 : Gr X.K H2 (upd H2 a (.ins C' dx (putF (Str.ofString f) x vs))) := gr_put h1 trivial
        have hdx := Dat.gr g2 _ q1
        have q3 : ObR X.K X.w (upd H2 a (.ins C' dx (putF (Str.ofString f) x vs))) a (.ins C' dx (fPut f d fs)) := ⟨_, upd_same, FsR.gr g3 (FsR.put hdx h2)⟩
        refine ⟨a, C', dx, vs, dref q2, h1, c.1, c.2, by rw [← h2.length]; exact hlen, ?_⟩
        exact k1 δ _ σ _ p2 ((g1.trans g2).trans g3) (hl.gr ((g1.trans g2).trans g3)) (s2.put h1 trivial q3)
      · exact p2.elim
    | _ => exact p2.elim⟩
/-! op= by values -/
def InD (X : Cx) (op : Operator) (r : RD2) : Prop := PIp X op (liftR X.K X.w r)
theorem PIpi {op : Operator} {r r' : TIp} (h : PIp X op r) (i : ∀ x y H Q, r' x y H Q → r x y H Q) : PIp X op r' := fun pins s σ H x y v u Q I rx ry q => h pins s σ H x y v u Q I rx ry (i x y H Q q)
def dAug (i : Nat) (te : TDE) (r : RD2) : TDS := fun E δ S => match δ[i]? with
  | some (some x) => te δ S (fun y S1 => r x y S1 (fun z S2 => E.nx (δ.set i (some z)) S2)) (E.y δ)
  | _ => False
theorem ds_aug {i : Nat} {x : Str} {op : Operator} {r : RD2} (hN : X.N.Nodup) (hi : X.N[i]? = some x) (hx : L2.Loc X.env.scope x) (he : DE X e te) (ho : InD X op r) (hf : X.fn x = true ∨ X.env.scope.names.lookup x = some .local) :
    DS X (.AugAssign (.Name x p) op e pos) (dAug i te r) := ⟨fun W tk => psImp (ps_aug hN hi hx (he.ok W tk) ho hf) fun D σ H ⟨δ, S, E, hl, hs, ht, k1, k2, k3, k4, k5⟩ => by
      unfold dAug at ht
      split at ht
      · rename_i x' e1
        obtain ⟨v, h1, h2⟩ := hl.2 i x' e1
        refine ⟨v, h1, δ, S, _, _, hl, hs, ht, fun y S1 w1 H1 p1 g1 s1 q1 => ⟨x', y, S1, _, Dat.gr g1 _ h2, q1, s1, p1, fun z S2 w2 H2 p2 g2 s2 q2 => ?_⟩, exl_of hl k5⟩
        exact k1 _ S2 _ H2 p2 (g1.trans g2) ((hl.gr (g1.trans g2)).set i q2) s2
      · exact ht.elim⟩
def dAugF (C : Nat) (f : String) (to tv : TDE) (r : RD2) : TDS := fun E δ S => to δ S (fun o S1 => match o with
  | .ref a => (match S1 a with
    | some (.ins C' _ fs) => (match fGet f fs with
      | some x => C' = C ∧ tv δ S1 (fun y S2 => r x y S2 (fun z S3 => match S3 a with
        | some (.ins C3 dx3 fs3) => C3 = C ∧ fs3.length < 1000 ∧ E.nx δ (up S3 a (.ins C dx3 (fPut f z fs3)))
        | _ => False)) (E.y δ)
      | none => False)
    | _ => False)
  | _ => False) (E.y δ)
theorem ds_augF {C : Nat} {f : String} {op : Operator} {r : RD2} (c : ClIs X.K C f) (ho : DE X o to) (hv : DE X v tv) (hop : InD X op r) : DS X (.AugAssign (.Attribute o (Str.ofString f) p) op v pos) (dAugF C f to tv r) :=
  ⟨fun W tk => psImp (ps_fldaug (ho.ok W tk) (hv.ok W tk) (show InOp X op _ from hop)) fun D σ H ⟨δ, S, E, hl, hs, ht, k1, k2, k3, k4, k5⟩ => by
    refine ⟨δ, S, _, _, hl, hs, ht, fun oo S1 x H1 p1 g1 s1 q1 => ?_, exl_of hl k5⟩
    cases oo with
    | ref a =>
      dsimp only at p1
      split at p1
      · rename_i C' dx fs e
        split at p1
        · rename_i x' e2
          obtain ⟨rfl, p1⟩ := p1
          obtain ⟨vs, h1, h2⟩ := s1 a _ e
          obtain ⟨vx, h3, h4⟩ := h2.get e2
          refine ⟨a, C', dx, vs, vx, dref q1, h1, c.1, c.2, h3, δ, S1, _, _, hl.gr g1, s1, p1, fun y S2 w2 H2 p2 g2 s2 q2 => ⟨x', y, S2, _, Dat.gr g2 _ h4, q2, s2, p2, fun z S3 w3 H3 p3 g3 s3 q3 => ?_⟩, (exl_of hl k5).gr g1⟩
          split at p3
          · rename_i C3 dx3 fs3 e3
            obtain ⟨rfl, hlen, p3⟩ := p3
            obtain ⟨ws, h5, h6⟩ := s3 a _ e3
            have g4 : Gr X.K H3 (upd H3 a (.ins C3 dx3 (putF (Str.ofString f) w3 ws))) := gr_put h5 trivial
            have q4 : ObR X.K X.w (upd H3 a (.ins C3 dx3 (putF (Str.ofString f) w3 ws))) a (.ins C3 dx3 (fPut f z fs3)) := ⟨_, upd_same, FsR.gr g4 (FsR.put q3 h6)⟩
            have gg := ((g1.trans g2).trans g3).trans g4
            exact ⟨dx3, ws, h5, by rw [← h6.length]; exact hlen, k1 δ _ σ _ p3 gg (hl.gr gg) (s3.put h5 trivial q4)⟩
          · exact p3.elim
        · exact p1.elim
      · exact p1.elim
    | _ => exact p1.elim⟩
end
end VD

set_option Elab.async false
set_option linter.all false
set_option autoImplicit false
set_option maxRecDepth 100000
set_option maxHeartbeats 4000000
/-! VCi: the D layer, part i: loops, comprehensions -/
namespace VD
open PySem PySem.Spec PyProof.Rows L2

/-! ### what is walked -/
/-- the items, what must stay true of the store while they are walked -/
abbrev TDI := Sl → Sto → (List D → (Sto → Prop) → Sto → Prop) → XD → Prop
structure SrcOk (K : PySem.W.Frag) (w : World) (H0 : Hp) (J : It) (xs : List D) (still : Sto → Prop) : Prop where
  go : ∀ (i : Nat) (H : Hp) (S : Sto) (d : D), Gr K H0 H → StR K w H S → still S → xs[i]? = some d → J.go i H ∧ ∀ x H', J.yld i H x H' → Gr K H H' ∧ StR K w H' S ∧ Dat K H' d x ∧ ∀ D, H D ≠ none → H' D = H D
  stop : ∀ (H : Hp) (S : Sto), Gr K H0 H → StR K w H S → still S → J.stop xs.length H
def liftI (K : PySem.W.Frag) (w : World) (W : WX) (t : TDI) : TI := fun σ H R => ∃ δ S P Y, SlR K H δ σ ∧ StR K w H S ∧ t δ S P Y ∧
  (∀ xs still S' J H', P xs still S' → Gr K H H' → StR K w H' S' → SrcOk K w H' J xs still → R J H') ∧ ExL K w W σ H Y
structure DI (X : Cx) (tg e : PySem.Expr) (t : TDI) : Prop where
  ok : ∀ W, Takes X W → PI X tg e (liftI X.K X.w W t)
theorem piImp {X : Cx} {tg e : PySem.Expr} {t t' : TI} (h : PI X tg e t) (i : ∀ σ H Q, t' σ H Q → t σ H Q) : PI X tg e t' := ⟨fun pins s σ H Q I q => h.run pins s σ H Q I (i σ H Q q)⟩
section
variable {X : Cx} {tg e a b : PySem.Expr} {te : TDE} {ta : TDA} {pos p : Pos}
theorem lis_ref {d : D} {S : Sto} {xs : List D} (h : lisD d S = some xs) : ∃ a, d = .ref a := by
  unfold lisD at h
  split at h
  · exact ⟨_, rfl⟩
  · cases h
/-- a list: it stays as it is -/
def iLs (te : TDE) : TDI := fun δ S P Y => te δ S (fun d S1 => match lisD d S1 with
  | some xs => P xs (fun S' => lisD d S' = some xs) S1
  | none => False) Y
theorem di_list (h : DE X e te) : DI X tg e (iLs te) := ⟨fun W tk => piImp (pi_list (h.ok W tk)) fun σ H R ⟨δ, S, P, Y, hl, hs, ht, hq, hy⟩ => by
  refine ⟨δ, S, _, Y, hl, hs, ht, fun d S1 v H1 p1 g1 s1 q1 => ?_, hy⟩
  split at p1
  · rename_i xs e1
    obtain ⟨a, rfl⟩ := lis_ref e1
    obtain ⟨a', vs, rfl, h1, h2⟩ := lis_sq s1 q1 e1
    obtain rfl : a' = a := by cases dref q1; rfl
    refine ⟨a', rfl, ⟨vs, h1⟩, hq xs _ S1 (Itl X.K a') H1 p1 g1 s1 ⟨fun i H' S' d' _ hs' hst hi => ?_, fun H' S' _ hs' hst => ?_⟩⟩
    · obtain ⟨a2, ws, e2, h3, h4⟩ := lis_sq hs' (v := .ref a') mref hst
      cases e2
      obtain ⟨v, h5, h6⟩ := h4.get hi
      refine ⟨⟨ws, v, h3, h5⟩, fun x H'' y => ?_⟩
      obtain ⟨rfl, y⟩ := y
      have := y ws h3
      rw [h5] at this
      cases this
      exact ⟨Gr.refl, hs', h6, fun _ _ => rfl⟩
    · obtain ⟨a2, ws, e2, h3, h4⟩ := lis_sq hs' (v := .ref a') mref hst
      cases e2
      exact ⟨ws, h3, by rw [h4.length]; exact Nat.le_refl _⟩
  · exact p1.elim⟩
/-- a tuple -/
def iTp (te : TDE) : TDI := fun δ S P Y => te δ S (fun d S1 => match d with
  | .tup xs => P xs (fun _ => True) S1
  | _ => False) Y
theorem di_tup (h : DE X e te) : DI X tg e (iTp te) := ⟨fun W tk => piImp (pi_tup (h.ok W tk)) fun σ H R ⟨δ, S, P, Y, hl, hs, ht, hq, hy⟩ => by
  refine ⟨δ, S, _, Y, hl, hs, ht, fun d S1 v H1 p1 g1 s1 q1 => ?_, hy⟩
  cases d with
  | tup xs =>
    obtain ⟨a, vs, rfl, h1, h2⟩ := dtup q1
    refine ⟨a, rfl, ⟨vs, h1⟩, hq xs _ S1 (Itt X.K a) H1 p1 g1 s1 ⟨fun i H' S' d' g2 hs' _ hi => ?_, fun H' S' g2 hs' _ => ?_⟩⟩
    · obtain ⟨v, h5, h6⟩ := h2.get hi
      refine ⟨⟨vs, v, g2 a vs h1, h5⟩, fun x H'' y => ?_⟩
      obtain ⟨rfl, y⟩ := y
      have := y vs (g2 a vs h1)
      rw [h5] at this
      cases this
      exact ⟨Gr.refl, hs', Dat.gr g2 _ h6, fun _ _ => rfl⟩
    · exact ⟨vs, g2 a vs h1, by rw [h2.length]; exact Nat.le_refl _⟩
  | _ => exact p1.elim⟩
/-- lo, lo + 1, .. -/
def rngD (lo : Int) (n : Nat) : List D := (List.range n).map fun i => .int (lo + (i : Nat))
theorem src_rng {K : PySem.W.Frag} {w : World} {H0 : Hp} {lo : Int} {n : Nat} : SrcOk K w H0 (Itr lo n) (rngD lo n) (fun _ => True) where
  go := fun i H S d _ hs _ hi => by
    unfold rngD at hi
    rw [List.getElem?_map] at hi
    obtain ⟨j, hj, rfl⟩ := Option.map_eq_some_iff.mp hi
    obtain ⟨hlt, e⟩ := List.getElem?_eq_some_iff.mp hj
    simp at hlt e
    subst e
    refine ⟨hlt, fun x H' y => ?_⟩
    obtain ⟨rfl, rfl⟩ := y
    exact ⟨Gr.refl, hs, mint, fun _ _ => rfl⟩
  stop := fun H S _ _ _ => by
    show n ≤ (rngD lo n).length
    unfold rngD
    simp
def iR1 (ta : TDA) : TDI := fun δ S P Y => ta δ S (fun ds S1 => match ds with
  | [d] => (match d with
    | .int j => -2 ^ 62 ≤ j ∧ j < 2 ^ 62 ∧ P (rngD 0 j.toNat) (fun _ => True) S1
    | _ => False)
  | _ => False) Y
theorem di_r1 (hg : Gl X (Str.ofString "range")) (hm : X.mg (Str.ofString "range") = none) (ha : DA X [a] ta) (hn : isStar a = false) : DI X tg (.Call (.Name (Str.ofString "range") p) [a] [] pos) (iR1 ta) :=
  ⟨fun W tk => piImp (pi_range1 hg hm (ha.ok W tk) (star_cons hn)) fun σ H R ⟨δ, S, P, Y, hl, hs, ht, hq, hy⟩ => by
    refine ⟨δ, S, _, Y, hl, hs, ht, fun ds S1 vs H1 p1 g1 s1 q1 => ?_, hy⟩
    match ds, p1 with
    | [d], p1 =>
      obtain ⟨v, rfl, hv⟩ := one_dat q1
      cases d with
      | int j => exact ⟨j, by rw [dint hv], p1.1, p1.2.1, hq _ _ S1 _ H1 p1.2.2 g1 s1 src_rng⟩
      | _ => exact p1.elim
    | [], p1 => exact p1.elim
    | _ :: _ :: _, p1 => exact p1.elim⟩
def iR2 (ta : TDA) : TDI := fun δ S P Y => ta δ S (fun ds S1 => match ds with
  | [.int i, .int j] => (-2 ^ 62 ≤ i ∧ i < 2 ^ 62 ∧ -2 ^ 62 ≤ j ∧ j < 2 ^ 62) ∧ P (rngD i (j - i).toNat) (fun _ => True) S1
  | _ => False) Y
theorem r2_inv {ds : List D} {S : Sto} {P : List D → (Sto → Prop) → Sto → Prop} (h : match ds with
  | [.int i, .int j] => (-2 ^ 62 ≤ i ∧ i < 2 ^ 62 ∧ -2 ^ 62 ≤ j ∧ j < 2 ^ 62) ∧ P (rngD i (j - i).toNat) (fun _ => True) S
  | _ => False) : ∃ i j, ds = [.int i, .int j] ∧ (-2 ^ 62 ≤ i ∧ i < 2 ^ 62 ∧ -2 ^ 62 ≤ j ∧ j < 2 ^ 62) ∧ P (rngD i (j - i).toNat) (fun _ => True) S := by
  split at h
  · exact ⟨_, _, rfl, h.1, h.2⟩
  · exact h.elim
theorem di_r2 (hg : Gl X (Str.ofString "range")) (hm : X.mg (Str.ofString "range") = none) (ha : DA X [a, b] ta) (hn : noStars [a, b] = true) : DI X tg (.Call (.Name (Str.ofString "range") p) [a, b] [] pos) (iR2 ta) :=
  ⟨fun W tk => by
    have h1 : isStar a = false ∧ isStar b = false := by
      unfold noStars noStars noStars at hn
      simpa using hn
    exact piImp (pi_range2 hg hm (ha.ok W tk) (by rw [star_cons h1.1, star_cons h1.2]; rfl) (star_cons h1.2)) fun σ H R ⟨δ, S, P, Y, hl, hs, ht, hq, hy⟩ => by
      refine ⟨δ, S, _, Y, hl, hs, ht, fun ds S1 vs H1 p1 g1 s1 q1 => ?_, hy⟩
      obtain ⟨i, j, rfl, hb, p1⟩ := r2_inv p1
      obtain ⟨v, w, rfl, hv, hw⟩ := two_dat q1
      exact ⟨i, j, by rw [dint hv, dint hw], hb, hq _ _ S1 _ H1 p1 g1 s1 src_rng⟩⟩
/-- a text's signs -/
def sgnD (z : String) : List D := z.toList.map fun c => .str (String.singleton c)
def iSt (te : TDE) : TDI := fun δ S P Y => te δ S (fun d S1 => match d with
  | .str z => P (sgnD z) (fun _ => True) S1
  | _ => False) Y
theorem di_str (h : DE X e te) : DI X tg e (iSt te) := ⟨fun W tk => piImp (pi_str (h.ok W tk)) fun σ H R ⟨δ, S, P, Y, hl, hs, ht, hq, hy⟩ => by
  refine ⟨δ, S, _, Y, hl, hs, ht, fun d S1 v H1 p1 g1 s1 q1 => ?_, hy⟩
  cases d with
  | str z =>
    refine ⟨_, dstr q1, hq _ _ S1 _ H1 p1 g1 s1 ⟨fun i H' S' d' g2 hs' _ hi => ?_, fun H' S' g2 hs' _ => ?_⟩⟩
    · unfold sgnD at hi
      rw [List.getElem?_map] at hi
      obtain ⟨c, hc, rfl⟩ := Option.map_eq_some_iff.mp hi
      have hg : (Str.ofString z).cps[i]? = some c.toNat := by rw [← Array.getElem?_toList, ofString_cps, List.getElem?_map, hc]; rfl
      refine ⟨(Array.getElem?_eq_some_iff.mp hg).1, fun x H'' y => ?_⟩
      obtain ⟨rfl, c', h1, rfl⟩ := y
      rw [hg] at h1
      cases h1
      refine ⟨Gr.refl, hs', ?_, fun _ _ => rfl⟩
      rw [← ofString_sing]
      exact mstr
    · show (Str.ofString z).cps.size ≤ _
      unfold sgnD
      rw [List.length_map, ← Array.length_toList, ofString_cps, List.length_map]
      exact Nat.le_refl _
  | _ => exact p1.elim⟩
end

/-! ### for -/
def loopD (g : TDG) (t : TDS) (still : Sto → Prop) (E : Ed) : List D → Sl → Sto → Prop
  | [], δ, S => still S ∧ E.nx δ S
  | x :: r, δ, S => still S ∧ g x δ S (fun δ1 S1 => t (E.lp (loopD g t still E r)) δ1 S1) (E.y δ)
def dFor (src : TDI) (g : TDG) (t : TDS) : TDS := fun E δ S => src δ S (fun xs still S1 => loopD g t still E xs δ S1) (E.y δ)
section
variable {X : Cx} {tg iter c : PySem.Expr} {body : List Stmt} {src : TDI} {g : TDG} {t : TDS} {tc : TDT} {pos : Pos}
theorem ds_for (hp : PassesOwn (model X.prog X.w) X.A X.env X.xe) (hc : X.calm = true) (hi : DI X tg iter src) (hg : DG X tg g) (hb : DSs X body t)
    (hs : ∀ x, foldedSetIterable iter X.env x = pure x) : DS X (.For tg iter body [] pos) (dFor src g t) :=
  ⟨fun W tk => psImp (ps_for hp hc (hi.ok W tk) (hg.ok W tk) (hb.ok W tk) hs) fun D σ H ⟨δ, S, E, hl, hs, ht, k1, k2, k3, k4, k5⟩ => by
    refine ⟨δ, S, _, _, hl, hs, ht, fun xs still S1 J H1 p1 g1 s1 so => ?_, exl_of hl k5⟩
    refine ⟨fun i m σ' H' => i ≤ xs.length ∧ m = xs.length - i ∧ Gr X.K H1 H' ∧ ∃ δ' S', SlR X.K H' δ' σ' ∧ StR X.K X.w H' S' ∧ loopD g t still E (xs.drop i) δ' S', ⟨xs.length, Nat.zero_le _, rfl, Gr.refl, δ, S1, hl.gr g1, s1, by simpa using p1⟩, ?_⟩
    rintro i m σ' H' ⟨hi', rfl, gH, δ', S', l', s', lp⟩
    by_cases hlt : i < xs.length
    · rw [List.drop_eq_getElem_cons hlt] at lp
      obtain ⟨st, lp⟩ := lp
      obtain ⟨hgo, hyld⟩ := so.go i H' S' xs[i] gH s' st (List.getElem?_eq_getElem hlt)
      refine .inr ⟨hgo, fun σ2 H2 => Gr X.K H1 H2 ∧ ∃ δ2 S2, SlR X.K H2 δ2 σ2 ∧ StR X.K X.w H2 S2 ∧ loopD g t still E (xs.drop (i + 1)) δ2 S2, fun σ2 H2 ⟨gg, δ2, S2, l2, s2, q2⟩ => ⟨xs.length - (i + 1), by omega, hlt, rfl, gg, δ2, S2, l2, s2, q2⟩, fun x H2 y => ?_⟩
      obtain ⟨g2, s2, dx, _⟩ := hyld x H2 y
      have gg := (g1.trans gH).trans g2
      have kk5 : ∀ c dx δ3 S3 σ3 H3, E.ex c dx δ3 S3 → Gr X.K H2 H3 → SlR X.K H3 δ3 σ3 → StR X.K X.w H3 S3 → W c dx σ3 H3 := fun c dx δ3 S3 σ3 H3 q g3 l3 s3 => k5 c dx δ3 S3 σ3 H3 q (gg.trans g3) l3 s3
      refine ⟨xs[i], δ', S', _, _, dx, l'.gr g2, s2, lp, fun δ3 S3 σ3 H3 p3 g3 l3 s3 => ?_, exl_of (l'.gr g2) kk5⟩
      exact ⟨δ3, S3, _, l3, s3, p3, fun δ4 S4 σ4 H4 p4 g4 l4 s4 => ⟨((gH.trans g2).trans g3).trans g4, δ4, S4, l4, s4, p4⟩,
        fun d S4 v H4 p4 g4 s4 q4 => k2 d S4 v H4 p4 ((gg.trans g3).trans g4) s4 q4,
        fun δ4 S4 σ4 H4 p4 g4 l4 s4 => k1 δ4 S4 σ4 H4 p4 ((gg.trans g3).trans g4) l4 s4,
        fun δ4 S4 σ4 H4 p4 g4 l4 s4 => ⟨((gH.trans g2).trans g3).trans g4, δ4, S4, l4, s4, p4⟩,
        fun c dx δ4 S4 σ4 H4 p4 g4 l4 s4 => k5 c dx δ4 S4 σ4 H4 p4 ((gg.trans g3).trans g4) l4 s4⟩
    · have e : i = xs.length := by omega
      subst e
      rw [List.drop_length] at lp
      exact .inl ⟨so.stop H' S' gH s' lp.1, k1 δ' S' σ' H' lp.2 (g1.trans gH) l' s'⟩⟩

/-! ### while -/
def dWhile (c : TDT) (t : TDS) : TDS := fun E δ S => ∃ I : Nat → Sl → Sto → Prop, (∃ m, I m δ S) ∧ ∀ m δ S, I m δ S → c δ S (fun b S1 => match b with
  | true => t (E.lp fun δ2 S2 => ∃ m', m' < m ∧ I m' δ2 S2) δ S1
  | false => E.nx δ S1) (E.y δ)
theorem ds_while (hp : PassesOwn (model X.prog X.w) X.A X.env X.xe) (hc : DT X c tc) (hb : DSs X body t) : DS X (.While c body [] pos) (dWhile tc t) :=
  ⟨fun W tk => psImp (ps_while hp (hc.ok W tk) (hb.ok W tk)) fun D σ H ⟨δ, S, E, hl, hs, ⟨I, ⟨m0, h0⟩, ht⟩, k1, k2, k3, k4, k5⟩ => by
    refine ⟨fun m σ' H' => Gr X.K H H' ∧ ∃ δ' S', SlR X.K H' δ' σ' ∧ StR X.K X.w H' S' ∧ I m δ' S', ⟨m0, Gr.refl, δ, S, hl, hs, h0⟩, ?_⟩
    rintro m σ' H' ⟨gH, δ', S', l', s', i'⟩
    have kk5 : ∀ c dx δ3 S3 σ3 H3, E.ex c dx δ3 S3 → Gr X.K H' H3 → SlR X.K H3 δ3 σ3 → StR X.K X.w H3 S3 → W c dx σ3 H3 := fun c dx δ3 S3 σ3 H3 q g3 l3 s3 => k5 c dx δ3 S3 σ3 H3 q (gH.trans g3) l3 s3
    refine ⟨δ', S', _, _, l', s', ht m δ' S' i', fun b S1 H1 p1 g1 s1 => ?_, exl_of l' kk5⟩
    cases b with
    | false => exact k1 δ' S1 σ' H1 p1 (gH.trans g1) (l'.gr g1) s1
    | true =>
      refine ⟨fun σ2 H2 => ∃ m', m' < m ∧ Gr X.K H H2 ∧ ∃ δ2 S2, SlR X.K H2 δ2 σ2 ∧ StR X.K X.w H2 S2 ∧ I m' δ2 S2, fun σ2 H2 ⟨m', hm, q⟩ => ⟨m', hm, q⟩, ?_⟩
      have gg := gH.trans g1
      exact ⟨δ', S1, _, l'.gr g1, s1, p1, fun δ4 S4 σ4 H4 ⟨m', hm, p4⟩ g4 l4 s4 => ⟨m', hm, gg.trans g4, δ4, S4, l4, s4, p4⟩,
        fun d S4 v H4 p4 g4 s4 q4 => k2 d S4 v H4 p4 (gg.trans g4) s4 q4,
        fun δ4 S4 σ4 H4 p4 g4 l4 s4 => k1 δ4 S4 σ4 H4 p4 (gg.trans g4) l4 s4,
        fun δ4 S4 σ4 H4 ⟨m', hm, p4⟩ g4 l4 s4 => ⟨m', hm, gg.trans g4, δ4, S4, l4, s4, p4⟩,
        fun c dx δ4 S4 σ4 H4 p4 g4 l4 s4 => k5 c dx δ4 S4 σ4 H4 p4 (gg.trans g4) l4 s4⟩⟩
end

/-! ### op= -/
def ipD (f : Int → Int → Int) : RD2 := intD0 fun i j => .int (f i j)
section
variable {X : Cx}
theorem nd_add : InD X .Add (ipD fun i j => i + j) := PIpi ip_add fun x y H Q ⟨d, e, S, P, hd, he, hs, hr, hq⟩ => by
  obtain ⟨i, j, rfl, rfl, hr⟩ := intD0_inv hr
  exact ⟨i, j, dint hd, dint he, hq _ S _ H hr Gr.refl hs mint⟩
theorem nd_sub : InD X .Sub (ipD fun i j => i - j) := PIpi ip_sub fun x y H Q ⟨d, e, S, P, hd, he, hs, hr, hq⟩ => by
  obtain ⟨i, j, rfl, rfl, hr⟩ := intD0_inv hr
  exact ⟨i, j, dint hd, dint he, hq _ S _ H hr Gr.refl hs mint⟩
end

/-! ### comprehensions -/
def wipD (δ : Sl) : List Nat → Sl
  | [] => δ
  | v :: vs => (wipD δ vs).set v none
theorem SlR.wipe1 {K : PySem.W.Frag} {H : Hp} {δ : Sl} {σ : L2.St} (h : SlR K H δ σ) (v : Nat) : SlR K H (δ.set v none) (σ.set v none) := by
  refine ⟨by simpa using h.1, fun j e q => ?_⟩
  by_cases hj : v = j
  · subst hj
    have hl : v < δ.length := by
      have := (List.getElem?_eq_some_iff.mp q).1
      simpa using this
    rw [List.getElem?_set_self hl] at q
    cases q
  · rw [List.getElem?_set_ne hj] at q ⊢
    exact h.2 j e q
theorem SlR.wipe {K : PySem.W.Frag} {H : Hp} {δ : Sl} {σ : L2.St} (h : SlR K H δ σ) : ∀ vs : List Nat, SlR K H (wipD δ vs) (L2.wipe σ vs)
  | [] => h
  | v :: vs => (SlR.wipe h vs).wipe1 v
/-- the names of a block are its targets -/
def TgOk (tg : TDG) (vs : List Nat) : Prop := True
end VD

set_option Elab.async false
set_option linter.all false
set_option autoImplicit false
set_option maxRecDepth 100000
set_option maxHeartbeats 4000000
/-! VCj: the D layer, part j: list comprehensions -/
namespace VD
open PySem PySem.Spec PyProof.Rows L2

/-! ### targets that are names -/
inductive TgC where
  | one (i : Nat) | tup (is : List Nat)
def TgC.sl : TgC → List Nat
  | .one i => [i]
  | .tup is => is
def setC : List Nat → List D → Sl → Option Sl
  | [], [], δ => some δ
  | i :: is, d :: ds, δ => setC is ds (δ.set i (some d))
  | _, _, _ => none
def asgC (t : TgC) (d : D) (δ : Sl) : Option Sl := match t with
  | .one i => some (δ.set i (some d))
  | .tup is => (match d with
    | .tup ds => setC is ds δ
    | _ => none)
def gNs : List Nat → TGs
  | [] => gNil
  | i :: is => gCons (gName i) (gNs is)
def gC (K : PySem.W.Frag) : TgC → TG
  | .one i => gName i
  | .tup is => gTup K is.length (gNs is)
theorem wipe_set {σ : L2.St} {i : Nat} {x : Option V} : ∀ {vs : List Nat}, i ∈ vs → L2.wipe (σ.set i x) vs = L2.wipe σ vs
  | [], h => by cases h
  | v :: vs, h => by
    unfold L2.wipe
    by_cases hv : i ∈ vs
    · rw [wipe_set hv]
    · have e : i = v := by
        rcases List.mem_cons.mp h with h | h
        · exact h
        · exact absurd h hv
      subst e
      have key : ∀ (ws : List Nat) (σ : L2.St), i ∉ ws → L2.wipe (σ.set i x) ws = (L2.wipe σ ws).set i x := by
        intro ws
        induction ws with
        | nil => intro σ _; rfl
        | cons w ws ih =>
          intro σ hw
          have h1 : w ≠ i := fun e => hw (by rw [e]; exact List.mem_cons_self)
          have h2 : i ∉ ws := fun m => hw (List.mem_cons_of_mem _ m)
          show (L2.wipe (σ.set i x) ws).set w none = ((L2.wipe σ ws).set w none).set i x
          rw [ih σ h2, List.set_comm _ _ (Ne.symm h1)]
      rw [key vs σ hv, List.set_set]
theorem wipe_wipe {σ : L2.St} : ∀ {ws vs : List Nat}, (∀ i ∈ ws, i ∈ vs) → L2.wipe (L2.wipe σ ws) vs = L2.wipe σ vs
  | [], _, _ => rfl
  | w :: ws, vs, h => by
    show L2.wipe ((L2.wipe σ ws).set w none) vs = _
    rw [wipe_set (h w List.mem_cons_self)]
    exact wipe_wipe fun i hi => h i (List.mem_cons_of_mem _ hi)
section
variable {K : PySem.W.Frag} {H : Hp}
theorem setC_ok {vs : List Nat} : ∀ {is : List Nat} {ds : List D} {us : List V} {δ δ2 : Sl} {σ : L2.St}, setC is ds δ = some δ2 → DatL K H ds us → SlR K H δ σ → (∀ i ∈ is, i ∈ vs) →
    gNs is us σ H (fun σ2 H2 => H2 = H ∧ SlR K H δ2 σ2 ∧ L2.wipe σ2 vs = L2.wipe σ vs)
  | [], [], us, δ, δ2, σ, e, hd, hl, hv => by
    unfold DatL at hd; subst hd
    unfold setC at e; cases e
    exact ⟨rfl, rfl, hl, rfl⟩
  | [], _ :: _, us, δ, δ2, σ, e, hd, hl, hv => by unfold setC at e; cases e
  | i :: is, [], us, δ, δ2, σ, e, hd, hl, hv => by unfold setC at e; cases e
  | i :: is, d :: ds, us, δ, δ2, σ, e, hd, hl, hv => by
    unfold DatL at hd
    obtain ⟨v, r, rfl, hd1, hd2⟩ := hd
    unfold setC at e
    have ih := setC_ok (vs := vs) e hd2 (hl.set i hd1) fun j hj => hv j (List.mem_cons_of_mem _ hj)
    refine ⟨v, r, rfl, ?_⟩
    show gNs is r (σ.set i (some v)) H _
    rw [wipe_set (hv i List.mem_cons_self)] at ih
    exact ih
theorem gns_len : ∀ {is : List Nat} {ds : List D} {δ δ2 : Sl}, setC is ds δ = some δ2 → ds.length = is.length
  | [], [], _, _, _ => rfl
  | [], _ :: _, _, _, e => by unfold setC at e; cases e
  | _ :: _, [], _, _, e => by unfold setC at e; cases e
  | i :: is, d :: ds, δ, δ2, e => by unfold setC at e; simp [gns_len e]
theorem asgC_ok {t : TgC} {d : D} {v : V} {δ δ2 : Sl} {σ : L2.St} {vs : List Nat} (e : asgC t d δ = some δ2) (hd : Dat K H d v) (hl : SlR K H δ σ) (hv : ∀ i ∈ t.sl, i ∈ vs) :
    gC K t v σ H (fun σ2 H2 => H2 = H ∧ SlR K H δ2 σ2 ∧ L2.wipe σ2 vs = L2.wipe σ vs) := by
  cases t with
  | one i =>
    unfold asgC at e
    cases e
    exact ⟨rfl, hl.set i hd, wipe_set (hv i (by simp [TgC.sl]))⟩
  | tup is =>
    unfold asgC at e
    dsimp only at e
    split at e
    · rename_i ds
      obtain ⟨a, us, rfl, h1, h2⟩ := dtup hd
      exact ⟨a, us, rfl, h1, by rw [← h2.length, gns_len e], setC_ok e h2 hl hv⟩
    · cases e
theorem gmono {t : TgC} : ∀ {v : V} {σ : L2.St} {Q Q' : L2.St → Hp → Prop}, gC K t v σ H Q → (∀ σ' H', Q σ' H' → Q' σ' H') → gC K t v σ H Q' := by
  intro v σ Q Q' h i
  have key : ∀ {is : List Nat} {us : List V} {σ : L2.St}, gNs is us σ H Q → gNs is us σ H Q' := by
    intro is
    induction is with
    | nil => intro us σ h; exact ⟨h.1, i _ _ h.2⟩
    | cons j js ih =>
      intro us σ h
      obtain ⟨v, r, e, h⟩ := h
      exact ⟨v, r, e, ih h⟩
  cases t with
  | one j => exact i _ _ h
  | tup is =>
    obtain ⟨a, us, e, h1, h2, h3⟩ := h
    exact ⟨a, us, e, h1, h2, key h3⟩
end

/-! ### [e for tg in src if t] -/
abbrev NoX : XD := fun _ _ _ => False
def lcD (δ : Sl) (vs : List Nat) (tg : TgC) (tt : TDT) (te : TDE) (still : Sto → Prop) (a : Nat) (P : DK) : List D → Sto → Prop
  | [], S => still S ∧ P (.ref a) S
  | x :: r, S => still S ∧ (match asgC tg x (wipD δ vs) with
    | some δ2 => tt δ2 S (fun b S3 => match b with
      | true => te δ2 S3 (fun y S4 => match S4 a with
        | some (.lst acc) => acc.length < sizeLine ∧ lcD δ vs tg tt te still a P r (up S4 a (.lst (acc ++ [y])))
        | _ => False) NoX
      | false => lcD δ vs tg tt te still a P r S3) NoX
    | none => False)
def dLc (src : TDI) (tg : TgC) (tt : TDT) (te : TDE) (vs : List Nat) : TDE := fun δ S P Y => src δ S (fun xs still S1 => ∀ a, S1 a = none → lcD δ vs tg tt te still a P xs (up S1 a (.lst []))) Y
structure DTs (X : Cx) (ifs : List PySem.Expr) (t : TDT) : Prop where
  ok : ∀ W, Takes X W → PTs X ifs (liftT X.K X.w W t)
def dYes : TDT := fun _ S P _ => P true S
section
variable {X : Cx} {elt tg iter c : PySem.Expr} {ifs : List PySem.Expr} {scope : Scope} {own : List (Str × Nat)} {pos spos p : Pos} {src : TDI} {tc : TgC} {tt : TDT} {te : TDE}
theorem ptsImp {t t' : TT} (h : PTs X ifs t) (i : ∀ σ H Q, t' σ H Q → t σ H Q) : PTs X ifs t' := ⟨fun pins s σ H Q I q => h.run pins s σ H Q I (i σ H Q q)⟩
theorem dts_nil : DTs X [] dYes := ⟨fun W _ => ptsImp pts_nil fun σ H Q ⟨δ, S, P, Y, hl, hs, ht, hq, hy⟩ => hq true S H ht Gr.refl hs⟩
theorem dts_one {t : TDT} (h : DT X c t) : DTs X [c] t := ⟨fun W tk => pts_one (h.ok W tk)⟩
def W0 : WX := fun _ _ _ _ => False
theorem takes0 {s : Shared} {H : Hp} {scope : Scope} {cenv : Env} {fp : List Addr} : Takes (X.blk s H scope cenv fp) W0 := fun u s' ⟨_, _, _, _, _, _, _, _, _, _, _, _, _, _, _, _, z⟩ => z.elim
theorem lc_imp {W : WX} {σ : L2.St} {H : Hp} {Q : VK} {vs : List Nat} (hv : ∀ i ∈ tc.sl, i ∈ vs) (h : lift X.K X.w W (dLc src tc tt te vs) σ H Q) :
    tLc (liftI X.K X.w W src) (gC X.K tc) (liftT X.K X.w W0 tt) (lift X.K X.w W0 te) vs σ H Q := by
  obtain ⟨δ, S, P, Y, hl, hs, ht, hq, hy⟩ := h
  refine ⟨δ, S, _, Y, hl, hs, ht, fun xs still S1 J H1 p1 g1 s1 so a n => ?_, hy⟩
  have p1 := p1 a (s1.fresh n)
  have ga : Gr X.K H1 (upd H1 a (.lst [])) := gr_new n
  refine ⟨fun i m H' => i ≤ xs.length ∧ m = xs.length - i ∧ Gr X.K H1 H' ∧ ∃ S', StR X.K X.w H' S' ∧ lcD δ vs tc tt te still a P (xs.drop i) S',
    ⟨xs.length, Nat.zero_le _, rfl, ga, up S1 a (.lst []), s1.newUp n ⟨[], upd_same, DatL.nil⟩, by simpa using p1⟩, ?_⟩
  rintro i m H' ⟨hi', rfl, gH, S', s', lp⟩
  by_cases hlt : i < xs.length
  · rw [List.drop_eq_getElem_cons hlt] at lp
    obtain ⟨st, lp⟩ := lp
    obtain ⟨hgo, hyld⟩ := so.go i H' S' xs[i] gH s' st (List.getElem?_eq_getElem hlt)
    refine .inr ⟨hgo, fun H2 => Gr X.K H1 H2 ∧ ∃ S2, StR X.K X.w H2 S2 ∧ lcD δ vs tc tt te still a P (xs.drop (i + 1)) S2, fun H2 ⟨gg, S2, s2, q2⟩ => ⟨xs.length - (i + 1), by omega, hlt, rfl, gg, S2, s2, q2⟩, fun x H2 y => ?_⟩
    obtain ⟨g2, s2, dx, _⟩ := hyld x H2 y
    split at lp
    · rename_i δ2 e2
      have l2 : SlR X.K H2 (wipD δ vs) (L2.wipe σ vs) := (hl.gr ((g1.trans gH).trans g2)).wipe vs
      refine gmono (asgC_ok (vs := vs) e2 dx l2 hv) fun σ2 H2' hh => ?_
      obtain ⟨rfl, l3, hw⟩ := hh
      refine ⟨by rw [hw, wipe_wipe fun _ z => z], δ2, S', _, _, l3, s2, lp, fun b S3 H3 p3 g3 s3 => ?_, ExL.never⟩
      cases b with
      | false => exact ⟨(gH.trans g2).trans g3, S3, s3, p3⟩
      | true =>
        refine ⟨δ2, S3, _, _, l3.gr g3, s3, p3, fun y' S4 v4 H4 p4 g4 s4 q4 => ?_, ExL.never⟩
        split at p4
        · rename_i acc e4
          obtain ⟨us, h1, h2⟩ := s4 a _ e4
          have g5 : Gr X.K H4 (upd H4 a (.lst (us ++ [v4]))) := gr_put h1 trivial
          exact ⟨us, h1, by rw [← h2.length]; exact p4.1, (((gH.trans g2).trans g3).trans g4).trans g5, _, s4.put h1 trivial (obr_putlst h1 (h2.append (DatL.one q4))), p4.2⟩
        · exact p4.elim
    · exact lp.elim
  · have e : i = xs.length := by omega
    subst e
    rw [List.drop_length] at lp
    exact .inl ⟨so.stop H' S' gH s' lp.1, hq _ S' _ H' lp.2 (g1.trans gH) s' mref⟩
theorem de_lc (hc : X.calm = true) (hN : X.N.Nodup) (hi : DI X tg iter src) (ok : BlkOk X.N X.env.scope scope own) (hv : ∀ i ∈ tc.sl, i ∈ own.map (·.2))
    (hg : ∀ (s : Shared) (H : Hp) (C : Addr) (cl : List (Str × Addr)) (fp : List Addr), PG (X.blk s H scope (compEnvC scope cl C X.env) fp) tg (gC X.K tc))
    (ht : ∀ (s : Shared) (H : Hp) (C : Addr) (cl : List (Str × Addr)) (fp : List Addr), DTs (X.blk s H scope (compEnvC scope cl C X.env) fp) ifs tt)
    (he : ∀ (s : Shared) (H : Hp) (C : Addr) (cl : List (Str × Addr)) (fp : List Addr), DE (X.blk s H scope (compEnvC scope cl C X.env) fp) elt te)
    (hs : ∀ x, foldedSetIterable iter X.env x = pure x) : DE X (.ListComp elt [⟨tg, iter, ifs, 0⟩] scope pos) (dLc src tc tt te (own.map (·.2))) :=
  ⟨fun W tk => peImp (pe_lc hc hN (hi.ok W tk) ok hg (fun s H C cl fp => (ht s H C cl fp).ok W0 takes0) (fun s H C cl fp => (he s H C cl fp).ok W0 takes0) hs) fun σ H Q h => lc_imp hv h⟩
theorem ds_setLc {i : Nat} {y : Str} (hc : X.calm = true) (hN : X.N.Nodup) (hy : X.N[i]? = some y) (hyl : X.env.scope.names.lookup y = some .local)
    (hsw : swapsWith (.ListComp elt [⟨tg, iter, ifs, 0⟩] scope pos) (some (.Name y p)) spos.line X.env = pure true) (hi : DI X tg iter src) (ok : BlkOk X.N X.env.scope scope own) (hv : ∀ i ∈ tc.sl, i ∈ own.map (·.2))
    (hg : ∀ (s : Shared) (H : Hp) (C : Addr) (cl : List (Str × Addr)) (fp : List Addr), PG (X.blk s H scope (compEnvC scope cl C X.env) fp) tg (gC X.K tc))
    (ht : ∀ (s : Shared) (H : Hp) (C : Addr) (cl : List (Str × Addr)) (fp : List Addr), DTs (X.blk s H scope (compEnvC scope cl C X.env) fp) ifs tt)
    (he : ∀ (s : Shared) (H : Hp) (C : Addr) (cl : List (Str × Addr)) (fp : List Addr), DE (X.blk s H scope (compEnvC scope cl C X.env) fp) elt te)
    (hs : ∀ x, foldedSetIterable iter X.env x = pure x) : DS X (.Assign [.Name y p] (.ListComp elt [⟨tg, iter, ifs, 0⟩] scope pos) spos) (dAsg (dLc src tc tt te (own.map (·.2))) (gNm i)) :=
  ⟨fun W tk => psImp (ps_setLc hc hN hy hyl hsw (hi.ok W tk) ok hg (fun s H C cl fp => (ht s H C cl fp).ok W0 takes0) (fun s H C cl fp => (he s H C cl fp).ok W0 takes0) hs) fun Dd σ H ⟨δ, S, E, hl, hs, hh, k1, k2, k3, k4, k5⟩ =>
    lc_imp hv ⟨δ, S, _, _, hl, hs, hh, fun d S1 v H1 p1 g1 s1 q1 => k1 _ S1 _ H1 p1 g1 ((hl.gr g1).set i q1) s1, exl_of hl k5⟩⟩
/-- the block's targets, by the names' rule -/
theorem pgC_one {Y : Cx} {i : Nat} {x : Str} (h : PG Y (.Name x p) (gName i)) {K : PySem.W.Frag} : PG Y (.Name x p) (gC K (.one i)) := h
end
end VD

set_option Elab.async false
set_option linter.all false
set_option autoImplicit false
set_option maxRecDepth 100000
set_option maxHeartbeats 4000000
/-! VCk: the D layer, part k: a def keeps its promise; a law's end -/
namespace VD
open PySem PySem.Spec PyProof.Rows L2

/-- a def's place -/
abbrev cxD (G : Wo) (N : List Str) (qual : Str) (scope : Scope) (f : Addr) (cd : Value) (A : Around) (outer : List Env) (s : Shared) (H : Hp) (E : XK) : Cx := cxOf (L2.CX G.P G.w) G.P G.w G.K G.mg G.base N qual scope f cd A outer s H E
theorem std_of {G : Wo} {N : List Str} {qual : Str} {scope : Scope} {f : Addr} {cd : Value} {A : Around} {outer : List Env} {s : Shared} {H : Hp} {E : XK} {k : Nat} (r : Rm k (A.deeper (envOfC qual scope s.heap.objs.size f cd))) (nd : N.Nodup) : Std k (cxD G N qual scope f cd A outer s H E) :=
  ⟨r, rfl, passes_of (X := cxD G N qual scope f cd A outer s H E) (K := fun e s'' => L2.CX G.P G.w outer H s E e s'') rfl, nd⟩
theorem Rm.deeper {k : Nat} {A : Around} (r : Rm (k + 1) A) (env : Env) : Rm k (A.deeper env) := ⟨r.room.deeper env, by
  have e : (A.deeper env).guards = A.guards := rfl
  rw [e]; exact r.gd⟩
theorem fnG_of {G : Wo} {k : Nat} {f : Addr} {name qual : Str} {params : Arguments} {body : List Stmt} {scope : Scope} {dV kV doc pm cdv ct oc : Value} {an od : Option Addr}
    {osl : Array (Option Value)} {N ps : List Str} {sp : Sp} (lk : G.K.lookup f = some ⟨oc, od, .func (PySem.W.fnOf name qual params body scope dV kV doc pm an cdv ct), osl⟩) (hcd : PySem.W.codeIn G.K cdv qual = true) (S : FnScope N ps scope)
    (len : ∀ vs H Q E, sp vs H Q E → vs.length = ps.length)
    (hbody : ∀ (A : Around) (outer : List Env) (s : Shared) (H : Hp) (vs : List V) (Q : VK) (E : XK), Rm k (A.deeper (envOfC qual scope s.heap.objs.size f cdv)) → sp vs H Q E →
      ∃ t, PSs (cxD G N qual scope f cdv A outer s H E) body t ∧ t { nx := fun _ H' => Q .non H', rt := Q } (L2.start N vs) H) :
    FnG G.P G.w G.K G.mg G.base (k + 1) f (PySem.W.fnOf name qual params body scope dV kV doc pm an cdv ct) ps sp := by
  refine ⟨len, fun A outer s H args us vs Q E hr e0 hb r hsp => ?_⟩
  have hl := len _ _ _ _ hsp
  have KX : G.K.In s.heap := e0.mod.kin.keeps fun b o e => (e0.bs b o e).1
  have lim : s.heap.NoLimit := e0.mod.nolimit.keeps fun b o e => (e0.bs b o e).1
  have hkind : ∀ y ∈ ps.zip us, scope.names.lookup y.1 = some .local ∨ (scope.names.lookup y.1 = some .cell ∧ ((cellsFrom (s.heap.objs.size + 1) scope.names []).lookup y.1).isSome = true) := fun ⟨n, v⟩ hy => by
    rcases S.par n (List.of_mem_zip hy).1 with q | q
    · exact .inl q
    · exact .inr ⟨q, PySem.W.cellsFrom_some _ _ _ (.inl q)⟩
  refine codeAny_call_function hr.room.depth (KX _ _ lk) rfl S.co S.gen rfl (PySem.W.codeRec_of KX hcd) (hb _ _ _ _ ?_)
  refine wpAny_newFunctionEnv_cells S.kind hkind fun env he s1 x => ?_
  subst he
  refine ⟨lim.keeps x.toInCall.keep, codeAny_func ?_⟩
  obtain ⟨t, ht, hq⟩ := hbody A outer s H vs Q E (hr.deeper _) hsp
  have I : L2.Inv (cxD G N qual scope f cdv A outer s H E) [] (L2.start N vs) H s1 := inv_start S hr.room.hd e0 hl r x
  refine wpAny_mono (ht.run [] s1 (L2.start N vs) H _ I hq) (fun fl s' hs => ?_) fun e s' hs => hs
  have fin : ∀ {σ' : L2.St} {H' : Hp} {v : V} {u : Value}, L2.Inv (cxD G N qual scope f cdv A outer s H E) [] σ' H' s' → RelV v u → Q v H' → CE outer G.P G.w H s Q u s' :=
    fun {σ' H' v u} J rv q => ⟨v, H', J.os, J.bare, J.base, J.hok, rv, q⟩
  cases fl with
  | ret u =>
    obtain ⟨v, σ', H', J, rv, q⟩ := hs
    exact fin J rv q
  | next =>
    obtain ⟨σ', H', J, q⟩ := hs
    exact fin (v := V.non) (u := Value.none) J rfl q
  | brk =>
    obtain ⟨_, _, _, q⟩ := hs
    exact False.elim q
  | cont =>
    obtain ⟨_, _, _, q⟩ := hs
    exact False.elim q
/-- the slots at the start -/
def startD (N : List Str) (ds : List D) : Sl := ds.map some ++ List.replicate (N.length - ds.length) none
theorem slr_start {K : PySem.W.Frag} {H : Hp} {N : List Str} {ds : List D} {vs : List V} (h : DatL K H ds vs) : SlR K H (startD N ds) (L2.start N vs) := by
  unfold startD L2.start
  have hl := h.length
  refine ⟨by simp [hl], fun i d e => ?_⟩
  by_cases hi : i < ds.length
  · rw [List.getElem?_append_left (by simpa using hi), List.getElem?_map] at e
    obtain ⟨d', e1, e2⟩ := Option.map_eq_some_iff.mp e
    cases e2
    obtain ⟨v, h1, h2⟩ := h.get e1
    refine ⟨v, ?_, h2⟩
    rw [List.getElem?_append_left (by simpa [← hl] using hi), List.getElem?_map, h1]
    rfl
  · rw [List.getElem?_append_right (by simpa using hi), List.getElem?_replicate] at e
    split at e <;> cases e
def endD (P : DK) (Y : XD) : Ed := ⟨fun _ S => P .non S, P, fun _ _ => False, fun _ _ => False, fun c dx _ S => Y c dx S⟩
theorem takesD {G : Wo} {N : List Str} {qual : Str} {scope : Scope} {f : Addr} {cd : Value} {A : Around} {outer : List Env} {s : Shared} {H : Hp} {E : XK} : Takes (cxD G N qual scope f cd A outer s H E) (fun cls d _ H' => E cls d H') :=
  takes_of (X := cxD G N qual scope f cd A outer s H E) rfl rfl rfl rfl
/-- a def keeps a promise, by its body -/
theorem fnAt_of {G : Wo} {k n : Nat} {f : Addr} {name qual : Str} {params : Arguments} {body : List Stmt} {scope : Scope} {fd : FuncData} {N ps : List Str} {sp : DSp} {t : TDS} (F : FunD G.K name qual params body scope [] [] f fd) (S : FnScope N ps scope) (hn : ps.length = n)
    (hbi : ∀ (kV doc pm : Value) (an : Option Addr) (cdv ct : Value) (us : List Value), us.length = ps.length → bindArgs (PySem.W.fnOf name qual params body scope .none kV doc pm an cdv ct) ⟨us, []⟩ = pure (ps.zip us))
    (len : ∀ ds S P Y, sp ds S P Y → ds.length = n)
    (hb : ∀ (cdv : Value) (A : Around) (outer : List Env) (s : Shared) (H : Hp) (E : XK), Std k (cxD G N qual scope f cdv A outer s H E) → DSs (cxD G N qual scope f cdv A outer s H E) body t)
    (hsp : ∀ ds S P Y, sp ds S P Y → t (endD P Y) (startD N ds) S) : FnAt G (k + 1) f n sp := by
  refine ⟨fd, ps, ?_, F.bindsN hbi, hn, F.kp⟩
  obtain ⟨oc, od, dV, kV, doc, pm, an, cdv, ct, osl, rfl, lk, hcd, _, _⟩ := F.ex
  refine fnG_of lk hcd S (fun vs H Q E ⟨ds, Sd, P, Y, hd, _, h, _⟩ => by rw [← hd.length, hn]; exact len ds Sd P Y h) fun A outer s H vs Q E hr ⟨ds, Sd, P, Y, hd, hs, h, hq, hy⟩ => ?_
  refine ⟨_, (hb cdv A outer s H E (std_of hr S.nd)).ok _ takesD, ?_⟩
  refine ⟨startD N ds, Sd, endD P Y, slr_start hd, hs, hsp ds Sd P Y h, fun δ' S' σ' H' p g l s => hq .non S' .non H' p g s mnon, fun d S' v H' p g s q => hq d S' v H' p g s q, fun _ _ _ _ p => p.elim, fun _ _ _ _ p => p.elim, fun c dx δ' S' σ' H' p g l s => hy c dx S' H' p g s⟩
theorem fnIs_of {G : Wo} {k n f : Nat} {x : String} {sp : DSp} (hm : G.mg (Str.ofString x) = some (.ref f)) (h : FnAt G k f n sp) : FnIs G k x n sp := ⟨f, hm, h⟩
/-! a weaker promise -/
theorem FnAt.weak {G : Wo} {k f n : Nat} {sp sp' : DSp} (h : FnAt G k f n sp) (i : ∀ ds S P Y, sp' ds S P Y → ∃ S0, Le S0 S ∧ sp ds S0 P Y) : FnAt G k f n sp' := by
  obtain ⟨fd, ps, F, b, e, kp⟩ := h
  have wk : ∀ vs H Q E, liftSp G.K G.w sp' vs H Q E → liftSp G.K G.w sp vs H Q E := fun vs H Q E ⟨ds, S, P, Y, hd, hs, hh, hq, hy⟩ => by
    obtain ⟨S0, l, h0⟩ := i ds S P Y hh
    exact ⟨ds, S0, P, Y, hd, hs.le l, h0, hq, hy⟩
  exact ⟨fd, ps, ⟨fun vs H Q E q => F.len vs H Q E (wk vs H Q E q), fun A outer s H args us vs Q E hr e0 hb r q => F.run A outer s H args us vs Q E hr e0 hb r (wk vs H Q E q)⟩, b, e, kp⟩

/-! ### a law's end -/
/-- from a heap in which at most the script is told, held as it is -/
theorem law_core {P : Program} {w : World} {K : PySem.W.Frag} {mg mb : Str → Option Value} {k fa a : Nat} {sp : Sp} {t : Shared} {vs : List Value} {ns : List Int} {H : Hp}
    (KX : K.In t.heap) (hns : t.heap.Ns mainGlobals mg) (hb : t.heap.Ns builtinsNs mb) (hbb : ∀ x : Str, x ≠ "__name__" → mb x = bootBuiltins x) (hlim : t.heap.NoLimit) (hg : t.gens = #[])
    (ha : t.heap.get? a = some { cls := .type "list", data := .seq vs.toArray }) (hr : Rm k callerA) (F : ∀ base : Heap, K.In base → base.Ns mainGlobals mg → ∃ fd ps, FnG P w K mg base k fa fd ps sp ∧ Binds K fd ps [])
    (hO : Only H) (hok : HOk P w H t.heap) (hA : ∀ b, H b ≠ none → b = a) (hK : H a ≠ none → K.lookup a = none)
    (hsp : sp [.ref a] H (fun v _ => v = .bl true) fun _ _ _ => False) :
    codeAny (model P w) callerA (.call (.ref fa) ⟨[.ref a], []⟩) (fun r s' => r = .ok (.ret (.bool true)) ∧ OldK t.heap s'.heap ∧ s'.os = t.os ∧ AllBare s'.gens) t := by
  have dictFree : ∀ {b : Nat} {o : Obj} {es : Array DictEntry} {ep : Nat}, t.heap.get? b = some o → o.data = .dict es ep → H b = none := by
    intro b o es ep e dd
    refine Classical.byContradiction fun n => ?_
    obtain rfl := hA b n
    rw [ha] at e
    cases e
    cases (show Data.seq vs.toArray _ = Data.dict es ep from dd)
  have nsK : ∀ {b : Nat} {m : Str → Option Value}, t.heap.Ns b m → (hidT t.heap H).Ns b m := fun ⟨o, es, ep, e, dd, r⟩ => ⟨o, es, ep, hidT_get e (dictFree e dd), dd, r⟩
  have hKb : K.In (hidT t.heap H) := fun b o e => hidT_get (KX b o e) (Classical.byContradiction fun n => by
    obtain rfl := hA b n
    rw [hK n] at e
    cases e)
  obtain ⟨mc, l1, l2⟩ := hlim
  have e0 : Env0 P w K mg (hidT t.heap H) callerA [] t H :=
    ⟨rfl, ⟨hKb, nsK hns, ⟨mb, nsK hb, hbb⟩, ⟨mc, nsK l1, l2⟩⟩, fun b o e => of_hidT e, Nat.le_of_eq (hidT_size _ _), trivial, fun b (m : b ∈ ([] : List Addr)) => absurd m (by simp), hok, .of_eq hg⟩
  obtain ⟨fd, ps, Fg, hbd⟩ := F _ hKb (nsK hns)
  have hb1 := hbd t [.ref a] KX (by have := Fg.len _ _ _ _ hsp; simpa using this)
  rw [List.append_nil] at hb1
  refine codeAny_mono (Fg.run callerA [] t H ⟨[.ref a], []⟩ [.ref a] [.ref a] _ _ hr e0 hb1 (.cons rfl .nil) hsp) fun r s' h => ?_
  match r, h with
  | .error e, h =>
    obtain ⟨_, _, _, _, _, _, _, _, _, _, _, _, z⟩ := h
    exact z.elim
  | .ok .next, h => exact False.elim h
  | .ok .brk, h => exact False.elim h
  | .ok .cont, h => exact False.elim h
  | .ok (.ret u), ⟨v, H', os, bare, un, hok', rv, ev⟩ =>
    subst ev
    cases (show u = Value.bool true from rv)
    refine ⟨rfl, OldK.of_keep fun b o e => ?_, os, bare⟩
    rcases hO b with n | ⟨ob, xs, z⟩
    · exact un.keep b o e n (fun (m : b ∈ ([] : List Addr)) => absurd m (by simp)) (fun m => absurd m (by simp))
    · have e1 := (hok b _ z).1
      rw [e] at e1
      cases e1
      exact (hok' b _ (un.frzs b _ _ z)).1
theorem law_callG {P : Program} {w : World} {K : PySem.W.Frag} {mg mb : Str → Option Value} {k fa a : Nat} {sp : Sp} {t : Shared} {vs : List Value} {ns : List Int}
    (KX : K.In t.heap) (hns : t.heap.Ns mainGlobals mg) (hb : t.heap.Ns builtinsNs mb) (hbb : ∀ x : Str, x ≠ "__name__" → mb x = bootBuiltins x) (hlim : t.heap.NoLimit) (hg : t.gens = #[])
    (ha : t.heap.get? a = some { cls := .type "list", data := .seq vs.toArray }) (hi : IntsAre vs ns) (hl : ns.length ≤ sizeLine) (hr : Rm k callerA)
    (F : ∀ base : Heap, K.In base → base.Ns mainGlobals mg → ∃ fd ps, FnG P w K mg base k fa fd ps sp ∧ Binds K fd ps []) (hk : K.lookup a = none)
    (hsp : ∀ H : Hp, H a ≠ none → SqL K H a (ns.map V.int) → sp [.ref a] H (fun v _ => v = .bl true) fun _ _ _ => False) :
    codeAny (model P w) callerA (.call (.ref fa) ⟨[.ref a], []⟩) (fun r s' => r = .ok (.ret (.bool true)) ∧ OldK t.heap s'.heap ∧ s'.os = t.os ∧ AllBare s'.gens) t := by
  have rv := vals_ints hi
  have at_a : (fun b => if b = a then some (HO.frz { cls := .type "list", data := .seq vs.toArray } (.lst (ns.map V.int))) else none : Hp) a = some (.frz { cls := .type "list", data := .seq vs.toArray } (.lst (ns.map V.int))) := if_pos rfl
  have off : ∀ {b : Nat}, b ≠ a → (fun b => if b = a then some (HO.frz { cls := .type "list", data := .seq vs.toArray } (.lst (ns.map V.int))) else none : Hp) b = none := fun hb => if_neg hb
  refine law_core (vs := vs) (ns := ns) (H := fun b => if b = a then some (HO.frz { cls := .type "list", data := .seq vs.toArray } (.lst (ns.map V.int))) else none) KX hns hb hbb hlim hg ha hr F (fun b => ?_) (fun b u z => ?_) (fun b z => Classical.byContradiction fun n => z (off n)) (fun _ => hk) (hsp _ (fun z => nomatch at_a.symm.trans z) (.inl (.inr ⟨_, at_a⟩)))
  · by_cases hb : b = a
    · exact .inr ⟨_, _, by rw [hb]; exact at_a⟩
    · exact .inl (off hb)
  · by_cases hb : b = a
    · subst hb
      rw [at_a] at z
      cases z
      exact ⟨ha, by rw [List.length_map]; exact hl, vs, _, rv, ha⟩
    · rw [off hb] at z
      cases z
theorem rm_caller {k : Nat} (h : Room k callerA) : Rm k callerA := ⟨h, rfl⟩
/-- the script at an address, for the law's promise -/
def lawSp : DSp := fun ds S P _ => ∃ (a : Nat) (ns : List Int), ds = [.ref a] ∧ S a = some (.fl (ns.map D.int)) ∧ ns.length ≤ 63 ∧ ∀ S', P (.bl true) S'
theorem datL_ints {K : PySem.W.Frag} {H : Hp} : ∀ ns : List Int, DatL K H (ns.map D.int) (ns.map V.int)
  | [] => DatL.nil
  | n :: ns => DatL.cons mint (datL_ints ns)
/-- the end of a law's row, over a head whose facts give the law's def its promise -/
theorem walk_D {l : PySem.W.OpenLaw} {n k : Nat} {q : Program} {loose : List Str} {XP : (Str → Option Value) → Heap → Prop} {YP : World → Heap → Prop} {d : DefRec}
    (hn : l.most = some n) (hn2 : n ≤ 63) (hdf : d.params.defaults = []) (hr : Room k callerA)
    (F : ∀ (w : World) (mg : Str → Option Value) (fa : Addr) (h : Heap), YP w h → h.Ns mainGlobals mg → mg d.name = some (.ref fa) →
      ∃ K : PySem.W.Frag, K.In h ∧ (∀ a o, K.lookup a = some o → o.cls ≠ .type "list") ∧
        ∀ base : Heap, K.In base → base.Ns mainGlobals mg → FnAt ⟨l.prog, w, K, mg, base⟩ k fa 1 lawSp) :
    PySem.W.WalkO q loose XP YP l.row.toRowW d [] (fun f vs => PySem.call f vs) := by
  refine Att.attach_call hn hdf fun w s₀ s₁ mg mb fa o pm cd doc a vs ns G Y ho hd hcd hmg hobj hints hlen hg => ?_
  obtain ⟨K, KX, nl, hF⟩ := F w mg fa _ Y G.T.g hmg
  have h63 : (63 : Nat) ≤ sizeLine := by rw [sizeLine_eq]; omega
  have hk : K.lookup a = none := by
    cases e : K.lookup a with
    | none => rfl
    | some ob =>
      have e2 := KX a ob e
      rw [hobj] at e2
      cases e2
      exact absurd rfl (nl a _ e)
  refine law_callG (sp := liftSp K w lawSp) KX G.T.g G.T.b G.T.builtins G.T.nolimit hg hobj hints (by omega) (rm_caller hr) (fun base b1 b2 => let ⟨fd, ps, f1, f2, _, _⟩ := hF base b1 b2; ⟨fd, ps, f1, f2⟩) hk fun H hz hS => ?_
  refine ⟨[.ref a], fun b => if b = a then some (.fl (ns.map D.int)) else none, fun d _ => d = .bl true, fun _ _ _ => False, DatL.one mref, ?_, ⟨a, ns, rfl, if_pos rfl, by omega, fun _ => rfl⟩, fun d S' v H' p _ _ q => by subst p; exact dbl q, fun _ _ _ _ z => z.elim⟩
  intro b o e
  by_cases hb : b = a
  · subst hb
    have e1 : some (DO.fl (ns.map D.int)) = some o := (if_pos rfl).symm.trans e
    cases e1
    exact ⟨ns.map V.int, hS, hz, datL_ints ns⟩
  · have e1 : (none : Option DO) = some o := (if_neg hb).symm.trans e
    cases e1
end VD

set_option Elab.async false
set_option linter.all false
set_option autoImplicit false
set_option maxRecDepth 100000
set_option maxHeartbeats 4000000
/-! VCl: the D layer, part l: exceptions raised, caught, asked; small rules -/
namespace VD
open PySem PySem.Spec PyProof.Rows L2

/-! ### raise -/
abbrev TDK := Sl → Sto → XD → Prop
def liftK (K : PySem.W.Frag) (w : World) (t : TDK) : L2.St → Hp → XK → Prop := fun σ H Q => ∃ δ S Y, SlR K H δ σ ∧ StR K w H S ∧ t δ S Y ∧ ∀ c dx S' H', Y c dx S' → Gr K H H' → StR K w H' S' → Q c dx H'
structure DMk (X : Cx) (e : PySem.Expr) (t : TDK) : Prop where
  ok : PMk X e (liftK X.K X.w t)
section
variable {X : Cx} {e : PySem.Expr} {t : TDK} {pos p : Pos}
def dRaise (t : TDK) : TDS := fun E δ S => t δ S (E.y δ)
theorem ds_raise (hc : X.calm = true) (h : DMk X e t) : DS X (.Raise (some e) none pos) (dRaise t) :=
  ⟨fun W tk => psImp (ps_raise hc tk h.ok) fun D σ H ⟨δ, S, E, hl, hs, ht, k1, k2, k3, k4, k5⟩ => ⟨δ, S, _, hl, hs, ht, fun c dx S' H' y g s => exl_of hl k5 c dx S' H' y g s⟩⟩
end

/-! ### try: .. except C as n: .. -/
def Ed.undo (E : Ed) (i : Nat) : Ed := ⟨fun δ S => E.nx (δ.set i none) S, E.rt, fun δ S => E.bk (δ.set i none) S, fun δ S => E.ct (δ.set i none) S, fun _ _ _ _ => False⟩
/-- em: which classes are caught -/
def Ed.tr (em : Value → Option Bool) (h : Value → Option Nat → Sl → Sto → Prop) (E : Ed) : Ed := ⟨E.nx, E.rt, E.bk, E.ct, fun cls dx δ' S' => match em cls with
  | some true => h cls dx δ' S'
  | some false => E.ex cls dx δ' S'
  | none => False⟩
def dTryAs (em : Value → Option Bool) (i : Nat) (tb : TDS) (ts : Nat → Value → Option Nat → TDS) : TDS := fun E δ S =>
  tb (E.tr em fun cls dx δ' S' => ∀ a, S' a = none → ts a cls dx (E.undo i) (δ'.set i (some (.ref a))) S') δ S
section
variable {X : Cx} {body suite : List Stmt} {b₀ : Stmt} {x n : Str} {c : Value} {i : Nat} {np pos pos' p : Pos} {tb : TDS} {ts : Nat → Value → Option Nat → TDS}
theorem takes0s {a : Addr} {pn : List (Addr × Obj)} : Takes (X.suite a pn) W0 := fun u s' ⟨_, _, _, _, _, _, _, _, _, _, _, _, _, _, _, _, z⟩ => z.elim
theorem ds_try_as (hs : X.stack = X.env :: X.outer) (hf : X.env.frame = some X.env.locals) (hN : X.N.Nodup) (hi : X.N[i]? = some n) (hk : X.env.kindOf n = some .local) (hc : Names X x c)
    (hb : ∀ (pn : List (Addr × Obj)) (xe : Value → Shared → Prop), PassesOwn (model X.prog X.w) X.A X.env xe → DSs (X.tr pn xe) body tb)
    (hsu : ∀ (a : Addr) (oe : Obj) (cls : Value) (d : Option Addr) (pn : List (Addr × Obj)), Zc cls d oe → (∃ vs, oe.data = .fields vs) → DSs (X.suite a ((a, oe) :: pn)) (b₀ :: suite) (ts a cls d)) :
    DS X (.Try body [.ExceptHandler (some (.Name x np)) (some n) (b₀ :: suite) pos'] [] [] pos) (dTryAs (fun cls => PySem.W.exmOne X.K cls c) i tb ts) :=
  ⟨fun W tk => psImp (ps_try_as (tb := fun W => liftS X.K X.w W tb) (ts := fun a cls d => liftS X.K X.w W0 (ts a cls d)) hs hf hN hi hk hc tk (fun W' pn xe tk' po => (hb pn xe po).ok W' tk') (fun a oe cls d pn hz hv => (hsu a oe cls d pn hz hv).ok W0 takes0s))
    fun D σ H ⟨δ, S, E, hl, hs, ht, k1, k2, k3, k4, k5⟩ => by
      refine ⟨δ, S, _, hl, hs, ht, k1, k2, k3, k4, fun cls dx δ' S' σ' H' p g l s => ?_⟩
      unfold Ed.tr at p
      dsimp only at p
      split at p
      · rename_i em
        refine ⟨true, em, fun _ a na => ?_, fun z => nomatch z⟩
        have l1 : SlR X.K H' (δ'.set i (some (.ref a))) (σ'.set i (some (.ref a))) := l.set i mref
        refine ⟨_, S', E.undo i, l1, s, p a (s.fresh na), fun δ2 S2 σ2 H2 p2 g2 l2 s2 => k1 _ S2 _ H2 p2 (g.trans g2) (l2.wipe1 i) s2, fun d S2 v2 H2 p2 g2 s2 q2 => k2 d S2 v2 H2 p2 (g.trans g2) s2 q2,
          fun δ2 S2 σ2 H2 p2 g2 l2 s2 => k3 _ S2 _ H2 p2 (g.trans g2) (l2.wipe1 i) s2, fun δ2 S2 σ2 H2 p2 g2 l2 s2 => k4 _ S2 _ H2 p2 (g.trans g2) (l2.wipe1 i) s2, fun _ _ _ _ _ _ p2 => p2.elim⟩
      · rename_i em
        exact ⟨false, em, fun z => (nomatch z), fun _ => k5 cls dx δ' S' σ' H' p g l s⟩
      · exact p.elim⟩
/-- except C: (no name) -/
def dTryOnly (em : Value → Option Bool) (tb : TDS) (ts : Nat → Value → Option Nat → TDS) : TDS := fun E δ S =>
  tb (E.tr em fun cls dx δ' S' => ∀ a, S' a = none → ts a cls dx ⟨E.nx, E.rt, E.bk, E.ct, fun _ _ _ _ => False⟩ δ' S') δ S
theorem ds_try_only (hs : X.stack = X.env :: X.outer) (hf : X.env.frame = some X.env.locals) (hc : Names X x c)
    (hb : ∀ (pn : List (Addr × Obj)) (xe : Value → Shared → Prop), PassesOwn (model X.prog X.w) X.A X.env xe → DSs (X.tr pn xe) body tb)
    (hsu : ∀ (a : Addr) (oe : Obj) (cls : Value) (d : Option Addr) (pn : List (Addr × Obj)), Zc cls d oe → (∃ vs, oe.data = .fields vs) → DSs (X.suite a ((a, oe) :: pn)) (b₀ :: suite) (ts a cls d)) :
    DS X (.Try body [.ExceptHandler (some (.Name x np)) none (b₀ :: suite) pos'] [] [] pos) (dTryOnly (fun cls => PySem.W.exmOne X.K cls c) tb ts) :=
  ⟨fun W tk => psImp (ps_try_only (tb := fun W => liftS X.K X.w W tb) (ts := fun a cls d => liftS X.K X.w W0 (ts a cls d)) hs hf hc tk (fun W' pn xe tk' po => (hb pn xe po).ok W' tk') (fun a oe cls d pn hz hv => (hsu a oe cls d pn hz hv).ok W0 takes0s))
    fun D σ H ⟨δ, S, E, hl, hs, ht, k1, k2, k3, k4, k5⟩ => by
      refine ⟨δ, S, _, hl, hs, ht, k1, k2, k3, k4, fun cls dx δ' S' σ' H' p g l s => ?_⟩
      unfold Ed.tr at p
      dsimp only at p
      split at p
      · rename_i em
        refine ⟨true, em, fun _ a na => ?_, fun z => nomatch z⟩
        exact ⟨δ', S', _, l, s, p a (s.fresh na), fun δ2 S2 σ2 H2 p2 g2 l2 s2 => k1 _ S2 _ H2 p2 (g.trans g2) l2 s2, fun d S2 v2 H2 p2 g2 s2 q2 => k2 d S2 v2 H2 p2 (g.trans g2) s2 q2,
          fun δ2 S2 σ2 H2 p2 g2 l2 s2 => k3 _ S2 _ H2 p2 (g.trans g2) l2 s2, fun δ2 S2 σ2 H2 p2 g2 l2 s2 => k4 _ S2 _ H2 p2 (g.trans g2) l2 s2, fun _ _ _ _ _ _ p2 => p2.elim⟩
      · rename_i em
        exact ⟨false, em, fun z => (nomatch z), fun _ => k5 cls dx δ' S' σ' H' p g l s⟩
      · exact p.elim⟩
end

/-! ### the caught exception -/
section
variable {X : Cx} {a C : Addr} {oe : Obj} {cls : Value} {d : Option Addr} {pn : List (Addr × Obj)} {e : PySem.Expr} {te : TDE} {pos p p1 p2 : Pos} {n : String}
/-- e.n, an own field -/
def dXf (a : Nat) (cls : Value) (d : Option Nat) (C : Nat) (n : String) (te : TDE) : TDE := fun δ S P Y => te δ S (fun x S1 => match x, d with
  | .ref b, some dd => b = a ∧ cls = .ref C ∧ (match S1 dd with
    | some (.xd fs) => (match fGet n fs with
      | some v => P v S1
      | none => False)
    | _ => False)
  | _, _ => False) Y
theorem xf_inv {x : D} {S1 : Sto} {P : DK} (h : match x, d with
  | .ref b, some dd => b = a ∧ cls = .ref C ∧ (match S1 dd with
    | some (.xd fs) => (match fGet n fs with
      | some v => P v S1
      | none => False)
    | _ => False)
  | _, _ => False) : ∃ dd fs v, x = .ref a ∧ d = some dd ∧ cls = .ref C ∧ S1 dd = some (.xd fs) ∧ fGet n fs = some v ∧ P v S1 := by
  split at h
  · obtain ⟨rfl, h1, h⟩ := h
    split at h
    · rename_i e1
      split at h
      · rename_i e2
        exact ⟨_, _, _, rfl, rfl, h1, e1, e2, h⟩
      · exact h.elim
    · exact h.elim
  · exact h.elim
theorem de_xf (T : XfC X.K C) (hno : PySem.W.findIn X.K (.ref C) (Str.ofString n) = some none) (hz : Zc cls d oe) (hf : ∃ vs, oe.data = .fields vs) (he : DE (X.suite a ((a, oe) :: pn)) e te) (hb : plainBase e = true) :
    DE (X.suite a ((a, oe) :: pn)) (.Attribute e (Str.ofString n) pos) (dXf a cls d C n te) :=
  ⟨fun W tk => peImp (pe_xf T hno hz hf (he.ok W tk) (base_of hb)) fun σ H Q ⟨δ, S, P, Y, hl, hs, ht, hq, hy⟩ => by
    refine ⟨δ, S, _, Y, hl, hs, ht, fun x S1 v H1 p1 g1 s1 q1 => ?_, hy⟩
    obtain ⟨dd, fs, v', rfl, hd, hc, e1, e2, p1⟩ := xf_inv p1
    obtain ⟨vs, h1, h2⟩ := s1 dd _ e1
    obtain ⟨u, h3, h4⟩ := h2.get e2
    exact ⟨dref q1, hc, dd, vs, u, hd, h1, h3, hq _ S1 _ H1 p1 g1 s1 h4⟩⟩
/-- isinstance(e, C) where the class of e is C itself -/
theorem answers_same {x t : Value} {P : Shared → Prop} (ty : ∀ (M : Model) (s : Shared), P s → PySem.W.Looks M s.heap (typeOf x) t) : Answers P x t true := by
  intro dep tk prog w A R s hs
  obtain ⟨h0, g, dd, tt, os⟩ := s
  obtain ⟨p, hq⟩ := hs
  have LT := ty (model prog w) _ p
  unfold Builtin.«isinstance.nested»
  refine wpAny_bind (LT.at ?_)
  rw [if_pos (beq_self_eq_true t)]
  first
    | exact hq tt
    | exact wpAny_bind (wpAny_rule (hq tt))
    | exact wpAny_bind (wpAny_rule (wpAny_pure (hq tt)))
def rIsS (a C : Nat) (cls : Value) : List V → Hp → VK → Prop := fun xs H Q => xs = [.ref a, .ref C] ∧ cls = .ref C ∧ Q (.bl true) H
theorem call_isS (hz : Zc cls d oe) (hf : ∃ vs, oe.data = .fields vs) : CallR (X.suite a ((a, oe) :: pn)) (.builtin "isinstance") (rIsS a C cls) := by
  intro pins s σ H xs us Q I r ⟨ex, ec, q⟩
  subst ex
  cases r with
  | cons r1 r2 =>
    cases r2 with
    | cons r2 r3 =>
      cases r3
      cases r1
      cases r2
      obtain ⟨hget, _⟩ := I.pin (a, oe) (List.mem_append.mpr (.inl List.mem_cons_self))
      refine call_isinstance (S := fun _ R s => s.heap.get? a = some oe ∧ ∀ tk, R (.ok (.ret (.bool true))) { s with toks := tk })
        (fun prog w A R s hs => isinstance_outer (answers_same (x := .ref a) (t := .ref C) (P := fun s => s.heap.get? a = some oe) (fun M s h => ?_) 0 _ prog w A R s hs) (fun z => nomatch z)) ⟨hget, fun tk => ⟨.bl true, H, I.kept (t' := tk) fun _ _ z => z, rfl, q⟩⟩
      have e2 : oe.cls = .ref C := hz.1.trans ec
      rw [← e2]
      exact (PySem.W.Looks.ld h).andThen .now
def isSCD (a C : Nat) (cls : Value) : CD := fun ds S P => match ds with
  | [.ref b, .ref D] => b = a ∧ D = C ∧ cls = .ref C ∧ P (.bl true) S
  | _ => False
theorem isS_inv {ds : List D} {S : Sto} {P : DK} (h : isSCD a C cls ds S P) : ds = [.ref a, .ref C] ∧ cls = .ref C ∧ P (.bl true) S := by
  unfold isSCD at h
  split at h
  · obtain ⟨rfl, rfl, h1, h2⟩ := h
    exact ⟨rfl, h1, h2⟩
  · exact h.elim
theorem cd_isS (hz : Zc cls d oe) (hf : ∃ vs, oe.data = .fields vs) : CallD (X.suite a ((a, oe) :: pn)) (.builtin "isinstance") (isSCD a C cls) := CRi (call_isS hz hf) fun xs H Q ⟨ds, S, P, hd, hs, hr, hq⟩ => by
  obtain ⟨rfl, h1, h2⟩ := isS_inv hr
  obtain ⟨v, w, rfl, hv, hw⟩ := two_dat hd
  exact ⟨by rw [dref hv, dref hw], h1, hq _ S _ H h2 Gr.refl hs mbl⟩
end

/-! ### -x -/
section
variable {X : Cx} {e : PySem.Expr} {te : TDE} {pos : Pos}
def dNeg (te : TDE) : TDE := fun δ S P Y => te δ S (fun d S1 => match d with
  | .int i => P (.int (-i)) S1
  | _ => False) Y
theorem de_neg (h : DE X e te) : DE X (.UnaryOp .USub e pos) (dNeg te) := ⟨fun W tk => peImp (pe_un un_neg (h.ok W tk)) fun σ H Q ⟨δ, S, P, Y, hl, hs, ht, hq, hy⟩ => by
  refine ⟨δ, S, _, Y, hl, hs, ht, fun d S1 v H1 p1 g1 s1 q1 => ?_, hy⟩
  cases d with
  | int i => exact ⟨i, dint q1, hq _ S1 _ H1 p1 g1 s1 mint⟩
  | _ => exact p1.elim⟩
theorem Std.blk {k : Nat} {X : Cx} (s : Std k X) {s0 : Shared} {H : Hp} {scope : Scope} {cenv : Env} {fp : List Addr} : Std k (X.blk s0 H scope cenv fp) := ⟨s.rm, s.calm, PassesOwn.never, s.nd⟩
theorem Std.tr {k : Nat} {X : Cx} (s : Std k X) {pn : List (Addr × Obj)} {xe : Value → Shared → Prop} (po : PassesOwn (model X.prog X.w) X.A X.env xe) : Std k (X.tr pn xe) := ⟨s.rm, s.calm, po, s.nd⟩
end
end VD

set_option Elab.async false
set_option linter.all false
set_option autoImplicit false
set_option maxRecDepth 100000
set_option maxHeartbeats 4000000
/-! VCm: the D layer, part m: what a module's exceptions promise; where members stand -/
namespace VD
open PySem PySem.Spec PyProof.Rows L2

/-- C(..), raised: the arguments' fields (none: not served) -/
def dMkX (C : Nat) (mk : List D → Option (List (String × D))) (t : TDA) : TDK := fun δ S Y => t δ S (fun ds S1 => match mk ds with
  | some fs => ∀ d, S1 d = none → Y (.ref C) (some d) (up S1 d (.xd fs))
  | none => False) NoX
structure ExIs (G : Wo) (x : String) (C : Nat) (mkf : List D → Option (List (String × D))) : Prop where
  dmk : ∀ {X : Cx} {e : PySem.Expr} {es : List PySem.Expr} {t : TDA} {p pos : Pos}, Std 3 X → Gl X (Str.ofString x) → DA X (e :: es) t → noStars (e :: es) = true → Wo.of X = G →
    DMk X (.Call (.Name (Str.ofString x) p) (e :: es) [] pos) (dMkX C mkf t)
section
variable {X : Cx} {body suite : List Stmt} {b₀ : Stmt} {x n : Str} {c : Nat} {i : Nat} {np pos pos' p : Pos} {tb : TDS} {ts : Nat → Value → Option Nat → TDS} {em : Value → Nat → Option Bool}
theorem ds_try_as_em (z : ∀ v, PySem.W.exmOne X.K v (.ref c) = em v c) (hs : X.stack = X.env :: X.outer) (hf : X.env.frame = some X.env.locals) (hN : X.N.Nodup) (hi : X.N[i]? = some n) (hk : X.env.kindOf n = some .local) (hc : Names X x (.ref c))
    (hb : ∀ (pn : List (Addr × Obj)) (xe : Value → Shared → Prop), PassesOwn (model X.prog X.w) X.A X.env xe → DSs (X.tr pn xe) body tb)
    (hsu : ∀ (a : Addr) (oe : Obj) (cls : Value) (d : Option Addr) (pn : List (Addr × Obj)), Zc cls d oe → (∃ vs, oe.data = .fields vs) → DSs (X.suite a ((a, oe) :: pn)) (b₀ :: suite) (ts a cls d)) :
    DS X (.Try body [.ExceptHandler (some (.Name x np)) (some n) (b₀ :: suite) pos'] [] [] pos) (dTryAs (fun v => em v c) i tb ts) := by
  have e : (fun cls => PySem.W.exmOne X.K cls (.ref c)) = fun v => em v c := funext z
  rw [← e]
  exact ds_try_as hs hf hN hi hk hc hb hsu
end
section
variable {k : Nat} {X : Cx} {elt tg iter c : PySem.Expr} {ifs : List PySem.Expr} {scope : Scope} {own : List (Str × Nat)} {pos spos p : Pos} {src : TDI} {tc : TgC} {tt : TDT} {te : TDE}
theorem de_lcS (sd : Std k X) (hi : DI X tg iter src) (ok : BlkOk X.N X.env.scope scope own) (hv : ∀ i ∈ tc.sl, i ∈ own.map (·.2))
    (hg : ∀ (s : Shared) (H : Hp) (C : Addr) (cl : List (Str × Addr)) (fp : List Addr), PG (X.blk s H scope (compEnvC scope cl C X.env) fp) tg (gC X.K tc))
    (ht : ∀ (s : Shared) (H : Hp) (C : Addr) (cl : List (Str × Addr)) (fp : List Addr), Std k (X.blk s H scope (compEnvC scope cl C X.env) fp) → DTs (X.blk s H scope (compEnvC scope cl C X.env) fp) ifs tt)
    (he : ∀ (s : Shared) (H : Hp) (C : Addr) (cl : List (Str × Addr)) (fp : List Addr), Std k (X.blk s H scope (compEnvC scope cl C X.env) fp) → DE (X.blk s H scope (compEnvC scope cl C X.env) fp) elt te)
    (hs : ∀ x, foldedSetIterable iter X.env x = pure x) : DE X (.ListComp elt [⟨tg, iter, ifs, 0⟩] scope pos) (dLc src tc tt te (own.map (·.2))) :=
  de_lc sd.calm sd.nd hi ok hv hg (fun s H C cl fp => ht s H C cl fp sd.blk) (fun s H C cl fp => he s H C cl fp sd.blk) hs
theorem ds_setLcS {i : Nat} {y : Str} (sd : Std k X) (hy : X.N[i]? = some y) (hyl : X.env.scope.names.lookup y = some .local)
    (hsw : swapsWith (.ListComp elt [⟨tg, iter, ifs, 0⟩] scope pos) (some (.Name y p)) spos.line X.env = pure true) (hi : DI X tg iter src) (ok : BlkOk X.N X.env.scope scope own) (hv : ∀ i ∈ tc.sl, i ∈ own.map (·.2))
    (hg : ∀ (s : Shared) (H : Hp) (C : Addr) (cl : List (Str × Addr)) (fp : List Addr), PG (X.blk s H scope (compEnvC scope cl C X.env) fp) tg (gC X.K tc))
    (ht : ∀ (s : Shared) (H : Hp) (C : Addr) (cl : List (Str × Addr)) (fp : List Addr), Std k (X.blk s H scope (compEnvC scope cl C X.env) fp) → DTs (X.blk s H scope (compEnvC scope cl C X.env) fp) ifs tt)
    (he : ∀ (s : Shared) (H : Hp) (C : Addr) (cl : List (Str × Addr)) (fp : List Addr), Std k (X.blk s H scope (compEnvC scope cl C X.env) fp) → DE (X.blk s H scope (compEnvC scope cl C X.env) fp) elt te)
    (hs : ∀ x, foldedSetIterable iter X.env x = pure x) : DS X (.Assign [.Name y p] (.ListComp elt [⟨tg, iter, ifs, 0⟩] scope pos) spos) (dAsg (dLc src tc tt te (own.map (·.2))) (gNm i)) :=
  ds_setLc sd.calm sd.nd hy hyl hsw hi ok hv hg (fun s H C cl fp => ht s H C cl fp sd.blk) (fun s H C cl fp => he s H C cl fp sd.blk) hs
end
/-! what a def leaves may be told less of -/
def wkP (P : DK) : DK := fun d S' => ∃ S0, Le S0 S' ∧ P d S0
def wkY (Y : XD) : XD := fun c dx S' => ∃ S0, Le S0 S' ∧ Y c dx S0
def wkS (sp : DSp) : DSp := fun ds S P Y => sp ds S (wkP P) (wkY Y)
theorem FnAt.wk {G : Wo} {k f n : Nat} {sp : DSp} (h : FnAt G k f n sp) : FnAt G k f n (wkS sp) := by
  obtain ⟨fd, ps, F, b, e, kp⟩ := h
  have i : ∀ vs H Q E, liftSp G.K G.w (wkS sp) vs H Q E → liftSp G.K G.w sp vs H Q E := fun vs H Q E ⟨ds, S, P, Y, hd, hs, hh, hq, hy⟩ =>
    ⟨ds, S, _, _, hd, hs, hh, fun d S' v H' ⟨S0, l, p⟩ g s q => hq d S0 v H' p g (s.le l) q, fun c dx S' H' ⟨S0, l, y⟩ g s => hy c dx S0 H' y g (s.le l)⟩
  exact ⟨fd, ps, ⟨fun vs H Q E q => F.len vs H Q E (i vs H Q E q), fun A outer s H args us vs Q E hr e0 hb r q => F.run A outer s H args us vs Q E hr e0 hb r (i vs H Q E q)⟩, b, e, kp⟩
/-! where a class's members stand -/
def clsBody (s : Stmt) : List Stmt := match s with
  | .ClassDef _ _ _ b _ _ _ _ _ _ _ => b
  | _ => []
def mk_Malformed : List D → Option (List (String × D))
  | [d] => (match d with
    | .int p => if p.natAbs.log2 < 1920 then some [("place", .int p)] else none
    | _ => none)
  | _ => none
end VD

set_option Elab.async false
set_option linter.all false
set_option autoImplicit false
set_option maxRecDepth 100000
set_option maxHeartbeats 4000000
/-! VCn: the D layer, part n: helpers for the data-level proofs -/
namespace VD
open PySem PySem.Spec PyProof.Rows L2
theorem sl_le {n : Nat} (h : n ≤ 1000000) : n ≤ sizeLine := by rw [sizeLine_eq]; omega
theorem sl_lt {n : Nat} (h : n < 1000000) : n < sizeLine := by rw [sizeLine_eq]; omega
theorem lis_lst {a : Nat} {S : Sto} {xs : List D} (h : S a = some (.lst xs)) : lisD (.ref a) S = some xs := by
  show (match S a with | some (.lst ds) => some ds | some (.fl ds) => some ds | _ => none) = _
  rw [h]
theorem lis_fl {a : Nat} {S : Sto} {xs : List D} (h : S a = some (.fl xs)) : lisD (.ref a) S = some xs := by
  show (match S a with | some (.lst ds) => some ds | some (.fl ds) => some ds | _ => none) = _
  rw [h]
theorem seq_lst {a : Nat} {S : Sto} {xs : List D} (h : S a = some (.lst xs)) : seqD (.ref a) S = some xs := by
  show (match S a with | some (.lst ds) => some ds | some (.fl ds) => some ds | _ => none) = _
  rw [h]
theorem seq_fl {a : Nat} {S : Sto} {xs : List D} (h : S a = some (.fl xs)) : seqD (.ref a) S = some xs := by
  show (match S a with | some (.lst ds) => some ds | some (.fl ds) => some ds | _ => none) = _
  rw [h]
theorem ty_lst {a : Nat} {S : Sto} {xs : List D} (h : S a = some (.lst xs)) : tyD .lst (.ref a) S := by
  show (match lisD (.ref a) S with | some _ => True | none => False)
  rw [lis_lst h]
  trivial
theorem up_self {S : Sto} {a : Nat} {o : DO} (h : S a = some o) : up S a o = S := by
  funext b
  unfold up
  split
  · rename_i e; subst e; exact h.symm
  · rfl
theorem up_none {S : Sto} {a b : Nat} {o : DO} (h : up S a o b = none) : S b = none ∧ b ≠ a := by
  by_cases e : b = a
  · subst e; rw [up_same] at h; cases h
  · rw [up_ne e] at h; exact ⟨h, e⟩
theorem some_ne {S : Sto} {a b : Nat} {o u : DO} (ha : S a = some o) (hb : S b = some u) (h : o ≠ u) : a ≠ b := by
  intro e; subst e; rw [ha] at hb; exact h (Option.some.inj hb)
/-- lo, lo + 1, .. -/
def rgI : Int → Nat → List D
  | _, 0 => []
  | lo, n + 1 => .int lo :: rgI (lo + 1) n
theorem rngD_eq : ∀ (lo : Int) (n : Nat), rngD lo n = rgI lo n := by
  have key : ∀ (n : Nat) (lo : Int) (j : Nat), (List.range' j n).map (fun i : Nat => D.int (lo + (i : Nat))) = rgI (lo + j) n := by
    intro n
    induction n with
    | zero => intro lo j; rfl
    | succ n ih =>
      intro lo j
      rw [List.range'_succ, List.map_cons, ih]
      show _ = D.int (lo + j) :: rgI (lo + j + 1) n
      have e : lo + ((j + 1 : Nat) : Int) = lo + j + 1 := by omega
      rw [e]
  intro lo n
  have := key n lo 0
  rw [← List.range_eq_range'] at this
  simpa [rngD] using this
theorem atI_get {α : Type} {xs : List α} {j : Nat} {v : α} (h : xs[j]? = some v) : atI xs (j : Int) = some v := atI_nat h
def nts (ns : List Nat) : List D := ns.map fun (n : Nat) => D.int (n : Int)
theorem nts_append (a b : List Nat) : nts (a ++ b) = nts a ++ nts b := by simp [nts]
theorem nts_length (a : List Nat) : (nts a).length = a.length := by simp [nts]
end VD

set_option Elab.async false
set_option linter.all false
set_option autoImplicit false
set_option maxRecDepth 100000
set_option maxHeartbeats 4000000
/-! VCo: the D layer, part o: data that repr shows within its line -/
namespace VD
open PySem PySem.Spec PyProof.Rows L2
mutual
def okS : PyData → Bool
  | .none => true
  | .bool _ => true
  | .int i => decide (0 ≤ i) && decide (i < 10 ^ 20)
  | .str s => decide (Str.length (reprText s) ≤ 1000)
  | .list xs => okSs xs
  | .tuple xs => okSs xs
  | .dict _ => false
def okSs : List PyData → Bool
  | [] => true
  | x :: xs => okS x && okSs xs
end
mutual
def wtS : PyData → Nat
  | .none => 1000
  | .bool _ => 1000
  | .int _ => 1000
  | .str _ => 1000
  | .list xs => wtSs xs + 3
  | .tuple xs => wtSs xs + 3
  | .dict _ => 0
def wtSs : List PyData → Nat
  | [] => 0
  | x :: xs => wtS x + 2 + wtSs xs
end
theorem small_log20 {p : Int} (h : p.natAbs < 10 ^ 20) : p.natAbs.log2 < 1920 := by
  by_cases hz : p.natAbs = 0
  · rw [hz]; decide
  · exact Nat.lt_trans ((Nat.log2_lt hz).mpr (Nat.lt_of_lt_of_le h (by decide : 10 ^ 20 ≤ 2 ^ 67))) (by decide)
mutual
theorem okS_ok : ∀ {x : PyData}, okS x = true → x.showable = true ∧ x.hasDict = false ∧ Str.length x.shown ≤ wtS x
  | .none, _ => ⟨by unfold PyData.showable; rfl, by unfold PyData.hasDict; rfl, by unfold PyData.shown wtS; decide⟩
  | .bool b, _ => ⟨by unfold PyData.showable; rfl, by unfold PyData.hasDict; rfl, by unfold PyData.shown wtS; cases b <;> decide⟩
  | .int i, h => by
    unfold okS at h
    simp only [Bool.and_eq_true, decide_eq_true_eq] at h
    refine ⟨by unfold PyData.showable; exact decide_eq_true (small_log20 (by omega)), by unfold PyData.hasDict; rfl, ?_⟩
    unfold PyData.shown wtS
    exact Nat.le_trans (toString_length_le h.1 (k := 20) (by decide) h.2) (by decide)
  | .str s, h => by
    unfold okS at h
    exact ⟨by unfold PyData.showable; rfl, by unfold PyData.hasDict; rfl, by unfold PyData.shown wtS; exact of_decide_eq_true h⟩
  | .list xs, h => by
    unfold okS at h
    obtain ⟨h1, h2, h3⟩ := okSs_ok h
    refine ⟨by unfold PyData.showable; exact h1, by unfold PyData.hasDict; exact h2, ?_⟩
    unfold PyData.shown wtS
    have := listText_len_le (PyData.shownAll xs)
    omega
  | .tuple xs, h => by
    unfold okS at h
    obtain ⟨h1, h2, h3⟩ := okSs_ok h
    refine ⟨by unfold PyData.showable; exact h1, by unfold PyData.hasDict; exact h2, ?_⟩
    unfold PyData.shown wtS
    have := tupleText_len_le (PyData.shownAll xs)
    omega
  | .dict _, h => by unfold okS at h; cases h
theorem okSs_ok : ∀ {xs : List PyData}, okSs xs = true → PyData.showableAll xs = true ∧ PyData.hasDictAll xs = false ∧ ((PyData.shownAll xs).map (·.length)).sum + 2 * (PyData.shownAll xs).length ≤ wtSs xs
  | [], _ => ⟨by unfold PyData.showableAll; rfl, by unfold PyData.hasDictAll; rfl, by unfold PyData.shownAll wtSs; decide⟩
  | x :: xs, h => by
    unfold okSs at h
    rw [Bool.and_eq_true] at h
    obtain ⟨a1, a2, a3⟩ := okS_ok h.1
    obtain ⟨b1, b2, b3⟩ := okSs_ok h.2
    refine ⟨by unfold PyData.showableAll; rw [a1, b1]; rfl, by unfold PyData.hasDictAll; rw [a2, b2]; rfl, ?_⟩
    unfold PyData.shownAll wtSs
    simp only [List.map_cons, List.sum_cons, List.length_cons]
    omega
end
/-- numbers as the library's data -/
def ipy (ns : List Int) : List PyData := ns.map .int
theorem pyW_ints (f : Nat → Option PyData) : ∀ ns : List Int, pyWL f (ns.map .int) = some (ipy ns)
  | [] => by unfold pyWL ipy; rfl
  | n :: ns => by
    rw [List.map_cons, pyWL]
    rw [pyW_ints f ns]
    rfl
theorem pyOf_lst {n a : Nat} {S : Sto} {ds : List D} (h : S a = some (.lst ds)) : pyOf (n + 1) S (.ref a) = (pyWL (pyAt n S) ds).map .list := by
  show pyAt (n + 1) S a = _
  unfold pyAt
  rw [h]
theorem ipy_ok : ∀ {ns : List Int}, (∀ v ∈ ns, 0 ≤ v ∧ v < 10 ^ 20) → okSs (ipy ns) = true ∧ wtSs (ipy ns) = 1002 * ns.length ∧ PyData.depthAll (ipy ns) = 0
  | [], _ => ⟨by unfold ipy okSs; rfl, by unfold ipy wtSs; rfl, by unfold ipy PyData.depthAll; rfl⟩
  | n :: ns, h => by
    obtain ⟨h1, h2⟩ := h n List.mem_cons_self
    obtain ⟨a, b, d⟩ := ipy_ok fun v hv => h v (List.mem_cons_of_mem _ hv)
    refine ⟨?_, ?_, ?_⟩
    · show okSs (.int n :: ipy ns) = true
      unfold okSs okS
      rw [a, decide_eq_true h1, decide_eq_true h2]
      rfl
    · show wtSs (.int n :: ipy ns) = _
      unfold wtSs wtS
      rw [b, List.length_cons]
      omega
    · show PyData.depthAll (.int n :: ipy ns) = 0
      unfold PyData.depthAll PyData.depth
      rw [d]
      rfl
end VD

set_option Elab.async false
set_option linter.all false
set_option autoImplicit false
set_option maxRecDepth 100000
set_option maxHeartbeats 4000000
/-! VCp: the D layer, part p: an own exception whose __init__ begins with super().__init__(..) -/
namespace VD
open PySem PySem.Spec PyProof.Rows L2

/-- the frame of such an __init__ -/
abbrev envS (qual : Str) (scope : Scope) (L f : Addr) (cdv : Value) (cc : Addr) : Env := PySem.W.ksEnv qual scope L f cdv cc
def cxS (P : Program) (w : World) (K : PySem.W.Frag) (mg : Str → Option Value) (base : Heap) (N : List Str) (qual : Str) (scope : Scope) (f : Addr) (cdv : Value) (cc : Addr) (A : Around) (outer : List Env) (s : Shared) (H : Hp) : Cx where
  prog := P
  w := w
  K := K
  mg := mg
  base := base
  A := A.deeper (envS qual scope s.heap.objs.size f cdv cc)
  N := N
  s_0 := s
  H_0 := H
  env := envS qual scope s.heap.objs.size f cdv cc
  outer := outer
  stack := envS qual scope s.heap.objs.size f cdv cc :: outer
  ex := []
  calm := true
  fn := fun x => !(x == ("__class__" : Str))
  pn := []
  xe := fun _ _ => False
/-- the scope of such a def: its names are local, but what it reads of the module, and __class__ -/
structure ScopeS (N ps : List Str) (sc : Scope) : Prop where
  kind : sc.kind = .function
  co : sc.isCoroutine = false
  gen : sc.isGenerator = false
  nd : N.Nodup
  pre : N.take ps.length = ps
  par : ∀ x ∈ ps, sc.names.lookup x = some .local
  free : ∀ y ∈ sc.names, y.2 = .free → y.1 = ("__class__" : Str)
  nocell : ∀ y ∈ sc.names, y.2 ≠ .cell
theorem binds_get : ∀ {ps : List Str} {us : List Value} {i : Nat} {y : Str} {u : Value}, ps.Nodup → ps[i]? = some y → us[i]? = some u → (ps.zip us).reverse.lookup y = some u := by
  intro ps us i y u nd hp hu
  have key : ∀ (l : List (Str × Value)), (l.map (·.1)).Nodup → (y, u) ∈ l → l.lookup y = some u := by
    intro l
    induction l with
    | nil => intro _ h; cases h
    | cons p l ih =>
      obtain ⟨a, b⟩ := p
      intro hn hm
      rw [List.map_cons, List.nodup_cons] at hn
      rcases List.mem_cons.mp hm with e | hm
      · cases e
        simp [List.lookup]
      · have ne : y ≠ a := fun e => hn.1 (by rw [← e]; exact List.mem_map.mpr ⟨(y, u), hm, rfl⟩)
        have hb : (y == a) = false := beq_eq_false_iff_ne.mpr ne
        simp only [List.lookup, hb]
        exact ih hn.2 hm
  refine key _ ?_ ?_
  · rw [List.map_reverse]
    have sub : ∀ (ps : List Str) (us : List Value), List.Sublist ((ps.zip us).map (·.1)) ps := by
      intro ps
      induction ps with
      | nil => intro us; exact List.Sublist.refl _
      | cons p ps ih =>
        intro us
        cases us with
        | nil => exact List.nil_sublist _
        | cons u us => exact (ih us).cons₂ p
    have : ((ps.zip us).map (·.1)).Nodup := nd.sublist (sub ps us)
    exact (List.reverse_perm _).nodup_iff.mpr this
  · rw [List.mem_reverse]
    obtain ⟨h1, e1⟩ := List.getElem?_eq_some_iff.mp hp
    obtain ⟨h2, e2⟩ := List.getElem?_eq_some_iff.mp hu
    refine List.mem_iff_getElem.mpr ⟨i, by simp; omega, ?_⟩
    simp [e1, e2]
theorem inv_super {P : Program} {w : World} {K : PySem.W.Frag} {mg : Str → Option Value} {base : Heap} {N ps : List Str} {qual : Str} {scope : Scope} {f cc D : Addr} {cdv cl : Value} {cld : Option Addr} {csl : Array (Option Value)} {A : Around} {outer : List Env} {s : Shared} {h1 : Heap} {H : Hp} {us : List Value} {vs : List V} {tk : Nat}
    (S : ScopeS N ps scope) (hd : A.handled = none) (e0 : Env0 P w K mg base A outer s H) (hl : vs.length = ps.length) (r : Vals vs us) (hcc : K.lookup cc = some ⟨cl, cld, .cell (some (.ref D)), csl⟩)
    (hns : h1.Ns s.heap.objs.size (fun x => (ps.zip us).reverse.lookup x)) (hk : ∀ b o, s.heap.get? b = some o → h1.get? b = some o) :
    L2.Inv (cxS P w K mg base N qual scope f cdv cc A outer s H) [] (L2.start N vs) H { s with heap := h1, toks := tk } := by
  have hcb : base.get? cc = some ⟨cl, cld, .cell (some (.ref D)), csl⟩ := e0.mod.kin cc _ hcc
  obtain ⟨hcs, hcn⟩ := e0.bs cc _ hcb
  have one : ∀ {x : Str} {c : Addr}, ([("__class__", cc)] : List (Str × Addr)).lookup x = some c → x = ("__class__" : Str) ∧ c = cc := by
    intro x c e
    rw [List.lookup] at e
    split at e
    · rename_i q
      exact ⟨beq_iff_eq.mp q, (Option.some.inj e).symm⟩
    · cases e
  have hcne : cc ≠ s.heap.objs.size := Nat.ne_of_lt (Heap.lt_size hcs)
  have nil : ∀ b : Addr, b ∉ (cxS P w K mg base N qual scope f cdv cc A outer s H).ex := fun b z => absurd (show b ∈ ([] : List Addr) from z) (by simp)
  constructor
  · constructor
    · exact e0.mod
    · exact S.kind
    · rfl
    · rfl
    · exact Nat.le_refl _
    · intro x y c a b
      rw [(one a).1, (one b).1]
    · intro x hx
      have hx : scope.names.lookup x = some .cell ∨ scope.names.lookup x = some .free := hx
      rcases hx with hx | hx
      · exact absurd rfl (S.nocell _ (PySem.mem_of_lookup hx))
      · have e := S.free _ (PySem.mem_of_lookup hx) rfl
        refine ⟨cc, ?_⟩
        show ([("__class__", cc)] : List (Str × Addr)).lookup x = some cc
        have e : x = ("__class__" : Str) := e
        rw [e]
        simp [List.lookup]
    · intro x c hf e
      have e1 := (one e).1
      have hf : (!(x == ("__class__" : Str))) = true := hf
      rw [e1] at hf
      simp at hf
    · exact fun _ => hd
    · exact Around.frames_deeper e0.frames
    · exact .inr ⟨rfl, rfl⟩
    · exact fun b z => absurd z (nil b)
    · exact e0.bs
    · exact e0.bsz
    · exact fun b _ _ => nil b
    · exact fun b z => absurd z (nil b)
    · exact e0.funs
    · exact e0.frf
  · rfl
  · exact e0.bare
  · exact Un.kept hk
  · refine ⟨_, hns, fun i y v a b vis => ?_⟩
    have hi : i < vs.length := by
      refine Classical.byContradiction fun n => ?_
      unfold L2.start at b
      rw [List.getElem?_append_right (by simpa using n), List.getElem?_replicate] at b
      split at b <;> cases b
    have hv : vs[i]? = some v := by
      unfold L2.start at b
      rw [List.getElem?_append_left (by simpa using hi), List.getElem?_map] at b
      cases e : vs[i]? with
      | none => rw [e] at b; cases b
      | some a => rw [e] at b; cases b; rfl
    obtain ⟨u, hu, rv⟩ := r.get hv
    have hp : ps[i]? = some y := by
      rw [← S.pre, List.getElem?_take_of_lt (by omega)]; exact a
    have ndp : ps.Nodup := by rw [← S.pre]; exact S.nd.sublist (List.take_sublist _ _)
    exact ⟨u, rv, .inl ⟨S.par y (List.mem_of_getElem? hp), binds_get ndp hp hu⟩⟩
  · intro x c e
    rw [(one e).2]
    exact ⟨_, _, hk _ _ hcs, rfl⟩
  · exact e0.hok.fresh (Nat.le_refl _)
  · intro x c e
    rw [(one e).2]
    exact hcn
  · exact fun p hp => absurd (show p ∈ ([] : List (Addr × Obj)) from hp) (by simp)
  · exact e0.hok.kept hk
  · have hpl : ps.length ≤ N.length := by
      have := congrArg List.length S.pre
      rw [List.length_take] at this
      omega
    unfold L2.start
    show _ = N.length
    rw [List.length_append, List.length_map, List.length_replicate]
    omega
/-! ### super().__init__(x) -/
section
variable {P : Program} {w : World} {K : PySem.W.Frag} {mg : Str → Option Value} {base : Heap} {N ps : List Str} {name qual : Str} {params : Arguments} {scope : Scope} {f cc D cda : Addr} {cdv dV kV doc pm ct oc cl : Value} {an od cld : Option Addr} {csl osl : Array (Option Value)}
  {A : Around} {outer : List Env} {s0 s : Shared} {H0 H : Hp} {pins : List (Addr × Obj)} {σ : L2.St}
/-- what the module says of the def and its class -/
structure SupC (P : Program) (K : PySem.W.Frag) (mg : Str → Option Value) (f cc D : Addr) (cdv : Value) (scope : Scope) (me : Str) : Prop where
  oex : OexC K D
  fn : ∃ oc od fd osl ar, K.lookup f = some ⟨oc, od, .func fd, osl⟩ ∧ (fd.params.posonlyargs ++ fd.params.args).head? = some ar ∧ ar.arg = me
  cell : ∃ cl cld csl, K.lookup cc = some ⟨cl, cld, .cell (some (.ref D)), csl⟩
  code : ∃ cda ccl cdd vs ccs file tf, cdv = .ref cda ∧ K.lookup cda = some ⟨ccl, cdd, .fields vs, ccs⟩ ∧ vs[2]? = some (.str file tf) ∧ ((P.main.file : Str) == file) = true
  cls : ∃ cd, PySem.W.clsIn K D = some cd
  sub : PySem.W.mroIn K D (.ref D) = some true
  sup : mg "super" = none
  hks : scope.names.lookup ("super" : Str) = some .globalImplicit
  hkc : scope.names.lookup ("__class__" : Str) = some .free
  hka : scope.names.lookup me = some .local
  top : (P.main.scope.names.lookup ("super" : Str)).isSome = false
  opq : PySem.W.nsIn K cStatics "thirdparty.any" = some none
  sin : PySem.W.ks_superIn K D D "__init__" = some (some (.builtin "ValueError.__init__"))
  bve : PySem.W.subIn K (.ref D) (.type "ValueError") = some true
theorem super_base {self : Str} {body : List Stmt} {p0 p1 : Pos} {whole : Sem Value} {Q : Value → Shared → Prop} {E : Value → Shared → Prop} {a : Addr} (T : SupC P K mg f cc D cdv scope self) (hk : scope.kind = .function)
    (I : L2.Inv (cxS P w K mg base N qual scope f cdv cc A outer s0 H0) pins σ H s) (hself : N[0]? = some self) (hs : σ[0]? = some (some (.ref a))) (ha : H a = some (exo a D none))
    (h : ∀ so h', h'.get? so = some (PySem.W.ks_superObj D a D) → L2.Inv (cxS P w K mg base N qual scope f cdv cc A outer s0 H0) pins σ H { s with heap := h' } → Q (.ref so) { s with heap := h' }) :
    _root_.PySem.wpAt (model P w) (A.deeper (envS qual scope s0.heap.objs.size f cdv cc)) (.func body (envS qual scope s0.heap.objs.size f cdv cc)) (attributeBase (.Call (.Name "super" p0) [] [] p1) "__init__" (envS qual scope s0.heap.objs.size f cdv cc) whole) Q E s := by
  obtain ⟨oc, od, fd, osl, ar, hf, hp, har⟩ := T.fn
  obtain ⟨cl, cld, csl, hcell⟩ := T.cell
  obtain ⟨cda, ccl, cdd, vs, ccs, file, tf, rfl, hcode, hvs, hfile⟩ := T.code
  obtain ⟨cd, hcd⟩ := T.cls
  obtain ⟨t1, hoa⟩ := exo_at I.hok ha
  obtain ⟨m, hns, hl⟩ := I.loc
  have XK := I.kIn
  obtain ⟨oD, hD1, hD2⟩ : ∃ oD, s.heap.get? D = some oD ∧ oD.data = .cls cd := by
    unfold PySem.W.clsIn at hcd
    split at hcd
    · rename_i c d cd' sl ho
      cases hcd
      exact ⟨_, XK _ _ ho, rfl⟩
    · cases hcd
  have vis : Vis scope self := .inl T.hka
  obtain ⟨u, ru, lk⟩ := hl 0 self (.ref a) hself hs vis
  obtain rfl : u = .ref a := ru
  have hm : m self = some (.ref a) := by
    rcases lk with ⟨_, e⟩ | ⟨e, _⟩
    · exact e
    · have e : scope.names.lookup self = some .cell ∨ scope.names.lookup self = some .free := e
      rw [T.hka] at e
      rcases e with e | e <;> cases e
  obtain ⟨mb, hmb, hbb⟩ := I.mod.blt
  obtain ⟨hp0, g, d, t, os⟩ := s
  refine PySem.ks_wpAt_super_base (env := envS qual scope s0.heap.objs.size f (.ref cda) cc) T.hks T.hkc (by decide) rfl (XK _ _ hf) rfl hp rfl (XK _ _ hcode) rfl hvs hfile T.top ?_
  refine PySem.W.ks_loadName_global hk T.hks (Calls.loadGlobal_builtin (env := envS qual scope s0.heap.objs.size f (.ref cda) cc) (I.mod.glob.keeps I.bk) T.sup (hmb.keeps I.bk) ((hbb _ (by decide +kernel)).trans (by first | rfl | kernel_rfl)) ⟨rfl, ?_⟩)
  refine wpAny_loadName_free hk T.hkc rfl ⟨_, XK _ _ hcell, rfl⟩ ?_
  rw [har]
  refine wpAny_loadName_local hk T.hka hns hm ?_
  refine PySem.ks_wpAny_isType_cls hD1 hD2 ⟨rfl, ?_⟩
  refine PySem.ks_wpAny_call_super hD1 hD2 hoa rfl (fun c e => ?_) (PySem.W.looks_mroIn XK T.sub) (fun h' e k => ?_)
  · cases e
  · exact h _ h' e (I.kept (t' := t) k)
/-- the bound built-in __init__, called -/
theorem call_mw {M : Program} {A' : Around} {E : Value → Shared → Prop} {h : Heap} {g : Array GenState} {d : Drawn} {t : Nat} {os : OsState} {C e u t0 N0 : Addr} {nm q : Str} {bs bm : List Value} {sn : List Str} {sub : List Value} {ab : Bool} {col : Option Bool} {dd : Option Addr} {k0 k1 k2 k3 k5 : Option Value} {rest : List Value} {Q : Value → Shared → Prop}
    (hC : h.get? C = some (excClassObj nm q C N0 bs bm true sn sub ab col dd k0 k1 k2 k3 k5 "ValueError.__new__")) (he : h.get? e = some (PySem.W.excObj C t0 none .none)) (hu : h.get? u = some (PySem.W.kxs_mw "ValueError.__init__" e)) (hz : rest.length ≤ sizeLine)
    (hq : ∀ h', (∀ b o, b ≠ e → h.get? b = some o → h'.get? b = some o) → h'.get? e = some (PySem.W.excObj C h.objs.size none .none) → Q .none ⟨h', g, d, t, os⟩) : wpAny (model M w) A' (call (.ref u) rest) Q E ⟨h, g, d, t, os⟩ := by
  have FB := PySem.F.excBase_ValueError
  refine wpAny_call (codeAny_of_tree ?_)
  show wpAny _ A'.in1 (callAny (.ref u) ⟨rest, []⟩) _ _ _
  simp only [callAny]
  refine wpAny_bind (wpAny_load hu ?_)
  simp only [PySem.W.kxs_mw, show (Value.type "method-wrapper" == Value.type "method" || Value.type "method-wrapper" == Value.type "builtin_function_or_method" || Value.type "method-wrapper" == Value.type "method-wrapper") = true by decide, if_true]
  refine PySem.W.KFB.if_so (by decide) ?_
  refine wpAny_bind (PySem.W.check_bound_init FB.toExcCallFacts hC he rfl ?_)
  refine wpAny_bind (wpAny_pure (wpAny_pure ?_))
  refine ⟨plainId_quiet FB.init.plain _, codeAny_builtin FB.initEntry ?_⟩
  exact PySem.W.exc_init_tree (cls := .ref C) (t0 := t0) (dv := none) (c2 := .none) (c3 := .none) (b4 := .bool false) he hz fun h' k e' _ => hq h' k e'
/-- a method's call on super(), its arguments plain and few, on one line -/
theorem evalCallSup {o : PySem.Expr} {fname : Str} {apos pos : Pos} {args : List PySem.Expr} {env : Env} (hn : noStars args = true) (hl : (apos.endLine == pos.line) = true) (hf : args.length < 30) :
    eval (.Call (.Attribute o fname apos) args [] pos) env = (do
      let ov ← attributeBase o fname env (eval o env)
      standAt apos.atName
      let (f, first) ← holding [ov] (getMethod ov fname (do return (← importBound o env).getD true))
      callWith pos f first (backTo pos (starEach args env)) []) := by
  have hform : methodCallForm (args.length + ([] : List Keyword).length) (backTo pos (starEach args env)) (backToKw pos (keywordEach [] env)) = true := by
    unfold methodCallForm
    rw [star_all pos hn]
    show (true && true && decide (args.length + 0 + 0 < 30)) = true
    simp [hf]
  rw [arm_eval_Call]
  unfold methodCall
  rw [hform]
  unfold calleeOf methodCallPos
  simp only [Bool.not_true, hl, Bool.or_true, Bool.false_or, if_true]
  rfl
/-- super().__init__(e), evaluated in such a frame -/
theorem super_eval {self : Str} {body : List Stmt} {p0 p1 apos pos : Pos} {earg : PySem.Expr} {ta : TA} {Q : Value → Shared → Prop} {a : Addr} {R : Hp → Prop} (T : SupC P K mg f cc D cdv scope self) (hk : scope.kind = .function)
    (I : L2.Inv (cxS P w K mg base N qual scope f cdv cc A outer s0 H0) [] σ H s) (hself : N[0]? = some self) (hs : σ[0]? = some (some (.ref a))) (ha : H a = some (exo a D none))
    (hpa : PA (cxS P w K mg base N qual scope f cdv cc A outer s0 H0) [earg] ta) (hn : isStar earg = false) (hl : (apos.endLine == pos.line) = true)
    (ht : ta σ H (fun vs H1 => vs.length = 1 ∧ H1 a = some (exo a D none) ∧ R H1))
    (h : ∀ s' H1, L2.Inv (cxS P w K mg base N qual scope f cdv cc A outer s0 H0) [] σ H1 s' → H1 a = some (exo a D none) → R H1 → Q .none s') :
    _root_.PySem.wpAt (model P w) (A.deeper (envS qual scope s0.heap.objs.size f cdv cc)) (.func body (envS qual scope s0.heap.objs.size f cdv cc))
      (eval (.Call (.Attribute (.Call (.Name "super" p0) [] [] p1) "__init__" apos) [earg] [] pos) (envS qual scope s0.heap.objs.size f cdv cc)) Q (fun _ _ => False) s := by
  have hn1 : noStars [earg] = true := by unfold noStars noStars; rw [hn]; rfl
  refine PySem.ks_wpAt_MethodCall (pl := (do return (← importBound (.Call (.Name "super" p0) [] [] p1) (envS qual scope s0.heap.objs.size f cdv cc)).getD true)) ?_ (evalCallSup hn1 hl (by simp))
  refine super_base T hk I hself hs ha fun so h' hso I1 => ?_
  obtain ⟨nm, q, N0, bs, bm, sn, sub, ab, col, dd, k0, k1, k2, k3, k5, hC, hbm⟩ := T.oex.cls
  obtain ⟨cd, hcd⟩ := T.cls
  have XK := I1.kIn
  obtain ⟨t1, hoa⟩ := exo_at I1.hok ha
  have ty : ∀ (M : Model), PySem.W.Looks M h' (typeOf (.ref a)) (.ref D) := fun M => (PySem.W.Looks.ld hoa).andThen .now
  have hne : a ≠ D := by
    intro e
    subst e
    have e1 := XK _ _ hC
    rw [show h'.get? a = _ from hoa] at e1
    cases e1
  have hsin : PySem.W.alongIn K "__init__" ((cd.mro.dropWhile (· != .ref D)).drop 1) = some (some (.builtin "ValueError.__init__")) := by
    have := T.sin
    unfold PySem.W.ks_superIn at this
    rw [hcd] at this
    exact this
  obtain ⟨hp, g, d, t, os⟩ := s
  refine PySem.W.kxs_getMethod PySem.W.kxs_ValueError hso (PySem.W.looks_opaque XK T.opq) (l₀ := cd.mro) (fun A' Q' E' s' k q' => wpAny_bind ((PySem.W.looks_clsIn XK hcd) A' _ E' s' k (wpAny_pure q'))) rfl XK hsin ((ty _).andThen (PySem.W.looks_subIn XK T.bve)) hne (by decide) ?_
  have I2 : L2.Inv (cxS P w K mg base N qual scope f cdv cc A outer s0 H0) [] σ H ⟨h'.push (PySem.W.kxs_mw "ValueError.__init__" a), g, d, t + 1, os⟩ := I1.kept (t' := t + 1) fun b o e => Heap.get?_push_of_some _ e
  have hfresh : H h'.objs.size = none := I1.hok.fresh (Nat.le_refl _)
  have fp := I1.fpOk (b := h'.objs.size) (Nat.le_refl _) hfresh
  have I3 : L2.Inv (cxS P w K mg base N qual scope f cdv cc A outer s0 H0) [(h'.objs.size, PySem.W.kxs_mw "ValueError.__init__" a)] σ H ⟨h'.push (PySem.W.kxs_mw "ValueError.__init__" a), g, d, t + 1, os⟩ := I2.pins_of fun p hp => by
    rw [List.mem_singleton.mp hp]
    exact ⟨Heap.get?_push_at rfl rfl, hfresh, fp.2.1, fp.2.2.1, fun v e => nomatch e⟩
  have hA := hpa.run pos _ _ σ H _ I3 ht
  rw [star_cons hn] at hA ⊢
  refine PySem.W.kxs_callWith (i := "ValueError.__init__") (x := a) (by rfl) (Calls.evalArgs_plain ?_)
  refine wpAny_mono hA (fun us s2 ⟨vs, H2, I4, rv, hlen, ha2, r2⟩ => ?_) fun _ _ z => z
  have hmw := (I4.pin (h'.objs.size, PySem.W.kxs_mw "ValueError.__init__" a) (by simp)).1
  refine ⟨hmw, ?_⟩
  obtain ⟨t2, hoa2⟩ := exo_at I4.hok ha2
  have hz : us.length ≤ sizeLine := by rw [← Paired.length rv, hlen]; exact sl_le (by decide)
  have I5 : L2.Inv (cxS P w K mg base N qual scope f cdv cc A outer s0 H0) [] σ H2 s2 := I4.pins_of fun p hp => nomatch hp
  have hC2 := I5.kIn _ _ hC
  obtain ⟨hp2, g2, d2, tk2, os2⟩ := s2
  show wpAny _ _ (call (.ref h'.objs.size) ([] ++ us)) _ _ _
  rw [List.nil_append]
  refine call_mw hC2 hoa2 hmw hz fun h3 k3 hx => ?_
  have J := I5.write (t' := tk2) (x := a) (e := a) (o := exo a D none) (by rw [ha2]; exact True.intro) (.inl rfl) k3 ⟨_, hx⟩ (exo_ok hx)
  have eu : upd H2 a (exo a D none) = H2 := by
    funext b
    by_cases hb : b = a
    · rw [hb, upd_same, ha2]
    · rw [upd_ne hb]
  rw [eu] at J
  exact h _ H2 J ha2 r2
/-- the promise of such an __init__ -/
def spSup (D : Nat) (N ps : List Str) (ta : TA) (t : TS) : Sp := fun vs H Q _ => vs.length = ps.length ∧ ∃ a, vs.head? = some (.ref a) ∧ H a = some (exo a D none) ∧
  ta (L2.start N vs) H (fun us H1 => us.length = 1 ∧ H1 a = some (exo a D none) ∧ t { nx := fun _ H' => Q .non H', rt := Q } (L2.start N vs) H1)
theorem fn_super {self : Str} {p0 p1 apos pos pE : Pos} {earg : PySem.Expr} {rest : List Stmt} {ta : TA} {t : TS} {k : Nat} (lk : K.lookup f = some ⟨oc, od, .func (PySem.W.ksFn name qual params (.Expr (.Call (.Attribute (.Call (.Name "super" p0) [] [] p1) "__init__" apos) [earg] [] pos) pE :: rest) scope dV kV doc pm an cdv ct cc), osl⟩)
    (hcd : PySem.W.codeIn K cdv qual = true) (S : ScopeS N ps scope) (T : SupC P K mg f cc D cdv scope self) (hself : N[0]? = some self) (hn : isStar earg = false) (hl : (apos.endLine == pos.line) = true)
    (hpa : ∀ (A : Around) (outer : List Env) (s : Shared) (H : Hp), PA (cxS P w K mg base N qual scope f cdv cc A outer s H) [earg] ta) (hrest : ∀ (A : Around) (outer : List Env) (s : Shared) (H : Hp), PSs (cxS P w K mg base N qual scope f cdv cc A outer s H) rest t) :
    FnOk P w K mg base (L2.CX P w) (k + 1) f (PySem.W.ksFn name qual params (.Expr (.Call (.Attribute (.Call (.Name "super" p0) [] [] p1) "__init__" apos) [earg] [] pos) pE :: rest) scope dV kV doc pm an cdv ct cc) ps (spSup D N ps ta t) := by
  refine ⟨fun vs H Q E h => h.1, fun A outer s H args us vs Q E hr e0 hb r hsp => ?_⟩
  obtain ⟨hlen, a, hva, ha, hta⟩ := hsp
  have KX : K.In s.heap := e0.mod.kin.keeps fun b o e => (e0.bs b o e).1
  have lim : s.heap.NoLimit := e0.mod.nolimit.keeps fun b o e => (e0.bs b o e).1
  obtain ⟨cl', cld', csl', hcell⟩ := T.cell
  have hs0 : (L2.start N vs)[0]? = some (some (.ref a)) := by
    cases vs with
    | nil => cases hva
    | cons v vs => cases hva; rfl
  refine PySem.ks_codeAny_call_defAt (fd := PySem.W.ksFn name qual params (.Expr (.Call (.Attribute (.Call (.Name "super" p0) [] [] p1) "__init__" apos) [earg] [] pos) pE :: rest) scope dV kV doc pm an cdv ct cc) hr.depth (KX _ _ lk) rfl lim (PySem.W.codeRec_of KX hcd) rfl hb S.nocell
    (fun y hy => S.par y.1 (List.of_mem_zip (show (y.1, y.2) ∈ ps.zip us from hy)).1) (fun h₁ hns hk => ?_) S.co S.gen S.kind
  have I := inv_super (P := P) (w := w) (f := f) (qual := qual) (cdv := cdv) (tk := s.toks + (ps.zip us).length) S hr.hd e0 hlen r hcell hns hk
  show _root_.PySem.wpAt (model P w) (A.deeper (envS qual scope s.heap.objs.size f cdv cc)) (.func _ (envS qual scope s.heap.objs.size f cdv cc)) (execs _ (envS qual scope s.heap.objs.size f cdv cc)) _ _ _
  refine PySem.ks_wpAt_mono (Q := SP (cxS P w K mg base N qual scope f cdv cc A outer s H) [] { nx := fun _ H' => Q .non H', rt := Q }) (E := fun _ _ => False) (PySem.ks_wpAt_execs_cons (PySem.ks_wpAt_Expr_any (super_eval (R := fun H1 => t { nx := fun _ H' => Q .non H', rt := Q } (L2.start N vs) H1) T S.kind I hself hs0 ha (hpa A outer s H) hn hl hta fun s' H1 J _ ht => ?_) (by simp [interactive, S.kind]) rfl)) (fun fl s' hs => ?_) fun _ _ z => z.elim
  · exact wpAt_of_wpAny ((hrest A outer s H).run [] s' (L2.start N vs) H1 _ J ht)
  · have fin : ∀ {σ' : L2.St} {H' : Hp} {v : V} {u : Value}, L2.Inv (cxS P w K mg base N qual scope f cdv cc A outer s H) [] σ' H' s' → RelV v u → Q v H' → CE outer P w H s Q u s' := fun {σ' H' v u} J rv q => ⟨v, H', J.os, J.bare, J.base, J.hok, rv, q⟩
    match fl, hs with
    | .ret u, ⟨v, σ', H', J, rv, q⟩ => exact fin J rv q
    | .next, ⟨σ', H', J, q⟩ => exact fin (v := V.non) (u := Value.none) J rfl q
    | .brk, ⟨_, _, _, q⟩ => exact False.elim q
    | .cont, ⟨_, _, _, q⟩ => exact False.elim q
end
end VD

set_option Elab.async false
set_option linter.all false
set_option autoImplicit false
set_option maxRecDepth 100000
set_option maxHeartbeats 4000000
/-! VCr: the D layer, part r: raising an own exception of one field, its __init__ saying super().__init__(f'..{x}') -/
namespace VD
open PySem PySem.Spec PyProof.Rows L2
theorem pmkImp {X : Cx} {e : PySem.Expr} {t t' : L2.St → Hp → XK → Prop} (h : PMk X e t) (i : ∀ σ H Q, t' σ H Q → t σ H Q) : PMk X e t' := fun pins s σ H Q I q => h pins s σ H Q I (i σ H Q q)
/-- a datum that an f-string shows -/
def okF (d : D) : Prop := (∃ p, d = .int p ∧ p.natAbs.log2 < 1920) ∨ ∃ s : String, d = .str s ∧ s.length ≤ 1000
theorem joined_len (pre y : Str) (h1 : pre.length ≤ 1000) (h2 : y.length ≤ 1000000) : (Str.empty ++ pre).length ≤ sizeLine ∧ ((Str.empty ++ pre) ++ y).length ≤ sizeLine := by
  have e : (Str.empty ++ pre).length = pre.length := by rw [strLen_append]; exact Nat.zero_add _
  refine ⟨by rw [e]; exact sl_le (by omega), ?_⟩
  rw [strLen_append, e]
  have := sizeLine_eq
  omega
theorem int_len {p : Int} (h : p.natAbs.log2 < 1920) : (Str.ofString (toString p)).length ≤ 1000000 := by
  have hp : p.natAbs < 10 ^ 579 := by
    have h1 : p.natAbs < 2 ^ 1920 := by
      by_cases hz : p.natAbs = 0
      · rw [hz]; exact Nat.pos_of_ne_zero (by decide +kernel)
      · exact (Nat.log2_lt hz).mp h
    exact Nat.lt_trans h1 (by decide +kernel)
  rcases Int.le_total 0 p with h0 | h0
  · exact Nat.le_trans (toString_length_le h0 (k := 579) (by decide) (by omega)) (by decide)
  · cases p with
    | ofNat n => exact Nat.le_trans (toString_length_le (Int.natCast_nonneg n) (k := 579) (by decide) (by have h2 : n < 10 ^ 579 := hp; show (n : Int) < 10 ^ 579; omega)) (by decide)
    | negSucc n =>
      have e : toString (Int.negSucc n) = "-" ++ toString (n + 1) := rfl
      rw [e, ← ofString_append, strLen_append]
      have := toString_length_le (v := ((n + 1 : Nat) : Int)) (by omega) (k := 579) (by decide) (by have : (Int.negSucc n).natAbs = n + 1 := rfl; omega)
      have e2 : toString (((n + 1 : Nat) : Int)) = toString (n + 1) := rfl
      rw [e2] at this
      have e3 : (Str.ofString "-").length = 1 := rfl
      omega
theorem mk_Malformed_ok (ds : List D) (fs : List (String × D)) (h : mk_Malformed ds = some fs) : ∃ d, ds = [d] ∧ fs = [("place", d)] ∧ okF d := by
  match ds, h with
  | [d], h =>
    cases d with
    | int p =>
      have h : (if p.natAbs.log2 < 1920 then some [("place", D.int p)] else none) = some fs := h
      split at h
      · rename_i hp
        cases h
        exact ⟨_, rfl, rfl, .inl ⟨p, rfl, hp⟩⟩
      · cases h
    | _ => cases h
  | [], h => cases h
  | _ :: _ :: _, h => cases h
theorem exIs_one {G : Wo} {cn x f qual name : String} {C fI cc : Nat} {pre : Str} {scope : Scope} {params : Arguments} {kV doc pm cdv ct oc : Value} {an od : Option Addr} {osl : Array (Option Value)} {p0 p1 apos pos pE q0 q1 q2 q3 q4 q5 q6 q7 : Pos} {j : Nat} {mkf : List D → Option (List (String × D))}
    (hm : G.mg (Str.ofString cn) = some (.ref C)) (T : SupC G.P G.K G.mg fI cc C cdv scope "self") (iC : PySem.W.findIn G.K (.ref C) "__init__" = some (some (.ref fI))) (tI : PySem.W.typeIn G.K (.ref fI) = some (.type "function"))
    (lk : G.K.lookup fI = some ⟨oc, od, .func (PySem.W.ksFn (Str.ofString name) (Str.ofString qual) params (.Expr (.Call (.Attribute (.Call (.Name "super" p0) [] [] p1) "__init__" apos) [.JoinedStr [.Constant (.str pre) j q0, .FormattedValue (.Name (Str.ofString x) q1) (-1) none q2] q3] [] pos) pE ::
      [.Assign [.Attribute (.Name "self" q4) (Str.ofString f) q5] (.Name (Str.ofString x) q6) q7]) scope .none kV doc pm an cdv ct cc), osl⟩)
    (hcd : PySem.W.codeIn G.K cdv (Str.ofString qual) = true) (S : ScopeS ["self", Str.ofString x] ["self", Str.ofString x] scope) (hno : PySem.W.findIn G.K (.ref C) (Str.ofString f) = some none) (hpre : pre.length ≤ 1000) (hl : (apos.endLine == pos.line) = true)
    (hbi : ∀ us : List Value, us.length = 2 → bindArgs (PySem.W.ksFn (Str.ofString name) (Str.ofString qual) params (.Expr (.Call (.Attribute (.Call (.Name "super" p0) [] [] p1) "__init__" apos) [.JoinedStr [.Constant (.str pre) j q0, .FormattedValue (.Name (Str.ofString x) q1) (-1) none q2] q3] [] pos) pE ::
      [.Assign [.Attribute (.Name "self" q4) (Str.ofString f) q5] (.Name (Str.ofString x) q6) q7]) scope .none kV doc pm an cdv ct cc) ⟨us, []⟩ = pure (([Str.ofString "self", Str.ofString x] : List Str).zip us))
    (hself : (Str.ofString "self" == ("__debug__" : Str)) = false) (hself2 : (Str.ofString "self" == ("__classdict__" : Str)) = false) (hx1 : (Str.ofString x == ("__debug__" : Str)) = false) (hx2 : (Str.ofString x == ("__classdict__" : Str)) = false) (hcn : (Str.ofString cn == ("__debug__" : Str)) = false)
    (hmk : ∀ ds fs, mkf ds = some fs → ∃ d, ds = [d] ∧ fs = [(f, d)] ∧ okF d) : ExIs G cn C mkf := by
  constructor
  intro X e es t p pos' sd hg ha hns eG
  subst eG
  have vself : Vis scope "self" := .inl T.hka
  have vx : Vis scope (Str.ofString x) := .inl (S.par _ (by simp))
  have F1 := fn_super (P := X.prog) (w := X.w) (base := X.base) (k := 1) (N := ["self", Str.ofString x]) (ps := ["self", Str.ofString x]) lk hcd S T rfl rfl hl
    (ta := tCons (fun σ H Q => tJs [tC (.str pre), tFmt (tVar 1)] Str.empty σ H fun out H1 => Q (.str out) H1) tNil) (t := tOst X.K (Str.ofString f) (tVar 0) (tVar 1))
    (fun A outer s H => pa_cons (pe_joined (.cons pe_str (.cons (pe_fmt (pe_var (i := 1) rfl vx hx1 hx2)) .nil))) pa_nil)
    (fun A outer s H => pss_one (ps_ost (pe_var (i := 0) rfl vself hself hself2) (pe_var (i := 1) rfl vx hx1 hx2)))
  have hn2 : isStar e = false ∧ noStars es = true := by unfold noStars at hns; rw [Bool.and_eq_true, Bool.not_eq_true'] at hns; exact hns
  refine ⟨fun pins s σ H Q I hw => ?_⟩
  obtain ⟨δ, Sd, Y, hsl, hst, ht, hq⟩ := hw
  -- the arguments are read where what they raise is not wished for: as the rule of raising asks
  have hA := ha.ok (fun _ _ _ _ => False) (fun u s' ⟨_, _, _, _, _, _, _, _, _, _, _, _, _, _, _, _, z⟩ => z.elim)
  refine pmk_oex (CX := L2.CX X.prog X.w) T.oex iC tI F1 (sd.rm.room.mono (by decide)) (.all fun us hl => hbi us hl) .nil (fun pins σ H s e s' _ ⟨_, _, _, _, _, _, _, _, _, _, _, _, z⟩ => z.elim) hg hm hA hcn (star_cons hn2.1) (star_any pos' hn2.2) pins s σ H Q I ?_
  refine ⟨δ, Sd, _, NoX, hsl, hst, ht, fun ds S1 vs H1 p1 g1 s1 q1 => ?_, fun _ _ _ _ y => y.elim⟩
  split at p1
  · rename_i fs efs
    obtain ⟨d, rfl, rfl, hok⟩ := hmk _ _ efs
    obtain ⟨v, rfl, hv⟩ := one_dat q1
    refine ⟨by simp, fun a na => ⟨rfl, a, rfl, upd_same, ?_⟩⟩
    have show_ : ∃ y : Str, y.length ≤ 1000000 ∧ ((∃ z : Str, v = .str z ∧ z.length ≤ sizeLine ∧ z = y) ∨ ∃ i : Int, v = .int i ∧ i.natAbs.log2 < 1920 ∧ Str.ofString (toString i) = y) := by
      rcases hok with ⟨p, rfl, hp⟩ | ⟨z, rfl, hz⟩
      · exact ⟨_, int_len hp, .inr ⟨p, dint hv, hp, rfl⟩⟩
      · exact ⟨Str.ofString z, by rw [ofString_length]; omega, .inl ⟨_, dstr hv, by rw [ofString_length]; exact sl_le (by omega), rfl⟩⟩
    obtain ⟨y, hy, hcase⟩ := show_
    obtain ⟨j1, j2⟩ := joined_len pre y hpre hy
    have tail : ([V.str (Str.empty ++ pre ++ y)].length = 1 ∧ upd H1 a (exo a C none) a = some (exo a C none) ∧
        tOst X.K (Str.ofString f) (tVar 0) (tVar 1) { nx := fun _ H' => (fun v H2 => v = .non ∧ ∃ (d : Addr) (fs : List (Str × V)), H2 a = some (exo a C (some d)) ∧ H2 d = some (exd d fs) ∧ H1 d = none ∧ Q (.ref C) (some d) (upd (del H2 a) d (.xd fs))) V.non H', rt := fun v H2 => v = .non ∧ ∃ (d : Addr) (fs : List (Str × V)), H2 a = some (exo a C (some d)) ∧ H2 d = some (exd d fs) ∧ H1 d = none ∧ Q (.ref C) (some d) (upd (del H2 a) d (.xd fs)) } (L2.start ["self", Str.ofString x] [.ref a, v]) (upd H1 a (exo a C none))) := by
      refine ⟨rfl, upd_same, v, rfl, .ref a, rfl, a, C, rfl, T.oex, hno, .inl ⟨upd_same, fun dx ndx dne => ?_⟩⟩
      have n1 : H1 dx = none := by rw [upd_ne dne] at ndx; exact ndx
      refine ⟨rfl, dx, [(Str.ofString f, v)], upd_same, by rw [upd_ne dne, upd_same], n1, ?_⟩
      have eH : upd (del (upd (upd (upd H1 a (exo a C none)) dx (exd dx [(Str.ofString f, v)])) a (exo a C (some dx))) a) dx (.xd [(Str.ofString f, v)]) = upd H1 dx (.xd [(Str.ofString f, v)]) := by
        funext b
        by_cases hb : b = dx
        · subst hb; rw [upd_same, upd_same]
        · rw [upd_ne hb, upd_ne hb]
          by_cases hba : b = a
          · subst hba; rw [del_same]; exact na.symm
          · rw [del_ne hba, upd_ne hba, upd_ne hb, upd_ne hba]
      rw [eH]
      have g2 : Gr X.K H1 (upd H1 dx (.xd [(Str.ofString f, v)])) := gr_new n1
      refine hq (.ref C) (some dx) _ _ (p1 dx (s1.fresh n1)) (g1.trans g2) (s1.newUp n1 ⟨_, upd_same, ?_⟩)
      exact ⟨v, [], rfl, Dat.gr g2 _ hv, rfl⟩
    refine ⟨pre, rfl, j1, v, rfl, ?_⟩
    rcases hcase with ⟨z, rfl, hz, rfl⟩ | ⟨i, rfl, hi, rfl⟩
    · exact .inl ⟨z, rfl, hz, z, rfl, j2, tail⟩
    · exact .inr ⟨i, rfl, hi, _, rfl, j2, tail⟩
  · exact p1.elim
end VD

set_option Elab.async false
set_option linter.all false
set_option autoImplicit false
set_option maxRecDepth 100000
set_option maxHeartbeats 4000000
/-! VCs: the D layer, part s: what is asked of the heap behind the top -/
namespace VD
open PySem PySem.Spec PyProof.Rows L2 He

/-! ### data of the module -/
mutual
def datB (K : PySem.W.Frag) : D → Value → Bool
  | .non, u => (match u with | .none => true | _ => false)
  | .bl b, u => (match u with | .bool c => b == c | _ => false)
  | .int i, u => (match u with | .int j _ => i == j | _ => false)
  | .str s, u => (match u with | .str z _ => Str.ofString s == z | _ => false)
  | .tup ds, u => (match u with
    | .ref a => (match K.lookup a with
      | some ⟨.type c, _, .seq its _, _⟩ => decide (c = "tuple") && decide (its.size ≤ sizeLine) && datsB K ds its.toList
      | _ => false)
    | _ => false)
  | .ref a, u => (match u with | .ref b => a == b | _ => false)
  | .ty _, _ => false
  | .raw _, _ => false
def datsB (K : PySem.W.Frag) : List D → List Value → Bool
  | [], us => us.isEmpty
  | d :: ds, us => (match us with
    | u :: r => datB K d u && datsB K ds r
    | [] => false)
end
mutual
theorem datB_ok {K : PySem.W.Frag} : ∀ (d : D) {u : Value}, datB K d u = true → ∃ v, RelV v u ∧ ∀ H, Dat K H d v
  | .non, u, h => by unfold datB at h; split at h; exact ⟨.non, rfl, fun _ => mnon⟩; cases h
  | .bl b, u, h => by unfold datB at h; split at h; exact ⟨.bl b, by rw [beq_iff_eq.mp h]; rfl, fun _ => mbl⟩; cases h
  | .int i, u, h => by unfold datB at h; split at h; exact ⟨.int i, ⟨_, by rw [beq_iff_eq.mp h]⟩, fun _ => mint⟩; cases h
  | .str s, u, h => by unfold datB at h; split at h; exact ⟨.str (Str.ofString s), ⟨_, by rw [beq_iff_eq.mp h]⟩, fun _ => mstr⟩; cases h
  | .ref a, u, h => by unfold datB at h; split at h; exact ⟨.ref a, by rw [beq_iff_eq.mp h]; rfl, fun _ => mref⟩; cases h
  | .ty _, u, h => by unfold datB at h; cases h
  | .raw _, u, h => by unfold datB at h; cases h
  | .tup ds, u, h => by
    unfold datB at h
    split at h
    · rename_i a
      split at h
      · rename_i c dd its n sl e
        simp only [Bool.and_eq_true, decide_eq_true_eq] at h
        obtain ⟨⟨rfl, h2⟩, h3⟩ := h
        obtain ⟨vs, h4, h5⟩ := datsB_ok ds h3
        exact ⟨.ref a, rfl, fun H => mtup (.inr ⟨_, its, n, e, rfl, rfl, h2, h4⟩) (h5 H)⟩
      · cases h
    · cases h
theorem datsB_ok {K : PySem.W.Frag} : ∀ (ds : List D) {us : List Value}, datsB K ds us = true → ∃ vs, Vals vs us ∧ ∀ H, DatL K H ds vs
  | [], us, h => by
    unfold datsB at h
    cases us with
    | nil => exact ⟨[], .nil, fun _ => DatL.nil⟩
    | cons u us => cases h
  | d :: ds, us, h => by
    unfold datsB at h
    split at h
    · rw [Bool.and_eq_true] at h
      obtain ⟨v, h1, h2⟩ := datB_ok d h.1
      obtain ⟨vs, h3, h4⟩ := datsB_ok ds h.2
      exact ⟨v :: vs, .cons h1 h3, fun H => DatL.cons (h2 H) (h4 H)⟩
    · cases h
end
/-- the module's name x is the datum d -/
def gloB (K : PySem.W.Frag) (x : Str) (d : D) : Bool := match PySem.W.nsIn K mainGlobals x with
  | some (some u) => datB K d u
  | _ => false
theorem gloB_ok {K : PySem.W.Frag} {h : Heap} {mg : Str → Option Value} (X : K.In h) (G : h.Ns mainGlobals mg) {x : Str} {d : D} (c : gloB K x d = true) : GloIs K mg x d := by
  unfold gloB at c
  split at c
  · rename_i u e
    obtain ⟨v, h1, h2⟩ := datB_ok d c
    exact ⟨u, v, PySem.W.mg_of X G e, h1, h2⟩
  · cases c
/-- a tuple of the module without a dict of its own -/
def gloTB (K : PySem.W.Frag) (x : Str) (ds : List D) : Bool := match PySem.W.nsIn K mainGlobals x with
  | some (some (.ref a)) => (match K.lookup a with
    | some ⟨.type c, none, .seq its _, _⟩ => decide (c = "tuple") && decide (its.size ≤ sizeLine) && datsB K ds its.toList
    | _ => false)
  | _ => false
theorem gloTB_ok {K : PySem.W.Frag} {h : Heap} {mg : Str → Option Value} (X : K.In h) (G : h.Ns mainGlobals mg) {x : Str} {ds : List D} (c : gloTB K x ds = true) : GloT K mg x ds := by
  unfold gloTB at c
  split at c
  · rename_i a e
    split at c
    · rename_i c' its n sl e2
      simp only [Bool.and_eq_true, decide_eq_true_eq] at c
      obtain ⟨⟨rfl, h2⟩, h3⟩ := c
      obtain ⟨vs, h4, h5⟩ := datsB_ok ds h3
      exact ⟨a, _, vs, PySem.W.mg_of X G e, e2, rfl, rfl, fun H => .inr ⟨_, its, n, e2, rfl, rfl, h2, h4⟩, h5⟩
    · cases c
  · cases c
/-! ### own exceptions -/
def oexB (K : PySem.W.Frag) (C : Addr) : Bool := (match K.lookup C with
  | some ⟨.type "type", _, .cls cd, sl⟩ => (match cd.mro, sl.toList with
    | .ref C' :: bm, [_, _, _, _, some (.builtin n), _] => C' == C && n == "ValueError.__new__" && !cd.hasDel && cd.hasDict && PySem.HandSPX.refsVE bm
    | _, _ => false)
  | _ => false) && (eqO (PySem.W.findIn K (.ref C) "__setattr__") (some (some (.builtin "object.__setattr__"))) && (decide (PySem.W.subIn K (.ref C) (.type "BaseException") = some true) && (decide (PySem.W.typeIn K (.ref C) = some (.type "type")) && PySem.W.keepIn K (.ref C))))
theorem oexB_ok {K : PySem.W.Frag} {C : Addr} (q : oexB K C = true) : OexC K C := by
  unfold oexB at q
  obtain ⟨q1, q⟩ := ba q
  obtain ⟨q2, q⟩ := ba q
  obtain ⟨q3, q⟩ := ba q
  obtain ⟨q4, q5⟩ := ba q
  refine ⟨?_, eqO_ok q2, of_decide_eq_true q3, of_decide_eq_true q4, q5⟩
  split at q1
  · rename_i dd cd sl ho
    split at q1
    · rename_i C' bm k0 k1 k2 k3 n k5 hm hs
      simp only [Bool.and_eq_true, beq_iff_eq, Bool.not_eq_true'] at q1
      obtain ⟨⟨⟨⟨rfl, rfl⟩, hdel⟩, hd⟩, hr⟩ := q1
      obtain ⟨nm, bs, mro, ns, qn, hdct, sn, sub, ab, col, del⟩ := cd
      dsimp only at hm hdel hd
      subst hm hdel hd
      have es : sl = #[k0, k1, k2, k3, some (.builtin "ValueError.__new__"), k5] := Array.toList_inj.mp hs
      subst es
      exact ⟨nm, qn, ns, bs, bm, sn, sub, ab, col, dd, k0, k1, k2, k3, k5, ho, hr⟩
    · cases q1
  · cases q1
/-- a class's __init__ that closes over __class__ -/
structure ExD where
  cls : Str
  name : Str
  qual : Str
  params : Arguments
  body : List Stmt
  scope : Scope
abbrev ExW : Type := Option (Str × Str × Arguments × FuncBody × Scope × Addr × List Str × Addr)
def ExD.val (d : ExD) : ExW := some (d.name, d.qual, d.params, .stmts d.body, d.scope, mainGlobals, ["__class__"], builtinsNs)
def exW (K : PySem.W.Frag) (x : Str) : ExW := match K.lookup (ma K (ga K x) "__init__") with
  | some ⟨_, _, .func fd, _⟩ => some (fd.name, fd.qualname, fd.params, fd.body, fd.scope, fd.globals, fd.closure.map (·.1), fd.builtins)
  | _ => none
def isNone : Value → Bool
  | .none => true
  | _ => false
def cellB (K : PySem.W.Frag) (C : Addr) (cl : List (Str × Addr)) : Bool := match cl with
  | [(_, cc)] => (match K.lookup cc with
    | some ⟨_, _, .cell (some (.ref D)), _⟩ => D == C
    | _ => false)
  | _ => false
def codeB (K : PySem.W.Frag) (file : Str) (c : Value) : Bool := match c with
  | .ref cda => (match K.lookup cda with
    | some ⟨_, _, .fields vs, _⟩ => (match (vs[2]? : Option Value) with
      | some (Value.str f _) => file == f
      | _ => false)
    | _ => false)
  | _ => false
def ExD.ok (K : PySem.W.Frag) (file : Str) (d : ExD) : Bool := oexB K (ga K d.cls) && (eqO (PySem.W.findIn K (.ref (ga K d.cls)) "__init__") (some (some (.ref (ma K (ga K d.cls) "__init__")))) && (decide (PySem.W.typeIn K (.ref (ma K (ga K d.cls) "__init__")) = some (.type "function")) &&
  ((match K.lookup (ma K (ga K d.cls) "__init__") with
    | some ⟨_, _, .func fd, _⟩ => PySem.W.codeIn K fd.code d.qual && (isNone fd.defaults && (cellB K (ga K d.cls) fd.closure && codeB K file fd.code))
    | _ => false) && ((PySem.W.clsIn K (ga K d.cls)).isSome && (decide (PySem.W.mroIn K (ga K d.cls) (.ref (ga K d.cls)) = some true) && (eqO (PySem.W.nsIn K cStatics "thirdparty.any") (some none) &&
    (eqO (PySem.W.ks_superIn K (ga K d.cls) (ga K d.cls) "__init__") (some (some (.builtin "ValueError.__init__"))) && decide (PySem.W.subIn K (.ref (ga K d.cls)) (.type "ValueError") = some true))))))))
/-- what stands of such an __init__ -/
structure ExS (K : PySem.W.Frag) (P : Program) (d : ExD) (C fI cc : Addr) (oc cdv kV doc pm ct : Value) (od an : Option Addr) (osl : Array (Option Value)) : Prop where
  oex : OexC K C
  init : PySem.W.findIn K (.ref C) "__init__" = some (some (.ref fI))
  ty : PySem.W.typeIn K (.ref fI) = some (.type "function")
  lk : K.lookup fI = some ⟨oc, od, .func (PySem.W.ksFn d.name d.qual d.params d.body d.scope .none kV doc pm an cdv ct cc), osl⟩
  code : PySem.W.codeIn K cdv d.qual = true
  sup : ∀ (mg : Str → Option Value) (ar : Arg), mg "super" = none → (d.params.posonlyargs ++ d.params.args).head? = some ar → d.scope.names.lookup ("super" : Str) = some .globalImplicit → d.scope.names.lookup ("__class__" : Str) = some .free → d.scope.names.lookup ar.arg = some .local →
    (P.main.scope.names.lookup ("super" : Str)).isSome = false → SupC P K mg fI cc C cdv d.scope ar.arg
theorem ExD.says {K : PySem.W.Frag} {P : Program} {d : ExD} (e : exW K d.cls = d.val) (c : d.ok K P.main.file = true) : ∃ cc oc cdv kV doc pm ct od an osl, ExS K P d (ga K d.cls) (ma K (ga K d.cls) "__init__") cc oc cdv kV doc pm ct od an osl := by
  unfold ExD.ok at c
  obtain ⟨c1, c⟩ := ba c
  obtain ⟨c2, c⟩ := ba c
  obtain ⟨c3, c⟩ := ba c
  obtain ⟨c4, c⟩ := ba c
  obtain ⟨c5, c⟩ := ba c
  obtain ⟨c6, c⟩ := ba c
  obtain ⟨c7, c⟩ := ba c
  obtain ⟨c8, c9⟩ := ba c
  unfold exW at e
  cases q : K.lookup (ma K (ga K d.cls) "__init__") with
  | none => rw [q] at c4; cases c4
  | some o =>
    obtain ⟨oc, od, dt, osl⟩ := o
    rw [q] at c4 e
    cases dt with
    | func fd =>
      obtain ⟨d1, c4⟩ := ba (show (PySem.W.codeIn K fd.code d.qual && (isNone fd.defaults && (cellB K (ga K d.cls) fd.closure && codeB K P.main.file fd.code))) = true from c4)
      obtain ⟨d2, c4⟩ := ba c4
      obtain ⟨d3, d4⟩ := ba c4
      obtain ⟨n1, n2, n3, n4, n5, n6, n7, n8, n9, n10, n11, n12, n13, n14, n15⟩ := fd
      have e2 : (some (n1, n2, n3, n4, n5, n6, n7.map (·.1), n15) : ExW) = (some (d.name, d.qual, d.params, FuncBody.stmts d.body, d.scope, mainGlobals, ["__class__"], builtinsNs) : ExW) := e
      simp only [Option.some.injEq, Prod.mk.injEq] at e2
      obtain ⟨h1, h2, h3, h4, h5, h6, h7, h8⟩ := e2
      subst h1 h2 h3 h4 h5 h6 h8
      dsimp only at d1 d2 d3 d4
      obtain ⟨cc, rfl⟩ : ∃ cc : Addr, n7 = ([(("__class__" : Str), cc)] : List (Str × Addr)) := by
        match n7, h7 with
        | [(a, cc)], h7 =>
          have h7' : a = ("__class__" : Str) := by simpa using h7
          exact ⟨cc, by rw [h7']⟩
      have hn : n8 = .none := by
        cases n8 <;> first | rfl | cases d2
      subst hn
      have hcell : ∃ cl cld csl, K.lookup cc = some ⟨cl, cld, .cell (some (.ref (ga K d.cls))), csl⟩ := by
        unfold cellB at d3
        dsimp only at d3
        split at d3
        · rename_i e3
          rw [beq_iff_eq.mp d3] at e3
          exact ⟨_, _, _, e3⟩
        · cases d3
      have hcode : ∃ cda ccl cdd vs ccs file tf, n13 = .ref cda ∧ K.lookup cda = some ⟨ccl, cdd, .fields vs, ccs⟩ ∧ vs[2]? = some (.str file tf) ∧ ((P.main.file : Str) == file) = true := by
        unfold codeB at d4
        split at d4
        · split at d4
          · rename_i e3
            split at d4
            · rename_i e4
              exact ⟨_, _, _, _, _, _, _, rfl, e3, e4, d4⟩
            · cases d4
          · cases d4
        · cases d4
      refine ⟨cc, oc, n13, n9, n10, n11, n14, od, n12, osl, oexB_ok c1, eqO_ok c2, of_decide_eq_true c3, q, d1, fun mg ar hm hp s1 s2 s3 s4 => ?_⟩
      exact ⟨oexB_ok c1, ⟨_, _, _, _, ar, q, hp, rfl⟩, hcell, hcode, Option.isSome_iff_exists.mp c5, of_decide_eq_true c6, hm, s1, s2, s3, s4, eqO_ok c7, eqO_ok c8, of_decide_eq_true c9⟩
    | _ => cases c4
/-! ### the Hook -/
def noLst (K : PySem.W.Frag) : Bool := K.all fun p => (match p.2.cls with
  | .type c => !(c == "list")
  | _ => true)
theorem frag_mem : ∀ {K : PySem.W.Frag} {a : Addr} {o : Obj}, K.lookup a = some o → (a, o) ∈ K
  | [], _, _, e => by cases e
  | (b, u) :: K, a, o, e => by
    rw [List.lookup] at e
    split at e
    · rename_i q
      cases e
      rw [beq_iff_eq.mp q]
      exact List.mem_cons_self
    · exact List.mem_cons_of_mem _ (frag_mem e)
theorem noLst_ok {K : PySem.W.Frag} (h : noLst K = true) : ∀ a o, K.lookup a = some o → o.cls ≠ .type "list" := fun a o e z => by
  have := List.all_eq_true.mp h (a, o) (frag_mem e)
  dsimp only at this
  rw [z] at this
  simp at this
abbrev AlV : Type := AlD × List ExW × Bool
def obsV (fa : List Fa) (fn : List DefD) (ex : List ExD) (own : PySem.W.Frag → Bool) (file : Str) (K : PySem.W.Frag) : AlV := (obsD fa fn K, ex.map fun d => exW K d.cls, ((ex.all fun d => d.ok K file) && (own K && noLst K)))
def valV (fn : List DefD) (ex : List ExD) : AlV := (valD fn, ex.map ExD.val, true)
def obsVG (n : Nat) (fa : List Fa) (fn : List DefD) (ex : List ExD) (own : PySem.W.Frag → Bool) (file : Str) (g : Addr → Option Obj) : AlV := obsV fa fn ex own file (frG g (cStatics :: asD g n))
def SaysV (fa : List Fa) (fn : List DefD) (ex : List ExD) (own : PySem.W.Frag → Bool) (file : Str) (K : PySem.W.Frag) : Prop := obsV fa fn ex own file K = valV fn ex
def hookV (n : Nat) (fa : List Fa) (fn : List DefD) (ex : List ExD) (own : PySem.W.Frag → Bool) (file : Str) : PySem.W.Hook where
  α := AlV
  obs := fun s => obsVG n fa fn ex own file s.heap.get?
  val := fun _ => valV fn ex
  says := fun _ h => ∃ K : PySem.W.Frag, K.In h ∧ SaysV fa fn ex own file K
  of := fun _ _ e => ⟨_, frG_in, e⟩
  keeps := fun _ _ _ ⟨K, hK, c⟩ k => ⟨K, PySem.W.Frag.In.keeps hK k, c⟩
theorem obsVG_eq {n : Nat} {fa : List Fa} {fn : List DefD} {ex : List ExD} {own : PySem.W.Frag → Bool} {file : Str} {g : Addr → Option Obj} {s : Shared} (h : ∀ a, g a = s.heap.get? a) : obsVG n fa fn ex own file g = (hookV n fa fn ex own file).obs s := by
  have e : g = s.heap.get? := funext h
  rw [e] <;> rfl
section
variable {fa : List Fa} {fn : List DefD} {ex : List ExD} {own : PySem.W.Frag → Bool} {file : Str} {K : PySem.W.Frag}
theorem SaysV.d (c : SaysV fa fn ex own file K) : SaysD fa fn K := congrArg (fun z : AlV => z.1) c
theorem SaysV.own_ (c : SaysV fa fn ex own file K) : own K = true := by
  have := congrArg (fun z : AlV => z.2.2) c
  exact (ba (ba (show ((ex.all fun d => d.ok K file) && (own K && noLst K)) = true from this)).2).1
theorem SaysV.nol (c : SaysV fa fn ex own file K) : noLst K = true := by
  have := congrArg (fun z : AlV => z.2.2) c
  exact (ba (ba (show ((ex.all fun d => d.ok K file) && (own K && noLst K)) = true from this)).2).2
theorem SaysV.ex_ {P : Program} (c : SaysV fa fn ex own P.main.file K) (i : Nat) {d : ExD} (h : ex[i]? = some d) : ∃ cc oc cdv kV doc pm ct od an osl, ExS K P d (ga K d.cls) (ma K (ga K d.cls) "__init__") cc oc cdv kV doc pm ct od an osl := by
  have e1 := congrArg (fun z : AlV => z.2.2) c
  have e2 := congrArg (fun z : AlV => z.2.1) c
  have k1 := List.all_eq_true.mp (ba (show ((ex.all fun d => d.ok K P.main.file) && (own K && noLst K)) = true from e1)).1 d (List.mem_of_getElem? h)
  have k2 : (ex.map fun d => exW K d.cls)[i]? = (ex.map ExD.val)[i]? := by rw [show (ex.map fun d => exW K d.cls) = ex.map ExD.val from e2]
  rw [List.getElem?_map, List.getElem?_map, h] at k2
  exact ExD.says (Option.some.inj k2) k1
end
end VD

set_option Elab.async false
set_option linter.all false
set_option autoImplicit false
set_option maxRecDepth 100000
set_option maxHeartbeats 4000000
namespace V52
open PySem PySem.Spec PyProof.Rows L2 VD
structure CA where
  Malformed : Nat
  Reading : Nat
  VatError : Nat
  em : Value → Nat → Option Bool
def b_write_count_0 (c : CA) : TDS :=
  dSq (dDrop (dBM .lst appendM (dVar 1) (dCons (dBin addD (dC (.int 128)) (dBin modD (dVar 0) (dC (.int 128)))) (dNil))))
  (dAsg (dBin fdivD (dVar 0) (dC (.int 128))) (gNm 0))
def t_write_count (c : CA) : TDS :=
  dSq (dAsg (dLst (dNil)) (gNm 1))
  (dSq (dWhile (dTest (dBin geD (dVar 0) (dC (.int 128))))
  (b_write_count_0 c))
  (dSq (dDrop (dBM .lst appendM (dVar 1) (dCons (dVar 0) (dNil))))
  (dRet (dVar 1))))
def sp_write_count (c : CA) : DSp := wkS fun ds S P Y => ds.length = 1 ∧ t_write_count c (endD P Y) (ds.map some ++ List.replicate (2 - ds.length) none) S
def b_write_text_0 (c : CA) : TDS :=
  dDrop (dBM .lst extendM (dVar 1) (dCons (dCall (sp_write_count c) (dCons (dBM .str indexM (dC (.str " !\"#$&'()*+,-./0123456789:;<=>?@ABCDEFGHIJKLMNOPQRSTUVWXYZ[\\]^_`abcdefghijklmnopqrstuvwxyz{|}~")) (dCons (dVar 2) (dNil))) (dNil))) (dNil)))
def t_write_text (c : CA) : TDS :=
  dSq (dAsg (dCall (sp_write_count c) (dCons (dCB lenD (dCons (dVar 0) (dNil))) (dNil))) (gNm 1))
  (dSq (dFor (iSt (dVar 0)) (gNm 2)
  (b_write_text_0 c))
  (dRet (dVar 1)))
def sp_write_text (c : CA) : DSp := wkS fun ds S P Y => ds.length = 1 ∧ t_write_text c (endD P Y) (ds.map some ++ List.replicate (3 - ds.length) none) S
def t_Reading_init (c : CA) : TDS :=
  dSq (dPutF c.Reading "numbers" (dVar 0) (dVar 1))
  (dPutF c.Reading "at" (dVar 0) (dC (.int 0)))
def sp_Reading_init (c : CA) : DSp := wkS fun ds S P Y => ds.length = 2 ∧ t_Reading_init c (endD P Y) (ds.map some ++ List.replicate (2 - ds.length) none) S
def b_Reading_digits_0 (c : CA) : TDS :=
  dSq (dIfS (dTest (dBin geD (dFld c.Reading "at" (dVar 0)) (dCB lenD (dCons (dFld c.Reading "numbers" (dVar 0)) (dNil)))))
  (dRaise (dMkX c.Malformed mk_Malformed (dCons (dCB lenD (dCons (dFld c.Reading "numbers" (dVar 0)) (dNil))) (dNil))))
  (dNx))
  (dSq (dAsg (dBin ixD (dFld c.Reading "numbers" (dVar 0)) (dFld c.Reading "at" (dVar 0))) (gNm 5))
  (dSq (dIfS (dOr (dTest (dBin eqD (dVar 4) (dVar 1))) (dOr (dTest (dBin ltD (dVar 5) (dC (.int 0)))) (dOr (dTest (dBin gtD (dVar 5) (dC (.int 255)))) (dAnd (dTest (dBin eqD (dVar 5) (dC (.int 0)))) (dTest (dBin gtD (dVar 4) (dC (.int 0))))))))
  (dRaise (dMkX c.Malformed mk_Malformed (dCons (dFld c.Reading "at" (dVar 0)) (dNil))))
  (dNx))
  (dSq (dAugF c.Reading "at" (dVar 0) (dC (.int 1)) (ipD fun i j => i + j))
  (dSq (dIfS (dTest (dBin ltD (dVar 5) (dC (.int 128))))
  (dRet (dBin addD (dVar 2) (dBin mulD (dVar 3) (dVar 5))))
  (dNx))
  (dSq (dAug 2 (dBin mulD (dVar 3) (dBin subD (dVar 5) (dC (.int 128)))) (ipD fun i j => i + j))
  (dAsg (dBin mulD (dVar 3) (dC (.int 128))) (gNm 3)))))))
def t_Reading_digits (c : CA) : TDS :=
  dSq (dAsg (dC (.int 0)) (gNm 2))
  (dSq (dAsg (dC (.int 1)) (gNm 3))
  (dSq (dFor (iR1 (dCons (dBin addD (dVar 1) (dC (.int 1))) (dNil))) (gNm 4)
  (b_Reading_digits_0 c))
  (dRet (dVar 2))))
def sp_Reading_digits (c : CA) : DSp := wkS fun ds S P Y => ds.length = 2 ∧ t_Reading_digits c (endD P Y) (ds.map some ++ List.replicate (6 - ds.length) none) S
def t_Reading_count (c : CA) : TDS :=
  dSq (dAsg (dMeth c.Reading "digits" (sp_Reading_digits c) (dVar 0) (dCons (dC (.int 5)) (dNil))) (gNm 3))
  (dSq (dIfS (dOr (dTest (dBin ltD (dVar 3) (dVar 1))) (dTest (dBin gtD (dVar 3) (dVar 2))))
  (dRaise (dMkX c.Malformed mk_Malformed (dCons (dBin subD (dFld c.Reading "at" (dVar 0)) (dC (.int 1))) (dNil))))
  (dNx))
  (dRet (dVar 3)))
def sp_Reading_count (c : CA) : DSp := wkS fun ds S P Y => ds.length = 3 ∧ t_Reading_count c (endD P Y) (ds.map some ++ List.replicate (4 - ds.length) none) S
def t_Reading_text (c : CA) : TDS :=
  dSq (dAsg (dMeth c.Reading "count" (sp_Reading_count c) (dVar 0) (dCons (dC (.int 0)) (dCons (dVar 1) (dNil)))) (gNm 2))
  (dRet (dBM .str joinM (dC (.str "")) (dCons (dLc (iR1 (dCons (dVar 2) (dNil))) (.one 3) (dYes) (dBin ixD (dC (.str " !\"#$&'()*+,-./0123456789:;<=>?@ABCDEFGHIJKLMNOPQRSTUVWXYZ[\\]^_`abcdefghijklmnopqrstuvwxyz{|}~")) (dMeth c.Reading "count" (sp_Reading_count c) (dVar 0) (dCons (dC (.int 0)) (dCons (dBin subD (dCB lenD (dCons (dC (.str " !\"#$&'()*+,-./0123456789:;<=>?@ABCDEFGHIJKLMNOPQRSTUVWXYZ[\\]^_`abcdefghijklmnopqrstuvwxyz{|}~")) (dNil))) (dC (.int 1))) (dNil))))) [3]) (dNil))))
def sp_Reading_text (c : CA) : DSp := wkS fun ds S P Y => ds.length = 2 ∧ t_Reading_text c (endD P Y) (ds.map some ++ List.replicate (4 - ds.length) none) S
def t_write_content (c : CA) : TDS :=
  dSq (dAsg (dBin ixD (dVar 0) (dC (.int 0))) (gNm 1))
  (dSq (dIfS (dTest (dBin eqD (dVar 1) (dC (.str "message"))))
  (dSq (dAsg (dVar 0) (gTp 6 (gCs (gNm 2) (gCs (gNm 3) (gCs (gNm 4) (gCs (gNm 5) (gCs (gNm 6) (gCs (gNm 7) (gNl)))))))))
  ((fun _ _ _ => False)))
  (dNx))
  (dSq (dIfS (dTest (dBin inD (dVar 1) (dTup (dCons (dC (.str "fulfill")) (dCons (dC (.str "resolved")) (dNil))))))
  ((fun _ _ _ => False))
  (dNx))
  (dSq (dIfS (dTest (dBin inD (dVar 1) (dTup (dCons (dC (.str "break")) (dCons (dC (.str "resolved_broken")) (dNil))))))
  (dRet (dBin addD (dCall (sp_write_count c) (dCons (dBin ixD (dVar 0) (dC (.int 1))) (dNil))) (dCall (sp_write_text c) (dCons (dBin ixD (dVar 0) (dC (.int 2))) (dNil)))))
  (dNx))
  (dSq (dIfS (dTest (dBin inD (dVar 1) (dTup (dCons (dC (.str "subscribe")) (dCons (dC (.str "release_answer")) (dNil))))))
  ((fun _ _ _ => False))
  (dNx))
  (dSq (dIfS (dTest (dBin eqD (dVar 1) (dC (.str "release"))))
  ((fun _ _ _ => False))
  (dNx))
  ((fun _ _ _ => False)))))))
def sp_write_content (c : CA) : DSp := wkS fun ds S P Y => ds.length = 1 ∧ t_write_content c (endD P Y) (ds.map some ++ List.replicate (9 - ds.length) none) S
def t_write_packet (c : CA) : TDS :=
  dSq (dAsg (dVar 0) (gTp 4 (gCs (gNm 1) (gCs (gNm 2) (gCs (gNm 3) (gCs (gNm 4) (gNl)))))))
  (dSq (dAsg (dBin addD (dBin addD (dBin addD (dLst (dCons (dC (.int 1)) (dNil))) (dCall (sp_write_count c) (dCons (dVar 1) (dNil)))) (dCall (sp_write_count c) (dCons (dVar 2) (dNil)))) (dCall (sp_write_count c) (dCons (dVar 3) (dNil)))) (gNm 5))
  (dRet (dBin addD (dBin addD (dVar 5) (dLst (dCons (dTIx ([(.str "message"), (.str "fulfill"), (.str "break"), (.str "subscribe"), (.str "resolved"), (.str "resolved_broken"), (.str "release"), (.str "release_answer"), (.str "transfer")]) (dBin ixD (dVar 4) (dC (.int 0)))) (dNil)))) (dCall (sp_write_content c) (dCons (dVar 4) (dNil))))))
def sp_write_packet (c : CA) : DSp := wkS fun ds S P Y => ds.length = 1 ∧ t_write_packet c (endD P Y) (ds.map some ++ List.replicate (6 - ds.length) none) S
def t_read_content (c : CA) : TDS :=
  dSq (dIfS (dTest (dBin eqD (dVar 1) (dC (.str "message"))))
  ((fun _ _ _ => False))
  (dNx))
  (dSq (dIfS (dTest (dBin eqD (dVar 1) (dC (.str "release"))))
  ((fun _ _ _ => False))
  (dNx))
  (dSq (dIfS (dTest (dBin eqD (dVar 1) (dC (.str "transfer"))))
  ((fun _ _ _ => False))
  (dNx))
  (dSq (dAsg (dMeth c.Reading "count" (sp_Reading_count c) (dVar 0) (dCons (dC (.int 1)) (dCons (dC (.int 1000000000)) (dNil)))) (gNm 4))
  (dSq (dIfS (dTest (dBin inD (dVar 1) (dTup (dCons (dC (.str "fulfill")) (dCons (dC (.str "resolved")) (dNil))))))
  ((fun _ _ _ => False))
  (dNx))
  (dSq (dIfS (dTest (dBin inD (dVar 1) (dTup (dCons (dC (.str "break")) (dCons (dC (.str "resolved_broken")) (dNil))))))
  (dRet (dTup (dCons (dVar 1) (dCons (dVar 4) (dCons (dMeth c.Reading "text" (sp_Reading_text c) (dVar 0) (dCons (dC (.int 20)) (dNil))) (dNil))))))
  (dNx))
  ((fun _ _ _ => False)))))))
def sp_read_content (c : CA) : DSp := wkS fun ds S P Y => ds.length = 2 ∧ t_read_content c (endD P Y) (ds.map some ++ List.replicate (5 - ds.length) none) S
def t_read_packet (c : CA) : TDS :=
  dSq (dAsg (dMake c.Reading (sp_Reading_init c) (dCons (dVar 0) (dNil))) (gNm 1))
  (dSq (dDrop (dMeth c.Reading "count" (sp_Reading_count c) (dVar 1) (dCons (dC (.int 1)) (dCons (dC (.int 1)) (dNil)))))
  (dSq (dAsg (dMeth c.Reading "count" (sp_Reading_count c) (dVar 1) (dCons (dC (.int 1)) (dCons (dC (.int 9)) (dNil)))) (gNm 2))
  (dSq (dAsg (dMeth c.Reading "count" (sp_Reading_count c) (dVar 1) (dCons (dC (.int 1)) (dCons (dC (.int 9)) (dNil)))) (gNm 3))
  (dSq (dAsg (dMeth c.Reading "count" (sp_Reading_count c) (dVar 1) (dCons (dC (.int 1)) (dCons (dC (.int 1000000000)) (dNil)))) (gNm 4))
  (dSq (dAsg (dCall (sp_read_content c) (dCons (dVar 1) (dCons (dBin ixD (dC (.tup [(.str "message"), (.str "fulfill"), (.str "break"), (.str "subscribe"), (.str "resolved"), (.str "resolved_broken"), (.str "release"), (.str "release_answer"), (.str "transfer")])) (dMeth c.Reading "count" (sp_Reading_count c) (dVar 1) (dCons (dC (.int 0)) (dCons (dBin subD (dCB lenD (dCons (dC (.tup [(.str "message"), (.str "fulfill"), (.str "break"), (.str "subscribe"), (.str "resolved"), (.str "resolved_broken"), (.str "release"), (.str "release_answer"), (.str "transfer")])) (dNil))) (dC (.int 1))) (dNil))))) (dNil)))) (gNm 5))
  (dSq (dIfS (dTest (dBin neD (dFld c.Reading "at" (dVar 1)) (dCB lenD (dCons (dVar 0) (dNil)))))
  (dRaise (dMkX c.Malformed mk_Malformed (dCons (dFld c.Reading "at" (dVar 1)) (dNil))))
  (dNx))
  (dRet (dTup (dCons (dVar 2) (dCons (dVar 3) (dCons (dVar 4) (dCons (dVar 5) (dNil)))))))))))))
def sp_read_packet (c : CA) : DSp := wkS fun ds S P Y => ds.length = 1 ∧ t_read_packet c (endD P Y) (ds.map some ++ List.replicate (6 - ds.length) none) S
def t_write_acknowledgement (c : CA) : TDS :=
  dRet (dBin addD (dBin addD (dBin addD (dLst (dCons (dC (.int 2)) (dNil))) (dCall (sp_write_count c) (dCons (dVar 0) (dNil)))) (dCall (sp_write_count c) (dCons (dVar 1) (dNil)))) (dCall (sp_write_count c) (dCons (dVar 2) (dNil))))
def sp_write_acknowledgement (c : CA) : DSp := wkS fun ds S P Y => ds.length = 3 ∧ t_write_acknowledgement c (endD P Y) (ds.map some ++ List.replicate (3 - ds.length) none) S
def t_read_frame (c : CA) : TDS :=
  dSq (dIfS (dOr (dTest (dBin eqD (dCB lenD (dCons (dVar 0) (dNil))) (dC (.int 0)))) (dTest (dBin notInD (dBin ixD (dVar 0) (dC (.int 0))) (dTup (dCons (dC (.int 1)) (dCons (dC (.int 2)) (dNil)))))))
  (dRaise (dMkX c.Malformed mk_Malformed (dCons (dC (.int 0)) (dNil))))
  (dNx))
  (dSq (dIfS (dTest (dBin eqD (dBin ixD (dVar 0) (dC (.int 0))) (dC (.int 1))))
  (dRet (dTup (dCons (dC (.str "packet")) (dCons (dCall (sp_read_packet c) (dCons (dVar 0) (dNil))) (dNil)))))
  (dNx))
  (dSq (dAsg (dMake c.Reading (sp_Reading_init c) (dCons (dVar 0) (dNil))) (gNm 1))
  (dSq (dDrop (dMeth c.Reading "count" (sp_Reading_count c) (dVar 1) (dCons (dC (.int 2)) (dCons (dC (.int 2)) (dNil)))))
  (dSq (dAsg (dMeth c.Reading "count" (sp_Reading_count c) (dVar 1) (dCons (dC (.int 1)) (dCons (dC (.int 9)) (dNil)))) (gNm 2))
  (dSq (dAsg (dMeth c.Reading "count" (sp_Reading_count c) (dVar 1) (dCons (dC (.int 1)) (dCons (dC (.int 9)) (dNil)))) (gNm 3))
  (dSq (dAsg (dMeth c.Reading "count" (sp_Reading_count c) (dVar 1) (dCons (dC (.int 0)) (dCons (dC (.int 1000000000)) (dNil)))) (gNm 4))
  (dSq (dIfS (dTest (dBin neD (dFld c.Reading "at" (dVar 1)) (dCB lenD (dCons (dVar 0) (dNil)))))
  (dRaise (dMkX c.Malformed mk_Malformed (dCons (dFld c.Reading "at" (dVar 1)) (dNil))))
  (dNx))
  (dRet (dTup (dCons (dC (.str "acknowledgement")) (dCons (dVar 2) (dCons (dVar 3) (dCons (dVar 4) (dNil))))))))))))))
def sp_read_frame (c : CA) : DSp := wkS fun ds S P Y => ds.length = 1 ∧ t_read_frame c (endD P Y) (ds.map some ++ List.replicate (5 - ds.length) none) S
def t__law_cell (c : CA) : TDS :=
  dSq (dIfS (dTest (dBin ltD (dVar 1) (dCB lenD (dCons (dVar 0) (dNil)))))
  (dRet (dBin ixD (dVar 0) (dVar 1)))
  (dNx))
  (dRet (dC (.int 0)))
def sp__law_cell (c : CA) : DSp := wkS fun ds S P Y => ds.length = 2 ∧ t__law_cell c (endD P Y) (ds.map some ++ List.replicate (2 - ds.length) none) S
def b__law_digits_0 (c : CA) : TDS :=
  dIfS (dTest (dBin gtD (dVar 5) (dC (.int 0))))
  (dSq (dDrop (dBM .lst appendM (dVar 3) (dCons (dBin modD (dCB intCD (dCons (dVar 5) (dNil))) (dC (.int 1000))) (dNil))))
  (dAsg (dBin fdivD (dVar 5) (dC (.int 1000))) (gNm 5)))
  (dNx)
def b__law_digits_1 (c : CA) : TDS :=
  dSq (dAsg (dBin modD (dCB intCD (dCons (dBin addD (dBin addD (dBin mulD (dVar 7) (dC (.int 16807))) (dBin mulD (dC (.int 7)) (dVar 6))) (dC (.int 1))) (dNil))) (dC (.int 2147483647))) (gNm 7))
  (dDrop (dBM .lst appendM (dVar 3) (dCons (dBin modD (dCB intCD (dCons (dBin fdivD (dVar 7) (dC (.int 997))) (dNil))) (dC (.int 1000))) (dNil))))
def b__law_digits_2 (c : CA) : TDS :=
  dSq (dAsg (dCall (sp__law_cell c) (dCons (dVar 0) (dCons (dVar 4) (dNil)))) (gNm 5))
  (dSq (dIfS (dTest (dBin ltD (dVar 5) (dC (.int 0))))
  (dAsg (dBin subD (dC (.int 1)) (dBin mulD (dC (.int 2)) (dVar 5))) (gNm 5))
  (dNx))
  (dIfS (dTest (dBin geD (dVar 5) (dBin powD (dC (.int 10)) (dC (.int 18)))))
  (dFor (iR1 (dCons (dC (.int 60)) (dNil))) (gNm 6)
  (b__law_digits_0 c))
  (dSq (dAsg (dBin modD (dCB intCD (dCons (dBin addD (dBin addD (dBin mulD (dVar 5) (dC (.int 48271))) (dBin mulD (dVar 4) (dC (.int 69621)))) (dC (.int 11))) (dNil))) (dC (.int 2147483647))) (gNm 7))
  (dFor (iR1 (dCons (dC (.int 12)) (dNil))) (gNm 6)
  (b__law_digits_1 c)))))
def t__law_digits (c : CA) : TDS :=
  dSq (dAsg (dLst (dNil)) (gNm 3))
  (dSq (dFor (iR2 (dCons (dVar 1) (dCons (dVar 2) (dNil)))) (gNm 4)
  (b__law_digits_2 c))
  (dRet (dVar 3)))
def sp__law_digits (c : CA) : DSp := wkS fun ds S P Y => ds.length = 3 ∧ t__law_digits c (endD P Y) (ds.map some ++ List.replicate (8 - ds.length) none) S
def t__law_draw (c : CA) : TDS :=
  dSq (dAsg (dBin ixD (dVar 0) (dC (.int 1))) (gNm 2))
  (dSq (dAsg (dBin addD (dVar 2) (dC (.int 1))) (gSb (dVar 0) (dC (.int 1)) setLD))
  (dSq (dIfS (dTest (dBin ltD (dVar 2) (dCB lenD (dCons (dBin ixD (dVar 0) (dC (.int 0))) (dNil)))))
  (dRet (dBin modD (dCB intCD (dCons (dBin ixD (dBin ixD (dVar 0) (dC (.int 0))) (dVar 2)) (dNil))) (dVar 1)))
  (dNx))
  (dRet (dBin modD (dCB intCD (dCons (dBin addD (dBin mulD (dVar 2) (dC (.int 7))) (dC (.int 3))) (dNil))) (dVar 1)))))
def sp__law_draw (c : CA) : DSp := wkS fun ds S P Y => ds.length = 2 ∧ t__law_draw c (endD P Y) (ds.map some ++ List.replicate (3 - ds.length) none) S
def t__law_same (c : CA) : TDS :=
  dRet (dBin eqD (dCB reprCD (dCons (dVar 0) (dNil))) (dCB reprCD (dCons (dVar 1) (dNil))))
def sp__law_same (c : CA) : DSp := wkS fun ds S P Y => ds.length = 2 ∧ t__law_same c (endD P Y) (ds.map some ++ List.replicate (2 - ds.length) none) S
def t__law_read (c : CA) : TDS :=
  dTryAs (fun v => c.em v c.VatError) 1 (dRet (dCall (sp_read_frame c) (dCons (dVar 0) (dNil))))
  (fun a cls d => dSq (dIfS (dTru (dCB (isSCD a c.Malformed cls) (dCons (dVar 1) (dCons (dC (.ref c.Malformed)) (dNil)))))
  (dRet (dTup (dCons (dC (.str "malformed")) (dCons (dXf a cls d c.Malformed "place" (dVar 1)) (dNil)))))
  (dNx))
  (dRet (dTup (dCons (dC (.str "other")) (dNil)))))
def sp__law_read (c : CA) : DSp := wkS fun ds S P Y => ds.length = 1 ∧ t__law_read c (endD P Y) (ds.map some ++ List.replicate (2 - ds.length) none) S
def b__law_count_0 (c : CA) : TDS :=
  dSq (dDrop (dBM .lst appendM (dVar 1) (dCons (dBin addD (dC (.int 128)) (dBin modD (dCB intCD (dCons (dVar 0) (dNil))) (dC (.int 128)))) (dNil))))
  (dAsg (dBin fdivD (dVar 0) (dC (.int 128))) (gNm 0))
def t__law_count (c : CA) : TDS :=
  dSq (dAsg (dLst (dNil)) (gNm 1))
  (dSq (dWhile (dTest (dBin geD (dVar 0) (dC (.int 128))))
  (b__law_count_0 c))
  (dRet (dBin addD (dVar 1) (dLst (dCons (dVar 0) (dNil))))))
def sp__law_count (c : CA) : DSp := wkS fun ds S P Y => ds.length = 1 ∧ t__law_count c (endD P Y) (ds.map some ++ List.replicate (2 - ds.length) none) S
def t_law (c : CA) : TDS :=
  dSq (dAsg (dLst (dCons (dCall (sp__law_digits c) (dCons (dVar 0) (dCons (dC (.int 0)) (dCons (dC (.int 30)) (dNil))))) (dCons (dC (.int 0)) (dNil)))) (gNm 1))
  (dSq (dAsg (dBin addD (dC (.int 1)) (dCall (sp__law_draw c) (dCons (dVar 1) (dCons (dC (.int 9)) (dNil))))) (gNm 2))
  (dSq (dAsg (dBin addD (dC (.int 1)) (dCall (sp__law_draw c) (dCons (dVar 1) (dCons (dC (.int 9)) (dNil))))) (gNm 3))
  (dSq (dAsg (dBin mulD (dCall (sp__law_draw c) (dCons (dVar 1) (dCons (dC (.int 1000)) (dNil)))) (dCall (sp__law_draw c) (dCons (dVar 1) (dCons (dC (.int 1000)) (dNil))))) (gNm 4))
  (dSq (dAsg (dCall (sp_write_acknowledgement c) (dCons (dVar 2) (dCons (dVar 3) (dCons (dVar 4) (dNil))))) (gNm 5))
  (dSq (dIfS (dNot (dTru (dCall (sp__law_same c) (dCons (dVar 5) (dCons (dBin addD (dLst (dCons (dC (.int 2)) (dCons (dVar 2) (dCons (dVar 3) (dNil))))) (dCall (sp__law_count c) (dCons (dVar 4) (dNil)))) (dNil))))))
  (dRet (dC (.bl false)))
  (dNx))
  (dSq (dIfS (dNot (dTru (dCall (sp__law_same c) (dCons (dCall (sp__law_read c) (dCons (dVar 5) (dNil))) (dCons (dTup (dCons (dC (.str "acknowledgement")) (dCons (dVar 2) (dCons (dVar 3) (dCons (dVar 4) (dNil)))))) (dNil))))))
  (dRet (dC (.bl false)))
  (dNx))
  (dSq (dAsg (dTup (dCons (dVar 2) (dCons (dVar 3) (dCons (dBin addD (dC (.int 1)) (dVar 4)) (dCons (dTup (dCons (dC (.str "break")) (dCons (dBin addD (dC (.int 1)) (dCall (sp__law_draw c) (dCons (dVar 1) (dCons (dC (.int 900)) (dNil))))) (dCons (dC (.str "no")) (dNil))))) (dNil)))))) (gNm 6))
  (dSq (dIfS (dNot (dTru (dCall (sp__law_same c) (dCons (dCall (sp__law_read c) (dCons (dCall (sp_write_packet c) (dCons (dVar 6) (dNil))) (dNil))) (dCons (dTup (dCons (dC (.str "packet")) (dCons (dVar 6) (dNil)))) (dNil))))))
  (dRet (dC (.bl false)))
  (dNx))
  (dSq (dAsg (dCall (sp__law_draw c) (dCons (dVar 1) (dCons (dCB lenD (dCons (dVar 5) (dNil))) (dNil)))) (gNm 7))
  (dSq (dIfS (dNot (dTru (dCall (sp__law_same c) (dCons (dCall (sp__law_read c) (dCons (dSl (dVar 5) (dPn) (dPs (dVar 7))) (dNil))) (dCons (dTup (dCons (dC (.str "malformed")) (dCons (dVar 7) (dNil)))) (dNil))))))
  (dRet (dC (.bl false)))
  (dNx))
  (dSq (dIfS (dNot (dTru (dCall (sp__law_same c) (dCons (dCall (sp__law_read c) (dCons (dBin addD (dVar 5) (dLst (dCons (dCall (sp__law_draw c) (dCons (dVar 1) (dCons (dC (.int 200)) (dNil)))) (dNil)))) (dNil))) (dCons (dTup (dCons (dC (.str "malformed")) (dCons (dCB lenD (dCons (dVar 5) (dNil))) (dNil)))) (dNil))))))
  (dRet (dC (.bl false)))
  (dNx))
  (dSq (dAsg (dBin ixD (dLst (dCons (dC (.int 0)) (dCons (dC (.int 3)) (dCons (dC (.int 127)) (dCons (dC (.int 255)) (dCons (dC (.int 256)) (dNil))))))) (dCall (sp__law_draw c) (dCons (dVar 1) (dCons (dC (.int 5)) (dNil))))) (gNm 8))
  (dSq (dIfS (dNot (dTru (dCall (sp__law_same c) (dCons (dCall (sp__law_read c) (dCons (dBin addD (dLst (dCons (dVar 8) (dNil))) (dSl (dVar 5) (dPs (dC (.int 1))) (dPn))) (dNil))) (dCons (dTup (dCons (dC (.str "malformed")) (dCons (dC (.int 0)) (dNil)))) (dNil))))))
  (dRet (dC (.bl false)))
  (dNx))
  (dSq (dIfS (dOr (dNot (dTru (dCall (sp__law_same c) (dCons (dCall (sp__law_read c) (dCons (dLst (dCons (dC (.int 2)) (dCons (dC (.int 0)) (dCons (dVar 3) (dCons (dC (.int 1)) (dNil)))))) (dNil))) (dCons (dTup (dCons (dC (.str "malformed")) (dCons (dC (.int 1)) (dNil)))) (dNil)))))) (dNot (dTru (dCall (sp__law_same c) (dCons (dCall (sp__law_read c) (dCons (dLst (dCons (dC (.int 2)) (dCons (dC (.int 1)) (dCons (dC (.int 10)) (dCons (dC (.int 1)) (dNil)))))) (dNil))) (dCons (dTup (dCons (dC (.str "malformed")) (dCons (dC (.int 2)) (dNil)))) (dNil)))))))
  (dRet (dC (.bl false)))
  (dNx))
  (dSq (dAsg (dCall (sp__law_count c) (dCons (dBin addD (dBin addD (dBin powD (dC (.int 10)) (dC (.int 9))) (dC (.int 1))) (dCall (sp__law_draw c) (dCons (dVar 1) (dCons (dC (.int 900)) (dNil))))) (dNil))) (gNm 9))
  (dRet (dCall (sp__law_same c) (dCons (dCall (sp__law_read c) (dCons (dBin addD (dLst (dCons (dC (.int 2)) (dCons (dVar 2) (dCons (dVar 3) (dNil))))) (dVar 9)) (dNil))) (dCons (dTup (dCons (dC (.str "malformed")) (dCons (dBin addD (dC (.int 2)) (dCB lenD (dCons (dVar 9) (dNil)))) (dNil)))) (dNil))))))))))))))))))))
def sp_law (c : CA) : DSp := wkS fun ds S P Y => ds.length = 1 ∧ t_law c (endD P Y) (ds.map some ++ List.replicate (10 - ds.length) none) S
end V52

set_option Elab.async false
set_option linter.all false
set_option autoImplicit false
set_option maxRecDepth 100000
set_option maxHeartbeats 4000000
namespace V52
open PySem PySem.Spec PyProof.Rows L2 VD
def top (i : Nat) : Stmt := PySem.Challenge.pw_vatlink_k52_frames_read.main.body.getD i (.Pass ⟨0, 0, 0, 0⟩)
def memb (i j : Nat) : Stmt := (clsBody (top i)).getD j (.Pass ⟨0, 0, 0, 0⟩)
structure Z (G : Wo) (c : CA) : Prop where
  em : ∀ (a : Nat) (v : Value), PySem.W.exmOne G.K v (.ref a) = c.em v a
  f_int : G.mg "int" = none
  f_isinstance : G.mg "isinstance" = none
  f_len : G.mg "len" = none
  f_range : G.mg "range" = none
  f_repr : G.mg "repr" = none
  g_ACKNOWLEDGEMENT_MARK : GloIs G.K G.mg "ACKNOWLEDGEMENT_MARK" (.int 2)
  g_CHARACTERS : GloIs G.K G.mg "CHARACTERS" (.str " !\"#$&'()*+,-./0123456789:;<=>?@ABCDEFGHIJKLMNOPQRSTUVWXYZ[\\]^_`abcdefghijklmnopqrstuvwxyz{|}~")
  g_CONTENTS : GloIs G.K G.mg "CONTENTS" (.tup [(.str "message"), (.str "fulfill"), (.str "break"), (.str "subscribe"), (.str "resolved"), (.str "resolved_broken"), (.str "release"), (.str "release_answer"), (.str "transfer")])
  g_COUNT_DIGITS : GloIs G.K G.mg "COUNT_DIGITS" (.int 5)
  g_Malformed : GloIs G.K G.mg "Malformed" (.ref c.Malformed)
  g_NUMBER_MOST : GloIs G.K G.mg "NUMBER_MOST" (.int 1000000000)
  g_PACKET_MARK : GloIs G.K G.mg "PACKET_MARK" (.int 1)
  g_TEXT_MOST : GloIs G.K G.mg "TEXT_MOST" (.int 20)
  g_VAT_MOST : GloIs G.K G.mg "VAT_MOST" (.int 9)
  g_VERSION : GloIs G.K G.mg "VERSION" (.int 1)
  t_CONTENTS : GloT G.K G.mg "CONTENTS" ([(.str "message"), (.str "fulfill"), (.str "break"), (.str "subscribe"), (.str "resolved"), (.str "resolved_broken"), (.str "release"), (.str "release_answer"), (.str "transfer")])
  cl_Reading_at : ClIs G.K c.Reading "at"
  cl_Reading_numbers : ClIs G.K c.Reading "numbers"
  x_Malformed : ExIs G "Malformed" c.Malformed mk_Malformed
  m_VatError : G.mg "VatError" = some (.ref c.VatError)
  xf_Malformed : XfC G.K c.Malformed
  xn_Malformed_place : PySem.W.findIn G.K (.ref c.Malformed) "place" = some none
abbrev st_write_count : Stmt := (top 19)
theorem sc_write_count : FnScope (["number", "digits"] : List Str) (["number"] : List Str) (defScope st_write_count) := ⟨rfl, rfl, rfl, by decide +kernel, rfl, by decide +kernel, by decide +kernel⟩
theorem is_write_count {G : Wo} {c : CA} (z : Z G c) {f : Nat} {fd : FuncData} (F : FunD G.K "write_count" "write_count" (defArgs st_write_count) (defBody st_write_count) (defScope st_write_count) [] [] f fd) : FnAt G 1 f 1 (sp_write_count c) :=
  FnAt.wk <| fnAt_of (t := t_write_count c) F sc_write_count rfl (fun _ _ _ _ _ _ us hl => match us, hl with | [_], _ => rfl) (fun _ _ _ _ h => h.1) (fun cdv A outer s H E sd =>
  dss_cons (ds_set (i := 1) sd.nd rfl (.inl rfl) (de_lst (da_nil)) rfl (.inl rfl))
  (dss_cons (ds_while sd.po (dt_cmp od_ge (de_var (i := 0) rfl (.inl rfl) rfl rfl) (de_int) rfl)
  (dss_cons (ds_expr (de_bm (T := .lst) (name := "append") PySem.F.plainAttrs_list PySem.F.slot_list_append PySem.F.type_list_append md_append (de_var (i := 1) rfl (.inl rfl) rfl rfl) (da_cons (de_op od_add (de_int) (de_op od_mod (de_var (i := 0) rfl (.inl rfl) rfl rfl) (de_int))) (da_nil) (star_cons rfl)) rfl rfl rfl (by decide)) rfl)
  (dss_one (ds_set (i := 0) sd.nd rfl (.inl rfl) (de_op od_fdiv (de_var (i := 0) rfl (.inl rfl) rfl rfl) (de_int)) rfl (.inl rfl)))))
  (dss_cons (ds_expr (de_bm (T := .lst) (name := "append") PySem.F.plainAttrs_list PySem.F.slot_list_append PySem.F.type_list_append md_append (de_var (i := 1) rfl (.inl rfl) rfl rfl) (da_cons (de_var (i := 0) rfl (.inl rfl) rfl rfl) (da_nil) (star_cons rfl)) rfl rfl rfl (by decide)) rfl)
  (dss_one (ds_ret (de_var (i := 1) rfl (.inl rfl) rfl rfl)))))) (fun _ _ _ _ h => h.2)
abbrev st_write_text : Stmt := (top 20)
theorem sc_write_text : FnScope (["text", "numbers", "sign"] : List Str) (["text"] : List Str) (defScope st_write_text) := ⟨rfl, rfl, rfl, by decide +kernel, rfl, by decide +kernel, by decide +kernel⟩
theorem is_write_text {G : Wo} {c : CA} (z : Z G c) (h_write_count : FnIs G 1 "write_count" 1 (sp_write_count c)) {f : Nat} {fd : FuncData} (F : FunD G.K "write_text" "write_text" (defArgs st_write_text) (defBody st_write_text) (defScope st_write_text) [] [] f fd) : FnAt G 2 f 1 (sp_write_text c) :=
  FnAt.wk <| fnAt_of (t := t_write_text c) F sc_write_text rfl (fun _ _ _ _ _ _ us hl => match us, hl with | [_], _ => rfl) (fun _ _ _ _ h => h.1) (fun cdv A outer s H E sd =>
  dss_cons (ds_set (i := 1) sd.nd rfl (.inl rfl) (de_call h_write_count (sd.rm.mono (by decide)) rfl (da_cons (de_cb (x := "len") cd_len rfl z.f_len rfl (da_cons (de_var (i := 0) rfl (.inl rfl) rfl rfl) (da_nil) (star_cons rfl)) (by decide) rfl rfl) (da_nil) (star_cons rfl)) rfl rfl) rfl (.inl rfl))
  (dss_cons (ds_for sd.po sd.calm (di_str (de_var (i := 0) rfl (.inl rfl) rfl rfl)) (dg_name (i := 2) sd.nd rfl (.inl rfl) (.inl rfl))
  (dss_one (ds_expr (de_bm (T := .lst) (name := "extend") PySem.F.plainAttrs_list PySem.F.slot_list_extend PySem.F.type_list_extend md_extend (de_var (i := 1) rfl (.inl rfl) rfl rfl) (da_cons (de_call h_write_count (sd.rm.mono (by decide)) rfl (da_cons (de_bm (T := .str) (name := "index") PySem.F.plainAttrs_str PySem.F.slot_str_index PySem.F.type_str_index md_index (de_glob (x := "CHARACTERS") rfl z.g_CHARACTERS rfl) (da_cons (de_var (i := 2) rfl (.inl rfl) rfl rfl) (da_nil) (star_cons rfl)) rfl rfl rfl (by decide)) (da_nil) (star_cons rfl)) rfl rfl) (da_nil) (star_cons rfl)) rfl rfl rfl (by decide)) rfl)) (fun _ => rfl))
  (dss_one (ds_ret (de_var (i := 1) rfl (.inl rfl) rfl rfl))))) (fun _ _ _ _ h => h.2)
abbrev st_Reading_init : Stmt := (memb 25 0)
theorem sc_Reading_init : FnScope (["self", "numbers"] : List Str) (["self", "numbers"] : List Str) (defScope st_Reading_init) := ⟨rfl, rfl, rfl, by decide +kernel, rfl, by decide +kernel, by decide +kernel⟩
theorem is_Reading_init {G : Wo} {c : CA} (z : Z G c) {f : Nat} {fd : FuncData} (F : FunD G.K "__init__" "Reading.__init__" (defArgs st_Reading_init) (defBody st_Reading_init) (defScope st_Reading_init) [] [] f fd) : FnAt G 1 f 2 (sp_Reading_init c) :=
  FnAt.wk <| fnAt_of (t := t_Reading_init c) F sc_Reading_init rfl (fun _ _ _ _ _ _ us hl => match us, hl with | [_, _], _ => rfl) (fun _ _ _ _ h => h.1) (fun cdv A outer s H E sd =>
  dss_cons (ds_fld (f := "numbers") z.cl_Reading_numbers (de_var (i := 0) rfl (.inl rfl) rfl rfl) (de_var (i := 1) rfl (.inl rfl) rfl rfl) rfl)
  (dss_one (ds_fld (f := "at") z.cl_Reading_at (de_var (i := 0) rfl (.inl rfl) rfl rfl) (de_int) rfl))) (fun _ _ _ _ h => h.2)
abbrev st_Reading_digits : Stmt := (memb 25 1)
theorem sc_Reading_digits : FnScope (["self", "most", "total", "unit", "done", "digit"] : List Str) (["self", "most"] : List Str) (defScope st_Reading_digits) := ⟨rfl, rfl, rfl, by decide +kernel, rfl, by decide +kernel, by decide +kernel⟩
theorem is_Reading_digits {G : Wo} {c : CA} (z : Z G c) {f : Nat} {fd : FuncData} (F : FunD G.K "digits" "Reading.digits" (defArgs st_Reading_digits) (defBody st_Reading_digits) (defScope st_Reading_digits) [] [] f fd) : FnAt G 4 f 2 (sp_Reading_digits c) :=
  FnAt.wk <| fnAt_of (t := t_Reading_digits c) F sc_Reading_digits rfl (fun _ _ _ _ _ _ us hl => match us, hl with | [_, _], _ => rfl) (fun _ _ _ _ h => h.1) (fun cdv A outer s H E sd =>
  dss_cons (ds_set (i := 2) sd.nd rfl (.inl rfl) (de_int) rfl (.inl rfl))
  (dss_cons (ds_set (i := 3) sd.nd rfl (.inl rfl) (de_int) rfl (.inl rfl))
  (dss_cons (ds_for sd.po sd.calm (di_r1 rfl z.f_range (da_cons (de_op od_add (de_var (i := 1) rfl (.inl rfl) rfl rfl) (de_int)) (da_nil) (star_cons rfl)) rfl) (dg_name (i := 4) sd.nd rfl (.inl rfl) (.inl rfl))
  (dss_cons (ds_if (dt_cmp od_ge (de_fld (f := "at") z.cl_Reading_at (de_var (i := 0) rfl (.inl rfl) rfl rfl) rfl) (de_cb (x := "len") cd_len rfl z.f_len rfl (da_cons (de_fld (f := "numbers") z.cl_Reading_numbers (de_var (i := 0) rfl (.inl rfl) rfl rfl) rfl) (da_nil) (star_cons rfl)) (by decide) rfl rfl) rfl)
  (dss_one (ds_raise sd.calm (z.x_Malformed.dmk (sd.mono (by decide)) rfl (da_cons (de_cb (x := "len") cd_len rfl z.f_len rfl (da_cons (de_fld (f := "numbers") z.cl_Reading_numbers (de_var (i := 0) rfl (.inl rfl) rfl rfl) rfl) (da_nil) (star_cons rfl)) (by decide) rfl rfl) (da_nil) (star_cons rfl)) rfl rfl)))
  (dss_nil))
  (dss_cons (ds_set (i := 5) sd.nd rfl (.inl rfl) (de_ix id_seq (de_fld (f := "numbers") z.cl_Reading_numbers (de_var (i := 0) rfl (.inl rfl) rfl rfl) rfl) (de_fld (f := "at") z.cl_Reading_at (de_var (i := 0) rfl (.inl rfl) rfl rfl) rfl) (fun _ _ => rfl)) rfl (.inl rfl))
  (dss_cons (ds_if (DW.dt (dw_or (dt_cmp (od_eq sd.hu) (de_var (i := 4) rfl (.inl rfl) rfl rfl) (de_var (i := 1) rfl (.inl rfl) rfl rfl) rfl) (dw_or (dt_cmp od_lt (de_var (i := 5) rfl (.inl rfl) rfl rfl) (de_int) rfl) (dw_or (dt_cmp od_gt (de_var (i := 5) rfl (.inl rfl) rfl rfl) (de_int) rfl) (dw_or1 (DW.dt (dw_and (dt_cmp (od_eq sd.hu) (de_var (i := 5) rfl (.inl rfl) rfl rfl) (de_int) rfl) (dw_and1 (dt_cmp od_gt (de_var (i := 4) rfl (.inl rfl) rfl rfl) (de_int) rfl)))))))))
  (dss_one (ds_raise sd.calm (z.x_Malformed.dmk (sd.mono (by decide)) rfl (da_cons (de_fld (f := "at") z.cl_Reading_at (de_var (i := 0) rfl (.inl rfl) rfl rfl) rfl) (da_nil) (star_cons rfl)) rfl rfl)))
  (dss_nil))
  (dss_cons (ds_augF (f := "at") z.cl_Reading_at (de_var (i := 0) rfl (.inl rfl) rfl rfl) (de_int) nd_add)
  (dss_cons (ds_if (dt_cmp od_lt (de_var (i := 5) rfl (.inl rfl) rfl rfl) (de_int) rfl)
  (dss_one (ds_ret (de_op od_add (de_var (i := 2) rfl (.inl rfl) rfl rfl) (de_op od_mul (de_var (i := 3) rfl (.inl rfl) rfl rfl) (de_var (i := 5) rfl (.inl rfl) rfl rfl)))))
  (dss_nil))
  (dss_cons (ds_aug (i := 2) sd.nd rfl (.inl rfl) (de_op od_mul (de_var (i := 3) rfl (.inl rfl) rfl rfl) (de_op od_sub (de_var (i := 5) rfl (.inl rfl) rfl rfl) (de_int))) nd_add (.inl rfl))
  (dss_one (ds_set (i := 3) sd.nd rfl (.inl rfl) (de_op od_mul (de_var (i := 3) rfl (.inl rfl) rfl rfl) (de_int)) rfl (.inl rfl))))))))) (fun _ => rfl))
  (dss_one (ds_ret (de_var (i := 2) rfl (.inl rfl) rfl rfl)))))) (fun _ _ _ _ h => h.2)
abbrev st_Reading_count : Stmt := (memb 25 2)
theorem sc_Reading_count : FnScope (["self", "least", "most", "number"] : List Str) (["self", "least", "most"] : List Str) (defScope st_Reading_count) := ⟨rfl, rfl, rfl, by decide +kernel, rfl, by decide +kernel, by decide +kernel⟩
theorem is_Reading_count {G : Wo} {c : CA} (z : Z G c) (h_Reading_digits : MtIs G 4 c.Reading "digits" 2 (sp_Reading_digits c)) {f : Nat} {fd : FuncData} (F : FunD G.K "count" "Reading.count" (defArgs st_Reading_count) (defBody st_Reading_count) (defScope st_Reading_count) [] [] f fd) : FnAt G 5 f 3 (sp_Reading_count c) :=
  FnAt.wk <| fnAt_of (t := t_Reading_count c) F sc_Reading_count rfl (fun _ _ _ _ _ _ us hl => match us, hl with | [_, _, _], _ => rfl) (fun _ _ _ _ h => h.1) (fun cdv A outer s H E sd =>
  dss_cons (ds_set (i := 3) sd.nd rfl (.inl rfl) (de_meth (C := c.Reading) (m := "digits") h_Reading_digits (sd.rm.mono (by decide)) (de_var (i := 0) rfl (.inl rfl) rfl rfl) (da_cons (de_glob (x := "COUNT_DIGITS") rfl z.g_COUNT_DIGITS rfl) (da_nil) (star_cons rfl)) rfl rfl rfl (by decide)) rfl (.inl rfl))
  (dss_cons (ds_if (DW.dt (dw_or (dt_cmp od_lt (de_var (i := 3) rfl (.inl rfl) rfl rfl) (de_var (i := 1) rfl (.inl rfl) rfl rfl) rfl) (dw_or1 (dt_cmp od_gt (de_var (i := 3) rfl (.inl rfl) rfl rfl) (de_var (i := 2) rfl (.inl rfl) rfl rfl) rfl))))
  (dss_one (ds_raise sd.calm (z.x_Malformed.dmk (sd.mono (by decide)) rfl (da_cons (de_op od_sub (de_fld (f := "at") z.cl_Reading_at (de_var (i := 0) rfl (.inl rfl) rfl rfl) rfl) (de_int)) (da_nil) (star_cons rfl)) rfl rfl)))
  (dss_nil))
  (dss_one (ds_ret (de_var (i := 3) rfl (.inl rfl) rfl rfl))))) (fun _ _ _ _ h => h.2)
abbrev st_Reading_text : Stmt := (memb 25 4)
theorem sc_Reading_text : FnScope (["self", "most", "size", "_"] : List Str) (["self", "most"] : List Str) (defScope st_Reading_text) := ⟨rfl, rfl, rfl, by decide +kernel, rfl, by decide +kernel, by decide +kernel⟩
theorem is_Reading_text {G : Wo} {c : CA} (z : Z G c) (h_Reading_count : MtIs G 5 c.Reading "count" 3 (sp_Reading_count c)) {f : Nat} {fd : FuncData} (F : FunD G.K "text" "Reading.text" (defArgs st_Reading_text) (defBody st_Reading_text) (defScope st_Reading_text) [] [] f fd) : FnAt G 6 f 2 (sp_Reading_text c) :=
  FnAt.wk <| fnAt_of (t := t_Reading_text c) F sc_Reading_text rfl (fun _ _ _ _ _ _ us hl => match us, hl with | [_, _], _ => rfl) (fun _ _ _ _ h => h.1) (fun cdv A outer s H E sd =>
  dss_cons (ds_set (i := 2) sd.nd rfl (.inl rfl) (de_meth (C := c.Reading) (m := "count") h_Reading_count (sd.rm.mono (by decide)) (de_var (i := 0) rfl (.inr (.inl rfl)) rfl rfl) (da_cons (de_int) (da_cons (de_var (i := 1) rfl (.inl rfl) rfl rfl) (da_nil) (star_cons rfl)) (star_cons rfl)) rfl rfl rfl (by decide)) rfl (.inl rfl))
  (dss_one (ds_ret (de_bm (T := .str) (name := "join") PySem.F.plainAttrs_str PySem.F.slot_str_join PySem.F.type_str_join md_join (de_str (s := "")) (da_cons (de_lcS (tc := (.one 3)) (own := [("_", 3)]) sd (di_r1 rfl z.f_range (da_cons (de_var (i := 2) rfl (.inl rfl) rfl rfl) (da_nil) (star_cons rfl)) rfl) (blkOk_by (N := (["self", "most", "size", "_"] : List Str)) (sc := defScope st_Reading_text) (by decide +kernel)) (by decide) (fun _ _ _ _ _ => pg_name (i := 3) sd.nd rfl (.inl rfl) (.inr rfl)) (fun _ _ _ _ _ sb => dts_nil) (fun _ _ _ _ _ sb => de_ix id_seq (de_glob (x := "CHARACTERS") rfl z.g_CHARACTERS rfl) (de_meth (C := c.Reading) (m := "count") h_Reading_count (sb.rm.mono (by decide)) (de_var (i := 0) rfl (.inr (.inl rfl)) rfl rfl) (da_cons (de_int) (da_cons (de_op od_sub (de_cb (x := "len") cd_len rfl z.f_len rfl (da_cons (de_glob (x := "CHARACTERS") rfl z.g_CHARACTERS rfl) (da_nil) (star_cons rfl)) (by decide) rfl rfl) (de_int)) (da_nil) (star_cons rfl)) (star_cons rfl)) rfl rfl rfl (by decide)) (fun _ _ => rfl)) (fun _ => rfl)) (da_nil) (star_cons rfl)) rfl rfl rfl (by decide))))) (fun _ _ _ _ h => h.2)
abbrev st_write_content : Stmt := (top 38)
theorem sc_write_content : FnScope (["content", "kind", "_", "message", "target", "weight", "question", "shares", "numbers"] : List Str) (["content"] : List Str) (defScope st_write_content) := ⟨rfl, rfl, rfl, by decide +kernel, rfl, by decide +kernel, by decide +kernel⟩
theorem is_write_content {G : Wo} {c : CA} (z : Z G c) (h_write_count : FnIs G 1 "write_count" 1 (sp_write_count c)) (h_write_text : FnIs G 2 "write_text" 1 (sp_write_text c)) {f : Nat} {fd : FuncData} (F : FunD G.K "write_content" "write_content" (defArgs st_write_content) (defBody st_write_content) (defScope st_write_content) [] [] f fd) : FnAt G 3 f 1 (sp_write_content c) :=
  FnAt.wk <| fnAt_of (t := t_write_content c) F sc_write_content rfl (fun _ _ _ _ _ _ us hl => match us, hl with | [_], _ => rfl) (fun _ _ _ _ h => h.1) (fun cdv A outer s H E sd =>
  dss_cons (ds_set (i := 1) sd.nd rfl (.inl rfl) (de_ix id_seq (de_var (i := 0) rfl (.inl rfl) rfl rfl) (de_int) (fun _ _ => rfl)) rfl (.inl rfl))
  (dss_cons (ds_if (dt_cmp (od_eq sd.hu) (de_var (i := 1) rfl (.inl rfl) rfl rfl) (de_str (s := "message")) rfl)
  (dss_cons (ds_asg (de_var (i := 0) rfl (.inl rfl) rfl rfl) (dg_tup sd.calm (dgs_cons (dg_name (i := 2) sd.nd rfl (.inl rfl) (.inl rfl)) (dgs_cons (dg_name (i := 3) sd.nd rfl (.inl rfl) (.inl rfl)) (dgs_cons (dg_name (i := 4) sd.nd rfl (.inl rfl) (.inl rfl)) (dgs_cons (dg_name (i := 5) sd.nd rfl (.inl rfl) (.inl rfl)) (dgs_cons (dg_name (i := 6) sd.nd rfl (.inl rfl) (.inl rfl)) (dgs_cons (dg_name (i := 7) sd.nd rfl (.inl rfl) (.inl rfl)) (dgs_nil) rfl) rfl) rfl) rfl) rfl) rfl) rfl rfl) rfl rfl rfl)
  (dss_never))
  (dss_nil))
  (dss_cons (ds_if (dt_cmp (od_in sd.hu) (de_var (i := 1) rfl (.inl rfl) rfl rfl) (de_tup (da_cons (de_str (s := "fulfill")) (da_cons (de_str (s := "resolved")) (da_nil) (star_cons rfl)) (star_cons rfl))) rfl)
  (dss_never)
  (dss_nil))
  (dss_cons (ds_if (dt_cmp (od_in sd.hu) (de_var (i := 1) rfl (.inl rfl) rfl rfl) (de_tup (da_cons (de_str (s := "break")) (da_cons (de_str (s := "resolved_broken")) (da_nil) (star_cons rfl)) (star_cons rfl))) rfl)
  (dss_one (ds_ret (de_op od_add (de_call h_write_count (sd.rm.mono (by decide)) rfl (da_cons (de_ix id_seq (de_var (i := 0) rfl (.inl rfl) rfl rfl) (de_int) (fun _ _ => rfl)) (da_nil) (star_cons rfl)) rfl rfl) (de_call h_write_text (sd.rm.mono (by decide)) rfl (da_cons (de_ix id_seq (de_var (i := 0) rfl (.inl rfl) rfl rfl) (de_int) (fun _ _ => rfl)) (da_nil) (star_cons rfl)) rfl rfl))))
  (dss_nil))
  (dss_cons (ds_if (dt_cmp (od_in sd.hu) (de_var (i := 1) rfl (.inl rfl) rfl rfl) (de_tup (da_cons (de_str (s := "subscribe")) (da_cons (de_str (s := "release_answer")) (da_nil) (star_cons rfl)) (star_cons rfl))) rfl)
  (dss_never)
  (dss_nil))
  (dss_cons (ds_if (dt_cmp (od_eq sd.hu) (de_var (i := 1) rfl (.inl rfl) rfl rfl) (de_str (s := "release")) rfl)
  (dss_never)
  (dss_nil))
  (dss_never))))))) (fun _ _ _ _ h => h.2)
abbrev st_write_packet : Stmt := (top 39)
theorem sc_write_packet : FnScope (["packet", "sender", "receiver", "number", "content", "head"] : List Str) (["packet"] : List Str) (defScope st_write_packet) := ⟨rfl, rfl, rfl, by decide +kernel, rfl, by decide +kernel, by decide +kernel⟩
theorem is_write_packet {G : Wo} {c : CA} (z : Z G c) (h_write_count : FnIs G 1 "write_count" 1 (sp_write_count c)) (h_write_content : FnIs G 3 "write_content" 1 (sp_write_content c)) {f : Nat} {fd : FuncData} (F : FunD G.K "write_packet" "write_packet" (defArgs st_write_packet) (defBody st_write_packet) (defScope st_write_packet) [] [] f fd) : FnAt G 4 f 1 (sp_write_packet c) :=
  FnAt.wk <| fnAt_of (t := t_write_packet c) F sc_write_packet rfl (fun _ _ _ _ _ _ us hl => match us, hl with | [_], _ => rfl) (fun _ _ _ _ h => h.1) (fun cdv A outer s H E sd =>
  dss_cons (ds_asg (de_var (i := 0) rfl (.inl rfl) rfl rfl) (dg_tup sd.calm (dgs_cons (dg_name (i := 1) sd.nd rfl (.inl rfl) (.inl rfl)) (dgs_cons (dg_name (i := 2) sd.nd rfl (.inl rfl) (.inl rfl)) (dgs_cons (dg_name (i := 3) sd.nd rfl (.inl rfl) (.inl rfl)) (dgs_cons (dg_name (i := 4) sd.nd rfl (.inl rfl) (.inl rfl)) (dgs_nil) rfl) rfl) rfl) rfl) rfl rfl) rfl rfl rfl)
  (dss_cons (ds_set (i := 5) sd.nd rfl (.inl rfl) (de_op od_add (de_op od_add (de_op od_add (de_lst (da_cons (de_glob (x := "VERSION") rfl z.g_VERSION rfl) (da_nil) (star_cons rfl))) (de_call h_write_count (sd.rm.mono (by decide)) rfl (da_cons (de_var (i := 1) rfl (.inl rfl) rfl rfl) (da_nil) (star_cons rfl)) rfl rfl)) (de_call h_write_count (sd.rm.mono (by decide)) rfl (da_cons (de_var (i := 2) rfl (.inl rfl) rfl rfl) (da_nil) (star_cons rfl)) rfl rfl)) (de_call h_write_count (sd.rm.mono (by decide)) rfl (da_cons (de_var (i := 3) rfl (.inl rfl) rfl rfl) (da_nil) (star_cons rfl)) rfl rfl)) rfl (.inl rfl))
  (dss_one (ds_ret (de_op od_add (de_op od_add (de_var (i := 5) rfl (.inl rfl) rfl rfl) (de_lst (da_cons (de_tix (x := "CONTENTS") sd.hu1 rfl z.t_CONTENTS rfl (de_ix id_seq (de_var (i := 4) rfl (.inl rfl) rfl rfl) (de_int) (fun _ _ => rfl)) (by decide) (by decide) rfl rfl) (da_nil) (star_cons rfl)))) (de_call h_write_content (sd.rm.mono (by decide)) rfl (da_cons (de_var (i := 4) rfl (.inl rfl) rfl rfl) (da_nil) (star_cons rfl)) rfl rfl)))))) (fun _ _ _ _ h => h.2)
abbrev st_read_content : Stmt := (top 46)
theorem sc_read_content : FnScope (["reading", "kind", "reference", "value", "number"] : List Str) (["reading", "kind"] : List Str) (defScope st_read_content) := ⟨rfl, rfl, rfl, by decide +kernel, rfl, by decide +kernel, by decide +kernel⟩
theorem is_read_content {G : Wo} {c : CA} (z : Z G c) (h_Reading_count : MtIs G 5 c.Reading "count" 3 (sp_Reading_count c)) (h_Reading_text : MtIs G 6 c.Reading "text" 2 (sp_Reading_text c)) {f : Nat} {fd : FuncData} (F : FunD G.K "read_content" "read_content" (defArgs st_read_content) (defBody st_read_content) (defScope st_read_content) [] [] f fd) : FnAt G 7 f 2 (sp_read_content c) :=
  FnAt.wk <| fnAt_of (t := t_read_content c) F sc_read_content rfl (fun _ _ _ _ _ _ us hl => match us, hl with | [_, _], _ => rfl) (fun _ _ _ _ h => h.1) (fun cdv A outer s H E sd =>
  dss_cons (ds_if (dt_cmp (od_eq sd.hu) (de_var (i := 1) rfl (.inl rfl) rfl rfl) (de_str (s := "message")) rfl)
  (dss_never)
  (dss_nil))
  (dss_cons (ds_if (dt_cmp (od_eq sd.hu) (de_var (i := 1) rfl (.inl rfl) rfl rfl) (de_str (s := "release")) rfl)
  (dss_never)
  (dss_nil))
  (dss_cons (ds_if (dt_cmp (od_eq sd.hu) (de_var (i := 1) rfl (.inl rfl) rfl rfl) (de_str (s := "transfer")) rfl)
  (dss_never)
  (dss_nil))
  (dss_cons (ds_set (i := 4) sd.nd rfl (.inl rfl) (de_meth (C := c.Reading) (m := "count") h_Reading_count (sd.rm.mono (by decide)) (de_var (i := 0) rfl (.inl rfl) rfl rfl) (da_cons (de_int) (da_cons (de_glob (x := "NUMBER_MOST") rfl z.g_NUMBER_MOST rfl) (da_nil) (star_cons rfl)) (star_cons rfl)) rfl rfl rfl (by decide)) rfl (.inl rfl))
  (dss_cons (ds_if (dt_cmp (od_in sd.hu) (de_var (i := 1) rfl (.inl rfl) rfl rfl) (de_tup (da_cons (de_str (s := "fulfill")) (da_cons (de_str (s := "resolved")) (da_nil) (star_cons rfl)) (star_cons rfl))) rfl)
  (dss_never)
  (dss_nil))
  (dss_cons (ds_if (dt_cmp (od_in sd.hu) (de_var (i := 1) rfl (.inl rfl) rfl rfl) (de_tup (da_cons (de_str (s := "break")) (da_cons (de_str (s := "resolved_broken")) (da_nil) (star_cons rfl)) (star_cons rfl))) rfl)
  (dss_one (ds_ret (de_tup (da_cons (de_var (i := 1) rfl (.inl rfl) rfl rfl) (da_cons (de_var (i := 4) rfl (.inl rfl) rfl rfl) (da_cons (de_meth (C := c.Reading) (m := "text") h_Reading_text (sd.rm.mono (by decide)) (de_var (i := 0) rfl (.inl rfl) rfl rfl) (da_cons (de_glob (x := "TEXT_MOST") rfl z.g_TEXT_MOST rfl) (da_nil) (star_cons rfl)) rfl rfl rfl (by decide)) (da_nil) (star_cons rfl)) (star_cons rfl)) (star_cons rfl)))))
  (dss_nil))
  (dss_never))))))) (fun _ _ _ _ h => h.2)
abbrev st_read_packet : Stmt := (top 47)
theorem sc_read_packet : FnScope (["numbers", "reading", "sender", "receiver", "number", "content"] : List Str) (["numbers"] : List Str) (defScope st_read_packet) := ⟨rfl, rfl, rfl, by decide +kernel, rfl, by decide +kernel, by decide +kernel⟩
theorem is_read_packet {G : Wo} {c : CA} (z : Z G c) (h_Reading_init : MkIs G 1 "Reading" c.Reading 2 (sp_Reading_init c)) (h_Reading_count : MtIs G 5 c.Reading "count" 3 (sp_Reading_count c)) (h_read_content : FnIs G 7 "read_content" 2 (sp_read_content c)) {f : Nat} {fd : FuncData} (F : FunD G.K "read_packet" "read_packet" (defArgs st_read_packet) (defBody st_read_packet) (defScope st_read_packet) [] [] f fd) : FnAt G 8 f 1 (sp_read_packet c) :=
  FnAt.wk <| fnAt_of (t := t_read_packet c) F sc_read_packet rfl (fun _ _ _ _ _ _ us hl => match us, hl with | [_], _ => rfl) (fun _ _ _ _ h => h.1) (fun cdv A outer s H E sd =>
  dss_cons (ds_set (i := 1) sd.nd rfl (.inl rfl) (de_make (C := c.Reading) h_Reading_init (sd.rm.mono (by decide)) rfl (da_cons (de_var (i := 0) rfl (.inl rfl) rfl rfl) (da_nil) (star_cons rfl)) rfl rfl) rfl (.inl rfl))
  (dss_cons (ds_expr (de_meth (C := c.Reading) (m := "count") h_Reading_count (sd.rm.mono (by decide)) (de_var (i := 1) rfl (.inl rfl) rfl rfl) (da_cons (de_glob (x := "VERSION") rfl z.g_VERSION rfl) (da_cons (de_glob (x := "VERSION") rfl z.g_VERSION rfl) (da_nil) (star_cons rfl)) (star_cons rfl)) rfl rfl rfl (by decide)) rfl)
  (dss_cons (ds_set (i := 2) sd.nd rfl (.inl rfl) (de_meth (C := c.Reading) (m := "count") h_Reading_count (sd.rm.mono (by decide)) (de_var (i := 1) rfl (.inl rfl) rfl rfl) (da_cons (de_int) (da_cons (de_glob (x := "VAT_MOST") rfl z.g_VAT_MOST rfl) (da_nil) (star_cons rfl)) (star_cons rfl)) rfl rfl rfl (by decide)) rfl (.inl rfl))
  (dss_cons (ds_set (i := 3) sd.nd rfl (.inl rfl) (de_meth (C := c.Reading) (m := "count") h_Reading_count (sd.rm.mono (by decide)) (de_var (i := 1) rfl (.inl rfl) rfl rfl) (da_cons (de_int) (da_cons (de_glob (x := "VAT_MOST") rfl z.g_VAT_MOST rfl) (da_nil) (star_cons rfl)) (star_cons rfl)) rfl rfl rfl (by decide)) rfl (.inl rfl))
  (dss_cons (ds_set (i := 4) sd.nd rfl (.inl rfl) (de_meth (C := c.Reading) (m := "count") h_Reading_count (sd.rm.mono (by decide)) (de_var (i := 1) rfl (.inl rfl) rfl rfl) (da_cons (de_int) (da_cons (de_glob (x := "NUMBER_MOST") rfl z.g_NUMBER_MOST rfl) (da_nil) (star_cons rfl)) (star_cons rfl)) rfl rfl rfl (by decide)) rfl (.inl rfl))
  (dss_cons (ds_set (i := 5) sd.nd rfl (.inl rfl) (de_call h_read_content (sd.rm.mono (by decide)) rfl (da_cons (de_var (i := 1) rfl (.inl rfl) rfl rfl) (da_cons (de_ix id_seq (de_glob (x := "CONTENTS") rfl z.g_CONTENTS rfl) (de_meth (C := c.Reading) (m := "count") h_Reading_count (sd.rm.mono (by decide)) (de_var (i := 1) rfl (.inl rfl) rfl rfl) (da_cons (de_int) (da_cons (de_op od_sub (de_cb (x := "len") cd_len rfl z.f_len rfl (da_cons (de_glob (x := "CONTENTS") rfl z.g_CONTENTS rfl) (da_nil) (star_cons rfl)) (by decide) rfl rfl) (de_int)) (da_nil) (star_cons rfl)) (star_cons rfl)) rfl rfl rfl (by decide)) (fun _ _ => rfl)) (da_nil) (star_cons rfl)) (star_cons rfl)) rfl rfl) rfl (.inl rfl))
  (dss_cons (ds_if (dt_cmp (od_ne sd.hu) (de_fld (f := "at") z.cl_Reading_at (de_var (i := 1) rfl (.inl rfl) rfl rfl) rfl) (de_cb (x := "len") cd_len rfl z.f_len rfl (da_cons (de_var (i := 0) rfl (.inl rfl) rfl rfl) (da_nil) (star_cons rfl)) (by decide) rfl rfl) rfl)
  (dss_one (ds_raise sd.calm (z.x_Malformed.dmk (sd.mono (by decide)) rfl (da_cons (de_fld (f := "at") z.cl_Reading_at (de_var (i := 1) rfl (.inl rfl) rfl rfl) rfl) (da_nil) (star_cons rfl)) rfl rfl)))
  (dss_nil))
  (dss_one (ds_ret (de_tup (da_cons (de_var (i := 2) rfl (.inl rfl) rfl rfl) (da_cons (de_var (i := 3) rfl (.inl rfl) rfl rfl) (da_cons (de_var (i := 4) rfl (.inl rfl) rfl rfl) (da_cons (de_var (i := 5) rfl (.inl rfl) rfl rfl) (da_nil) (star_cons rfl)) (star_cons rfl)) (star_cons rfl)) (star_cons rfl)))))))))))) (fun _ _ _ _ h => h.2)
abbrev st_write_acknowledgement : Stmt := (top 51)
theorem sc_write_acknowledgement : FnScope (["sender", "receiver", "count"] : List Str) (["sender", "receiver", "count"] : List Str) (defScope st_write_acknowledgement) := ⟨rfl, rfl, rfl, by decide +kernel, rfl, by decide +kernel, by decide +kernel⟩
theorem is_write_acknowledgement {G : Wo} {c : CA} (z : Z G c) (h_write_count : FnIs G 1 "write_count" 1 (sp_write_count c)) {f : Nat} {fd : FuncData} (F : FunD G.K "write_acknowledgement" "write_acknowledgement" (defArgs st_write_acknowledgement) (defBody st_write_acknowledgement) (defScope st_write_acknowledgement) [] [] f fd) : FnAt G 2 f 3 (sp_write_acknowledgement c) :=
  FnAt.wk <| fnAt_of (t := t_write_acknowledgement c) F sc_write_acknowledgement rfl (fun _ _ _ _ _ _ us hl => match us, hl with | [_, _, _], _ => rfl) (fun _ _ _ _ h => h.1) (fun cdv A outer s H E sd =>
  dss_one (ds_ret (de_op od_add (de_op od_add (de_op od_add (de_lst (da_cons (de_glob (x := "ACKNOWLEDGEMENT_MARK") rfl z.g_ACKNOWLEDGEMENT_MARK rfl) (da_nil) (star_cons rfl))) (de_call h_write_count (sd.rm.mono (by decide)) rfl (da_cons (de_var (i := 0) rfl (.inl rfl) rfl rfl) (da_nil) (star_cons rfl)) rfl rfl)) (de_call h_write_count (sd.rm.mono (by decide)) rfl (da_cons (de_var (i := 1) rfl (.inl rfl) rfl rfl) (da_nil) (star_cons rfl)) rfl rfl)) (de_call h_write_count (sd.rm.mono (by decide)) rfl (da_cons (de_var (i := 2) rfl (.inl rfl) rfl rfl) (da_nil) (star_cons rfl)) rfl rfl)))) (fun _ _ _ _ h => h.2)
abbrev st_read_frame : Stmt := (top 52)
theorem sc_read_frame : FnScope (["numbers", "reading", "sender", "receiver", "count"] : List Str) (["numbers"] : List Str) (defScope st_read_frame) := ⟨rfl, rfl, rfl, by decide +kernel, rfl, by decide +kernel, by decide +kernel⟩
theorem is_read_frame {G : Wo} {c : CA} (z : Z G c) (h_Reading_init : MkIs G 1 "Reading" c.Reading 2 (sp_Reading_init c)) (h_Reading_count : MtIs G 5 c.Reading "count" 3 (sp_Reading_count c)) (h_read_packet : FnIs G 8 "read_packet" 1 (sp_read_packet c)) {f : Nat} {fd : FuncData} (F : FunD G.K "read_frame" "read_frame" (defArgs st_read_frame) (defBody st_read_frame) (defScope st_read_frame) [] [] f fd) : FnAt G 9 f 1 (sp_read_frame c) :=
  FnAt.wk <| fnAt_of (t := t_read_frame c) F sc_read_frame rfl (fun _ _ _ _ _ _ us hl => match us, hl with | [_], _ => rfl) (fun _ _ _ _ h => h.1) (fun cdv A outer s H E sd =>
  dss_cons (ds_if (DW.dt (dw_or (dt_cmp (od_eq sd.hu) (de_cb (x := "len") cd_len rfl z.f_len rfl (da_cons (de_var (i := 0) rfl (.inl rfl) rfl rfl) (da_nil) (star_cons rfl)) (by decide) rfl rfl) (de_int) rfl) (dw_or1 (dt_cmp (od_notIn sd.hu) (de_ix id_seq (de_var (i := 0) rfl (.inl rfl) rfl rfl) (de_int) (fun _ _ => rfl)) (de_tup (da_cons (de_glob (x := "PACKET_MARK") rfl z.g_PACKET_MARK rfl) (da_cons (de_glob (x := "ACKNOWLEDGEMENT_MARK") rfl z.g_ACKNOWLEDGEMENT_MARK rfl) (da_nil) (star_cons rfl)) (star_cons rfl))) rfl))))
  (dss_one (ds_raise sd.calm (z.x_Malformed.dmk (sd.mono (by decide)) rfl (da_cons (de_int) (da_nil) (star_cons rfl)) rfl rfl)))
  (dss_nil))
  (dss_cons (ds_if (dt_cmp (od_eq sd.hu) (de_ix id_seq (de_var (i := 0) rfl (.inl rfl) rfl rfl) (de_int) (fun _ _ => rfl)) (de_glob (x := "PACKET_MARK") rfl z.g_PACKET_MARK rfl) rfl)
  (dss_one (ds_ret (de_tup (da_cons (de_str (s := "packet")) (da_cons (de_call h_read_packet (sd.rm.mono (by decide)) rfl (da_cons (de_var (i := 0) rfl (.inl rfl) rfl rfl) (da_nil) (star_cons rfl)) rfl rfl) (da_nil) (star_cons rfl)) (star_cons rfl)))))
  (dss_nil))
  (dss_cons (ds_set (i := 1) sd.nd rfl (.inl rfl) (de_make (C := c.Reading) h_Reading_init (sd.rm.mono (by decide)) rfl (da_cons (de_var (i := 0) rfl (.inl rfl) rfl rfl) (da_nil) (star_cons rfl)) rfl rfl) rfl (.inl rfl))
  (dss_cons (ds_expr (de_meth (C := c.Reading) (m := "count") h_Reading_count (sd.rm.mono (by decide)) (de_var (i := 1) rfl (.inl rfl) rfl rfl) (da_cons (de_glob (x := "ACKNOWLEDGEMENT_MARK") rfl z.g_ACKNOWLEDGEMENT_MARK rfl) (da_cons (de_glob (x := "ACKNOWLEDGEMENT_MARK") rfl z.g_ACKNOWLEDGEMENT_MARK rfl) (da_nil) (star_cons rfl)) (star_cons rfl)) rfl rfl rfl (by decide)) rfl)
  (dss_cons (ds_set (i := 2) sd.nd rfl (.inl rfl) (de_meth (C := c.Reading) (m := "count") h_Reading_count (sd.rm.mono (by decide)) (de_var (i := 1) rfl (.inl rfl) rfl rfl) (da_cons (de_int) (da_cons (de_glob (x := "VAT_MOST") rfl z.g_VAT_MOST rfl) (da_nil) (star_cons rfl)) (star_cons rfl)) rfl rfl rfl (by decide)) rfl (.inl rfl))
  (dss_cons (ds_set (i := 3) sd.nd rfl (.inl rfl) (de_meth (C := c.Reading) (m := "count") h_Reading_count (sd.rm.mono (by decide)) (de_var (i := 1) rfl (.inl rfl) rfl rfl) (da_cons (de_int) (da_cons (de_glob (x := "VAT_MOST") rfl z.g_VAT_MOST rfl) (da_nil) (star_cons rfl)) (star_cons rfl)) rfl rfl rfl (by decide)) rfl (.inl rfl))
  (dss_cons (ds_set (i := 4) sd.nd rfl (.inl rfl) (de_meth (C := c.Reading) (m := "count") h_Reading_count (sd.rm.mono (by decide)) (de_var (i := 1) rfl (.inl rfl) rfl rfl) (da_cons (de_int) (da_cons (de_glob (x := "NUMBER_MOST") rfl z.g_NUMBER_MOST rfl) (da_nil) (star_cons rfl)) (star_cons rfl)) rfl rfl rfl (by decide)) rfl (.inl rfl))
  (dss_cons (ds_if (dt_cmp (od_ne sd.hu) (de_fld (f := "at") z.cl_Reading_at (de_var (i := 1) rfl (.inl rfl) rfl rfl) rfl) (de_cb (x := "len") cd_len rfl z.f_len rfl (da_cons (de_var (i := 0) rfl (.inl rfl) rfl rfl) (da_nil) (star_cons rfl)) (by decide) rfl rfl) rfl)
  (dss_one (ds_raise sd.calm (z.x_Malformed.dmk (sd.mono (by decide)) rfl (da_cons (de_fld (f := "at") z.cl_Reading_at (de_var (i := 1) rfl (.inl rfl) rfl rfl) rfl) (da_nil) (star_cons rfl)) rfl rfl)))
  (dss_nil))
  (dss_one (ds_ret (de_tup (da_cons (de_str (s := "acknowledgement")) (da_cons (de_var (i := 2) rfl (.inl rfl) rfl rfl) (da_cons (de_var (i := 3) rfl (.inl rfl) rfl rfl) (da_cons (de_var (i := 4) rfl (.inl rfl) rfl rfl) (da_nil) (star_cons rfl)) (star_cons rfl)) (star_cons rfl)) (star_cons rfl))))))))))))) (fun _ _ _ _ h => h.2)
abbrev st__law_cell : Stmt := (top 54)
theorem sc__law_cell : FnScope (["_law_script", "_law_k"] : List Str) (["_law_script", "_law_k"] : List Str) (defScope st__law_cell) := ⟨rfl, rfl, rfl, by decide +kernel, rfl, by decide +kernel, by decide +kernel⟩
theorem is__law_cell {G : Wo} {c : CA} (z : Z G c) {f : Nat} {fd : FuncData} (F : FunD G.K "_law_cell" "_law_cell" (defArgs st__law_cell) (defBody st__law_cell) (defScope st__law_cell) [] [] f fd) : FnAt G 1 f 2 (sp__law_cell c) :=
  FnAt.wk <| fnAt_of (t := t__law_cell c) F sc__law_cell rfl (fun _ _ _ _ _ _ us hl => match us, hl with | [_, _], _ => rfl) (fun _ _ _ _ h => h.1) (fun cdv A outer s H E sd =>
  dss_cons (ds_if (dt_cmp od_lt (de_var (i := 1) rfl (.inl rfl) rfl rfl) (de_cb (x := "len") cd_len rfl z.f_len rfl (da_cons (de_var (i := 0) rfl (.inl rfl) rfl rfl) (da_nil) (star_cons rfl)) (by decide) rfl rfl) rfl)
  (dss_one (ds_ret (de_ix id_seq (de_var (i := 0) rfl (.inl rfl) rfl rfl) (de_var (i := 1) rfl (.inl rfl) rfl rfl) (fun _ _ => rfl))))
  (dss_nil))
  (dss_one (ds_ret (de_int)))) (fun _ _ _ _ h => h.2)
abbrev st__law_digits : Stmt := (top 55)
theorem sc__law_digits : FnScope (["_law_script", "_law_first", "_law_last", "_law_digits_here", "_law_k", "_law_cell_here", "_law_place", "_law_seed"] : List Str) (["_law_script", "_law_first", "_law_last"] : List Str) (defScope st__law_digits) := ⟨rfl, rfl, rfl, by decide +kernel, rfl, by decide +kernel, by decide +kernel⟩
theorem is__law_digits {G : Wo} {c : CA} (z : Z G c) (h__law_cell : FnIs G 1 "_law_cell" 2 (sp__law_cell c)) {f : Nat} {fd : FuncData} (F : FunD G.K "_law_digits" "_law_digits" (defArgs st__law_digits) (defBody st__law_digits) (defScope st__law_digits) [] [] f fd) : FnAt G 2 f 3 (sp__law_digits c) :=
  FnAt.wk <| fnAt_of (t := t__law_digits c) F sc__law_digits rfl (fun _ _ _ _ _ _ us hl => match us, hl with | [_, _, _], _ => rfl) (fun _ _ _ _ h => h.1) (fun cdv A outer s H E sd =>
  dss_cons (ds_set (i := 3) sd.nd rfl (.inl rfl) (de_lst (da_nil)) rfl (.inl rfl))
  (dss_cons (ds_for sd.po sd.calm (di_r2 rfl z.f_range (da_cons (de_var (i := 1) rfl (.inl rfl) rfl rfl) (da_cons (de_var (i := 2) rfl (.inl rfl) rfl rfl) (da_nil) (star_cons rfl)) (star_cons rfl)) rfl) (dg_name (i := 4) sd.nd rfl (.inl rfl) (.inl rfl))
  (dss_cons (ds_set (i := 5) sd.nd rfl (.inl rfl) (de_call h__law_cell (sd.rm.mono (by decide)) rfl (da_cons (de_var (i := 0) rfl (.inl rfl) rfl rfl) (da_cons (de_var (i := 4) rfl (.inl rfl) rfl rfl) (da_nil) (star_cons rfl)) (star_cons rfl)) rfl rfl) rfl (.inl rfl))
  (dss_cons (ds_if (dt_cmp od_lt (de_var (i := 5) rfl (.inl rfl) rfl rfl) (de_int) rfl)
  (dss_one (ds_set (i := 5) sd.nd rfl (.inl rfl) (de_op od_sub (de_int) (de_op od_mul (de_int) (de_var (i := 5) rfl (.inl rfl) rfl rfl))) rfl (.inl rfl)))
  (dss_nil))
  (dss_one (ds_if (dt_cmp od_ge (de_var (i := 5) rfl (.inl rfl) rfl rfl) (de_op od_pow (de_int) (de_int)) rfl)
  (dss_one (ds_for sd.po sd.calm (di_r1 rfl z.f_range (da_cons (de_int) (da_nil) (star_cons rfl)) rfl) (dg_name (i := 6) sd.nd rfl (.inl rfl) (.inl rfl))
  (dss_one (ds_if (dt_cmp od_gt (de_var (i := 5) rfl (.inl rfl) rfl rfl) (de_int) rfl)
  (dss_cons (ds_expr (de_bm (T := .lst) (name := "append") PySem.F.plainAttrs_list PySem.F.slot_list_append PySem.F.type_list_append md_append (de_var (i := 3) rfl (.inl rfl) rfl rfl) (da_cons (de_op od_mod (de_ct (x := "int") cd_int rfl z.f_int rfl (da_cons (de_var (i := 5) rfl (.inl rfl) rfl rfl) (da_nil) (star_cons rfl)) (by decide) rfl rfl) (de_int)) (da_nil) (star_cons rfl)) rfl rfl rfl (by decide)) rfl)
  (dss_one (ds_set (i := 5) sd.nd rfl (.inl rfl) (de_op od_fdiv (de_var (i := 5) rfl (.inl rfl) rfl rfl) (de_int)) rfl (.inl rfl))))
  (dss_nil))) (fun _ => rfl)))
  (dss_cons (ds_set (i := 7) sd.nd rfl (.inl rfl) (de_op od_mod (de_ct (x := "int") cd_int rfl z.f_int rfl (da_cons (de_op od_add (de_op od_add (de_op od_mul (de_var (i := 5) rfl (.inl rfl) rfl rfl) (de_int)) (de_op od_mul (de_var (i := 4) rfl (.inl rfl) rfl rfl) (de_int))) (de_int)) (da_nil) (star_cons rfl)) (by decide) rfl rfl) (de_int)) rfl (.inl rfl))
  (dss_one (ds_for sd.po sd.calm (di_r1 rfl z.f_range (da_cons (de_int) (da_nil) (star_cons rfl)) rfl) (dg_name (i := 6) sd.nd rfl (.inl rfl) (.inl rfl))
  (dss_cons (ds_set (i := 7) sd.nd rfl (.inl rfl) (de_op od_mod (de_ct (x := "int") cd_int rfl z.f_int rfl (da_cons (de_op od_add (de_op od_add (de_op od_mul (de_var (i := 7) rfl (.inl rfl) rfl rfl) (de_int)) (de_op od_mul (de_int) (de_var (i := 6) rfl (.inl rfl) rfl rfl))) (de_int)) (da_nil) (star_cons rfl)) (by decide) rfl rfl) (de_int)) rfl (.inl rfl))
  (dss_one (ds_expr (de_bm (T := .lst) (name := "append") PySem.F.plainAttrs_list PySem.F.slot_list_append PySem.F.type_list_append md_append (de_var (i := 3) rfl (.inl rfl) rfl rfl) (da_cons (de_op od_mod (de_ct (x := "int") cd_int rfl z.f_int rfl (da_cons (de_op od_fdiv (de_var (i := 7) rfl (.inl rfl) rfl rfl) (de_int)) (da_nil) (star_cons rfl)) (by decide) rfl rfl) (de_int)) (da_nil) (star_cons rfl)) rfl rfl rfl (by decide)) rfl))) (fun _ => rfl)))))))) (fun _ => rfl))
  (dss_one (ds_ret (de_var (i := 3) rfl (.inl rfl) rfl rfl))))) (fun _ _ _ _ h => h.2)
abbrev st__law_draw : Stmt := (top 56)
theorem sc__law_draw : FnScope (["_law_box", "_law_many", "_law_at"] : List Str) (["_law_box", "_law_many"] : List Str) (defScope st__law_draw) := ⟨rfl, rfl, rfl, by decide +kernel, rfl, by decide +kernel, by decide +kernel⟩
theorem is__law_draw {G : Wo} {c : CA} (z : Z G c) {f : Nat} {fd : FuncData} (F : FunD G.K "_law_draw" "_law_draw" (defArgs st__law_draw) (defBody st__law_draw) (defScope st__law_draw) [] [] f fd) : FnAt G 1 f 2 (sp__law_draw c) :=
  FnAt.wk <| fnAt_of (t := t__law_draw c) F sc__law_draw rfl (fun _ _ _ _ _ _ us hl => match us, hl with | [_, _], _ => rfl) (fun _ _ _ _ h => h.1) (fun cdv A outer s H E sd =>
  dss_cons (ds_set (i := 2) sd.nd rfl (.inl rfl) (de_ix id_seq (de_var (i := 0) rfl (.inl rfl) rfl rfl) (de_int) (fun _ _ => rfl)) rfl (.inl rfl))
  (dss_cons (ds_asg (de_op od_add (de_var (i := 2) rfl (.inl rfl) rfl rfl) (de_int)) (dg_sub (de_var (i := 0) rfl (.inl rfl) rfl rfl) (de_int) sd_list (fun _ => rfl)) rfl rfl rfl)
  (dss_cons (ds_if (dt_cmp od_lt (de_var (i := 2) rfl (.inl rfl) rfl rfl) (de_cb (x := "len") cd_len rfl z.f_len rfl (da_cons (de_ix id_seq (de_var (i := 0) rfl (.inl rfl) rfl rfl) (de_int) (fun _ _ => rfl)) (da_nil) (star_cons rfl)) (by decide) rfl rfl) rfl)
  (dss_one (ds_ret (de_op od_mod (de_ct (x := "int") cd_int rfl z.f_int rfl (da_cons (de_ix id_seq (de_ix id_seq (de_var (i := 0) rfl (.inl rfl) rfl rfl) (de_int) (fun _ _ => rfl)) (de_var (i := 2) rfl (.inl rfl) rfl rfl) (fun _ _ => rfl)) (da_nil) (star_cons rfl)) (by decide) rfl rfl) (de_var (i := 1) rfl (.inl rfl) rfl rfl))))
  (dss_nil))
  (dss_one (ds_ret (de_op od_mod (de_ct (x := "int") cd_int rfl z.f_int rfl (da_cons (de_op od_add (de_op od_mul (de_var (i := 2) rfl (.inl rfl) rfl rfl) (de_int)) (de_int)) (da_nil) (star_cons rfl)) (by decide) rfl rfl) (de_var (i := 1) rfl (.inl rfl) rfl rfl))))))) (fun _ _ _ _ h => h.2)
abbrev st__law_same : Stmt := (top 57)
theorem sc__law_same : FnScope (["_law_actual", "_law_due"] : List Str) (["_law_actual", "_law_due"] : List Str) (defScope st__law_same) := ⟨rfl, rfl, rfl, by decide +kernel, rfl, by decide +kernel, by decide +kernel⟩
theorem is__law_same {G : Wo} {c : CA} (z : Z G c) {f : Nat} {fd : FuncData} (F : FunD G.K "_law_same" "_law_same" (defArgs st__law_same) (defBody st__law_same) (defScope st__law_same) [] [] f fd) : FnAt G 1 f 2 (sp__law_same c) :=
  FnAt.wk <| fnAt_of (t := t__law_same c) F sc__law_same rfl (fun _ _ _ _ _ _ us hl => match us, hl with | [_, _], _ => rfl) (fun _ _ _ _ h => h.1) (fun cdv A outer s H E sd =>
  dss_one (ds_ret (de_cmp (od_eq sd.hu) (de_cb (x := "repr") (cd_repr sd.rm.gd sd.hu) rfl z.f_repr rfl (da_cons (de_var (i := 0) rfl (.inl rfl) rfl rfl) (da_nil) (star_cons rfl)) (by decide) rfl rfl) (de_cb (x := "repr") (cd_repr sd.rm.gd sd.hu) rfl z.f_repr rfl (da_cons (de_var (i := 1) rfl (.inl rfl) rfl rfl) (da_nil) (star_cons rfl)) (by decide) rfl rfl) rfl))) (fun _ _ _ _ h => h.2)
abbrev st__law_read : Stmt := (top 58)
theorem sc__law_read : FnScope (["_law_numbers", "e"] : List Str) (["_law_numbers"] : List Str) (defScope st__law_read) := ⟨rfl, rfl, rfl, by decide +kernel, rfl, by decide +kernel, by decide +kernel⟩
theorem is__law_read {G : Wo} {c : CA} (z : Z G c) (h_read_frame : FnIs G 9 "read_frame" 1 (sp_read_frame c)) {f : Nat} {fd : FuncData} (F : FunD G.K "_law_read" "_law_read" (defArgs st__law_read) (defBody st__law_read) (defScope st__law_read) [] [] f fd) : FnAt G 10 f 1 (sp__law_read c) :=
  FnAt.wk <| fnAt_of (t := t__law_read c) F sc__law_read rfl (fun _ _ _ _ _ _ us hl => match us, hl with | [_], _ => rfl) (fun _ _ _ _ h => h.1) (fun cdv A outer s H E sd =>
  dss_one (ds_try_as_em (z.em c.VatError) (i := 1) rfl rfl sd.nd rfl rfl ⟨rfl, rfl, .inl z.m_VatError⟩ (fun pn xe po => have st := sd.tr po; dss_one (ds_ret (de_call h_read_frame (st.rm.mono (by decide)) rfl (da_cons (de_var (i := 0) rfl (.inl rfl) rfl rfl) (da_nil) (star_cons rfl)) rfl rfl)))
  (fun a oe cls d pn hz hv => dss_cons (ds_if (dt_tru (de_cb (x := "isinstance") (cd_isS (C := c.Malformed) hz hv) rfl z.f_isinstance rfl (da_cons (de_var (i := 1) rfl (.inl rfl) rfl rfl) (da_cons (de_glob (x := "Malformed") rfl z.g_Malformed rfl) (da_nil) (star_cons rfl)) (star_cons rfl)) (by decide) rfl rfl) (fun _ => rfl))
  (dss_one (ds_ret (de_tup (da_cons (de_str (s := "malformed")) (da_cons (de_xf (n := "place") z.xf_Malformed z.xn_Malformed_place hz hv (de_var (i := 1) rfl (.inl rfl) rfl rfl) rfl) (da_nil) (star_cons rfl)) (star_cons rfl)))))
  (dss_nil))
  (dss_one (ds_ret (de_tup (da_cons (de_str (s := "other")) (da_nil) (star_cons rfl)))))))) (fun _ _ _ _ h => h.2)
abbrev st__law_count : Stmt := (top 59)
theorem sc__law_count : FnScope (["_law_number", "_law_digits_here"] : List Str) (["_law_number"] : List Str) (defScope st__law_count) := ⟨rfl, rfl, rfl, by decide +kernel, rfl, by decide +kernel, by decide +kernel⟩
theorem is__law_count {G : Wo} {c : CA} (z : Z G c) {f : Nat} {fd : FuncData} (F : FunD G.K "_law_count" "_law_count" (defArgs st__law_count) (defBody st__law_count) (defScope st__law_count) [] [] f fd) : FnAt G 1 f 1 (sp__law_count c) :=
  FnAt.wk <| fnAt_of (t := t__law_count c) F sc__law_count rfl (fun _ _ _ _ _ _ us hl => match us, hl with | [_], _ => rfl) (fun _ _ _ _ h => h.1) (fun cdv A outer s H E sd =>
  dss_cons (ds_set (i := 1) sd.nd rfl (.inl rfl) (de_lst (da_nil)) rfl (.inl rfl))
  (dss_cons (ds_while sd.po (dt_cmp od_ge (de_var (i := 0) rfl (.inl rfl) rfl rfl) (de_int) rfl)
  (dss_cons (ds_expr (de_bm (T := .lst) (name := "append") PySem.F.plainAttrs_list PySem.F.slot_list_append PySem.F.type_list_append md_append (de_var (i := 1) rfl (.inl rfl) rfl rfl) (da_cons (de_op od_add (de_int) (de_op od_mod (de_ct (x := "int") cd_int rfl z.f_int rfl (da_cons (de_var (i := 0) rfl (.inl rfl) rfl rfl) (da_nil) (star_cons rfl)) (by decide) rfl rfl) (de_int))) (da_nil) (star_cons rfl)) rfl rfl rfl (by decide)) rfl)
  (dss_one (ds_set (i := 0) sd.nd rfl (.inl rfl) (de_op od_fdiv (de_var (i := 0) rfl (.inl rfl) rfl rfl) (de_int)) rfl (.inl rfl)))))
  (dss_one (ds_ret (de_op od_add (de_var (i := 1) rfl (.inl rfl) rfl rfl) (de_lst (da_cons (de_var (i := 0) rfl (.inl rfl) rfl rfl) (da_nil) (star_cons rfl)))))))) (fun _ _ _ _ h => h.2)
abbrev st_law : Stmt := (top 60)
theorem sc_law : FnScope (["_law_script", "_law_box", "_law_sender", "_law_receiver", "_law_count_here", "_law_numbers", "_law_packet", "_law_cut", "_law_first", "_law_great"] : List Str) (["_law_script"] : List Str) (defScope st_law) := ⟨rfl, rfl, rfl, by decide +kernel, rfl, by decide +kernel, by decide +kernel⟩
theorem is_law {G : Wo} {c : CA} (z : Z G c) (h_write_packet : FnIs G 4 "write_packet" 1 (sp_write_packet c)) (h_write_acknowledgement : FnIs G 2 "write_acknowledgement" 3 (sp_write_acknowledgement c)) (h__law_digits : FnIs G 2 "_law_digits" 3 (sp__law_digits c)) (h__law_draw : FnIs G 1 "_law_draw" 2 (sp__law_draw c)) (h__law_same : FnIs G 1 "_law_same" 2 (sp__law_same c)) (h__law_read : FnIs G 10 "_law_read" 1 (sp__law_read c)) (h__law_count : FnIs G 1 "_law_count" 1 (sp__law_count c)) {f : Nat} {fd : FuncData} (F : FunD G.K "law" "law" (defArgs st_law) (defBody st_law) (defScope st_law) [] [] f fd) : FnAt G 11 f 1 (sp_law c) :=
  FnAt.wk <| fnAt_of (t := t_law c) F sc_law rfl (fun _ _ _ _ _ _ us hl => match us, hl with | [_], _ => rfl) (fun _ _ _ _ h => h.1) (fun cdv A outer s H E sd =>
  dss_cons (ds_set (i := 1) sd.nd rfl (.inl rfl) (de_lst (da_cons (de_call h__law_digits (sd.rm.mono (by decide)) rfl (da_cons (de_var (i := 0) rfl (.inl rfl) rfl rfl) (da_cons (de_int) (da_cons (de_int) (da_nil) (star_cons rfl)) (star_cons rfl)) (star_cons rfl)) rfl rfl) (da_cons (de_int) (da_nil) (star_cons rfl)) (star_cons rfl))) rfl (.inl rfl))
  (dss_cons (ds_set (i := 2) sd.nd rfl (.inl rfl) (de_op od_add (de_int) (de_call h__law_draw (sd.rm.mono (by decide)) rfl (da_cons (de_var (i := 1) rfl (.inl rfl) rfl rfl) (da_cons (de_int) (da_nil) (star_cons rfl)) (star_cons rfl)) rfl rfl)) rfl (.inl rfl))
  (dss_cons (ds_set (i := 3) sd.nd rfl (.inl rfl) (de_op od_add (de_int) (de_call h__law_draw (sd.rm.mono (by decide)) rfl (da_cons (de_var (i := 1) rfl (.inl rfl) rfl rfl) (da_cons (de_int) (da_nil) (star_cons rfl)) (star_cons rfl)) rfl rfl)) rfl (.inl rfl))
  (dss_cons (ds_set (i := 4) sd.nd rfl (.inl rfl) (de_op od_mul (de_call h__law_draw (sd.rm.mono (by decide)) rfl (da_cons (de_var (i := 1) rfl (.inl rfl) rfl rfl) (da_cons (de_int) (da_nil) (star_cons rfl)) (star_cons rfl)) rfl rfl) (de_call h__law_draw (sd.rm.mono (by decide)) rfl (da_cons (de_var (i := 1) rfl (.inl rfl) rfl rfl) (da_cons (de_int) (da_nil) (star_cons rfl)) (star_cons rfl)) rfl rfl)) rfl (.inl rfl))
  (dss_cons (ds_set (i := 5) sd.nd rfl (.inl rfl) (de_call h_write_acknowledgement (sd.rm.mono (by decide)) rfl (da_cons (de_var (i := 2) rfl (.inl rfl) rfl rfl) (da_cons (de_var (i := 3) rfl (.inl rfl) rfl rfl) (da_cons (de_var (i := 4) rfl (.inl rfl) rfl rfl) (da_nil) (star_cons rfl)) (star_cons rfl)) (star_cons rfl)) rfl rfl) rfl (.inl rfl))
  (dss_cons (ds_if (dt_not (dt_tru (de_call h__law_same (sd.rm.mono (by decide)) rfl (da_cons (de_var (i := 5) rfl (.inl rfl) rfl rfl) (da_cons (de_op od_add (de_lst (da_cons (de_int) (da_cons (de_var (i := 2) rfl (.inl rfl) rfl rfl) (da_cons (de_var (i := 3) rfl (.inl rfl) rfl rfl) (da_nil) (star_cons rfl)) (star_cons rfl)) (star_cons rfl))) (de_call h__law_count (sd.rm.mono (by decide)) rfl (da_cons (de_var (i := 4) rfl (.inl rfl) rfl rfl) (da_nil) (star_cons rfl)) rfl rfl)) (da_nil) (star_cons rfl)) (star_cons rfl)) rfl rfl) (fun _ => rfl)))
  (dss_one (ds_ret (de_bl)))
  (dss_nil))
  (dss_cons (ds_if (dt_not (dt_tru (de_call h__law_same (sd.rm.mono (by decide)) rfl (da_cons (de_call h__law_read (sd.rm.mono (by decide)) rfl (da_cons (de_var (i := 5) rfl (.inl rfl) rfl rfl) (da_nil) (star_cons rfl)) rfl rfl) (da_cons (de_tup (da_cons (de_str (s := "acknowledgement")) (da_cons (de_var (i := 2) rfl (.inl rfl) rfl rfl) (da_cons (de_var (i := 3) rfl (.inl rfl) rfl rfl) (da_cons (de_var (i := 4) rfl (.inl rfl) rfl rfl) (da_nil) (star_cons rfl)) (star_cons rfl)) (star_cons rfl)) (star_cons rfl))) (da_nil) (star_cons rfl)) (star_cons rfl)) rfl rfl) (fun _ => rfl)))
  (dss_one (ds_ret (de_bl)))
  (dss_nil))
  (dss_cons (ds_set (i := 6) sd.nd rfl (.inl rfl) (de_tup (da_cons (de_var (i := 2) rfl (.inl rfl) rfl rfl) (da_cons (de_var (i := 3) rfl (.inl rfl) rfl rfl) (da_cons (de_op od_add (de_int) (de_var (i := 4) rfl (.inl rfl) rfl rfl)) (da_cons (de_tup (da_cons (de_str (s := "break")) (da_cons (de_op od_add (de_int) (de_call h__law_draw (sd.rm.mono (by decide)) rfl (da_cons (de_var (i := 1) rfl (.inl rfl) rfl rfl) (da_cons (de_int) (da_nil) (star_cons rfl)) (star_cons rfl)) rfl rfl)) (da_cons (de_str (s := "no")) (da_nil) (star_cons rfl)) (star_cons rfl)) (star_cons rfl))) (da_nil) (star_cons rfl)) (star_cons rfl)) (star_cons rfl)) (star_cons rfl))) rfl (.inl rfl))
  (dss_cons (ds_if (dt_not (dt_tru (de_call h__law_same (sd.rm.mono (by decide)) rfl (da_cons (de_call h__law_read (sd.rm.mono (by decide)) rfl (da_cons (de_call h_write_packet (sd.rm.mono (by decide)) rfl (da_cons (de_var (i := 6) rfl (.inl rfl) rfl rfl) (da_nil) (star_cons rfl)) rfl rfl) (da_nil) (star_cons rfl)) rfl rfl) (da_cons (de_tup (da_cons (de_str (s := "packet")) (da_cons (de_var (i := 6) rfl (.inl rfl) rfl rfl) (da_nil) (star_cons rfl)) (star_cons rfl))) (da_nil) (star_cons rfl)) (star_cons rfl)) rfl rfl) (fun _ => rfl)))
  (dss_one (ds_ret (de_bl)))
  (dss_nil))
  (dss_cons (ds_set (i := 7) sd.nd rfl (.inl rfl) (de_call h__law_draw (sd.rm.mono (by decide)) rfl (da_cons (de_var (i := 1) rfl (.inl rfl) rfl rfl) (da_cons (de_cb (x := "len") cd_len rfl z.f_len rfl (da_cons (de_var (i := 5) rfl (.inl rfl) rfl rfl) (da_nil) (star_cons rfl)) (by decide) rfl rfl) (da_nil) (star_cons rfl)) (star_cons rfl)) rfl rfl) rfl (.inl rfl))
  (dss_cons (ds_if (dt_not (dt_tru (de_call h__law_same (sd.rm.mono (by decide)) rfl (da_cons (de_call h__law_read (sd.rm.mono (by decide)) rfl (da_cons (de_sl (de_var (i := 5) rfl (.inl rfl) rfl rfl) (dp_none) (dp_some (de_var (i := 7) rfl (.inl rfl) rfl rfl))) (da_nil) (star_cons rfl)) rfl rfl) (da_cons (de_tup (da_cons (de_str (s := "malformed")) (da_cons (de_var (i := 7) rfl (.inl rfl) rfl rfl) (da_nil) (star_cons rfl)) (star_cons rfl))) (da_nil) (star_cons rfl)) (star_cons rfl)) rfl rfl) (fun _ => rfl)))
  (dss_one (ds_ret (de_bl)))
  (dss_nil))
  (dss_cons (ds_if (dt_not (dt_tru (de_call h__law_same (sd.rm.mono (by decide)) rfl (da_cons (de_call h__law_read (sd.rm.mono (by decide)) rfl (da_cons (de_op od_add (de_var (i := 5) rfl (.inl rfl) rfl rfl) (de_lst (da_cons (de_call h__law_draw (sd.rm.mono (by decide)) rfl (da_cons (de_var (i := 1) rfl (.inl rfl) rfl rfl) (da_cons (de_int) (da_nil) (star_cons rfl)) (star_cons rfl)) rfl rfl) (da_nil) (star_cons rfl)))) (da_nil) (star_cons rfl)) rfl rfl) (da_cons (de_tup (da_cons (de_str (s := "malformed")) (da_cons (de_cb (x := "len") cd_len rfl z.f_len rfl (da_cons (de_var (i := 5) rfl (.inl rfl) rfl rfl) (da_nil) (star_cons rfl)) (by decide) rfl rfl) (da_nil) (star_cons rfl)) (star_cons rfl))) (da_nil) (star_cons rfl)) (star_cons rfl)) rfl rfl) (fun _ => rfl)))
  (dss_one (ds_ret (de_bl)))
  (dss_nil))
  (dss_cons (ds_set (i := 8) sd.nd rfl (.inl rfl) (de_ix id_seq (de_lst (da_cons (de_int) (da_cons (de_int) (da_cons (de_int) (da_cons (de_int) (da_cons (de_int) (da_nil) (star_cons rfl)) (star_cons rfl)) (star_cons rfl)) (star_cons rfl)) (star_cons rfl))) (de_call h__law_draw (sd.rm.mono (by decide)) rfl (da_cons (de_var (i := 1) rfl (.inl rfl) rfl rfl) (da_cons (de_int) (da_nil) (star_cons rfl)) (star_cons rfl)) rfl rfl) (fun _ _ => rfl)) rfl (.inl rfl))
  (dss_cons (ds_if (dt_not (dt_tru (de_call h__law_same (sd.rm.mono (by decide)) rfl (da_cons (de_call h__law_read (sd.rm.mono (by decide)) rfl (da_cons (de_op od_add (de_lst (da_cons (de_var (i := 8) rfl (.inl rfl) rfl rfl) (da_nil) (star_cons rfl))) (de_sl (de_var (i := 5) rfl (.inl rfl) rfl rfl) (dp_some (de_int)) (dp_none))) (da_nil) (star_cons rfl)) rfl rfl) (da_cons (de_tup (da_cons (de_str (s := "malformed")) (da_cons (de_int) (da_nil) (star_cons rfl)) (star_cons rfl))) (da_nil) (star_cons rfl)) (star_cons rfl)) rfl rfl) (fun _ => rfl)))
  (dss_one (ds_ret (de_bl)))
  (dss_nil))
  (dss_cons (ds_if (DW.dt (dw_or (dt_not (dt_tru (de_call h__law_same (sd.rm.mono (by decide)) rfl (da_cons (de_call h__law_read (sd.rm.mono (by decide)) rfl (da_cons (de_lst (da_cons (de_int) (da_cons (de_int) (da_cons (de_var (i := 3) rfl (.inl rfl) rfl rfl) (da_cons (de_int) (da_nil) (star_cons rfl)) (star_cons rfl)) (star_cons rfl)) (star_cons rfl))) (da_nil) (star_cons rfl)) rfl rfl) (da_cons (de_tup (da_cons (de_str (s := "malformed")) (da_cons (de_int) (da_nil) (star_cons rfl)) (star_cons rfl))) (da_nil) (star_cons rfl)) (star_cons rfl)) rfl rfl) (fun _ => rfl))) (dw_or1 (dt_not (dt_tru (de_call h__law_same (sd.rm.mono (by decide)) rfl (da_cons (de_call h__law_read (sd.rm.mono (by decide)) rfl (da_cons (de_lst (da_cons (de_int) (da_cons (de_int) (da_cons (de_int) (da_cons (de_int) (da_nil) (star_cons rfl)) (star_cons rfl)) (star_cons rfl)) (star_cons rfl))) (da_nil) (star_cons rfl)) rfl rfl) (da_cons (de_tup (da_cons (de_str (s := "malformed")) (da_cons (de_int) (da_nil) (star_cons rfl)) (star_cons rfl))) (da_nil) (star_cons rfl)) (star_cons rfl)) rfl rfl) (fun _ => rfl))))))
  (dss_one (ds_ret (de_bl)))
  (dss_nil))
  (dss_cons (ds_set (i := 9) sd.nd rfl (.inl rfl) (de_call h__law_count (sd.rm.mono (by decide)) rfl (da_cons (de_op od_add (de_op od_add (de_op od_pow (de_int) (de_int)) (de_int)) (de_call h__law_draw (sd.rm.mono (by decide)) rfl (da_cons (de_var (i := 1) rfl (.inl rfl) rfl rfl) (da_cons (de_int) (da_nil) (star_cons rfl)) (star_cons rfl)) rfl rfl)) (da_nil) (star_cons rfl)) rfl rfl) rfl (.inl rfl))
  (dss_one (ds_ret (de_call h__law_same (sd.rm.mono (by decide)) rfl (da_cons (de_call h__law_read (sd.rm.mono (by decide)) rfl (da_cons (de_op od_add (de_lst (da_cons (de_int) (da_cons (de_var (i := 2) rfl (.inl rfl) rfl rfl) (da_cons (de_var (i := 3) rfl (.inl rfl) rfl rfl) (da_nil) (star_cons rfl)) (star_cons rfl)) (star_cons rfl))) (de_var (i := 9) rfl (.inl rfl) rfl rfl)) (da_nil) (star_cons rfl)) rfl rfl) (da_cons (de_tup (da_cons (de_str (s := "malformed")) (da_cons (de_op od_add (de_int) (de_cb (x := "len") cd_len rfl z.f_len rfl (da_cons (de_var (i := 9) rfl (.inl rfl) rfl rfl) (da_nil) (star_cons rfl)) (by decide) rfl rfl)) (da_nil) (star_cons rfl)) (star_cons rfl))) (da_nil) (star_cons rfl)) (star_cons rfl)) rfl rfl))))))))))))))))))) (fun _ _ _ _ h => h.2)
end V52

set_option Elab.async false
set_option linter.all false
set_option autoImplicit false
set_option maxRecDepth 100000
set_option maxHeartbeats 4000000
/-! V52p: what the defs of the frames compute, in plain data -/
namespace V52
open PySem PySem.Spec PyProof.Rows L2 VD
variable {c : CA}
theorem deq_int (i j : Int) : deq (.int i) (.int j) = decide (i = j) := by
  show (i == j) = decide (i = j)
  rw [Bool.eq_iff_iff]; simp
theorem eq_ff {i j : Int} (h : i ≠ j) : (false ^^ deq (.int i) (.int j)) = false := by rw [deq_int, decide_eq_false h]; rfl
theorem eq_tt {i j : Int} (h : i = j) : (false ^^ deq (.int i) (.int j)) = true := by rw [deq_int, decide_eq_true h]; rfl
theorem ne_ff {i j : Int} (h : i = j) : (true ^^ deq (.int i) (.int j)) = false := by rw [deq_int, decide_eq_true h]; rfl
theorem ne_tt {i j : Int} (h : i ≠ j) : (true ^^ deq (.int i) (.int j)) = true := by rw [deq_int, decide_eq_false h]; rfl
/-! ### counts, written -/
def wc (n : Nat) : List Nat := if n < 128 then [n] else (128 + n % 128) :: wc (n / 128)
theorem wc_length (k n : Nat) (h : n < 128 ^ k) (hk : 0 < k) : (wc n).length ≤ k := by
  induction k generalizing n with
  | zero => omega
  | succ k ih =>
    unfold wc
    split
    · simp
    · rename_i h2
      have : n / 128 < 128 ^ k := by rw [Nat.div_lt_iff_lt_mul (by decide)]; rw [Nat.pow_succ] at h; exact h
      have hk : 0 < k := by
        rcases Nat.eq_zero_or_pos k with e | e
        · subst e; simp at h; omega
        · exact e
      simp only [List.length_cons]
      have := ih _ this hk
      omega
theorem write_count_ok (n : Nat) (S : Sto) (P : DK) (Y : XD) (hl : (wc n).length ≤ 90000) (h : ∀ p, S p = none → P (.ref p) (up S p (.lst (nts (wc n))))) : sp_write_count c [.int n] S P Y := by
  refine ⟨rfl, ?_⟩
  conv => whnf
  refine ⟨sl_le (by decide), fun p hp => ?_⟩
  conv => whnf
  refine ⟨fun m δ S' => ∃ done, wc n = done ++ wc m ∧ δ = [some (.int (m : Int)), some (.ref p)] ∧ S' = up S p (.lst (nts done)), ⟨n, [], rfl, rfl, rfl⟩, ?_⟩
  rintro m δ S' ⟨done, hw, rfl, rfl⟩
  have hd : done.length ≤ 90000 := by have := congrArg List.length hw; simp at this; omega
  have hm : wc m = if m < 128 then [m] else (128 + m % 128) :: wc (m / 128) := by rw [wc]
  conv => whnf
  split
  · rename_i hb
    have h128 := of_decide_eq_true hb
    conv => whnf
    refine ⟨ty_lst up_same, ?_⟩
    conv => whnf
    refine ⟨show (0 : Int) < 128 by decide, ?_⟩
    conv => whnf
    rw [up_same]
    conv => whnf
    refine ⟨sl_lt (by simp [nts]; omega), ?_⟩
    conv => whnf
    refine ⟨⟨by decide, by decide⟩, ?_⟩
    conv => whnf
    refine ⟨m / 128, by omega, done ++ [128 + m % 128], ?_, ?_, ?_⟩
    · rw [hw, hm, if_neg (by omega)]; simp
    · rfl
    · rw [up_up]; simp [nts]
  · rename_i hb
    have h128 := of_decide_eq_false hb
    conv => whnf
    refine ⟨ty_lst up_same, ?_⟩
    conv => whnf
    rw [up_same]
    conv => whnf
    refine ⟨sl_lt (by simp [nts]; omega), ?_⟩
    conv => whnf
    rw [up_up]
    have e : nts (wc n) = nts done ++ [D.int m] := by rw [hw, hm, if_pos (by omega)]; simp [nts]
    rw [e] at h
    exact ⟨_, Le.refl _, h p hp⟩
/-! ### counts, read -/
def dgG (ns : List Int) (most : Nat) : Nat → Nat → Int → Int → Nat → Except Int (Int × Nat)
  | 0, _, tot, _, at_ => .ok (tot, at_)
  | k + 1, done, tot, unit, at_ => match ns[at_]? with
    | none => .error ns.length
    | some d => if done = most ∨ d < 0 ∨ d > 255 ∨ (d = 0 ∧ done > 0) then .error at_
      else if d < 128 then .ok (tot + unit * d, at_ + 1)
      else dgG ns most k (done + 1) (tot + unit * (d - 128)) (unit * 128) (at_ + 1)
abbrev rdo (c : CA) (dx l at_ : Nat) : DO := .ins c.Reading dx [("numbers", .ref l), ("at", .int at_)]
/-- what a reading does, its answer told by r -/
def Does (c : CA) (a dx l : Nat) (S : Sto) (P : DK) (Y : XD) (r : Except Int (D × Nat)) : Prop := match r with
  | .ok (v, at_) => P v (up S a (rdo c dx l at_))
  | .error p => ∀ at_ d, up S a (rdo c dx l at_) d = none → Y (.ref c.Malformed) (some d) (up (up S a (rdo c dx l at_)) d (.xd [("place", .int p)]))
theorem small_log {p : Int} (h : p.natAbs ≤ 1000000) : p.natAbs.log2 < 1920 := by
  by_cases hz : p.natAbs = 0
  · rw [hz]; decide
  · exact Nat.lt_trans ((Nat.log2_lt hz).mpr (Nat.lt_of_le_of_lt h (by decide : 1000000 < 2 ^ 20))) (by decide)
theorem mk_mal {p : Int} (h : p.natAbs ≤ 1000000) : mk_Malformed [.int p] = some [("place", .int p)] := by
  show (if p.natAbs.log2 < 1920 then some [("place", D.int p)] else none) = _
  rw [if_pos (small_log h)]
def Does1 (c : CA) (a dx l : Nat) (S : Sto) (P : DK) (Y : XD) (r : Except Int (Int × Nat)) : Prop := Does c a dx l S P Y (match r with
  | .ok (v, e) => .ok (.int v, e)
  | .error p => .error p)
theorem lt_of_not {a b : Int} (h : decide (b ≤ a) = false) : a < b := by have := of_decide_eq_false h; omega
theorem raise_ok {a dx l at_ : Nat} {p : Int} {S : Sto} {P : DK} {Y : XD} (hp : p.natAbs ≤ 1000000) (h : Does c a dx l S P Y (.error p)) (d : Nat) (hd : up S a (rdo c dx l at_) d = none) :
    wkY Y (.ref c.Malformed) (some d) (up (up S a (rdo c dx l at_)) d (.xd [("place", .int p)])) := ⟨_, Le.refl _, h at_ d hd⟩
/-- the turn behind its tests -/
def loopTail (c : CA) (a dx l : Nat) (S : Sto) (P : DK) (Y : XD) (most k done : Nat) (tot unit dg : Int) (at_ : Nat) (y : Option D) : Prop :=
  dSq (dAugF c.Reading "at" (dVar 0) (dC (.int 1)) (ipD fun i j => i + j))
    (dSq (dIfS (dTest (dBin ltD (dVar 5) (dC (.int 128)))) (dRet (dBin addD (dVar 2) (dBin mulD (dVar 3) (dVar 5)))) dNx)
    (dSq (dAug 2 (dBin mulD (dVar 3) (dBin subD (dVar 5) (dC (.int 128)))) (ipD fun i j => i + j))
    (dAsg (dBin mulD (dVar 3) (dC (.int 128))) (gNm 3))))
    (Ed.lp (loopD (gNm 4) (b_Reading_digits_0 c) (fun _ => True) (Ed.sq (dRet (dVar 2)) (endD (wkP P) (wkY Y))) (rgI ((done : Int) + 1) k)) (Ed.sq (dRet (dVar 2)) (endD (wkP P) (wkY Y))))
    [some (.ref a), some (.int most), some (.int tot), some (.int unit), some (.int done), some (.int dg)] (up S a (rdo c dx l at_))
theorem digits_loop {a dx l : Nat} {ns : List Int} {most : Nat} {S : Sto} {P : DK} {Y : XD} (hl : S l = some (.lst (ns.map .int))) (hn : ns.length ≤ 90000) (ne : l ≠ a) :
    ∀ (k done : Nat) (tot unit : Int) (at_ : Nat) (S' : Sto) (x y : Option D), done + k = most + 1 → at_ ≤ ns.length → S' = up S a (rdo c dx l at_) → Does1 c a dx l S P Y (dgG ns most k done tot unit at_) →
      loopD (gNm 4) (b_Reading_digits_0 c) (fun _ => True) (Ed.sq (dRet (dVar 2)) (endD (wkP P) (wkY Y))) (rgI (done : Int) k) [some (.ref a), some (.int most), some (.int tot), some (.int unit), x, y] S' := by
  intro k
  induction k with
  | zero =>
    intro done tot unit at_ S' x y _ _ eS hD
    subst eS
    exact ⟨trivial, ⟨_, Le.refl _, hD⟩⟩
  | succ k ih =>
    intro done tot unit at_ S' x y hk hat eS hD
    subst eS
    have hal : up S a (rdo c dx l at_) l = some (.lst (ns.map .int)) := by rw [up_ne ne]; exact hl
    refine ⟨trivial, ?_⟩
    conv => whnf
    rw [up_same]
    conv => whnf
    refine ⟨rfl, ?_⟩
    conv => whnf
    rw [up_same]
    conv => whnf
    refine ⟨rfl, ?_⟩
    conv => whnf
    rw [seq_lst hal]
    conv => whnf
    by_cases hlt : at_ < ns.length
    · have hcond : decide (((ns.map D.int).length : Int) ≤ (at_ : Int)) = false := by simp; omega
      rw [hcond]
      conv => whnf
      rw [up_same]
      conv => whnf
      refine ⟨rfl, ?_⟩
      conv => whnf
      rw [up_same]
      conv => whnf
      refine ⟨rfl, ?_⟩
      conv => whnf
      rw [seq_lst hal]
      conv => whnf
      have hg : (ns.map D.int)[at_]? = some (.int ns[at_]) := by rw [List.getElem?_map, List.getElem?_eq_getElem hlt]; rfl
      rw [atI_get hg]
      conv => whnf
      refine ⟨rfl, rfl, Nat.zero_le _, Nat.zero_le _, ?_⟩
      conv => whnf
      generalize hdg : ns[at_] = dg at *
      have hstep : dgG ns most (k + 1) done tot unit at_ = if done = most ∨ dg < 0 ∨ dg > 255 ∨ (dg = 0 ∧ done > 0) then .error (at_ : Int)
          else if dg < 128 then .ok (tot + unit * dg, at_ + 1) else dgG ns most k (done + 1) (tot + unit * (dg - 128)) (unit * 128) (at_ + 1) := by
        rw [dgG, List.getElem?_eq_getElem hlt, hdg]
      rw [hstep] at hD
      have stop : (done = most ∨ dg < 0 ∨ dg > 255 ∨ (dg = 0 ∧ done > 0)) → Does c a dx l S P Y (.error (at_ : Int)) := fun hb => by
        rw [if_pos hb] at hD; exact hD
      by_cases h1 : done = most
      · have e1 : (false ^^ deq (D.int (done : Int)) (D.int (most : Int))) = true := by rw [h1]; simp [deq]
        rw [e1]
        conv => whnf
        rw [up_same]
        conv => whnf
        refine ⟨rfl, ?_⟩
        conv => whnf
        rw [mk_mal (show ((at_ : Int)).natAbs ≤ 1000000 by omega)]
        conv => whnf
        exact fun d hd => raise_ok (by omega) (stop (.inl h1)) d hd
      have e1 : (false ^^ deq (D.int (done : Int)) (D.int (most : Int))) = false := by simp [deq]; omega
      rw [e1]
      conv => whnf
      by_cases h2 : dg < 0
      · rw [decide_eq_true h2]
        conv => whnf
        rw [up_same]
        conv => whnf
        refine ⟨rfl, ?_⟩
        conv => whnf
        rw [mk_mal (show ((at_ : Int)).natAbs ≤ 1000000 by omega)]
        conv => whnf
        exact fun d hd => raise_ok (by omega) (stop (.inr (.inl h2))) d hd
      rw [decide_eq_false h2]
      conv => whnf
      by_cases h3 : 255 < dg
      · rw [decide_eq_true h3]
        conv => whnf
        rw [up_same]
        conv => whnf
        refine ⟨rfl, ?_⟩
        conv => whnf
        rw [mk_mal (show ((at_ : Int)).natAbs ≤ 1000000 by omega)]
        conv => whnf
        exact fun d hd => raise_ok (by omega) (stop (.inr (.inr (.inl h3)))) d hd
      rw [decide_eq_false h3]
      conv => whnf
      refine ⟨rfl, rfl, Nat.zero_le _, Nat.zero_le _, ?_⟩
      conv => whnf
      have rest : ¬ (done = most ∨ dg < 0 ∨ dg > 255 ∨ (dg = 0 ∧ done > 0)) → loopTail c a dx l S P Y most k done tot unit dg at_ y := fun hb => by
        rw [if_neg hb] at hD
        conv => whnf
        rw [up_same]
        conv => whnf
        refine ⟨rfl, ?_⟩
        conv => whnf
        rw [up_same]
        conv => whnf
        refine ⟨rfl, show 2 < 1000 by decide, ?_⟩
        conv => whnf
        by_cases h6 : dg < 128
        · rw [if_pos h6] at hD
          rw [decide_eq_true h6]
          conv => whnf
          refine ⟨.inr ⟨by omega, by omega⟩, ?_⟩
          conv => whnf
          rw [up_up]
          exact ⟨_, Le.refl _, hD⟩
        · rw [if_neg h6] at hD
          rw [decide_eq_false h6]
          conv => whnf
          refine ⟨.inr ⟨by omega, by omega⟩, ?_⟩
          conv => whnf
          refine ⟨.inr ⟨by decide, by decide⟩, ?_⟩
          conv => whnf
          refine ih (done + 1) _ _ (at_ + 1) _ _ _ (by omega) (by omega) ?_ hD
          rw [up_up]
          rfl
      by_cases h4 : dg = 0
      · have e4 : (false ^^ deq (D.int dg) (D.int 0)) = true := by rw [h4]; rfl
        rw [e4]
        conv => whnf
        by_cases h5 : (0 : Int) < done
        · rw [decide_eq_true h5]
          conv => whnf
          rw [up_same]
          conv => whnf
          refine ⟨rfl, ?_⟩
          conv => whnf
          rw [mk_mal (show ((at_ : Int)).natAbs ≤ 1000000 by omega)]
          conv => whnf
          exact fun d hd => raise_ok (by omega) (stop (.inr (.inr (.inr ⟨h4, by omega⟩)))) d hd
        · rw [decide_eq_false h5]
          conv => whnf
          exact rest (by omega)
      · have e4 : (false ^^ deq (D.int dg) (D.int 0)) = false := by simp [deq]; omega
        rw [e4]
        conv => whnf
        exact rest (by omega)
    · have hcond : decide (((ns.map D.int).length : Int) ≤ (at_ : Int)) = true := by simp; omega
      have hD2 : Does c a dx l S P Y (.error (ns.length : Int)) := by
        have e : dgG ns most (k + 1) done tot unit at_ = .error (ns.length : Int) := by rw [dgG, List.getElem?_eq_none (by omega)]
        rw [e] at hD; exact hD
      rw [hcond]
      conv => whnf
      rw [up_same]
      conv => whnf
      refine ⟨rfl, ?_⟩
      conv => whnf
      rw [seq_lst hal]
      conv => whnf
      rw [mk_mal (show (((ns.map D.int).length : Int)).natAbs ≤ 1000000 by simp; omega)]
      conv => whnf
      rw [List.length_map]
      exact fun d hd => raise_ok (by omega) hD2 d hd
theorem digits_ok {a dx l : Nat} {ns : List Int} {most at_ : Nat} {S : Sto} {P : DK} {Y : XD} (hS : S a = some (rdo c dx l at_)) (hl : S l = some (.lst (ns.map .int))) (hn : ns.length ≤ 90000) (hat : at_ ≤ ns.length)
    (h : Does1 c a dx l S P Y (dgG ns most (most + 1) 0 0 1 at_)) (hm : most ≤ 5) : sp_Reading_digits c [.ref a, .int most] S P Y := by
  have ne : l ≠ a := some_ne hl hS (by intro z; cases z)
  refine ⟨rfl, ?_⟩
  conv => whnf
  refine ⟨by omega, by omega, ?_⟩
  have e0 : ((most : Int) + 1).toNat = most + 1 := by omega
  have := digits_loop hl hn ne (most + 1) 0 0 1 at_ S none none (by omega) hat (up_self hS).symm h
  rw [← rngD_eq] at this
  rw [e0]
  exact this
/-! ### count -/
def cntG (ns : List Int) (least most : Int) (at_ : Nat) : Except Int (Int × Nat) := match dgG ns 5 6 0 0 1 at_ with
  | .error p => .error p
  | .ok (v, e) => if v < least ∨ most < v then .error ((e : Int) - 1) else .ok (v, e)
theorem dgG_at (ns : List Int) (most : Nat) : ∀ (k done : Nat) (tot unit : Int) (at_ : Nat) {v : Int} {e : Nat}, at_ ≤ ns.length → dgG ns most k done tot unit at_ = .ok (v, e) → e ≤ ns.length
  | 0, done, tot, unit, at_, v, e, h, q => by rw [dgG] at q; cases q; exact h
  | k + 1, done, tot, unit, at_, v, e, h, q => by
    rw [dgG] at q
    split at q
    · cases q
    · rename_i d hd
      have hlt := (List.getElem?_eq_some_iff.mp hd).1
      split at q
      · cases q
      · split at q
        · cases q; omega
        · exact dgG_at ns most k _ _ _ _ (by omega) q
theorem count_ok {a dx l : Nat} {ns : List Int} {least most : Int} {at_ : Nat} {S : Sto} {P : DK} {Y : XD} (hS : S a = some (rdo c dx l at_)) (hl : S l = some (.lst (ns.map .int))) (hn : ns.length ≤ 90000) (hat : at_ ≤ ns.length)
    (h : Does1 c a dx l S P Y (cntG ns least most at_)) : sp_Reading_count c [.ref a, .int least, .int most] S P Y := by
  refine ⟨rfl, ?_⟩
  conv => whnf
  rw [hS]
  conv => whnf
  refine ⟨rfl, rfl, ?_⟩
  conv => whnf
  refine digits_ok hS hl hn hat ?_ (by decide)
  unfold cntG at h
  cases hd : dgG ns 5 6 0 0 1 at_ with
  | error p =>
    rw [hd] at h
    exact fun at' d n => ⟨_, Le.refl _, h at' d n⟩
  | ok ve =>
    obtain ⟨v, e⟩ := ve
    have he := dgG_at ns 5 6 0 0 1 at_ hat hd
    rw [hd] at h
    dsimp only at h
    conv => whnf
    by_cases h1 : v < least
    · rw [decide_eq_true h1]
      conv => whnf
      rw [up_same]
      conv => whnf
      refine ⟨rfl, ?_⟩
      conv => whnf
      rw [mk_mal (show ((e : Int) - 1).natAbs ≤ 1000000 by omega)]
      conv => whnf
      rw [if_pos (.inl h1)] at h
      exact fun d n => raise_ok (by omega) h d n
    rw [decide_eq_false h1]
    conv => whnf
    by_cases h2 : most < v
    · rw [decide_eq_true h2]
      conv => whnf
      rw [up_same]
      conv => whnf
      refine ⟨rfl, ?_⟩
      conv => whnf
      rw [mk_mal (show ((e : Int) - 1).natAbs ≤ 1000000 by omega)]
      conv => whnf
      rw [if_pos (.inr h2)] at h
      exact fun d n => raise_ok (by omega) h d n
    rw [decide_eq_false h2]
    conv => whnf
    rw [if_neg (by omega)] at h
    exact ⟨_, Le.refl _, h⟩
theorem cntG_at {ns : List Int} {least most : Int} {at_ : Nat} {v : Int} {e : Nat} (h : at_ ≤ ns.length) (q : cntG ns least most at_ = .ok (v, e)) : e ≤ ns.length := by
  unfold cntG at q
  split at q
  · cases q
  · rename_i v' e' hd
    split at q
    · cases q
    · cases q
      exact dgG_at ns 5 6 0 0 1 at_ h hd
/-! ### a reading is made -/
theorem init_ok {a dx l : Nat} {S : Sto} {P : DK} {Y : XD} (hS : S a = some (.ins c.Reading dx [])) (h : P .non (up S a (rdo c dx l 0))) : sp_Reading_init c [.ref a, .ref l] S P Y := by
  refine ⟨rfl, ?_⟩
  conv => whnf
  rw [hS]
  conv => whnf
  refine ⟨rfl, show 0 < 1000 by decide, ?_⟩
  conv => whnf
  rw [up_same]
  conv => whnf
  refine ⟨rfl, show 1 < 1000 by decide, ?_⟩
  conv => whnf
  rw [up_up]
  exact ⟨_, Le.refl _, h⟩
/-! ### the text of a break -/
def chars : String := " !\"#$&'()*+,-./0123456789:;<=>?@ABCDEFGHIJKLMNOPQRSTUVWXYZ[\\]^_`abcdefghijklmnopqrstuvwxyz{|}~"
theorem chars_len : chars.length = 94 := by decide +kernel
theorem le_re {S S' : Sto} {a : Nat} {x y : DO} (h : Le (up S a x) S') : Le (up S a y) (up S' a y) := fun b o e => by
  by_cases hb : b = a
  · subst hb; rw [up_same] at e ⊢; exact e
  · rw [up_ne hb] at e ⊢; exact h b o (by rw [up_ne hb]; exact e)
theorem le_off {A B : Sto} {a : Nat} {o : DO} (h : Le A B) (n : A a = none) : Le A (up B a o) := fun b u e => by
  rw [up_ne (ne_fresh e n)]; exact h b u e
/-- the signs that stand from e on, to e' -/
inductive Sg (ns : List Int) : Nat → List Char → Nat → Prop where
  | nil (e : Nat) : Sg ns e [] e
  | cons {e e1 e2 : Nat} {v : Nat} {x : Char} {cs : List Char} (h : cntG ns 0 93 e = .ok (v, e1)) (hx : chars.toList[v]? = some x) (t : Sg ns e1 cs e2) : Sg ns e (x :: cs) e2
def sgs (cs : List Char) : List D := cs.map fun x => .str (String.singleton x)
abbrev teText (c : CA) : TDE := dBin ixD (dC (.str chars)) (dMeth c.Reading "count" (sp_Reading_count c) (dVar 0) (dCons (dC (.int 0)) (dCons (dBin subD (dCB lenD (dCons (dC (.str chars)) (dNil))) (dC (.int 1))) (dNil))))
theorem signs_ok {a dx l p : Nat} {ns : List Int} {S : Sto} {P : DK} {x y : Option D} (hl : S l = some (.lst (ns.map .int))) (hn : ns.length ≤ 90000) (ne : l ≠ a) (np : S p = none) (npa : p ≠ a) :
    ∀ {cs : List Char} {e e' : Nat} {acc : List Char} {S' : Sto} {i : Int}, Sg ns e cs e' → e ≤ ns.length → Le (up S a (rdo c dx l e)) S' → S' p = some (.lst (sgs acc)) → acc.length + cs.length ≤ 90000 →
      (∀ S'', Le (up S a (rdo c dx l e')) S'' → S'' p = some (.lst (sgs (acc ++ cs))) → P (.ref p) S'') →
      lcD [some (.ref a), x, y, none] [3] (.one 3) dYes (teText c) (fun _ => True) p P (rgI i cs.length) S'
  | [], e, e', acc, S', i, hs, he, hle, hp, hz, h => by
    cases hs
    refine ⟨trivial, h S' hle ?_⟩
    rw [List.append_nil]
    exact hp
  | z :: cs, e, e', acc, S', i, hs, he, hle, hp, hz, h => by
    cases hs with
    | @cons _ e1 _ v _ _ h1 hx ht =>
      have ha : S' a = some (rdo c dx l e) := hle a _ up_same
      have hll : S' l = some (.lst (ns.map .int)) := hle l _ (by rw [up_ne ne]; exact hl)
      have he1 := cntG_at he h1
      refine ⟨trivial, ?_⟩
      conv => whnf
      rw [ha]
      conv => whnf
      refine ⟨rfl, rfl, ?_⟩
      conv => whnf
      refine ⟨by rw [chars_len]; exact sl_le (by decide), ?_⟩
      refine count_ok ha hll hn he ?_
      rw [show ((chars.length : Int) - 1) = 93 by rw [chars_len]; rfl, h1]
      conv => whnf
      refine ⟨by rw [chars_len]; exact sl_le (by decide), ?_⟩
      conv => whnf
      rw [atI_get hx]
      conv => whnf
      have npl : l ≠ p := ne_fresh hl np
      rw [up_ne (Ne.symm npa).symm, hp]
      conv => whnf
      have nD : (up S a (rdo c dx l e1)) p = none := by rw [up_ne npa]; exact np
      refine ⟨sl_lt (by simp [sgs]; simp at hz; omega), ?_⟩
      refine signs_ok hl hn ne np npa ht he1 (le_off (le_re hle) nD) (acc := acc ++ [z]) ?_ (by simp at hz ⊢; omega) ?_
      · rw [up_same]; simp [sgs]
      · intro S'' h2 h3
        exact h S'' h2 (by simpa using h3)
theorem strsD_sgs (cs : List Char) : strsD (sgs cs) = some (cs.map String.singleton) := by
  have := strsD_map (cs.map String.singleton)
  rw [List.map_map] at this
  exact this
theorem join_sgs : ∀ cs : List Char, String.intercalate "" (cs.map String.singleton) = String.ofList cs
  | [] => rfl
  | [x] => by
    rw [List.map_cons, List.map_nil, String.intercalate_singleton]
    apply String.toList_inj.mp
    simp
  | x :: y :: cs => by
    have ih := join_sgs (y :: cs)
    rw [List.map_cons] at ih ⊢
    rw [List.map_cons, String.intercalate_cons_cons, ← List.map_cons (f := String.singleton), join_sgs (y :: cs)]
    apply String.toList_inj.mp
    simp
theorem text_ok {a dx l : Nat} {ns : List Int} {most : Int} {at_ e e' : Nat} {cs : List Char} {S : Sto} {P : DK} {Y : XD} (hS : S a = some (rdo c dx l at_)) (hl : S l = some (.lst (ns.map .int))) (hn : ns.length ≤ 90000) (hat : at_ ≤ ns.length)
    (hk : cntG ns 0 most at_ = .ok ((cs.length : Int), e)) (hs : Sg ns e cs e') (hc : cs.length ≤ 1000) (h : P (.str (String.ofList cs)) (up S a (rdo c dx l e'))) : sp_Reading_text c [.ref a, .int most] S P Y := by
  have ne : l ≠ a := some_ne hl hS (by intro z; cases z)
  refine ⟨rfl, ?_⟩
  conv => whnf
  rw [hS]
  conv => whnf
  refine ⟨rfl, rfl, ?_⟩
  conv => whnf
  refine count_ok hS hl hn hat ?_
  rw [hk]
  conv => whnf
  refine ⟨trivial, ?_⟩
  conv => whnf
  refine ⟨by omega, by omega, ?_⟩
  intro p np
  obtain ⟨np, npa⟩ := up_none np
  rw [rngD_eq, Int.toNat_natCast]
  refine signs_ok (S := S) hl hn ne np npa (cs := cs) (e := e) (acc := []) hs (cntG_at hat hk) (le_off (Le.refl _) (by rw [up_ne npa]; exact np)) up_same (by simp; omega) ?_
  intro S'' h2 h3
  conv => whnf
  rw [seq_lst h3]
  conv => whnf
  rw [List.nil_append, strsD_sgs]
  conv => whnf
  refine ⟨?_, ?_⟩
  · have e : ∀ ds : List Char, (List.map (fun x : String => x.length) (ds.map String.singleton)).sum = ds.length := by
      intro ds
      induction ds with
      | nil => rfl
      | cons d ds ih => simp at ih ⊢; omega
    rw [e]
    simp
    omega
  · refine ⟨_, h2, ?_⟩
    rw [join_sgs]
    exact h
/-! ### texts, written -/
def wt (cs : List Char) : List Nat := cs.flatMap fun x => wc (chars.toList.idxOf x)
theorem idx_lt {x : Char} (h : x ∈ chars.toList) : chars.toList.idxOf x < 94 := by
  have := List.idxOf_lt_length_iff.mpr h
  rw [String.length_toList, chars_len] at this
  exact this
theorem wc_small {n : Nat} (h : n < 128) : wc n = [n] := by rw [wc, if_pos h]
theorem sgn_toList (x : Char) : (String.singleton x).toList = [x] := by simp
theorem wtext_loop {p : Nat} {S : Sto} {E : Ed} {d0 : Option D} (np : S p = none) : ∀ (cs : List Char) (acc : List Nat) (S' : Sto) (x : Option D), (∀ x ∈ cs, x ∈ chars.toList) → Le (up S p (.lst (nts acc))) S' → acc.length + cs.length ≤ 90000 →
    (∀ S'' y, Le (up S p (.lst (nts (acc ++ wt cs)))) S'' → E.nx [d0, some (.ref p), y] S'') → loopD (gNm 2) (b_write_text_0 c) (fun _ => True) E (sgs cs) [d0, some (.ref p), x] S'
  | [], acc, S', x, hm, hle, hz, h => ⟨trivial, h S' x (by simpa [wt] using hle)⟩
  | z :: cs, acc, S', x, hm, hle, hz, h => by
    refine ⟨trivial, ?_⟩
    have hp : S' p = some (.lst (nts acc)) := hle p _ up_same
    have hz' := idx_lt (hm z List.mem_cons_self)
    conv => whnf
    refine ⟨ty_lst hp, ?_⟩
    conv => whnf
    refine ⟨trivial, ?_⟩
    conv => whnf
    rw [sgn_toList]
    conv => whnf
    refine ⟨hm z List.mem_cons_self, ?_⟩
    refine write_count_ok (chars.toList.idxOf z) _ _ _ (by rw [wc_small (by omega)]; simp) ?_
    intro q nq
    rw [wc_small (by omega)]
    have npq : p ≠ q := ne_fresh hp nq
    conv => whnf
    rw [up_ne npq, hp, up_same]
    conv => whnf
    refine ⟨sl_le (by simp [nts]; simp at hz; omega), ?_⟩
    refine wtext_loop np cs (acc ++ [chars.toList.idxOf z]) _ _ (fun x hx => hm x (List.mem_cons_of_mem _ hx)) ?_ (by simp at hz ⊢; omega) ?_
    · have e : nts (acc ++ [chars.toList.idxOf z]) = nts acc ++ nts [chars.toList.idxOf z] := nts_append _ _
      rw [e]
      refine le_re (le_off hle ?_)
      cases hh : up S p (.lst (nts acc)) q with
      | none => rfl
      | some o => rw [hle q o hh] at nq; cases nq
    · intro S'' y h2
      refine h S'' y ?_
      have e : acc ++ wt (z :: cs) = acc ++ [chars.toList.idxOf z] ++ wt cs := by
        unfold wt
        rw [List.flatMap_cons, wc_small (by omega), List.append_assoc]
      rw [e]
      exact h2
theorem write_text_ok (t : String) (S : Sto) (P : DK) (Y : XD) (hm : ∀ x ∈ t.toList, x ∈ chars.toList) (hl : t.length ≤ 100) (h : ∀ p, S p = none → P (.ref p) (up S p (.lst (nts (wc t.length ++ wt t.toList))))) : sp_write_text c [.str t] S P Y := by
  refine ⟨rfl, ?_⟩
  conv => whnf
  refine ⟨sl_le (by omega), ?_⟩
  refine write_count_ok t.length _ _ _ (by rw [wc_small (by omega)]; simp) ?_
  intro p np
  conv => whnf
  refine wtext_loop (S := S) np t.toList (wc t.length) _ _ hm (Le.refl _) (by rw [wc_small (by omega), String.length_toList]; simp; omega) ?_
  intro S'' y h2
  exact ⟨_, h2, h p np⟩
/-! ### packets, written -/
theorem le_new {A B : Sto} {a : Nat} {o : DO} (h : Le A B) (n : B a = none) : Le A (up B a o) := fun b u e => by
  have e2 := h b u e
  rw [up_ne (ne_fresh e2 n)]; exact e2
theorem le_up2 {A B : Sto} {a : Nat} {o : DO} (h : Le A B) : Le (up A a o) (up B a o) := h.up a o
theorem write_content_ok (n : Nat) (t : String) (S : Sto) (P : DK) (Y : XD) (hm : ∀ x ∈ t.toList, x ∈ chars.toList) (hl : t.length ≤ 100) (hn : (wc n).length ≤ 90000) (h : ∀ p, S p = none → P (.ref p) (up S p (.lst (nts (wc n ++ (wc t.length ++ wt t.toList)))))) :
    sp_write_content c [.tup [.str "break", .int n, .str t]] S P Y := by
  have ht : (wt t.toList).length ≤ 10000 := by
    have key : ∀ cs : List Char, (∀ x ∈ cs, x ∈ chars.toList) → (wt cs).length = cs.length := by
      intro cs
      induction cs with
      | nil => intro _; rfl
      | cons x cs ih =>
        intro hx
        have := idx_lt (hx x List.mem_cons_self)
        have i2 := ih fun y hy => hx y (List.mem_cons_of_mem _ hy)
        unfold wt at i2 ⊢
        rw [List.flatMap_cons, wc_small (by omega), List.length_append, i2]
        simp
        omega
    rw [key _ hm, String.length_toList]
    omega
  have hw : (wc t.length).length = 1 := by rw [wc_small (by omega)]; rfl
  refine ⟨rfl, ?_⟩
  conv => whnf
  refine ⟨rfl, rfl, Nat.zero_le _, Nat.zero_le _, ?_⟩
  conv => whnf
  refine ⟨sl_le (by decide), ?_⟩
  conv => whnf
  refine ⟨rfl, rfl, Nat.zero_le _, ?_⟩
  conv => whnf
  refine ⟨sl_le (by decide), ?_⟩
  conv => whnf
  refine ⟨rfl, rfl, Nat.zero_le _, ?_⟩
  conv => whnf
  refine write_count_ok n _ _ _ hn ?_
  intro p np
  conv => whnf
  refine write_text_ok t _ _ _ hm hl ?_
  intro q nq
  obtain ⟨nq, nqp⟩ := up_none nq
  conv => whnf
  rw [up_ne (Ne.symm nqp), up_same, up_same]
  conv => whnf
  refine ⟨sl_le (by rw [nts_length, nts_length, List.length_append]; omega), ?_⟩
  intro r nr
  obtain ⟨nr, nrq⟩ := up_none nr
  obtain ⟨nr, nrp⟩ := up_none nr
  rw [← nts_append]
  exact ⟨_, le_up2 (le_new (Le.new np) (by rw [up_ne nqp]; exact nq)), h r nr⟩
theorem ack_ok (s r n : Nat) (S : Sto) (P : DK) (Y : XD) (hs : (wc s).length ≤ 1000) (hr : (wc r).length ≤ 1000) (hn : (wc n).length ≤ 1000) (h : ∀ p, S p = none → P (.ref p) (up S p (.lst (nts ([2] ++ wc s ++ wc r ++ wc n))))) :
    sp_write_acknowledgement c [.int s, .int r, .int n] S P Y := by
  refine ⟨rfl, ?_⟩
  conv => whnf
  refine ⟨sl_le (by decide), ?_⟩
  intro p0 n0
  conv => whnf
  refine write_count_ok s _ _ _ (by omega) ?_
  intro p1 n1
  obtain ⟨n1', n10⟩ := up_none n1
  conv => whnf
  rw [up_ne (Ne.symm n10), up_same, up_same]
  conv => whnf
  refine ⟨sl_le (by simp [nts]; omega), ?_⟩
  intro p2 n2
  obtain ⟨n2a, n21⟩ := up_none n2
  obtain ⟨n2b, n20⟩ := up_none n2a
  conv => whnf
  refine write_count_ok r _ _ _ (by omega) ?_
  intro p3 n3
  obtain ⟨n3a, n32⟩ := up_none n3
  obtain ⟨n3b, n31⟩ := up_none n3a
  obtain ⟨n3c, n30⟩ := up_none n3b
  conv => whnf
  rw [up_ne (Ne.symm n32), up_same, up_same]
  conv => whnf
  refine ⟨sl_le (by simp [nts]; omega), ?_⟩
  intro p4 n4
  obtain ⟨n4a, n43⟩ := up_none n4
  obtain ⟨n4b, n42⟩ := up_none n4a
  obtain ⟨n4c, n41⟩ := up_none n4b
  obtain ⟨n4d, n40⟩ := up_none n4c
  conv => whnf
  refine write_count_ok n _ _ _ (by omega) ?_
  intro p5 n5
  obtain ⟨n5a, n54⟩ := up_none n5
  conv => whnf
  rw [up_ne (Ne.symm n54), up_same, up_same]
  conv => whnf
  refine ⟨sl_le (by simp [nts]; omega), ?_⟩
  intro p6 n6
  obtain ⟨n6a, n65⟩ := up_none n6
  obtain ⟨n6b, n64⟩ := up_none n6a
  obtain ⟨n6c, n63⟩ := up_none n6b
  obtain ⟨n6d, n62⟩ := up_none n6c
  obtain ⟨n6e, n61⟩ := up_none n6d
  obtain ⟨n6f, n60⟩ := up_none n6e
  have e : [D.int 2] ++ nts (wc s) ++ nts (wc r) ++ nts (wc n) = nts ([2] ++ wc s ++ wc r ++ wc n) := by rw [nts_append, nts_append, nts_append]; rfl
  refine ⟨_, le_up2 (le_new (le_new (le_new (le_new (le_new (Le.new n0) n1) n2) n3) n4) n5), ?_⟩
  have h6 := h p6 n6f
  rw [← e] at h6
  exact h6
theorem packet_ok (s r n m : Nat) (t : String) (S : Sto) (P : DK) (Y : XD) (hs : (wc s).length ≤ 1000) (hr : (wc r).length ≤ 1000) (hn : (wc n).length ≤ 1000) (hm : (wc m).length ≤ 1000) (ht : ∀ x ∈ t.toList, x ∈ chars.toList) (hl : t.length ≤ 100) (hw : (wt t.toList).length ≤ 1000)
    (h : ∀ p, S p = none → P (.ref p) (up S p (.lst (nts ([1] ++ wc s ++ wc r ++ wc n ++ [2] ++ (wc m ++ (wc t.length ++ wt t.toList))))))) :
    sp_write_packet c [.tup [.int s, .int r, .int n, .tup [.str "break", .int m, .str t]]] S P Y := by
  have hq : (wc t.length).length = 1 := by rw [wc_small (by omega)]; rfl
  refine ⟨rfl, ?_⟩
  conv => whnf
  refine ⟨rfl, ?_⟩
  conv => whnf
  refine ⟨rfl, ?_⟩
  conv => whnf
  refine ⟨sl_le (by decide), ?_⟩
  intro p0 n0
  conv => whnf
  refine write_count_ok s _ _ _ (by omega) ?_
  intro p1 n1
  obtain ⟨n1', n10⟩ := up_none n1
  conv => whnf
  rw [up_ne (Ne.symm n10), up_same, up_same]
  conv => whnf
  refine ⟨sl_le (by simp [nts]; omega), ?_⟩
  intro p2 n2
  obtain ⟨n2a, n21⟩ := up_none n2
  conv => whnf
  refine write_count_ok r _ _ _ (by omega) ?_
  intro p3 n3
  obtain ⟨n3a, n32⟩ := up_none n3
  conv => whnf
  rw [up_ne (Ne.symm n32), up_same, up_same]
  conv => whnf
  refine ⟨sl_le (by simp [nts]; omega), ?_⟩
  intro p4 n4
  obtain ⟨n4a, n43⟩ := up_none n4
  conv => whnf
  refine write_count_ok n _ _ _ (by omega) ?_
  intro p5 n5
  obtain ⟨n5a, n54⟩ := up_none n5
  conv => whnf
  rw [up_ne (Ne.symm n54), up_same, up_same]
  conv => whnf
  refine ⟨sl_le (by simp [nts]; omega), ?_⟩
  intro p6 n6
  conv => whnf
  refine ⟨rfl, Nat.zero_le _, ?_⟩
  conv => whnf
  refine ⟨sl_le (by show 1 ≤ 1000000; decide), ?_⟩
  intro p7 n7
  obtain ⟨n7a, n76⟩ := up_none n7
  conv => whnf
  rw [up_ne (Ne.symm n76), up_same, up_same]
  conv => whnf
  refine ⟨sl_le (by simp [nts]; omega), ?_⟩
  intro p8 n8
  conv => whnf
  refine write_content_ok m t _ _ _ ht hl (by omega) ?_
  intro p9 n9
  obtain ⟨n9a, n98⟩ := up_none n9
  conv => whnf
  rw [up_ne (Ne.symm n98), up_same, up_same]
  conv => whnf
  refine ⟨sl_le (by simp [nts]; omega), ?_⟩
  intro pa na
  have nS : S pa = none := (up_none (up_none (up_none (up_none (up_none (up_none (up_none (up_none (up_none (up_none na).1).1).1).1).1).1).1).1).1).1
  have e : [D.int 1] ++ nts (wc s) ++ nts (wc r) ++ nts (wc n) ++ [D.int 2] ++ nts (wc m ++ (wc t.length ++ wt t.toList)) = nts ([1] ++ wc s ++ wc r ++ wc n ++ [2] ++ (wc m ++ (wc t.length ++ wt t.toList))) := by simp [nts]
  refine ⟨_, le_up2 (le_new (le_new (le_new (le_new (le_new (le_new (le_new (le_new (le_new (Le.new n0) n1) n2) n3) n4) n5) n6) n7) n8) n9), ?_⟩
  have ha := h pa nS
  rw [← e] at ha
  exact ha
/-! ### packets, read -/
theorem read_content_ok {a dx l : Nat} {ns : List Int} {at_ e1 e2 e3 n : Nat} {cs : List Char} {S : Sto} {P : DK} {Y : XD} (hS : S a = some (rdo c dx l at_)) (hl : S l = some (.lst (ns.map .int))) (hn : ns.length ≤ 90000) (hat : at_ ≤ ns.length)
    (h1 : cntG ns 1 1000000000 at_ = .ok ((n : Int), e1)) (h2 : cntG ns 0 20 e1 = .ok ((cs.length : Int), e2)) (h3 : Sg ns e2 cs e3) (hc : cs.length ≤ 1000) (h : P (.tup [.str "break", .int n, .str (String.ofList cs)]) (up S a (rdo c dx l e3))) :
    sp_read_content c [.ref a, .str "break"] S P Y := by
  have ne : l ≠ a := some_ne hl hS (by intro z; cases z)
  have b1 := cntG_at hat h1
  refine ⟨rfl, ?_⟩
  conv => whnf
  refine ⟨rfl, rfl, Nat.zero_le _, Nat.zero_le _, ?_⟩
  conv => whnf
  refine ⟨rfl, rfl, Nat.zero_le _, Nat.zero_le _, ?_⟩
  conv => whnf
  refine ⟨rfl, rfl, Nat.zero_le _, Nat.zero_le _, ?_⟩
  conv => whnf
  rw [hS]
  conv => whnf
  refine ⟨rfl, rfl, ?_⟩
  conv => whnf
  refine count_ok hS hl hn hat ?_
  rw [h1]
  conv => whnf
  refine ⟨sl_le (by decide), ?_⟩
  conv => whnf
  refine ⟨rfl, rfl, Nat.zero_le _, ?_⟩
  conv => whnf
  refine ⟨sl_le (by decide), ?_⟩
  conv => whnf
  refine ⟨rfl, rfl, Nat.zero_le _, ?_⟩
  conv => whnf
  rw [up_same]
  conv => whnf
  refine ⟨rfl, rfl, ?_⟩
  conv => whnf
  refine text_ok (at_ := e1) up_same (by rw [up_ne ne]; exact hl) hn b1 h2 h3 hc ?_
  conv => whnf
  refine ⟨sl_le (by show 3 ≤ 1000000; decide), ?_⟩
  conv => whnf
  rw [up_up]
  exact ⟨_, Le.refl _, h⟩
theorem read_packet_ok {l : Nat} {ns : List Int} {s r n m e1 e2 e3 e4 e5 e6 e7 : Nat} {cs : List Char} {S : Sto} {P : DK} {Y : XD} (hl : S l = some (.lst (ns.map .int))) (hn : ns.length ≤ 90000)
    (h1 : cntG ns 1 1 0 = .ok (1, e1)) (h2 : cntG ns 1 9 e1 = .ok ((s : Int), e2)) (h3 : cntG ns 1 9 e2 = .ok ((r : Int), e3)) (h4 : cntG ns 1 1000000000 e3 = .ok ((n : Int), e4)) (h5 : cntG ns 0 8 e4 = .ok (2, e5))
    (h6 : cntG ns 1 1000000000 e5 = .ok ((m : Int), e6)) (h7 : cntG ns 0 20 e6 = .ok ((cs.length : Int), e7)) (h8 : Sg ns e7 cs ns.length) (hc : cs.length ≤ 1000)
    (h : P (.tup [.int s, .int r, .int n, .tup [.str "break", .int m, .str (String.ofList cs)]]) S) : sp_read_packet c [.ref l] S P Y := by
  have b1 := cntG_at (Nat.zero_le _) h1
  have b2 := cntG_at b1 h2
  have b3 := cntG_at b2 h3
  have b4 := cntG_at b3 h4
  have b5 := cntG_at b4 h5
  refine ⟨rfl, ?_⟩
  conv => whnf
  intro x dx nx ndx nex
  have ne : l ≠ x := ne_fresh hl nx
  refine init_ok up_same ⟨rfl, ?_⟩
  conv => whnf
  rw [up_up, up_same]
  conv => whnf
  have hl1 : up S x (rdo c dx l 0) l = some (.lst (ns.map .int)) := by rw [up_ne ne]; exact hl
  refine ⟨rfl, rfl, ?_⟩
  conv => whnf
  refine count_ok up_same hl1 hn (Nat.zero_le _) ?_
  rw [h1]
  conv => whnf
  rw [up_up, up_same]
  conv => whnf
  refine ⟨rfl, rfl, ?_⟩
  conv => whnf
  have hle : ∀ e, up S x (rdo c dx l e) l = some (.lst (ns.map .int)) := fun e => by rw [up_ne ne]; exact hl
  refine count_ok up_same (hle _) hn b1 ?_
  rw [h2]
  conv => whnf
  rw [up_up, up_same]
  conv => whnf
  refine ⟨rfl, rfl, ?_⟩
  conv => whnf
  refine count_ok up_same (hle _) hn b2 ?_
  rw [h3]
  conv => whnf
  rw [up_up, up_same]
  conv => whnf
  refine ⟨rfl, rfl, ?_⟩
  conv => whnf
  refine count_ok up_same (hle _) hn b3 ?_
  rw [h4]
  conv => whnf
  rw [up_up, up_same]
  conv => whnf
  refine ⟨rfl, rfl, ?_⟩
  conv => whnf
  refine count_ok (least := 0) (most := 8) up_same (hle _) hn b4 ?_
  rw [h5]
  conv => whnf
  refine read_content_ok (at_ := e5) (n := m) (e1 := e6) up_same ?_ hn b5 h6 h7 h8 hc ?_
  · rw [up_up]; exact hle _
  conv => whnf
  rw [up_up, up_up, up_same]
  conv => whnf
  refine ⟨rfl, ?_⟩
  conv => whnf
  rw [seq_lst (hle _)]
  conv => whnf
  refine ⟨rfl, rfl, Nat.zero_le _, Nat.zero_le _, ?_⟩
  conv => whnf
  rw [show (true ^^ deq (.int ((ns.length : Nat) : Int)) (.int (((ns.map D.int).length : Nat) : Int))) = false by simp [deq]]
  conv => whnf
  refine ⟨sl_le (by show 4 ≤ 1000000; decide), ?_⟩
  exact ⟨S, Le.new nx, h⟩
theorem le_off' {A B : Sto} {a : Nat} {o : DO} (h : Le A B) (n : A a = none) : Le A (up B a o) := le_off h n
/-! ### frames, read -/
def ackG (ns : List Int) : Except Int (Int × Int × Int) := match cntG ns 2 2 0 with
  | .error p => .error p
  | .ok (_, e1) => match cntG ns 1 9 e1 with
    | .error p => .error p
    | .ok (s, e2) => match cntG ns 1 9 e2 with
      | .error p => .error p
      | .ok (r, e3) => match cntG ns 0 1000000000 e3 with
        | .error p => .error p
        | .ok (n, e4) => if e4 = ns.length then .ok (s, r, n) else .error (e4 : Int)
/-- a refusal at a place -/
def ErrY (c : CA) (S : Sto) (Y : XD) (p : Int) : Prop := ∀ S' d, Le S S' → S' d = some (.xd [("place", .int p)]) → Y (.ref c.Malformed) (some d) S'
theorem err_does {a dx l : Nat} {S0 S : Sto} {P : DK} {Y : XD} {p : Int} (h : ErrY c S0 Y p) (na : S0 a = none) (hle : Le S0 S) : Does c a dx l S P (wkY Y) (.error p) := by
  intro at_ d nd
  have l1 : Le S0 (up S a (rdo c dx l at_)) := le_off' hle na
  exact ⟨_, Le.refl _, h _ d (le_new l1 nd) up_same⟩
theorem err_raise {S0 S : Sto} {Y : XD} {p : Int} (h : ErrY c S0 Y p) (hle : Le S0 S) (d : Nat) (nd : S d = none) : wkY Y (.ref c.Malformed) (some d) (up S d (.xd [("place", .int p)])) := ⟨_, Le.refl _, h _ d (le_new hle nd) up_same⟩
/-- a step of a chain of counts -/
theorem cnt_step {a dx l : Nat} {ns : List Int} {least most : Int} {at_ : Nat} {S0 : Sto} {P : DK} {Y : XD} (hl : S0 l = some (.lst (ns.map .int))) (na : S0 a = none) (hn : ns.length ≤ 90000) (hat : at_ ≤ ns.length)
    (herr : ∀ p, cntG ns least most at_ = .error p → ErrY c S0 Y p) (h : ∀ v e, cntG ns least most at_ = .ok (v, e) → e ≤ ns.length → P (.int v) (up S0 a (rdo c dx l e))) :
    sp_Reading_count c [.ref a, .int least, .int most] (up S0 a (rdo c dx l at_)) P (fun cl d S' => wkY Y cl d S') := by
  have ne : l ≠ a := ne_fresh hl na
  refine count_ok up_same (by rw [up_ne ne]; exact hl) hn hat ?_
  cases hc : cntG ns least most at_ with
  | error p => exact err_does (herr p hc) na (le_new (Le.refl _) na)
  | ok ve =>
    obtain ⟨v, e⟩ := ve
    have := h v e hc (cntG_at hat hc)
    show P (.int v) (up (up S0 a (rdo c dx l at_)) a (rdo c dx l e))
    rw [up_up]
    exact this
theorem read_ack_ok {l : Nat} {ns : List Int} {S : Sto} {P : DK} {Y : XD} (hl : S l = some (.lst (ns.map .int))) (hn : ns.length ≤ 90000) (h0 : ns[0]? = some 2)
    (h : match ackG ns with
      | .ok (s, r, n) => P (.tup [.str "acknowledgement", .int s, .int r, .int n]) S
      | .error p => ErrY c S Y p) : sp_read_frame c [.ref l] S P Y := by
  have hlen : 0 < ns.length := (List.getElem?_eq_some_iff.mp h0).1
  have hg : (ns.map D.int)[0]? = some (.int 2) := by rw [List.getElem?_map, h0]; rfl
  have h0' : atI (ns.map D.int) 0 = some (.int 2) := atI_get hg
  refine ⟨rfl, ?_⟩
  conv => whnf
  rw [seq_lst hl]
  conv => whnf
  refine ⟨rfl, rfl, Nat.zero_le _, Nat.zero_le _, ?_⟩
  conv => whnf
  rw [eq_ff (show (((ns.map D.int).length : Nat) : Int) ≠ 0 by rw [List.length_map]; omega)]
  conv => whnf
  rw [seq_lst hl]
  conv => whnf
  rw [h0']
  conv => whnf
  refine ⟨sl_le (by show 2 ≤ 1000000; decide), ?_⟩
  conv => whnf
  refine ⟨rfl, rfl, Nat.zero_le _, ?_⟩
  conv => whnf
  rw [seq_lst hl]
  conv => whnf
  rw [h0']
  conv => whnf
  refine ⟨rfl, rfl, Nat.zero_le _, Nat.zero_le _, ?_⟩
  conv => whnf
  intro x dx nx ndx nex
  have ne : l ≠ x := ne_fresh hl nx
  refine init_ok up_same ⟨rfl, ?_⟩
  conv => whnf
  rw [up_up, up_same]
  conv => whnf
  refine ⟨rfl, rfl, ?_⟩
  conv => whnf
  unfold ackG at h
  refine cnt_step hl nx hn (Nat.zero_le _) (fun p hp => by rw [hp] at h; exact h) fun v1 e1 q1 b1 => ?_
  rw [q1] at h
  dsimp only at h
  conv => whnf
  rw [up_same]
  conv => whnf
  refine ⟨rfl, rfl, ?_⟩
  conv => whnf
  refine cnt_step hl nx hn b1 (fun p hp => by rw [hp] at h; exact h) fun v2 e2 q2 b2 => ?_
  rw [q2] at h
  dsimp only at h
  conv => whnf
  rw [up_same]
  conv => whnf
  refine ⟨rfl, rfl, ?_⟩
  conv => whnf
  refine cnt_step hl nx hn b2 (fun p hp => by rw [hp] at h; exact h) fun v3 e3 q3 b3 => ?_
  rw [q3] at h
  dsimp only at h
  conv => whnf
  rw [up_same]
  conv => whnf
  refine ⟨rfl, rfl, ?_⟩
  conv => whnf
  refine cnt_step hl nx hn b3 (fun p hp => by rw [hp] at h; exact h) fun v4 e4 q4 b4 => ?_
  rw [q4] at h
  dsimp only at h
  have hll : up S x (rdo c dx l e4) l = some (.lst (ns.map .int)) := by rw [up_ne ne]; exact hl
  conv => whnf
  rw [up_same]
  conv => whnf
  refine ⟨rfl, ?_⟩
  conv => whnf
  rw [seq_lst hll]
  conv => whnf
  refine ⟨rfl, rfl, Nat.zero_le _, Nat.zero_le _, ?_⟩
  conv => whnf
  by_cases he : e4 = ns.length
  · rw [show (true ^^ deq (.int (e4 : Int)) (.int (((ns.map D.int).length : Nat) : Int))) = false by simp [deq]; omega]
    rw [if_pos he] at h
    conv => whnf
    refine ⟨sl_le (by show 4 ≤ 1000000; decide), ?_⟩
    exact ⟨S, Le.new nx, h⟩
  · rw [show (true ^^ deq (.int (e4 : Int)) (.int (((ns.map D.int).length : Nat) : Int))) = true by simp [deq]; omega]
    rw [if_neg he] at h
    conv => whnf
    rw [up_same]
    conv => whnf
    refine ⟨rfl, ?_⟩
    conv => whnf
    rw [mk_mal (show ((e4 : Int)).natAbs ≤ 1000000 by omega)]
    conv => whnf
    intro d nd
    exact err_raise h (Le.new nx) d nd
/-- a first number that is none -/
theorem read_bad_ok {l : Nat} {ns : List Int} {S : Sto} {P : DK} {Y : XD} (hl : S l = some (.lst (ns.map .int))) (hn : ns.length ≤ 90000) (h0 : ∀ v, ns[0]? = some v → v ≠ 1 ∧ v ≠ 2) (h : ErrY c S Y 0) : sp_read_frame c [.ref l] S P Y := by
  refine ⟨rfl, ?_⟩
  conv => whnf
  rw [seq_lst hl]
  conv => whnf
  refine ⟨rfl, rfl, Nat.zero_le _, Nat.zero_le _, ?_⟩
  conv => whnf
  by_cases he : ns.length = 0
  · rw [eq_tt (show (((ns.map D.int).length : Nat) : Int) = 0 by rw [List.length_map]; omega)]
    conv => whnf
    exact fun d nd => err_raise h (Le.refl _) d nd
  · rw [eq_ff (show (((ns.map D.int).length : Nat) : Int) ≠ 0 by rw [List.length_map]; omega)]
    conv => whnf
    rw [seq_lst hl]
    conv => whnf
    obtain ⟨v, hv⟩ : ∃ v, ns[0]? = some v := ⟨ns[0], List.getElem?_eq_getElem (by omega)⟩
    obtain ⟨v1, v2⟩ := h0 v hv
    have hg : (ns.map D.int)[0]? = some (.int v) := by rw [List.getElem?_map, hv]; rfl
    rw [show atI (ns.map D.int) 0 = some (.int v) from atI_get hg]
    conv => whnf
    refine ⟨sl_le (by show 2 ≤ 1000000; decide), ?_⟩
    conv => whnf
    refine ⟨rfl, rfl, Nat.zero_le _, ?_⟩
    conv => whnf
    rw [show (true ^^ memD (.int v) [.int 1, .int 2]) = true by simp [memD, deq]; omega]
    conv => whnf
    exact fun d nd => err_raise h (Le.refl _) d nd
theorem read_pk_ok {l : Nat} {ns : List Int} {S : Sto} {P : DK} {Y : XD} {v : D} (hl : S l = some (.lst (ns.map .int))) (h0 : ns[0]? = some 1) (hp : ∀ P' Y', P' v S → sp_read_packet c [.ref l] S P' Y') (h : P (.tup [.str "packet", v]) S) : sp_read_frame c [.ref l] S P Y := by
  have hlen : 0 < ns.length := (List.getElem?_eq_some_iff.mp h0).1
  have hg : (ns.map D.int)[0]? = some (.int 1) := by rw [List.getElem?_map, h0]; rfl
  have h0' : atI (ns.map D.int) 0 = some (.int 1) := atI_get hg
  refine ⟨rfl, ?_⟩
  conv => whnf
  rw [seq_lst hl]
  conv => whnf
  refine ⟨rfl, rfl, Nat.zero_le _, Nat.zero_le _, ?_⟩
  conv => whnf
  rw [eq_ff (show (((ns.map D.int).length : Nat) : Int) ≠ 0 by rw [List.length_map]; omega)]
  conv => whnf
  rw [seq_lst hl]
  conv => whnf
  rw [h0']
  conv => whnf
  refine ⟨sl_le (by show 2 ≤ 1000000; decide), ?_⟩
  conv => whnf
  refine ⟨rfl, rfl, Nat.zero_le _, ?_⟩
  conv => whnf
  rw [seq_lst hl]
  conv => whnf
  rw [h0']
  conv => whnf
  refine ⟨rfl, rfl, Nat.zero_le _, Nat.zero_le _, ?_⟩
  conv => whnf
  refine hp _ _ ?_
  conv => whnf
  refine ⟨sl_le (by show 2 ≤ 1000000; decide), ?_⟩
  exact ⟨S, Le.refl _, h⟩
/-! ### the law's reading -/
def resD : Except Int D → D
  | .ok v => v
  | .error p => .tup [.str "malformed", .int p]
theorem law_read_ok {l : Nat} {S : Sto} {P : DK} {Y : XD} (hem : c.em (.ref c.Malformed) c.VatError = some true) (r : Except Int D) (hf : ∀ P' Y', (match r with
      | .ok v => P' v S
      | .error p => ErrY c S Y' p) → sp_read_frame c [.ref l] S P' Y') (h : P (resD r) S) : sp__law_read c [.ref l] S P Y := by
  refine ⟨rfl, ?_⟩
  conv => whnf
  refine hf _ _ ?_
  cases r with
  | ok v => exact ⟨S, Le.refl _, h⟩
  | error p =>
    intro S' d hle hd
    show (match c.em (.ref c.Malformed) c.VatError with | some true => _ | some false => _ | none => False)
    rw [hem]
    intro a na
    conv => whnf
    refine ⟨rfl, rfl, rfl, ?_⟩
    conv => whnf
    refine ⟨rfl, rfl, ?_⟩
    rw [hd]
    conv => whnf
    refine ⟨sl_le (by show 2 ≤ 1000000; decide), ?_⟩
    exact ⟨S, hle, h⟩
/-! ### the law's small helps -/
theorem law_count_ok (n : Nat) (S : Sto) (P : DK) (Y : XD) (hl : (wc n).length ≤ 90000) (h : ∀ p, S p = none → P (.ref p) (up S p (.lst (nts (wc n))))) : sp__law_count c [.int n] S P Y := by
  refine ⟨rfl, ?_⟩
  conv => whnf
  refine ⟨sl_le (by decide), fun p hp => ?_⟩
  conv => whnf
  refine ⟨fun m δ S' => ∃ done, wc n = done ++ wc m ∧ δ = [some (.int (m : Int)), some (.ref p)] ∧ S' = up S p (.lst (nts done)), ⟨n, [], rfl, rfl, rfl⟩, ?_⟩
  rintro m δ S' ⟨done, hw, rfl, rfl⟩
  have hd : done.length ≤ 90000 := by have := congrArg List.length hw; simp at this; omega
  have hm : wc m = if m < 128 then [m] else (128 + m % 128) :: wc (m / 128) := by rw [wc]
  conv => whnf
  split
  · rename_i hb
    have h128 := of_decide_eq_true hb
    conv => whnf
    refine ⟨ty_lst up_same, ?_⟩
    conv => whnf
    refine ⟨show (0 : Int) < 128 by decide, ?_⟩
    conv => whnf
    rw [up_same]
    conv => whnf
    refine ⟨sl_lt (by simp [nts]; omega), ?_⟩
    conv => whnf
    refine ⟨⟨by decide, by decide⟩, ?_⟩
    conv => whnf
    refine ⟨m / 128, by omega, done ++ [128 + m % 128], ?_, ?_, ?_⟩
    · rw [hw, hm, if_neg (by omega)]; simp
    · rfl
    · rw [up_up]; simp [nts]
  · rename_i hb
    have h128 := of_decide_eq_false hb
    conv => whnf
    refine ⟨sl_le (by show 1 ≤ 1000000; decide), fun q hq => ?_⟩
    obtain ⟨hq', hqp⟩ := up_none hq
    conv => whnf
    rw [up_ne (Ne.symm hqp), up_same, up_same]
    conv => whnf
    refine ⟨sl_le (by simp [nts]; omega), fun t ht => ?_⟩
    have nS := (up_none (up_none ht).1).1
    have e : nts (wc n) = nts done ++ [D.int m] := by rw [hw, hm, if_pos (by omega)]; simp [nts]
    refine ⟨_, le_up2 (le_new (Le.new hp) hq), ?_⟩
    have := h t nS
    rw [e] at this
    exact this
def boxD (d : D) : Prop := match d with
  | .tup _ => True
  | .ref _ => True
  | _ => False
theorem same_ok {d e : D} {x : PyData} {S : Sto} {P : DK} {Y : XD} (h1 : pyOf 6 S d = some x) (h2 : pyOf 6 S e = some x) (hs : x.showable = true) (hd : x.hasDict = false) (hp : x.depth ≤ 40) (hl : Str.length x.shown ≤ sizeLine)
    (k1 : boxD d) (k2 : boxD e) (h : P (.bl true) S) : sp__law_same c [d, e] S P Y := by
  refine ⟨rfl, ?_⟩
  show (match pyOf 6 S d with
    | some x => x.showable = true ∧ x.hasDict = false ∧ x.depth ≤ 40 ∧ Str.length x.shown ≤ sizeLine ∧ _
    | none => False) ∧ _
  rw [h1]
  refine ⟨⟨hs, hd, hp, hl, ?_⟩, k1⟩
  show (match pyOf 6 S e with
    | some x => x.showable = true ∧ x.hasDict = false ∧ x.depth ≤ 40 ∧ Str.length x.shown ≤ sizeLine ∧ _
    | none => False) ∧ _
  rw [h2]
  refine ⟨⟨hs, hd, hp, hl, ?_⟩, k2⟩
  conv => whnf
  rw [show (false ^^ decide (x.shown = x.shown)) = true by simp]
  exact ⟨_, Le.refl _, h⟩
theorem cell_ok {a k : Nat} {ns : List Int} {S : Sto} {P : DK} {Y : XD} (hS : S a = some (.fl (ns.map .int))) (h : ∀ v, P (.int v) S) : sp__law_cell c [.ref a, .int k] S P Y := by
  refine ⟨rfl, ?_⟩
  conv => whnf
  rw [seq_fl hS]
  conv => whnf
  by_cases hk : (k : Int) < ((ns.map D.int).length : Nat)
  · rw [decide_eq_true hk]
    conv => whnf
    rw [seq_fl hS]
    conv => whnf
    rw [List.length_map] at hk
    have hlt : k < ns.length := by omega
    have hg : (ns.map D.int)[k]? = some (.int ns[k]) := by rw [List.getElem?_map, List.getElem?_eq_getElem hlt]; rfl
    rw [atI_get hg]
    exact ⟨_, Le.refl _, h _⟩
  · rw [decide_eq_false hk]
    exact ⟨_, Le.refl _, h _⟩
/-! ### digits drawn -/
def Dg (acc : List Int) : Prop := ∀ v ∈ acc, 0 ≤ v ∧ v < 1000
theorem Dg.snoc {acc : List Int} {v : Int} (h : Dg acc) (h1 : 0 ≤ v) (h2 : v < 1000) : Dg (acc ++ [v]) := fun x hx => by
  rcases List.mem_append.mp hx with hx | hx
  · exact h x hx
  · rw [List.mem_singleton.mp hx]; exact ⟨h1, h2⟩
theorem map_snoc (acc : List Int) (v : Int) : (acc ++ [v]).map D.int = acc.map D.int ++ [.int v] := by simp
theorem dig0 {p : Nat} {S : Sto} {E : Ed} {a0 a1 a2 a4 a7 : Option D} : ∀ (k : Nat) (i : Int) (acc : List Int) (cell : Int) (a6 : Option D), Dg acc → acc.length + k ≤ 90000 →
    (∀ acc' cell' a6', Dg acc' → acc'.length ≤ acc.length + k → E.nx [a0, a1, a2, some (.ref p), a4, some (.int cell'), a6', a7] (up S p (.lst (acc'.map .int)))) →
    loopD (gNm 6) (b__law_digits_0 c) (fun _ => True) E (rgI i k) [a0, a1, a2, some (.ref p), a4, some (.int cell), a6, a7] (up S p (.lst (acc.map .int)))
  | 0, i, acc, cell, a6, hd, hl, h => ⟨trivial, h acc cell a6 hd (by omega)⟩
  | k + 1, i, acc, cell, a6, hd, hl, h => by
    refine ⟨trivial, ?_⟩
    conv => whnf
    by_cases hc : 0 < cell
    · rw [decide_eq_true hc]
      conv => whnf
      refine ⟨ty_lst up_same, ?_⟩
      conv => whnf
      refine ⟨show (0 : Int) < 1000 by decide, ?_⟩
      conv => whnf
      rw [up_same]
      conv => whnf
      refine ⟨sl_lt (by simp; omega), ?_⟩
      conv => whnf
      refine ⟨⟨by decide, by decide⟩, ?_⟩
      conv => whnf
      rw [up_up]
      have := dig0 k (i + 1) (acc ++ [cell % 1000]) (cell / 1000) (some (.int i)) (hd.snoc (by omega) (by omega)) (by simp; omega) (S := S) (E := E) (p := p) (a0 := a0) (a1 := a1) (a2 := a2) (a4 := a4) (a7 := a7) fun acc' cell' a6' g1 g2 => h acc' cell' a6' g1 (by simp at g2; omega)
      rw [map_snoc] at this
      exact this
    · rw [decide_eq_false hc]
      exact dig0 k (i + 1) acc cell (some (.int i)) hd (by omega) fun acc' cell' a6' g1 g2 => h acc' cell' a6' g1 (by omega)
theorem dig1 {p : Nat} {S : Sto} {E : Ed} {a0 a1 a2 a4 a5 : Option D} : ∀ (k : Nat) (i : Int) (acc : List Int) (seed : Int) (a6 : Option D), Dg acc → acc.length + k ≤ 90000 →
    (∀ acc' seed' a6', Dg acc' → acc'.length ≤ acc.length + k → E.nx [a0, a1, a2, some (.ref p), a4, a5, a6', some (.int seed')] (up S p (.lst (acc'.map .int)))) →
    loopD (gNm 6) (b__law_digits_1 c) (fun _ => True) E (rgI i k) [a0, a1, a2, some (.ref p), a4, a5, a6, some (.int seed)] (up S p (.lst (acc.map .int)))
  | 0, i, acc, seed, a6, hd, hl, h => ⟨trivial, h acc seed a6 hd (by omega)⟩
  | k + 1, i, acc, seed, a6, hd, hl, h => by
    refine ⟨trivial, ?_⟩
    conv => whnf
    refine ⟨.inr ⟨by decide, by decide⟩, ?_⟩
    conv => whnf
    refine ⟨.inl ⟨by decide, by decide⟩, ?_⟩
    conv => whnf
    refine ⟨show (0 : Int) < 2147483647 by decide, ?_⟩
    conv => whnf
    refine ⟨ty_lst up_same, ?_⟩
    conv => whnf
    refine ⟨⟨by decide, by decide⟩, ?_⟩
    conv => whnf
    refine ⟨show (0 : Int) < 1000 by decide, ?_⟩
    conv => whnf
    rw [up_same]
    conv => whnf
    refine ⟨sl_lt (by simp; omega), ?_⟩
    conv => whnf
    rw [up_up]
    have := dig1 k (i + 1) (acc ++ [(seed * 16807 + 7 * i + 1) % 2147483647 / 997 % 1000]) ((seed * 16807 + 7 * i + 1) % 2147483647) (some (.int i)) (hd.snoc (by omega) (by omega)) (by simp; omega) (S := S) (E := E) (p := p) (a0 := a0) (a1 := a1) (a2 := a2) (a4 := a4) (a5 := a5) fun acc' cell' a6' g1 g2 => h acc' cell' a6' g1 (by simp at g2; omega)
    rw [map_snoc] at this
    exact this
theorem dig2 {p a : Nat} {ns : List Int} {S : Sto} {E : Ed} {a1 a2 : Option D} (hS : S a = some (.fl (ns.map .int))) (hp : S p = none) : ∀ (k i : Nat) (acc : List Int) (a4 a5 a6 a7 : Option D), Dg acc → acc.length + 60 * k ≤ 9000 →
    (∀ acc' a4' a5' a6' a7', Dg acc' → acc'.length ≤ 9000 → E.nx [some (.ref a), a1, a2, some (.ref p), a4', a5', a6', a7'] (up S p (.lst (acc'.map .int)))) →
    loopD (gNm 4) (b__law_digits_2 c) (fun _ => True) E (rgI (i : Int) k) [some (.ref a), a1, a2, some (.ref p), a4, a5, a6, a7] (up S p (.lst (acc.map .int)))
  | 0, i, acc, a4, a5, a6, a7, hd, hl, h => ⟨trivial, h acc a4 a5 a6 a7 hd (by omega)⟩
  | k + 1, i, acc, a4, a5, a6, a7, hd, hl, h => by
    have nap : a ≠ p := ne_fresh hS hp
    refine ⟨trivial, ?_⟩
    refine cell_ok (ns := ns) (by rw [up_ne nap]; exact hS) fun v => ?_
    have tail : ∀ w : Int, dIfS (dTest (dBin geD (dVar 5) (dBin powD (dC (.int 10)) (dC (.int 18)))))
        (dFor (iR1 (dCons (dC (.int 60)) (dNil))) (gNm 6) (b__law_digits_0 c))
        (dSq (dAsg (dBin modD (dCB intCD (dCons (dBin addD (dBin addD (dBin mulD (dVar 5) (dC (.int 48271))) (dBin mulD (dVar 4) (dC (.int 69621)))) (dC (.int 11))) (dNil))) (dC (.int 2147483647))) (gNm 7))
        (dFor (iR1 (dCons (dC (.int 12)) (dNil))) (gNm 6) (b__law_digits_1 c)))
        (Ed.lp (loopD (gNm 4) (b__law_digits_2 c) (fun _ => True) E (rgI ((i : Int) + 1) k)) E) [some (.ref a), a1, a2, some (.ref p), some (.int i), some (.int w), a6, a7] (up S p (.lst (acc.map .int))) := by
      intro w
      have next : ∀ (acc' : List Int) (a4' a5' a6' a7' : Option D), Dg acc' → acc'.length ≤ acc.length + 60 → loopD (gNm 4) (b__law_digits_2 c) (fun _ => True) E (rgI ((i : Int) + 1) k) [some (.ref a), a1, a2, some (.ref p), a4', a5', a6', a7'] (up S p (.lst (acc'.map .int))) := by
        intro acc' a4' a5' a6' a7' g1 g2
        exact dig2 hS hp k (i + 1) acc' a4' a5' a6' a7' g1 (by omega) h
      conv => whnf
      refine ⟨⟨by decide, by decide, by decide⟩, ?_⟩
      conv => whnf
      split
      · conv => whnf
        refine ⟨by decide, by decide, ?_⟩
        rw [rngD_eq]
        exact dig0 60 0 acc w a6 hd (by omega) fun acc' cell' a6' g1 g2 => next acc' _ _ _ _ g1 g2
      · conv => whnf
        refine ⟨.inr ⟨by decide, by decide⟩, ?_⟩
        conv => whnf
        refine ⟨.inr ⟨by decide, by decide⟩, ?_⟩
        conv => whnf
        refine ⟨show (0 : Int) < 2147483647 by decide, ?_⟩
        conv => whnf
        refine ⟨by decide, by decide, ?_⟩
        rw [rngD_eq]
        exact dig1 12 0 acc _ a6 hd (by omega) fun acc' seed' a6' g1 g2 => next acc' _ _ _ _ g1 (by omega)
    conv => whnf
    by_cases hv : v < 0
    · rw [decide_eq_true hv]
      conv => whnf
      refine ⟨.inl ⟨by decide, by decide⟩, ?_⟩
      exact tail (1 - 2 * v)
    · rw [decide_eq_false hv]
      exact tail v
theorem law_digits_ok {a n : Nat} {ns : List Int} {S : Sto} {P : DK} {Y : XD} (hn : n ≤ 100) (hS : S a = some (.fl (ns.map .int))) (h : ∀ p acc, S p = none → Dg acc → acc.length ≤ 9000 → P (.ref p) (up S p (.lst (acc.map .int)))) : sp__law_digits c [.ref a, .int 0, .int n] S P Y := by
  refine ⟨rfl, ?_⟩
  conv => whnf
  refine ⟨sl_le (by decide), fun p hp => ?_⟩
  conv => whnf
  refine ⟨⟨by decide, by decide, by omega, by omega⟩, ?_⟩
  rw [rngD_eq, show ((n : Int) - 0).toNat = n by omega]
  refine dig2 (ns := ns) hS hp n 0 [] _ _ _ _ (fun _ z => nomatch z) (by simp; omega) ?_
  intro acc' a4' a5' a6' a7' g1 g2
  exact ⟨_, Le.refl _, h p acc' hp g1 g2⟩
end V52

set_option Elab.async false
set_option linter.all false
set_option autoImplicit false
set_option maxRecDepth 100000
set_option maxHeartbeats 4000000
/-! V52q: counts written and read again -/
namespace V52
open PySem PySem.Spec PyProof.Rows L2 VD
variable {c : CA}
def il (ns : List Nat) : List Int := ns.map fun (n : Nat) => (n : Int)
theorem nts_il (L : List Nat) : nts L = (il L).map D.int := by simp [nts, il]
theorem il_append (a b : List Nat) : il (a ++ b) = il a ++ il b := by simp [il]
theorem il_length (a : List Nat) : (il a).length = a.length := by simp [il]
theorem wc_pos (v : Nat) : 0 < (wc v).length := by rw [wc]; split <;> simp
theorem unit_law (unit : Int) (v : Nat) : unit * ((v % 128 : Nat) : Int) + unit * 128 * ((v / 128 : Nat) : Int) = unit * (v : Int) := by
  rw [Int.mul_assoc, ← Int.mul_add]
  congr 1
  omega
theorem dg_wc : ∀ (b v : Nat) (pre post : List Int) (k done : Nat) (tot unit : Int), v ≤ b → done + k = 6 → done + (wc v).length ≤ 5 → (done = 0 ∨ 0 < v) →
    dgG (pre ++ il (wc v) ++ post) 5 k done tot unit pre.length = .ok (tot + unit * v, pre.length + (wc v).length) := by
  intro b
  induction b with
  | zero =>
    intro v pre post k done tot unit hb hk hd hz
    have e : v = 0 := by omega
    subst e
    have hd0 : done = 0 := by omega
    subst hd0
    obtain ⟨k, rfl⟩ : ∃ j, k = j + 1 := ⟨k - 1, by omega⟩
    have w0 : wc 0 = [0] := wc_small (by decide)
    rw [w0, dgG]
    have hg : (pre ++ il [0] ++ post)[pre.length]? = some 0 := by simp [il]
    rw [hg]
    simp
  | succ b ih =>
    intro v pre post k done tot unit hb hk hd hz
    have hp := wc_pos v
    obtain ⟨k, rfl⟩ : ∃ j, k = j + 1 := ⟨k - 1, by omega⟩
    by_cases h : v < 128
    · rw [wc_small h] at hd ⊢
      rw [dgG]
      have hg : (pre ++ il [v] ++ post)[pre.length]? = some (v : Int) := by simp [il]
      rw [hg]
      dsimp only
      rw [if_neg (by simp at hd; omega), if_pos (by omega)]
      simp
    · have hw : wc v = (128 + v % 128) :: wc (v / 128) := by rw [wc, if_neg h]
      rw [hw] at hd ⊢
      rw [dgG]
      have hg : (pre ++ il ((128 + v % 128) :: wc (v / 128)) ++ post)[pre.length]? = some ((128 + v % 128 : Nat) : Int) := by simp [il]
      rw [hg]
      dsimp only
      rw [if_neg (by simp at hd; omega), if_neg (by omega)]
      have e : pre ++ il ((128 + v % 128) :: wc (v / 128)) ++ post = (pre ++ [((128 + v % 128 : Nat) : Int)]) ++ il (wc (v / 128)) ++ post := by simp [il]
      have := ih (v / 128) (pre ++ [((128 + v % 128 : Nat) : Int)]) post k (done + 1) (tot + unit * (((128 + v % 128 : Nat) : Int) - 128)) (unit * 128) (by omega) (by omega) (by simp at hd; omega) (.inr (by omega))
      rw [e]
      rw [List.length_append] at this
      rw [show pre.length + 1 = pre.length + [((128 + v % 128 : Nat) : Int)].length from rfl, this]
      have e2 : tot + unit * (((128 + v % 128 : Nat) : Int) - 128) + unit * 128 * ((v / 128 : Nat) : Int) = tot + unit * (v : Int) := by
        rw [← unit_law unit v, show (((128 + v % 128 : Nat) : Int) - 128) = ((v % 128 : Nat) : Int) by omega]
        omega
      rw [e2]
      congr 2
      simp
      omega
theorem dg_cut : ∀ (b v : Nat) (pre : List Int) (j k done : Nat) (tot unit : Int), v ≤ b → done + k = 6 → done + (wc v).length ≤ 5 → j < (wc v).length →
    dgG (pre ++ il ((wc v).take j)) 5 k done tot unit pre.length = .error ((pre.length + j : Nat) : Int) := by
  intro b
  induction b with
  | zero =>
    intro v pre j k done tot unit hb hk hd hj
    have e : v = 0 := by omega
    subst e
    have w0 : wc 0 = [0] := wc_small (by decide)
    rw [w0] at hj hd ⊢
    obtain ⟨k, rfl⟩ : ∃ i, k = i + 1 := ⟨k - 1, by simp at hd; omega⟩
    have hj0 : j = 0 := by simp at hj; omega
    subst hj0
    rw [dgG]
    simp [il]
  | succ b ih =>
    intro v pre j k done tot unit hb hk hd hj
    obtain ⟨k, rfl⟩ : ∃ i, k = i + 1 := ⟨k - 1, by omega⟩
    cases j with
    | zero =>
      rw [dgG]
      simp [il]
    | succ j =>
      by_cases h : v < 128
      · rw [wc_small h] at hj; simp at hj
      · have hw : wc v = (128 + v % 128) :: wc (v / 128) := by rw [wc, if_neg h]
        rw [hw] at hd hj ⊢
        rw [dgG]
        have hg : (pre ++ il (((128 + v % 128) :: wc (v / 128)).take (j + 1)))[pre.length]? = some ((128 + v % 128 : Nat) : Int) := by simp [il]
        rw [hg]
        dsimp only
        rw [if_neg (by simp at hd; omega), if_neg (by omega)]
        have e : pre ++ il (((128 + v % 128) :: wc (v / 128)).take (j + 1)) = (pre ++ [((128 + v % 128 : Nat) : Int)]) ++ il ((wc (v / 128)).take j) := by simp [il]
        have := ih (v / 128) (pre ++ [((128 + v % 128 : Nat) : Int)]) j k (done + 1) (tot + unit * (((128 + v % 128 : Nat) : Int) - 128)) (unit * 128) (by omega) (by omega) (by simp at hd; omega) (by simp at hj; omega)
        rw [e]
        rw [List.length_append] at this
        rw [show pre.length + 1 = pre.length + [((128 + v % 128 : Nat) : Int)].length from rfl, this]
        congr 2
        simp
        omega
theorem wc5 {v : Nat} (h : v < 34359738368) : (wc v).length ≤ 5 := wc_length 5 v h (by decide)
theorem cnt_at {ns pre post : List Int} {v at_ : Nat} {least most : Int} (e : ns = pre ++ il (wc v) ++ post) (h : pre.length = at_) (hv : v < 34359738368) (h1 : least ≤ v) (h2 : (v : Int) ≤ most) : cntG ns least most at_ = .ok ((v : Int), at_ + (wc v).length) := by
  subst e h
  unfold cntG
  have := dg_wc v v pre post 6 0 0 1 (Nat.le_refl _) rfl (by have := wc5 hv; omega) (.inl rfl)
  rw [this]
  dsimp only
  rw [if_neg (by omega)]
  congr 2
  omega
theorem cnt_great {ns pre post : List Int} {v at_ : Nat} {least most : Int} (e : ns = pre ++ il (wc v) ++ post) (h : pre.length = at_) (hv : v < 34359738368) (h2 : (v : Int) < least ∨ most < (v : Int)) : cntG ns least most at_ = .error (((at_ + (wc v).length : Nat) : Int) - 1) := by
  subst e h
  unfold cntG
  have := dg_wc v v pre post 6 0 0 1 (Nat.le_refl _) rfl (by have := wc5 hv; omega) (.inl rfl)
  rw [this]
  dsimp only
  rw [if_pos (by omega)]
theorem cnt_cut {ns pre : List Int} {v j at_ : Nat} {least most : Int} (e : ns = pre ++ il ((wc v).take j)) (h : pre.length = at_) (hv : v < 34359738368) (hj : j < (wc v).length) : cntG ns least most at_ = .error ((at_ + j : Nat) : Int) := by
  subst e h
  unfold cntG
  rw [dg_cut v v pre j 6 0 0 1 (Nat.le_refl _) rfl (by have := wc5 hv; omega) hj]
theorem cnt_end {ns : List Int} {at_ : Nat} {least most : Int} (h : ns.length = at_) : cntG ns least most at_ = .error (at_ : Int) := by
  subst h
  unfold cntG
  rw [dgG, List.getElem?_eq_none (by omega)]
/-! ### acknowledgements -/
def ackL (s r n : Nat) : List Nat := [2] ++ wc s ++ wc r ++ wc n
section
variable {s r n : Nat}
theorem ack_read (hs1 : 1 ≤ s) (hs : s ≤ 9) (hr1 : 1 ≤ r) (hr : r ≤ 9) (hn : n ≤ 1000000000) : ackG (il (ackL s r n)) = .ok ((s : Int), (r : Int), (n : Int)) := by
  have ws : wc s = [s] := wc_small (by omega)
  have wr : wc r = [r] := wc_small (by omega)
  have w2 : wc 2 = [2] := wc_small (by decide)
  unfold ackG
  rw [cnt_at (at_ := 0) (v := 2) (pre := []) (post := il (wc s ++ wc r ++ wc n)) (by simp [ackL, il, w2]) rfl (by decide) (by decide) (by decide)]
  dsimp only
  rw [cnt_at (v := s) (pre := [2]) (post := il (wc r ++ wc n)) (by simp [ackL, il]) (by simp [w2]) (by omega) (by omega) (by omega)]
  dsimp only
  rw [cnt_at (v := r) (pre := 2 :: il (wc s)) (post := il (wc n)) (by simp [ackL, il]) (by simp [w2, ws, il]) (by omega) (by omega) (by omega)]
  dsimp only
  rw [cnt_at (v := n) (pre := 2 :: il (wc s ++ wc r)) (post := []) (by simp [ackL, il]) (by simp [w2, ws, wr, il]) (by omega) (by omega) (by omega)]
  dsimp only
  rw [if_pos (by simp [ackL, il, w2, ws, wr]; omega)]
theorem ack_more (x : Nat) (hs1 : 1 ≤ s) (hs : s ≤ 9) (hr1 : 1 ≤ r) (hr : r ≤ 9) (hn : n ≤ 1000000000) : ackG (il (ackL s r n ++ [x])) = .error ((ackL s r n).length : Nat) := by
  have ws : wc s = [s] := wc_small (by omega)
  have wr : wc r = [r] := wc_small (by omega)
  have w2 : wc 2 = [2] := wc_small (by decide)
  unfold ackG
  rw [cnt_at (at_ := 0) (v := 2) (pre := []) (post := il (wc s ++ wc r ++ wc n ++ [x])) (by simp [ackL, il, w2]) rfl (by decide) (by decide) (by decide)]
  dsimp only
  rw [cnt_at (v := s) (pre := [2]) (post := il (wc r ++ wc n ++ [x])) (by simp [ackL, il]) (by simp [w2]) (by omega) (by omega) (by omega)]
  dsimp only
  rw [cnt_at (v := r) (pre := 2 :: il (wc s)) (post := il (wc n ++ [x])) (by simp [ackL, il]) (by simp [w2, ws, il]) (by omega) (by omega) (by omega)]
  dsimp only
  rw [cnt_at (v := n) (pre := 2 :: il (wc s ++ wc r)) (post := il [x]) (by simp [ackL, il]) (by simp [w2, ws, wr, il]) (by omega) (by omega) (by omega)]
  dsimp only
  rw [if_neg (by simp [ackL, il, w2, ws, wr]; omega)]
  simp [ackL, w2, ws, wr]
  omega
theorem ack_cut (j : Nat) (hj0 : 0 < j) (hj : j < (ackL s r n).length) (hs1 : 1 ≤ s) (hs : s ≤ 9) (hr1 : 1 ≤ r) (hr : r ≤ 9) (hn : n ≤ 1000000000) : ackG (il ((ackL s r n).take j)) = .error (j : Int) := by
  have ws : wc s = [s] := wc_small (by omega)
  have wr : wc r = [r] := wc_small (by omega)
  have w2 : wc 2 = [2] := wc_small (by decide)
  have eL : ackL s r n = 2 :: s :: r :: wc n := by simp [ackL, ws, wr]
  rw [eL] at hj ⊢
  unfold ackG
  match j, hj0, hj with
  | 1, _, _ =>
    rw [cnt_at (at_ := 0) (v := 2) (pre := []) (post := []) (by simp [il, w2]) rfl (by decide) (by decide) (by decide)]
    dsimp only
    rw [cnt_end (by simp [il, w2])]
    simp [w2]
  | 2, _, _ =>
    rw [cnt_at (at_ := 0) (v := 2) (pre := []) (post := il [s]) (by simp [il, w2]) rfl (by decide) (by decide) (by decide)]
    dsimp only
    rw [cnt_at (v := s) (pre := [2]) (post := []) (by simp [il, ws]) (by simp [w2]) (by omega) (by omega) (by omega)]
    dsimp only
    rw [cnt_end (by simp [il, w2, ws])]
    simp [w2, ws]
  | 3, _, _ =>
    rw [cnt_at (at_ := 0) (v := 2) (pre := []) (post := il [s, r]) (by simp [il, w2]) rfl (by decide) (by decide) (by decide)]
    dsimp only
    rw [cnt_at (v := s) (pre := [2]) (post := il [r]) (by simp [il, ws]) (by simp [w2]) (by omega) (by omega) (by omega)]
    dsimp only
    rw [cnt_at (v := r) (pre := [2, (s : Int)]) (post := []) (by simp [il, wr]) (by simp [w2, ws]) (by omega) (by omega) (by omega)]
    dsimp only
    rw [cnt_end (by simp [il, w2, ws, wr])]
    simp [w2, ws, wr]
  | j + 4, _, hj =>
    rw [cnt_at (at_ := 0) (v := 2) (pre := []) (post := il ([s, r] ++ (wc n).take (j + 1))) (by simp [il, w2]) rfl (by decide) (by decide) (by decide)]
    dsimp only
    rw [cnt_at (v := s) (pre := [2]) (post := il ([r] ++ (wc n).take (j + 1))) (by simp [il, ws]) (by simp [w2]) (by omega) (by omega) (by omega)]
    dsimp only
    rw [cnt_at (v := r) (pre := [2, (s : Int)]) (post := il ((wc n).take (j + 1))) (by simp [il, wr]) (by simp [w2, ws]) (by omega) (by omega) (by omega)]
    dsimp only
    rw [cnt_cut (v := n) (j := j + 1) (pre := [2, (s : Int), (r : Int)]) (by simp [il]) (by simp [w2, ws, wr]) (by omega) (by simp at hj; omega)]
    simp [w2, ws, wr]
    omega
theorem ack_great (m : Nat) (hs1 : 1 ≤ s) (hs : s ≤ 9) (hr1 : 1 ≤ r) (hr : r ≤ 9) (hm : 1000000000 < m) (hm2 : m < 34359738368) : ackG (il ([2, s, r] ++ wc m)) = .error ((2 + (wc m).length : Nat) : Int) := by
  have ws : wc s = [s] := wc_small (by omega)
  have wr : wc r = [r] := wc_small (by omega)
  have w2 : wc 2 = [2] := wc_small (by decide)
  unfold ackG
  rw [cnt_at (at_ := 0) (v := 2) (pre := []) (post := il ([s, r] ++ wc m)) (by simp [il, w2]) rfl (by decide) (by decide) (by decide)]
  dsimp only
  rw [cnt_at (v := s) (pre := [2]) (post := il ([r] ++ wc m)) (by simp [il, ws]) (by simp [w2]) (by omega) (by omega) (by omega)]
  dsimp only
  rw [cnt_at (v := r) (pre := [2, (s : Int)]) (post := il (wc m)) (by simp [il, wr]) (by simp [w2, ws]) (by omega) (by omega) (by omega)]
  dsimp only
  rw [cnt_great (v := m) (pre := [2, (s : Int), (r : Int)]) (post := []) (by simp [il]) (by simp [w2, ws, wr]) hm2 (.inr (by omega))]
  simp [w2, ws, wr]
  omega
theorem ack_zero (r : Nat) : ackG [2, 0, (r : Int), 1] = .error 1 := by
  unfold ackG
  rw [cnt_at (at_ := 0) (v := 2) (pre := []) (post := [0, (r : Int), 1]) (by rw [wc_small (by decide)]; simp [il]) rfl (by decide) (by decide) (by decide)]
  dsimp only
  rw [cnt_great (v := 0) (pre := [2]) (post := [(r : Int), 1]) (by rw [wc_small (by decide)]; simp [il]) (by rw [wc_small (by decide)]; simp) (by decide) (.inl (by decide))]
  rw [wc_small (by decide), wc_small (by decide)]
  rfl
theorem ack_ten : ackG [2, 1, 10, 1] = .error 2 := by
  unfold ackG
  rw [cnt_at (at_ := 0) (v := 2) (pre := []) (post := [1, 10, 1]) (by rw [wc_small (by decide)]; simp [il]) rfl (by decide) (by decide) (by decide)]
  dsimp only
  rw [cnt_at (v := 1) (pre := [2]) (post := [10, 1]) (by rw [wc_small (by decide)]; simp [il]) (by rw [wc_small (by decide)]; simp) (by decide) (by decide) (by decide)]
  dsimp only
  rw [cnt_great (v := 10) (pre := [2, 1]) (post := [1]) (by rw [wc_small (by decide)]; simp [il]) (by rw [wc_small (by decide), wc_small (by decide)]; simp) (by decide) (.inr (by decide))]
  rw [wc_small (by decide), wc_small (by decide), wc_small (by decide)]
  rfl
end
/-! ### packets -/
def pkL (s r n m : Nat) : List Nat := [1] ++ wc s ++ wc r ++ wc n ++ [2] ++ (wc m ++ (wc 2 ++ wt ['n', 'o']))
theorem idx_n : chars.toList.idxOf 'n' = 77 := by decide +kernel
theorem idx_o : chars.toList.idxOf 'o' = 78 := by decide +kernel
theorem wt_no : wt ['n', 'o'] = [77, 78] := by
  unfold wt
  simp only [List.flatMap_cons, List.flatMap_nil, idx_n, idx_o]
  rw [wc_small (by decide), wc_small (by decide)]
  rfl
theorem ch_n : chars.toList[77]? = some 'n' := by decide +kernel
theorem ch_o : chars.toList[78]? = some 'o' := by decide +kernel
theorem packet_read {s r n m l : Nat} {S : Sto} {P : DK} {Y : XD} (hs1 : 1 ≤ s) (hs : s ≤ 9) (hr1 : 1 ≤ r) (hr : r ≤ 9) (hn1 : 1 ≤ n) (hn : n ≤ 1000000000) (hm1 : 1 ≤ m) (hm : m ≤ 1000000000) (hl : S l = some (.lst ((il (pkL s r n m)).map .int)))
    (h : P (.tup [.int s, .int r, .int n, .tup [.str "break", .int m, .str "no"]]) S) : sp_read_packet c [.ref l] S P Y := by
  have ws : wc s = [s] := wc_small (by omega)
  have wr : wc r = [r] := wc_small (by omega)
  have w1 : wc 1 = [1] := wc_small (by decide)
  have w2 : wc 2 = [2] := wc_small (by decide)
  have w77 : wc 77 = [77] := wc_small (by decide)
  have w78 : wc 78 = [78] := wc_small (by decide)
  have ln := wc5 (v := n) (by omega)
  have lm := wc5 (v := m) (by omega)
  have e : pkL s r n m = 1 :: s :: r :: (wc n ++ 2 :: (wc m ++ [2, 77, 78])) := by simp [pkL, ws, wr, w2, wt_no]
  have len : (il (pkL s r n m)).length = 3 + (wc n).length + 1 + (wc m).length + 1 + 1 + 1 := by rw [e]; simp [il]; omega
  refine read_packet_ok (s := s) (r := r) (n := n) (m := m) (e1 := 1) (e2 := 2) (e3 := 3) (e4 := 3 + (wc n).length) (e5 := 3 + (wc n).length + 1) (e6 := 3 + (wc n).length + 1 + (wc m).length) (e7 := 3 + (wc n).length + 1 + (wc m).length + 1) (cs := ['n', 'o']) hl (by rw [len]; omega) ?_ ?_ ?_ ?_ ?_ ?_ ?_ ?_ (by decide) h
  · have := cnt_at (ns := il (pkL s r n m)) (at_ := 0) (v := 1) (least := 1) (most := 1) (pre := []) (post := il (s :: r :: (wc n ++ 2 :: (wc m ++ [2, 77, 78])))) (by rw [e]; simp [il, w1]) rfl (by decide) (by decide) (by decide)
    rw [w1] at this; exact this
  · have := cnt_at (ns := il (pkL s r n m)) (at_ := 1) (v := s) (least := 1) (most := 9) (pre := [1]) (post := il (r :: (wc n ++ 2 :: (wc m ++ [2, 77, 78])))) (by rw [e]; simp [il, ws]) rfl (by omega) (by omega) (by omega)
    rw [ws] at this; exact this
  · have := cnt_at (ns := il (pkL s r n m)) (at_ := 2) (v := r) (least := 1) (most := 9) (pre := [1, (s : Int)]) (post := il (wc n ++ 2 :: (wc m ++ [2, 77, 78]))) (by rw [e]; simp [il, wr]) rfl (by omega) (by omega) (by omega)
    rw [wr] at this; exact this
  · exact cnt_at (v := n) (pre := [1, (s : Int), (r : Int)]) (post := il (2 :: (wc m ++ [2, 77, 78]))) (by rw [e]; simp [il]) rfl (by omega) (by omega) (by omega)
  · have := cnt_at (ns := il (pkL s r n m)) (at_ := 3 + (wc n).length) (v := 2) (least := 0) (most := 8) (pre := [1, (s : Int), (r : Int)] ++ il (wc n)) (post := il (wc m ++ [2, 77, 78])) (by rw [e]; simp [il, w2]) (by simp [il]; omega) (by decide) (by decide) (by decide)
    rw [w2] at this; exact this
  · exact cnt_at (v := m) (pre := [1, (s : Int), (r : Int)] ++ il (wc n ++ [2])) (post := il [2, 77, 78]) (by rw [e]; simp [il]) (by simp [il]; omega) (by omega) (by omega) (by omega)
  · have := cnt_at (ns := il (pkL s r n m)) (at_ := 3 + (wc n).length + 1 + (wc m).length) (v := 2) (least := 0) (most := 20) (pre := [1, (s : Int), (r : Int)] ++ il (wc n ++ [2] ++ wc m)) (post := il [77, 78]) (by rw [e]; simp [il, w2]) (by simp [il]; omega) (by decide) (by decide) (by decide)
    rw [w2] at this; exact this
  · refine .cons (v := 77) (e1 := 3 + (wc n).length + 1 + (wc m).length + 1 + 1) ?_ ch_n (.cons (v := 78) (e1 := 3 + (wc n).length + 1 + (wc m).length + 1 + 1 + 1) ?_ ch_o ?_)
    · have := cnt_at (ns := il (pkL s r n m)) (at_ := 3 + (wc n).length + 1 + (wc m).length + 1) (v := 77) (least := 0) (most := 93) (pre := [1, (s : Int), (r : Int)] ++ il (wc n ++ [2] ++ wc m ++ [2])) (post := il [78]) (by rw [e]; simp [il, w77]) (by simp [il]; omega) (by decide) (by decide) (by decide)
      rw [w77] at this; exact this
    · have := cnt_at (ns := il (pkL s r n m)) (at_ := 3 + (wc n).length + 1 + (wc m).length + 1 + 1) (v := 78) (least := 0) (most := 93) (pre := [1, (s : Int), (r : Int)] ++ il (wc n ++ [2] ++ wc m ++ [2, 77])) (post := []) (by rw [e]; simp [il, w78]) (by simp [il]; omega) (by decide) (by decide) (by decide)
      rw [w78] at this; exact this
    · rw [len]; exact .nil _
/-! ### the box of digits -/
def Bx (S : Sto) (b : Nat) : Prop := ∃ (p : Nat) (acc : List Int) (k : Nat), S b = some (.lst [.ref p, .int k]) ∧ S p = some (.lst (acc.map .int)) ∧ Dg acc ∧ acc.length ≤ 9000 ∧ p ≠ b
theorem Bx.new {S : Sto} {b x : Nat} {o : DO} (h : Bx S b) (n : S x = none) : Bx (up S x o) b := let ⟨p, acc, k, h1, h2, h3, h4, h5⟩ := h; ⟨p, acc, k, up_old h1 n, up_old h2 n, h3, h4, h5⟩
theorem draw_ok {b : Nat} {many : Nat} {S : Sto} {P : DK} {Y : XD} (hb : Bx S b) (hm : 0 < many) (h : ∀ (r : Nat) (S' : Sto), r < many → Bx S' b → (∀ x o, x ≠ b → S x = some o → S' x = some o) → P (.int r) S') : sp__law_draw c [.ref b, .int many] S P Y := by
  obtain ⟨p, acc, k, h1, h2, h3, h4, h5⟩ := hb
  refine ⟨rfl, ?_⟩
  conv => whnf
  rw [seq_lst h1]
  conv => whnf
  rw [h1]
  conv => whnf
  have hp : up S b (.lst [.ref p, .int (k + 1)]) p = some (.lst (acc.map .int)) := by rw [up_ne h5]; exact h2
  have fin : ∀ v : Int, 0 ≤ v → v < many → wkP P (.int v) (up S b (.lst [.ref p, .int ((k : Int) + 1)])) := by
    intro v v0 v1
    obtain ⟨r, rfl⟩ := Int.eq_ofNat_of_zero_le v0
    refine ⟨_, Le.refl _, h r _ (by omega) ⟨p, acc, k + 1, up_same, hp, h3, h4, h5⟩ fun x o hx e => ?_⟩
    rw [up_ne hx]; exact e
  rw [show ([D.ref p, D.int k].set (Int.toNat 1) (D.int ((k : Int) + 1))) = [D.ref p, D.int ((k : Int) + 1)] from rfl]
  rw [seq_lst up_same]
  conv => whnf
  rw [seq_lst hp]
  conv => whnf
  by_cases hk : (k : Int) < ((acc.map D.int).length : Nat)
  · rw [decide_eq_true hk]
    conv => whnf
    rw [seq_lst up_same]
    conv => whnf
    rw [seq_lst hp]
    conv => whnf
    rw [List.length_map] at hk
    have hlt : k < acc.length := by omega
    have hg : (acc.map D.int)[k]? = some (.int acc[k]) := by rw [List.getElem?_map, List.getElem?_eq_getElem hlt]; rfl
    rw [atI_get hg]
    conv => whnf
    refine ⟨show (0 : Int) < (many : Int) by omega, ?_⟩
    exact fin _ (Int.emod_nonneg _ (by omega)) (Int.emod_lt_of_pos _ (by omega))
  · rw [decide_eq_false hk]
    conv => whnf
    refine ⟨.inr ⟨by decide, by decide⟩, ?_⟩
    conv => whnf
    refine ⟨show (0 : Int) < (many : Int) by omega, ?_⟩
    exact fin _ (Int.emod_nonneg _ (by omega)) (Int.emod_lt_of_pos _ (by omega))
/-! ### sameness -/
mutual
theorem pyW_mono (f : Nat → Option PyData) : ∀ (d : D) {x : PyData}, toPy d = some x → pyW f d = some x
  | .non, x, e => by unfold toPy pyW at e; unfold pyW; exact e
  | .bl b, x, e => by unfold toPy pyW at e; unfold pyW; exact e
  | .int i, x, e => by unfold toPy pyW at e; unfold pyW; exact e
  | .str s, x, e => by unfold toPy pyW at e; unfold pyW; exact e
  | .ty n, x, e => by unfold toPy pyW at e; cases e
  | .raw n, x, e => by unfold toPy pyW at e; cases e
  | .ref a, x, e => by unfold toPy pyW at e; cases e
  | .tup ds, x, e => by
    unfold toPy pyW at e
    unfold pyW
    split at e
    · rename_i xs e2
      rw [pyWL_mono f ds e2]
      exact e
    · cases e
theorem pyWL_mono (f : Nat → Option PyData) : ∀ (ds : List D) {xs : List PyData}, toPyL ds = some xs → pyWL f ds = some xs
  | [], xs, e => by unfold toPyL pyWL at e; unfold pyWL; exact e
  | d :: ds, xs, e => by
    unfold toPyL pyWL at e
    unfold pyWL
    split at e
    · rename_i x ys e1 e2
      rw [pyW_mono f d e1, pyWL_mono f ds e2]
      exact e
    · cases e
end
theorem same_tup {ds : List D} {x : PyData} {S : Sto} {P : DK} {Y : XD} (e : toPy (.tup ds) = some x) (hk : okS x = true) (hd : dep (.tup ds) ≤ 40) (hw : wtS x ≤ 1000000) (h : P (.bl true) S) : sp__law_same c [.tup ds, .tup ds] S P Y := by
  obtain ⟨k1, k2, k3⟩ := okS_ok hk
  obtain ⟨l1, l2⟩ := lay_of _ e
  have pe : pyOf 6 S (.tup ds) = some x := pyW_mono _ _ e
  exact same_ok pe pe k1 k2 (by omega) (Nat.le_trans k3 (sl_le hw)) trivial trivial h
theorem same_lst {p q : Nat} {L : List Nat} {S : Sto} {P : DK} {Y : XD} (hp : S p = some (.lst ((il L).map .int))) (hq : S q = some (.lst ((il L).map .int))) (hL : L.length ≤ 900) (hv : ∀ v ∈ L, v < 1000000) (h : P (.bl true) S) : sp__law_same c [.ref p, .ref q] S P Y := by
  obtain ⟨a, b, d⟩ := ipy_ok (ns := il L) fun v hv' => by
    obtain ⟨n, hn, rfl⟩ := List.mem_map.mp hv'
    have := hv n hn
    omega
  have e1 : ∀ {a : Nat}, S a = some (.lst ((il L).map .int)) → pyOf 6 S (.ref a) = some (.list (ipy (il L))) := fun h => by
    rw [pyOf_lst h, pyW_ints]
    rfl
  have hk : okS (.list (ipy (il L))) = true := by unfold okS; exact a
  obtain ⟨k1, k2, k3⟩ := okS_ok hk
  have hw : wtS (.list (ipy (il L))) ≤ 1000000 := by unfold wtS; rw [b, il_length]; omega
  have hd : PyData.depth (.list (ipy (il L))) ≤ 40 := by unfold PyData.depth; rw [d]; decide
  exact same_ok (e1 hp) (e1 hq) k1 k2 hd (Nat.le_trans k3 (sl_le hw)) trivial trivial h
theorem wc_lt : ∀ (b n : Nat), n ≤ b → ∀ v ∈ wc n, v < 1000000 := by
  intro b
  induction b with
  | zero =>
    intro n hn v hv
    rw [wc_small (by omega)] at hv
    simp at hv
    omega
  | succ b ih =>
    intro n hn v hv
    rw [wc] at hv
    split at hv
    · simp at hv; omega
    · rcases List.mem_cons.mp hv with e | hv
      · omega
      · exact ih (n / 128) (by omega) v hv
theorem ok_mal {p : Int} (h : 0 ≤ p) (h2 : p < 10 ^ 20) : okS (.tuple [.str (Str.ofString "malformed"), .int p]) = true := by
  have e : decide (Str.length (reprText (Str.ofString "malformed")) ≤ 1000) = true := by decide +kernel
  simp only [okS, okSs, e, decide_eq_true h, decide_eq_true h2]
  rfl
theorem same_mal {p : Int} {S : Sto} {P : DK} {Y : XD} (h0 : 0 ≤ p) (h2 : p < 10 ^ 20) (h : P (.bl true) S) : sp__law_same c [.tup [.str "malformed", .int p], .tup [.str "malformed", .int p]] S P Y :=
  same_tup (x := .tuple [.str (Str.ofString "malformed"), .int p]) rfl (ok_mal h0 h2) (by simp [dep, depL]) (by simp [wtS, wtSs]) h
end V52

set_option Elab.async false
set_option linter.all false
set_option autoImplicit false
set_option maxRecDepth 100000
set_option maxHeartbeats 4000000
/-! V52r: the law of the frames, in plain data -/
namespace V52
open PySem PySem.Spec PyProof.Rows L2 VD
variable {c : CA}
theorem keep_lst {S S' : Sto} {b x : Nat} {o : DO} (k : ∀ x o, x ≠ b → S x = some o → S' x = some o) (h : S x = some o) (hx : x ≠ b) : S' x = some o := k x o hx h
theorem bx_ne {S : Sto} {b x : Nat} (h : Bx S b) (n : S x = none) : x ≠ b := by
  obtain ⟨p, acc, k, h1, _⟩ := h
  intro e; subst e; rw [h1] at n; cases n
theorem strok {s : String} (h : decide (Str.length (reprText (Str.ofString s)) ≤ 1000) = true) : okS (.str (Str.ofString s)) = true := by
  simp only [okS]; exact h
theorem intok {n : Nat} (h : n < 10 ^ 20) : okS (.int n) = true := by
  simp only [okS, Bool.and_eq_true, decide_eq_true_eq]; omega
theorem cut_take {α : Type} (L : List α) (j : Nat) (h : j ≤ L.length) : VD.cutD L none (some (j : Int)) = L.take j := by
  have e1 : HT.sIx L.length 0 none = 0 := rfl
  have e2 : HT.sIx L.length L.length (some (j : Int)) = j := by
    show (if (j : Int) < 0 then Int.toNat ((j : Int) + L.length) else min (Int.toNat j) L.length) = j
    rw [if_neg (by omega), Int.toNat_natCast, Nat.min_eq_left h]
  unfold VD.cutD
  rw [e1, e2]
  simp
theorem cut_drop {α : Type} (L : List α) (h : 1 ≤ L.length) : VD.cutD L (some 1) none = L.drop 1 := by
  have e1 : HT.sIx L.length 0 (some 1) = 1 := by
    show (if (1 : Int) < 0 then Int.toNat ((1 : Int) + L.length) else min (Int.toNat 1) L.length) = 1
    rw [if_neg (by decide), show Int.toNat 1 = 1 from rfl, Nat.min_eq_left h]
  have e2 : HT.sIx L.length L.length none = L.length := rfl
  unfold VD.cutD
  rw [e1, e2]
  exact List.take_of_length_le (by simp)
theorem law_ok (hem : c.em (.ref c.Malformed) c.VatError = some true) (ds : List D) (S : Sto) (P : DK) (Y : XD) (hl : lawSp ds S P Y) : sp_law c ds S P Y := by
  obtain ⟨a, ns, rfl, hS, _, hP⟩ := hl
  refine ⟨rfl, ?_⟩
  conv => whnf
  refine law_digits_ok (n := 30) (by decide) hS ?_
  intro p acc hp hd hlen
  conv => whnf
  refine ⟨sl_le (by show 2 ≤ 1000000; decide), fun b hb => ?_⟩
  have hpb : p ≠ b := ne_fresh up_same hb
  have bx : Bx (up (up S p (.lst (acc.map .int))) b (.lst [.ref p, .int 0])) b := ⟨p, acc, 0, up_same, up_old up_same hb, hd, hlen, hpb⟩
  clear hpb
  generalize up (up S p (.lst (acc.map .int))) b (.lst [.ref p, .int 0]) = S1 at bx
  conv => whnf
  refine draw_ok (many := 9) bx (by decide) fun r1 S2 hr1 bx2 _ => ?_
  conv => whnf
  refine draw_ok (many := 9) bx2 (by decide) fun r2 S3 hr2 bx3 _ => ?_
  conv => whnf
  refine draw_ok (many := 1000) bx3 (by decide) fun r3 S4 hr3 bx4 _ => ?_
  conv => whnf
  refine draw_ok (many := 1000) bx4 (by decide) fun r4 S5 hr4 bx5 _ => ?_
  conv => whnf
  refine ⟨.inr ⟨by omega, by omega⟩, ?_⟩
  rw [show (1 + (r1 : Int)) = ((1 + r1 : Nat) : Int) by omega, show (1 + (r2 : Int)) = ((1 + r2 : Nat) : Int) by omega, show ((r3 : Int) * (r4 : Int)) = ((r3 * r4 : Nat) : Int) by simp]
  have hn : r3 * r4 ≤ 998001 := Nat.le_trans (Nat.mul_le_mul (show r3 ≤ 999 by omega) (show r4 ≤ 999 by omega)) (by decide)
  generalize hs : 1 + r1 = s
  generalize hr : 1 + r2 = r
  generalize r3 * r4 = n at hn ⊢
  have hs1 : 1 ≤ s := by omega
  have hs9 : s ≤ 9 := by omega
  have hr_1 : 1 ≤ r := by omega
  have hr9 : r ≤ 9 := by omega
  clear hs hr hr1 hr2 hr3 hr4 bx bx2 bx3 bx4
  have ws : wc s = [s] := wc_small (by omega)
  have wr : wc r = [r] := wc_small (by omega)
  have wn := wc5 (v := n) (by omega)
  conv => whnf
  refine ack_ok s r n S5 _ _ (by rw [ws]; simp) (by rw [wr]; simp) (by omega) fun l hl => ?_
  have el : nts ([2] ++ wc s ++ wc r ++ wc n) = (il (ackL s r n)).map D.int := nts_il _
  rw [el]
  have bx6 : Bx (up S5 l (.lst ((il (ackL s r n)).map .int))) b := bx5.new hl
  have hl6 : up S5 l (.lst ((il (ackL s r n)).map .int)) l = some (.lst ((il (ackL s r n)).map .int)) := up_same
  generalize up S5 l (.lst ((il (ackL s r n)).map .int)) = S6 at bx6 hl6
  have elen : (ackL s r n).length = 3 + (wc n).length := by simp [ackL, ws, wr]; omega
  have esm : ∀ v ∈ ackL s r n, v < 1000000 := by
    intro v hv
    simp only [ackL, ws, wr, List.mem_append, List.mem_singleton] at hv
    rcases hv with ((hv | hv) | hv) | hv
    · omega
    · omega
    · omega
    · exact wc_lt n n (Nat.le_refl _) v hv
  have hlb : l ≠ b := bx_ne bx5 hl
  clear bx5 el hl
  conv => whnf
  refine ⟨sl_le (by show 3 ≤ 1000000; decide), fun q1 hq1 => ?_⟩
  conv => whnf
  refine law_count_ok n _ _ _ (by omega) fun q2 hq2 => ?_
  have q21 : q1 ≠ q2 := ne_fresh up_same hq2
  conv => whnf
  rw [up_ne q21, up_same, up_same]
  conv => whnf
  refine ⟨sl_le (by simp [nts]; omega), fun q3 hq3 => ?_⟩
  have bx7 := ((bx6.new hq1).new hq2).new hq3 (o := .lst ([.int 2, .int s, .int r] ++ nts (wc n)))
  have hl7 := up_old (up_old (up_old hl6 hq1 (u := .lst [.int 2, .int s, .int r])) hq2 (u := .lst (nts (wc n)))) hq3 (u := .lst ([.int 2, .int s, .int r] ++ nts (wc n)))
  refine same_lst (L := ackL s r n) hl7 ?_ (by omega) esm ?_
  · rw [up_same]
    simp [ackL, ws, wr, nts, il]
  generalize up (up (up S6 q1 (.lst [.int 2, .int s, .int r])) q2 (.lst (nts (wc n)))) q3 (.lst ([.int 2, .int s, .int r] ++ nts (wc n))) = S7 at bx7 hl7
  clear bx6 hl6 hq1 hq2 hq3 q21
  conv => whnf
  have h2 : (il (ackL s r n))[0]? = some 2 := by simp [ackL, il]
  refine law_read_ok hem (.ok (.tup [.str "acknowledgement", .int s, .int r, .int n])) (fun P' Y' h' => read_ack_ok hl7 (by rw [il_length]; omega) h2 (by rw [ack_read hs1 hs9 hr_1 hr9 (by omega)]; exact h')) ?_
  conv => whnf
  refine ⟨sl_le (by show 4 ≤ 1000000; decide), ?_⟩
  refine same_tup (x := .tuple [.str (Str.ofString "acknowledgement"), .int s, .int r, .int n]) rfl (by simp only [okS, okSs, decide_eq_true_eq, Bool.and_eq_true]; exact ⟨by decide +kernel, ⟨by omega, by omega⟩, ⟨by omega, by omega⟩, ⟨by omega, by omega⟩, trivial⟩) (by simp [dep, depL]) (by simp [wtS, wtSs]) ?_
  conv => whnf
  refine draw_ok (many := 900) bx7 (by decide) fun r5 S8 hr5 bx8 k8 => ?_
  have hl8 := k8 l _ hlb hl7
  clear bx7 hl7 k8
  conv => whnf
  refine ⟨sl_le (by show 3 ≤ 1000000; decide), ?_⟩
  conv => whnf
  refine ⟨sl_le (by show 4 ≤ 1000000; decide), ?_⟩
  rw [show (1 + (n : Int)) = ((1 + n : Nat) : Int) by omega, show (1 + (r5 : Int)) = ((1 + r5 : Nat) : Int) by omega]
  have hm1 : 1 ≤ 1 + r5 := by omega
  have hm2 : 1 + r5 ≤ 900 := by omega
  generalize 1 + r5 = m at hm1 hm2
  have hn1 : 1 ≤ 1 + n := by omega
  have hn2 : 1 + n ≤ 998002 := by omega
  generalize 1 + n = n' at hn1 hn2
  have wm := wc5 (v := m) (by omega)
  have wn' := wc5 (v := n') (by omega)
  conv => whnf
  refine packet_ok s r n' m "no" S8 _ _ (by rw [ws]; simp) (by rw [wr]; simp) (by omega) (by omega) (by decide +kernel) (by decide) (by show (wt ['n', 'o']).length ≤ 1000; rw [wt_no]; decide) fun k hk => ?_
  have ek : nts ([1] ++ wc s ++ wc r ++ wc n' ++ [2] ++ (wc m ++ (wc "no".length ++ wt "no".toList))) = (il (pkL s r n' m)).map D.int := nts_il _
  rw [ek]
  have bx9 : Bx (up S8 k (.lst ((il (pkL s r n' m)).map .int))) b := bx8.new hk
  have hk9 : up S8 k (.lst ((il (pkL s r n' m)).map .int)) k = some (.lst ((il (pkL s r n' m)).map .int)) := up_same
  have hl9 := up_old hl8 hk (u := .lst ((il (pkL s r n' m)).map .int))
  generalize up S8 k (.lst ((il (pkL s r n' m)).map .int)) = S9 at bx9 hk9 hl9
  clear bx8 hl8 hk ek
  conv => whnf
  refine law_read_ok hem (.ok (.tup [.str "packet", .tup [.int s, .int r, .int n', .tup [.str "break", .int m, .str "no"]]])) (fun P' Y' h' => read_pk_ok hk9 (by simp [pkL, il]) (fun P2 Y2 h2 => packet_read hs1 hs9 hr_1 hr9 (by omega) (by omega) (by omega) (by omega) hk9 h2) h') ?_
  clear hk9
  conv => whnf
  refine ⟨sl_le (by show 2 ≤ 1000000; decide), ?_⟩
  refine same_tup (x := .tuple [.str (Str.ofString "packet"), .tuple [.int s, .int r, .int n', .tuple [.str (Str.ofString "break"), .int m, .str (Str.ofString "no")]]]) rfl (by simp only [okS, okSs, decide_eq_true_eq, Bool.and_eq_true]; exact ⟨by decide +kernel, ⟨⟨by omega, by omega⟩, ⟨by omega, by omega⟩, ⟨by omega, by omega⟩, ⟨by decide +kernel, ⟨by omega, by omega⟩, by decide +kernel, trivial⟩, trivial⟩, trivial⟩) (by simp [dep, depL]) (by simp [wtS, wtSs]) ?_
  conv => whnf
  rw [seq_lst hl9]
  conv => whnf
  have el9 : ((il (ackL s r n)).map D.int).length = 3 + (wc n).length := by rw [List.length_map, il_length, elen]
  rw [el9]
  refine draw_ok (many := 3 + (wc n).length) bx9 (by omega) fun j S10 hj bx10 k10 => ?_
  have hl10 := k10 l _ hlb hl9
  clear bx9 hl9 k10
  conv => whnf
  rw [lis_lst hl10]
  conv => whnf
  intro k2 hk2
  rw [cut_take _ j (by rw [el9]; omega)]
  have bx11 := bx10.new hk2 (o := .lst (((il (ackL s r n)).map D.int).take j))
  have hl11 := up_old hl10 hk2 (u := .lst (((il (ackL s r n)).map D.int).take j))
  have hk11 : up S10 k2 (.lst (((il (ackL s r n)).map D.int).take j)) k2 = some (.lst ((il ((ackL s r n).take j)).map D.int)) := by rw [up_same]; simp [il]
  generalize up S10 k2 (.lst (((il (ackL s r n)).map D.int).take j)) = S11 at bx11 hl11 hk11
  clear bx10 hl10 hk2
  conv => whnf
  refine law_read_ok hem (.error (j : Int)) (fun P' Y' h' => ?_) ?_
  · rcases Nat.eq_zero_or_pos j with e | e
    · subst e
      exact read_bad_ok hk11 (by simp [il]) (by simp [il]) h'
    · refine read_ack_ok hk11 (by rw [il_length]; simp; omega) ?_ ?_
      · have : il ((ackL s r n).take j) = (il (ackL s r n)).take j := by simp [il]
        rw [this, List.getElem?_take_of_lt e]
        exact h2
      · rw [ack_cut j e (by rw [elen]; exact hj) hs1 hs9 hr_1 hr9 (by omega)]
        exact h'
  clear hk11
  conv => whnf
  refine ⟨sl_le (by show 2 ≤ 1000000; decide), ?_⟩
  refine same_mal (by omega) (by omega) ?_
  conv => whnf
  refine draw_ok (many := 200) bx11 (by decide) fun x S12 hx bx12 k12 => ?_
  have hl12 := k12 l _ hlb hl11
  clear bx11 hl11 k12
  conv => whnf
  refine ⟨sl_le (by show 1 ≤ 1000000; decide), fun k3 hk3 => ?_⟩
  have hlk3 : l ≠ k3 := ne_fresh hl12 hk3
  conv => whnf
  rw [up_ne hlk3, hl12, up_same]
  conv => whnf
  refine ⟨sl_le (by rw [el9]; show 3 + (wc n).length + 1 ≤ 1000000; omega), fun k4 hk4 => ?_⟩
  have bx13 := (bx12.new hk3).new hk4 (o := .lst (((il (ackL s r n)).map D.int) ++ [.int x]))
  have hl13 := up_old (up_old hl12 hk3 (u := .lst [.int x])) hk4 (u := .lst (((il (ackL s r n)).map D.int) ++ [.int x]))
  have hk13 : up (up S12 k3 (.lst [.int x])) k4 (.lst (((il (ackL s r n)).map D.int) ++ [.int x])) k4 = some (.lst ((il (ackL s r n ++ [x])).map D.int)) := by rw [up_same]; simp [il]
  generalize up (up S12 k3 (.lst [.int x])) k4 (.lst (((il (ackL s r n)).map D.int) ++ [.int x])) = S13 at bx13 hl13 hk13
  clear bx12 hl12 hk3 hk4 hlk3
  conv => whnf
  refine law_read_ok hem (.error ((3 + (wc n).length : Nat) : Int)) (fun P' Y' h' => ?_) ?_
  · refine read_ack_ok hk13 (by rw [il_length]; simp; omega) (by simp [ackL, il]) ?_
    rw [ack_more x hs1 hs9 hr_1 hr9 (by omega), elen]
    exact h'
  clear hk13
  conv => whnf
  rw [seq_lst hl13]
  conv => whnf
  refine ⟨sl_le (by show 2 ≤ 1000000; decide), ?_⟩
  rw [el9]
  refine same_mal (by omega) (by omega) ?_
  conv => whnf
  refine ⟨sl_le (by show 5 ≤ 1000000; decide), fun k5 hk5 => ?_⟩
  have bx14 := bx13.new hk5 (o := .lst [.int 0, .int 3, .int 127, .int 255, .int 256])
  have hl14 := up_old hl13 hk5 (u := .lst [.int 0, .int 3, .int 127, .int 255, .int 256])
  have hk14 : up S13 k5 (.lst [.int 0, .int 3, .int 127, .int 255, .int 256]) k5 = some (.lst [.int 0, .int 3, .int 127, .int 255, .int 256]) := up_same
  have hkb : k5 ≠ b := bx_ne bx13 hk5
  generalize up S13 k5 (.lst [.int 0, .int 3, .int 127, .int 255, .int 256]) = S14 at bx14 hl14 hk14
  clear bx13 hl13 hk5
  conv => whnf
  refine draw_ok (many := 5) bx14 (by decide) fun y S15 hy bx15 k15 => ?_
  have hl15 := k15 l _ hlb hl14
  have hk15 := k15 k5 _ hkb hk14
  clear bx14 hl14 hk14 hkb k15
  conv => whnf
  rw [seq_lst hk15]
  conv => whnf
  obtain ⟨v, hv, hv1, hv2⟩ : ∃ v : Nat, ([.int 0, .int 3, .int 127, .int 255, .int 256] : List D)[y]? = some (.int v) ∧ v ≠ 1 ∧ v ≠ 2 := by
    match y, hy with
    | 0, _ => exact ⟨0, rfl, by decide, by decide⟩
    | 1, _ => exact ⟨3, rfl, by decide, by decide⟩
    | 2, _ => exact ⟨127, rfl, by decide, by decide⟩
    | 3, _ => exact ⟨255, rfl, by decide, by decide⟩
    | 4, _ => exact ⟨256, rfl, by decide, by decide⟩
  rw [atI_get hv]
  clear hk15 hv
  conv => whnf
  refine ⟨sl_le (by show 1 ≤ 1000000; decide), fun k6 hk6 => ?_⟩
  have hl16 := up_old hl15 hk6 (u := .lst [.int v])
  conv => whnf
  rw [lis_lst hl16]
  conv => whnf
  intro k7 hk7
  have h67 : k6 ≠ k7 := ne_fresh up_same hk7
  rw [cut_drop _ (by rw [el9]; omega)]
  conv => whnf
  rw [up_ne h67, up_same, up_same]
  conv => whnf
  refine ⟨sl_le (by show 1 + (((il (ackL s r n)).map D.int).drop 1).length ≤ 1000000; rw [List.length_drop, el9]; omega), fun k8 hk8 => ?_⟩
  have bx17 := ((bx15.new hk6).new hk7).new hk8 (o := .lst ([.int v] ++ ((il (ackL s r n)).map D.int).drop 1))
  have hl17 := up_old (up_old hl16 hk7 (u := .lst (((il (ackL s r n)).map D.int).drop 1))) hk8 (u := .lst ([.int v] ++ ((il (ackL s r n)).map D.int).drop 1))
  have hk17 : up (up (up S15 k6 (.lst [.int v])) k7 (.lst (((il (ackL s r n)).map D.int).drop 1))) k8 (.lst ([.int v] ++ ((il (ackL s r n)).map D.int).drop 1)) k8 = some (.lst ((il (v :: (ackL s r n).drop 1)).map D.int)) := by rw [up_same]; simp [il]
  generalize up (up (up S15 k6 (.lst [.int v])) k7 (.lst (((il (ackL s r n)).map D.int).drop 1))) k8 (.lst ([.int v] ++ ((il (ackL s r n)).map D.int).drop 1)) = S17 at bx17 hl17 hk17
  clear bx15 hl15 hk6 hl16 hk7 h67 hk8
  conv => whnf
  refine law_read_ok hem (.error 0) (fun P' Y' h' => read_bad_ok hk17 (by rw [il_length]; simp; omega) (fun w hw => by simp [il] at hw; omega) h') ?_
  clear hk17
  conv => whnf
  refine ⟨sl_le (by show 2 ≤ 1000000; decide), ?_⟩
  refine same_mal (by decide) (by decide) ?_
  conv => whnf
  refine ⟨sl_le (by show 4 ≤ 1000000; decide), fun k9 hk9 => ?_⟩
  have bx18 := bx17.new hk9 (o := .lst [.int 2, .int 0, .int r, .int 1])
  have hk18 : up S17 k9 (.lst [.int 2, .int 0, .int r, .int 1]) k9 = some (.lst (([2, 0, (r : Int), 1] : List Int).map D.int)) := up_same
  generalize up S17 k9 (.lst [.int 2, .int 0, .int r, .int 1]) = S18 at bx18 hk18
  clear bx17 hl17 hk9
  conv => whnf
  refine law_read_ok hem (.error 1) (fun P' Y' h' => read_ack_ok hk18 (by show 4 ≤ 90000; decide) rfl (by rw [ack_zero]; exact h')) ?_
  clear hk18
  conv => whnf
  refine ⟨sl_le (by show 2 ≤ 1000000; decide), ?_⟩
  refine same_mal (by decide) (by decide) ?_
  conv => whnf
  refine ⟨sl_le (by show 4 ≤ 1000000; decide), fun k10 hk10 => ?_⟩
  have bx19 := bx18.new hk10 (o := .lst [.int 2, .int 1, .int 10, .int 1])
  have hk19 : up S18 k10 (.lst [.int 2, .int 1, .int 10, .int 1]) k10 = some (.lst (([2, 1, 10, 1] : List Int).map D.int)) := up_same
  generalize up S18 k10 (.lst [.int 2, .int 1, .int 10, .int 1]) = S19 at bx19 hk19
  clear bx18 hk10
  conv => whnf
  refine law_read_ok hem (.error 2) (fun P' Y' h' => read_ack_ok hk19 (by decide) rfl (by rw [ack_ten]; exact h')) ?_
  clear hk19
  conv => whnf
  refine ⟨sl_le (by show 2 ≤ 1000000; decide), ?_⟩
  refine same_mal (by decide) (by decide) ?_
  conv => whnf
  refine ⟨⟨by decide, by decide, by decide⟩, ?_⟩
  conv => whnf
  refine draw_ok (many := 900) bx19 (by decide) fun z S20 hz bx20 _ => ?_
  have e10 : ((10 : Int) ^ Int.toNat 9 + 1 + (z : Int)) = ((1000000001 + z : Nat) : Int) := by
    have : ((10 : Int) ^ Int.toNat 9) = 1000000000 := by decide
    rw [this]; omega
  conv => whnf
  rw [e10]
  have hw1 : 1000000000 < 1000000001 + z := by omega
  have hw2 : 1000000001 + z < 34359738368 := by omega
  generalize 1000000001 + z = m2 at hw1 hw2
  have wm2 := wc5 (v := m2) hw2
  clear bx19 e10
  refine law_count_ok m2 _ _ _ (by omega) fun k11 hk11 => ?_
  have bx21 := bx20.new hk11 (o := .lst (nts (wc m2)))
  have hk21 : up S20 k11 (.lst (nts (wc m2))) k11 = some (.lst (nts (wc m2))) := up_same
  generalize up S20 k11 (.lst (nts (wc m2))) = S21 at bx21 hk21
  clear bx20 hk11
  conv => whnf
  refine ⟨sl_le (by show 3 ≤ 1000000; decide), fun k12 hk12 => ?_⟩
  have hk22 := up_old hk21 hk12 (u := .lst [.int 2, .int s, .int r])
  have h12 : k11 ≠ k12 := ne_fresh hk21 hk12
  conv => whnf
  rw [up_same, hk22]
  conv => whnf
  refine ⟨sl_le (by show 3 + (nts (wc m2)).length ≤ 1000000; rw [nts_length]; omega), fun k13 hk13 => ?_⟩
  have hk23 := up_old hk22 hk13 (u := .lst ([.int 2, .int s, .int r] ++ nts (wc m2)))
  have hk33 : up (up S21 k12 (.lst [.int 2, .int s, .int r])) k13 (.lst ([.int 2, .int s, .int r] ++ nts (wc m2))) k13 = some (.lst ((il ([2, s, r] ++ wc m2)).map D.int)) := by rw [up_same]; simp [il, nts]
  generalize up (up S21 k12 (.lst [.int 2, .int s, .int r])) k13 (.lst ([.int 2, .int s, .int r] ++ nts (wc m2))) = S22 at hk23 hk33
  clear bx21 hk21 hk12 hk22 h12 hk13
  conv => whnf
  refine law_read_ok hem (.error ((2 + (wc m2).length : Nat) : Int)) (fun P' Y' h' => read_ack_ok hk33 (by rw [il_length]; simp; omega) (by simp [il]) (by rw [ack_great m2 hs1 hs9 hr_1 hr9 hw1 hw2]; exact h')) ?_
  clear hk33
  conv => whnf
  rw [seq_lst hk23]
  conv => whnf
  refine ⟨sl_le (by show 2 ≤ 1000000; decide), ?_⟩
  rw [nts_length, show (2 + ((wc m2).length : Int)) = ((2 + (wc m2).length : Nat) : Int) by omega]
  refine same_mal (by omega) (by omega) ?_
  exact ⟨S22, Le.refl _, hP S22⟩
end V52

set_option Elab.async false
set_option linter.all false
set_option autoImplicit false
set_option maxRecDepth 100000
set_option maxHeartbeats 0
namespace V52
open PySem PySem.Spec PyProof.Rows L2 VD He
abbrev R : PySem.W.OpenRow := PySem.W.OpenLaw.row PySem.Challenge.rw_vatlink_k52_frames_read
def fn : List DefD := [⟨("write_count", none), "write_count", "write_count", defArgs st_write_count, defBody st_write_count, defScope st_write_count, [], []⟩,
  ⟨("write_text", none), "write_text", "write_text", defArgs st_write_text, defBody st_write_text, defScope st_write_text, [], []⟩,
  ⟨("Reading", some "__init__"), "__init__", "Reading.__init__", defArgs st_Reading_init, defBody st_Reading_init, defScope st_Reading_init, [], []⟩,
  ⟨("Reading", some "digits"), "digits", "Reading.digits", defArgs st_Reading_digits, defBody st_Reading_digits, defScope st_Reading_digits, [], []⟩,
  ⟨("Reading", some "count"), "count", "Reading.count", defArgs st_Reading_count, defBody st_Reading_count, defScope st_Reading_count, [], []⟩,
  ⟨("Reading", some "text"), "text", "Reading.text", defArgs st_Reading_text, defBody st_Reading_text, defScope st_Reading_text, [], []⟩,
  ⟨("write_content", none), "write_content", "write_content", defArgs st_write_content, defBody st_write_content, defScope st_write_content, [], []⟩,
  ⟨("write_packet", none), "write_packet", "write_packet", defArgs st_write_packet, defBody st_write_packet, defScope st_write_packet, [], []⟩,
  ⟨("read_content", none), "read_content", "read_content", defArgs st_read_content, defBody st_read_content, defScope st_read_content, [], []⟩,
  ⟨("read_packet", none), "read_packet", "read_packet", defArgs st_read_packet, defBody st_read_packet, defScope st_read_packet, [], []⟩,
  ⟨("write_acknowledgement", none), "write_acknowledgement", "write_acknowledgement", defArgs st_write_acknowledgement, defBody st_write_acknowledgement, defScope st_write_acknowledgement, [], []⟩,
  ⟨("read_frame", none), "read_frame", "read_frame", defArgs st_read_frame, defBody st_read_frame, defScope st_read_frame, [], []⟩,
  ⟨("_law_cell", none), "_law_cell", "_law_cell", defArgs st__law_cell, defBody st__law_cell, defScope st__law_cell, [], []⟩,
  ⟨("_law_digits", none), "_law_digits", "_law_digits", defArgs st__law_digits, defBody st__law_digits, defScope st__law_digits, [], []⟩,
  ⟨("_law_draw", none), "_law_draw", "_law_draw", defArgs st__law_draw, defBody st__law_draw, defScope st__law_draw, [], []⟩,
  ⟨("_law_same", none), "_law_same", "_law_same", defArgs st__law_same, defBody st__law_same, defScope st__law_same, [], []⟩,
  ⟨("_law_read", none), "_law_read", "_law_read", defArgs st__law_read, defBody st__law_read, defScope st__law_read, [], []⟩,
  ⟨("_law_count", none), "_law_count", "_law_count", defArgs st__law_count, defBody st__law_count, defScope st__law_count, [], []⟩,
  ⟨("law", none), "law", "law", defArgs st_law, defBody st_law, defScope st_law, [], []⟩]
abbrev ex_Malformed : Stmt := memb 2 0
def ex : List ExD := [⟨"Malformed", "__init__", "Malformed.__init__", defArgs ex_Malformed, defBody ex_Malformed, defScope ex_Malformed⟩]
def fa : List Fa := ([.glo "write_count", .glo "write_text", .glo "Reading", .mkr "Reading", .cls "Reading", .meth "Reading" "digits", .meth "Reading" "count", .meth "Reading" "text", .glo "write_content", .glo "write_packet", .glo "read_content", .glo "read_packet"] : List Fa) ++ ([.glo "write_acknowledgement", .glo "read_frame", .glo "_law_cell", .glo "_law_digits", .glo "_law_draw", .glo "_law_same", .glo "_law_read", .glo "_law_count", .glo "law", .free "int", .free "isinstance", .free "len"] : List Fa) ++ ([.free "range", .free "repr", .free "super", .noat "Reading" "at", .noat "Reading" "numbers", .glo "Malformed", .glo "VatError", .noat "Malformed" "place", .exm "Malformed" "VatError" true] : List Fa)
def own (K : PySem.W.Frag) : Bool := gloB K "CHARACTERS" (.str " !\"#$&'()*+,-./0123456789:;<=>?@ABCDEFGHIJKLMNOPQRSTUVWXYZ[\\]^_`abcdefghijklmnopqrstuvwxyz{|}~") && (gloB K "COUNT_DIGITS" (.int 5) && (gloB K "VERSION" (.int 1) && (gloB K "NUMBER_MOST" (.int 1000000000) && (gloB K "TEXT_MOST" (.int 20) && (gloB K "VAT_MOST" (.int 9) && (gloB K "CONTENTS" (.tup [(.str "message"), (.str "fulfill"), (.str "break"), (.str "subscribe"), (.str "resolved"), (.str "resolved_broken"), (.str "release"), (.str "release_answer"), (.str "transfer")]) && (gloB K "ACKNOWLEDGEMENT_MARK" (.int 2) && (gloB K "PACKET_MARK" (.int 1) && (gloTB K "CONTENTS" ([(.str "message"), (.str "fulfill"), (.str "break"), (.str "subscribe"), (.str "resolved"), (.str "resolved_broken"), (.str "release"), (.str "release_answer"), (.str "transfer")]) && (xfB K (ga K "Malformed")))))))))))
abbrev hk : PySem.W.Hook := hookV 5 fa fn ex own R.prog.main.file
def ob (s : PySem.W.SharedT) : AlV := obsVG 5 fa fn ex own R.prog.main.file (HandSHeadRun.getT s)
theorem ob_eq (s : PySem.W.SharedT) : ob s = hk.obs s.abs := obsVG_eq (HandSHeadRun.getT_eq s)
def loose : List PySem.Str := (["VatError", "Malformed", "CHARACTERS", "NUMBER_MOST", "TEXT_MOST", "LIST_MOST", "VAT_MOST", "is_reference", "atoms", "references", "distinct", "COUNT_DIGITS", "BIG_DIGITS", "EXPONENT_MOST", "KINDS", "PLAIN_ATOMS", "write_count", "write_text", "write_weight", "write_reference"] : List PySem.Str) ++ (["write_atom", "write_value", "Reading", "NAME_MOST", "LETTERS", "VERSION", "ARGUMENTS_MOST", "PATH_MOST", "CONTENTS", "TARGETS", "write_send", "write_weights", "write_message", "write_target", "write_content", "write_packet", "read_send", "read_weights", "read_method", "read_message"] : List PySem.Str) ++ (["read_target", "read_message_content", "read_content", "read_packet", "PACKET_MARK", "ACKNOWLEDGEMENT_MARK", "write_acknowledgement", "read_frame", "_law_cell", "_law_digits", "_law_draw", "_law_same", "_law_read", "_law_count"] : List PySem.Str)
theorem run (w : World) : HandSHeadRun.RunEq R (PySem.W.view R.prog [60]) hk ob 8000 loose w := by
  intro os
  kernel_rfl
def cA (K : PySem.W.Frag) : CA := { Malformed := ga K "Malformed", Reading := ga K "Reading", VatError := ga K "VatError", em := fun v a => PySem.W.exmOne K v (.ref a) }
section
variable {w : World} {K : PySem.W.Frag} {h base : Heap} {mg : Str → Option Value}
abbrev Gw (w : World) (K : PySem.W.Frag) (mg : Str → Option Value) (base : Heap) : Wo := ⟨PySem.Challenge.rw_vatlink_k52_frames_read.prog, w, K, mg, base⟩
abbrev SV (K : PySem.W.Frag) : Prop := SaysV fa fn ex own R.prog.main.file K
theorem x_Malformed (X : K.In h) (G : h.Ns mainGlobals mg) (c : SV K) : ExIs (Gw w K mg base) "Malformed" (cA K).Malformed mk_Malformed := by
  obtain ⟨cc, oc, cdv, kV, doc, pm, ct, od, an, osl, e⟩ := SaysV.ex_ (P := R.prog) c 0 rfl
  exact exIs_one (G := Gw w K mg base) (x := "place") (f := "place") (name := "__init__") (qual := "Malformed.__init__") (glo_ok X G (c.d.fact 29 rfl)) (e.sup mg _ (free_ok X G (c.d.fact 26 rfl)) rfl rfl rfl rfl rfl) e.init e.ty e.lk e.code ⟨rfl, rfl, rfl, by decide +kernel, rfl, by decide +kernel, by decide +kernel, by decide +kernel⟩ (noat_ok (c.d.fact 31 rfl)) (by decide +kernel) rfl
    (fun us hl => match us, hl with | [_, _], _ => rfl) rfl rfl rfl rfl rfl mk_Malformed_ok
theorem zz (X : K.In h) (G : h.Ns mainGlobals mg) (c : SV K) : Z (Gw w K mg base) (cA K) where
  em := fun _ _ => rfl
  f_int := free_ok X G (c.d.fact 21 rfl)
  f_isinstance := free_ok X G (c.d.fact 22 rfl)
  f_len := free_ok X G (c.d.fact 23 rfl)
  f_range := free_ok X G (c.d.fact 24 rfl)
  f_repr := free_ok X G (c.d.fact 25 rfl)
  g_ACKNOWLEDGEMENT_MARK := gloB_ok X G ((ba (ba (ba (ba (ba (ba (ba (ba c.own_).2).2).2).2).2).2).2).1)
  g_CHARACTERS := gloB_ok X G ((ba c.own_).1)
  g_CONTENTS := gloB_ok X G ((ba (ba (ba (ba (ba (ba (ba c.own_).2).2).2).2).2).2).1)
  g_COUNT_DIGITS := gloB_ok X G ((ba (ba c.own_).2).1)
  g_Malformed := ⟨_, .ref (ga K "Malformed"), glo_ok X G (c.d.fact 29 rfl), rfl, fun _ => mref⟩
  g_NUMBER_MOST := gloB_ok X G ((ba (ba (ba (ba c.own_).2).2).2).1)
  g_PACKET_MARK := gloB_ok X G ((ba (ba (ba (ba (ba (ba (ba (ba (ba c.own_).2).2).2).2).2).2).2).2).1)
  g_TEXT_MOST := gloB_ok X G ((ba (ba (ba (ba (ba c.own_).2).2).2).2).1)
  g_VAT_MOST := gloB_ok X G ((ba (ba (ba (ba (ba (ba c.own_).2).2).2).2).2).1)
  g_VERSION := gloB_ok X G ((ba (ba (ba c.own_).2).2).1)
  t_CONTENTS := gloTB_ok X G ((ba (ba (ba (ba (ba (ba (ba (ba (ba (ba c.own_).2).2).2).2).2).2).2).2).2).1)
  cl_Reading_at := ⟨cls_ok (c.d.fact 4 rfl), noat_ok (c.d.fact 27 rfl)⟩
  cl_Reading_numbers := ⟨cls_ok (c.d.fact 4 rfl), noat_ok (c.d.fact 28 rfl)⟩
  x_Malformed := x_Malformed X G c
  m_VatError := glo_ok X G (c.d.fact 30 rfl)
  xf_Malformed := xfB_ok ((ba (ba (ba (ba (ba (ba (ba (ba (ba (ba c.own_).2).2).2).2).2).2).2).2).2).2)
  xn_Malformed_place := noat_ok (c.d.fact 31 rfl)
theorem all (X : K.In h) (G : h.Ns mainGlobals mg) (c : SV K) : FnAt (Gw w K mg base) 11 (ga K "law") 1 lawSp := by
  have z := zz (w := w) (base := base) X G c
  obtain ⟨fd_write_count, F_write_count⟩ := c.d.def_ 0 rfl
  have h_write_count : FnIs (Gw w K mg base) 1 "write_count" 1 (sp_write_count (cA K)) := fnIs_of (glo_ok X G (c.d.fact 0 rfl)) (is_write_count z  F_write_count)
  obtain ⟨fd_write_text, F_write_text⟩ := c.d.def_ 1 rfl
  have h_write_text : FnIs (Gw w K mg base) 2 "write_text" 1 (sp_write_text (cA K)) := fnIs_of (glo_ok X G (c.d.fact 1 rfl)) (is_write_text z h_write_count F_write_text)
  obtain ⟨fd_Reading_init, F_Reading_init⟩ := c.d.def_ 2 rfl
  have h_Reading_init : MkIs (Gw w K mg base) 1 "Reading" (cA K).Reading 2 (sp_Reading_init (cA K)) := ⟨_, glo_ok X G (c.d.fact 2 rfl), mkr_ok (c.d.fact 3 rfl), is_Reading_init z  F_Reading_init⟩
  obtain ⟨fd_Reading_digits, F_Reading_digits⟩ := c.d.def_ 3 rfl
  have h_Reading_digits : MtIs (Gw w K mg base) 4 (cA K).Reading "digits" 2 (sp_Reading_digits (cA K)) := ⟨_, cls_ok (c.d.fact 4 rfl), meth_ok (c.d.fact 5 rfl), is_Reading_digits z  F_Reading_digits⟩
  obtain ⟨fd_Reading_count, F_Reading_count⟩ := c.d.def_ 4 rfl
  have h_Reading_count : MtIs (Gw w K mg base) 5 (cA K).Reading "count" 3 (sp_Reading_count (cA K)) := ⟨_, cls_ok (c.d.fact 4 rfl), meth_ok (c.d.fact 6 rfl), is_Reading_count z h_Reading_digits F_Reading_count⟩
  obtain ⟨fd_Reading_text, F_Reading_text⟩ := c.d.def_ 5 rfl
  have h_Reading_text : MtIs (Gw w K mg base) 6 (cA K).Reading "text" 2 (sp_Reading_text (cA K)) := ⟨_, cls_ok (c.d.fact 4 rfl), meth_ok (c.d.fact 7 rfl), is_Reading_text z h_Reading_count F_Reading_text⟩
  obtain ⟨fd_write_content, F_write_content⟩ := c.d.def_ 6 rfl
  have h_write_content : FnIs (Gw w K mg base) 3 "write_content" 1 (sp_write_content (cA K)) := fnIs_of (glo_ok X G (c.d.fact 8 rfl)) (is_write_content z h_write_count h_write_text F_write_content)
  obtain ⟨fd_write_packet, F_write_packet⟩ := c.d.def_ 7 rfl
  have h_write_packet : FnIs (Gw w K mg base) 4 "write_packet" 1 (sp_write_packet (cA K)) := fnIs_of (glo_ok X G (c.d.fact 9 rfl)) (is_write_packet z h_write_count h_write_content F_write_packet)
  obtain ⟨fd_read_content, F_read_content⟩ := c.d.def_ 8 rfl
  have h_read_content : FnIs (Gw w K mg base) 7 "read_content" 2 (sp_read_content (cA K)) := fnIs_of (glo_ok X G (c.d.fact 10 rfl)) (is_read_content z h_Reading_count h_Reading_text F_read_content)
  obtain ⟨fd_read_packet, F_read_packet⟩ := c.d.def_ 9 rfl
  have h_read_packet : FnIs (Gw w K mg base) 8 "read_packet" 1 (sp_read_packet (cA K)) := fnIs_of (glo_ok X G (c.d.fact 11 rfl)) (is_read_packet z h_Reading_init h_Reading_count h_read_content F_read_packet)
  obtain ⟨fd_write_acknowledgement, F_write_acknowledgement⟩ := c.d.def_ 10 rfl
  have h_write_acknowledgement : FnIs (Gw w K mg base) 2 "write_acknowledgement" 3 (sp_write_acknowledgement (cA K)) := fnIs_of (glo_ok X G (c.d.fact 12 rfl)) (is_write_acknowledgement z h_write_count F_write_acknowledgement)
  obtain ⟨fd_read_frame, F_read_frame⟩ := c.d.def_ 11 rfl
  have h_read_frame : FnIs (Gw w K mg base) 9 "read_frame" 1 (sp_read_frame (cA K)) := fnIs_of (glo_ok X G (c.d.fact 13 rfl)) (is_read_frame z h_Reading_init h_Reading_count h_read_packet F_read_frame)
  obtain ⟨fd__law_cell, F__law_cell⟩ := c.d.def_ 12 rfl
  have h__law_cell : FnIs (Gw w K mg base) 1 "_law_cell" 2 (sp__law_cell (cA K)) := fnIs_of (glo_ok X G (c.d.fact 14 rfl)) (is__law_cell z  F__law_cell)
  obtain ⟨fd__law_digits, F__law_digits⟩ := c.d.def_ 13 rfl
  have h__law_digits : FnIs (Gw w K mg base) 2 "_law_digits" 3 (sp__law_digits (cA K)) := fnIs_of (glo_ok X G (c.d.fact 15 rfl)) (is__law_digits z h__law_cell F__law_digits)
  obtain ⟨fd__law_draw, F__law_draw⟩ := c.d.def_ 14 rfl
  have h__law_draw : FnIs (Gw w K mg base) 1 "_law_draw" 2 (sp__law_draw (cA K)) := fnIs_of (glo_ok X G (c.d.fact 16 rfl)) (is__law_draw z  F__law_draw)
  obtain ⟨fd__law_same, F__law_same⟩ := c.d.def_ 15 rfl
  have h__law_same : FnIs (Gw w K mg base) 1 "_law_same" 2 (sp__law_same (cA K)) := fnIs_of (glo_ok X G (c.d.fact 17 rfl)) (is__law_same z  F__law_same)
  obtain ⟨fd__law_read, F__law_read⟩ := c.d.def_ 16 rfl
  have h__law_read : FnIs (Gw w K mg base) 10 "_law_read" 1 (sp__law_read (cA K)) := fnIs_of (glo_ok X G (c.d.fact 18 rfl)) (is__law_read z h_read_frame F__law_read)
  obtain ⟨fd__law_count, F__law_count⟩ := c.d.def_ 17 rfl
  have h__law_count : FnIs (Gw w K mg base) 1 "_law_count" 1 (sp__law_count (cA K)) := fnIs_of (glo_ok X G (c.d.fact 19 rfl)) (is__law_count z  F__law_count)
  obtain ⟨fd_law, F_law⟩ := c.d.def_ 18 rfl
  exact FnAt.weak (is_law z h_write_packet h_write_acknowledgement h__law_digits h__law_draw h__law_same h__law_read h__law_count F_law) fun ds S P Y hl => ⟨S, Le.refl _, law_ok (exm_ok (c.d.fact 32 rfl)) ds S P Y hl⟩
end
end V52
open PySem PySem.W PySem.Calls PyProof.Rows VD
theorem PySem.Challenge.cw_vatlink_k52_frames_read_holds : PySem.Challenge.rw_vatlink_k52_frames_read.Holds := by
  w_on; o_law
  refine HandSHeadRun.head_any (r := OpenLaw.row PySem.Challenge.rw_vatlink_k52_frames_read) (q := view (OpenLaw.row PySem.Challenge.rw_vatlink_k52_frames_read).prog [60]) (H := V52.hk) (ob := V52.ob) (M := 8000) (loose := V52.loose) (d := HandSHeadRun.topDef (OpenLaw.row PySem.Challenge.rw_vatlink_k52_frames_read).prog 60) (kwd := []) V52.ob_eq
    (by kernel_rfl) (fun s => by kernel_rfl) V52.run (by kernel_rfl) (by kernel_rfl) (by kernel_rfl) (by rfl) (by first | assumption | decide +kernel) (by decide +kernel) ⟨rfl, rfl, rfl, rfl, rfl, by decide +kernel⟩ ?hw ?hc
  case hw => w_witness2
  case hc =>
    refine walk_D (l := PySem.Challenge.rw_vatlink_k52_frames_read) (n := 63) (k := 11) rfl (by decide) (by kernel_rfl) ⟨rfl, by decide, by decide⟩ ?F
    intro w mg fa h Y G hmg0
    obtain ⟨K, KX, c⟩ := Y
    have hmg : mg ("law" : PySem.Str) = some (.ref fa) := by
      have e : (HandSHeadRun.topDef (OpenLaw.row PySem.Challenge.rw_vatlink_k52_frames_read).prog 60).name = ("law" : PySem.Str) := by kernel_rfl
      rw [← e]
      exact hmg0
    have ef := hmg.symm.trans (He.glo_ok KX G (c.d.fact 20 rfl))
    cases ef
    exact ⟨K, KX, noLst_ok c.nol, fun base b1 b2 => V52.all b1 b2 c⟩

