import PyProof.Rows.All
import Wide.All
import OpenK.AllK
import Wide.FinOn
import PySem.Challenge.RW_maystand_k58_whole_vectors_and_corners
import HandS.ForMost
import HandS.TupAny
import HandS.Deep
import HandS.Wide
import HandS.Style
import HandS.IsInst
import HandS.Walk
import HandS.Zip
import HandS.TupSets
import HandS.SetFor
import HandS.SortInts
import HandS.Conv
import HandS.DictComp
import HandS.DictTup
import KE.SortData
import KE.KDictSum
import HandS.Strs
import HandS.TupMul
import KE.GoesEnum
import OpenK.KMore
import KE.KDictZip
import HandS.Head0
import HandS.Head1
import HandS.Head2
import HandS.HeadEnd
import HandS.HeadHook1
import HandS.HeadHook2
import KE.KEqDeep
import PyProof.P3Eq
import KE.KStateDown
set_option Elab.async false
set_option linter.all false
set_option maxRecDepth 100000
namespace Mv
open PySem PySem.Spec PyProof.Rows L2
/-! ### data -/
inductive D where
  | non | bl (b : Bool) | int (i : Int) | str (x : Str) | lst (xs : List D) | sq (xs : List D) | tup (xs : List D) | obj (C : Addr) (ns : List Str) (xs : List D) | ty (n : String) | cls (C : Addr)
inductive T where
  | d (x : D) | li (ts : List T) | ob (C : Addr) (ns : List Str) (ts : List T)
abbrev Env := List (Option T)
inductive RV where
  | d (x : D) | p (q : List Nat)
mutual
inductive RD (K : PySem.W.Frag) (F : Hp) : V → D → Prop
  | non : RD K F .non .non
  | bl (b : Bool) : RD K F (.bl b) (.bl b)
  | int (i : Int) : RD K F (.int i) (.int i)
  | str (x : Str) : RD K F (.str x) (.str x)
  | lst {a : Addr} {vs : List V} {xs : List D} : F a = some (.lst vs) → RDs K F vs xs → RD K F (.ref a) (.lst xs)
  | sq {a : Addr} {vs : List V} {xs : List D} : SqL K F a vs → RDs K F vs xs → RD K F (.ref a) (.sq xs)
  | tup {a : Addr} {vs : List V} {xs : List D} : SqT K F a vs → RDs K F vs xs → RD K F (.ref a) (.tup xs)
  | ty (n : String) : RD K F (.ty n) (.ty n)
  | cls (C : Addr) : RD K F (.ref C) (.cls C)
  | obj {a C dx : Addr} {ns : List Str} {vs : List V} {xs : List D} : F a = some (.ins C dx (ns.zip vs)) → ns.length = vs.length → RDs K F vs xs → RD K F (.ref a) (.obj C ns xs)
inductive RDs (K : PySem.W.Frag) (F : Hp) : List V → List D → Prop
  | nil : RDs K F [] []
  | cons {v : V} {vs : List V} {x : D} {xs : List D} : RD K F v x → RDs K F vs xs → RDs K F (v :: vs) (x :: xs)
end
theorem same_seqT {K : PySem.W.Frag} {H H' : Hp} {a : Addr} {xs : List V} (e : Same H H') (h : SqT K H a xs) : SqT K H' a xs := by
  rcases h with (h | ⟨o, h⟩) | h
  · exact .inl (.inl (e _ _ h))
  · exact .inl (.inr ⟨o, e _ _ h⟩)
  · exact .inr h
mutual
theorem RD.mono {K : PySem.W.Frag} {F F' : Hp} (e : Same F F') : ∀ {x : D} {v : V}, RD K F v x → RD K F' v x
  | .non, _, h => by cases h; exact .non
  | .bl _, _, h => by cases h; exact .bl _
  | .int _, _, h => by cases h; exact .int _
  | .str _, _, h => by cases h; exact .str _
  | .ty _, _, h => by cases h; exact .ty _
  | .cls _, _, h => by cases h; exact .cls _
  | .lst xs, _, h => by
    cases h with
    | lst h1 h2 => exact .lst (e _ _ h1) (RDs.mono e h2)
  | .sq xs, _, h => by
    cases h with
    | sq h1 h2 => exact .sq (e.seq h1) (RDs.mono e h2)
  | .tup xs, _, h => by
    cases h with
    | tup h1 h2 => exact .tup (same_seqT e h1) (RDs.mono e h2)
  | .obj C ns xs, _, h => by
    cases h with
    | obj h1 h2 h3 => exact .obj (e _ _ h1) h2 (RDs.mono e h3)
theorem RDs.mono {K : PySem.W.Frag} {F F' : Hp} (e : Same F F') : ∀ {xs : List D} {vs : List V}, RDs K F vs xs → RDs K F' vs xs
  | [], _, h => by cases h; exact .nil
  | x :: xs, _, h => by
    cases h with
    | cons h1 h2 => exact .cons (RD.mono e h1) (RDs.mono e h2)
end
theorem RDs.length {K : PySem.W.Frag} {F : Hp} : ∀ {vs : List V} {xs : List D}, RDs K F vs xs → vs.length = xs.length
  | _, _, .nil => rfl
  | _, _, .cons _ t => by rw [List.length_cons, List.length_cons, RDs.length t]
theorem RDs.get {K : PySem.W.Frag} {F : Hp} : ∀ {vs : List V} {xs : List D} {i : Nat} {x : D}, RDs K F vs xs → xs[i]? = some x → ∃ v, vs[i]? = some v ∧ RD K F v x
  | _, _, _, _, .nil, e => by simp at e
  | _, _, 0, _, .cons h _, e => by
    simp at e
    subst e
    exact ⟨_, rfl, h⟩
  | _, _, i + 1, x, .cons _ t, e => by
    obtain ⟨v, h1, h2⟩ := RDs.get (i := i) (x := x) t (by simpa using e)
    exact ⟨v, by simpa using h1, h2⟩
theorem RDs.getV {K : PySem.W.Frag} {F : Hp} : ∀ {vs : List V} {xs : List D} {i : Nat} {v : V}, RDs K F vs xs → vs[i]? = some v → ∃ x, xs[i]? = some x ∧ RD K F v x
  | _, _, _, _, .nil, e => by simp at e
  | _, _, 0, _, .cons h _, e => by
    simp at e
    subst e
    exact ⟨_, rfl, h⟩
  | _, _, i + 1, x, .cons _ t, e => by
    obtain ⟨v, h1, h2⟩ := RDs.getV (i := i) t (by simpa using e)
    exact ⟨v, by simpa using h1, h2⟩
theorem RDs.append {K : PySem.W.Frag} {F : Hp} : ∀ {vs ws : List V} {xs ys : List D}, RDs K F vs xs → RDs K F ws ys → RDs K F (vs ++ ws) (xs ++ ys)
  | _, _, _, _, .nil, s => s
  | _, _, _, _, .cons r t, s => .cons r (RDs.append t s)
theorem RDs.take {K : PySem.W.Frag} {F : Hp} : ∀ {vs : List V} {xs : List D} (n : Nat), RDs K F vs xs → RDs K F (vs.take n) (xs.take n)
  | _, _, 0, _ => .nil
  | _, _, _ + 1, .nil => .nil
  | _, _, n + 1, .cons r t => .cons r (RDs.take n t)
theorem RDs.drop {K : PySem.W.Frag} {F : Hp} : ∀ {vs : List V} {xs : List D} (n : Nat), RDs K F vs xs → RDs K F (vs.drop n) (xs.drop n)
  | _, _, 0, r => r
  | _, _, _ + 1, .nil => .nil
  | _, _, n + 1, .cons _ t => RDs.drop n t
theorem RDs.reverse {K : PySem.W.Frag} {F : Hp} : ∀ {vs : List V} {xs : List D}, RDs K F vs xs → RDs K F vs.reverse xs.reverse
  | _, _, .nil => .nil
  | _, _, .cons r t => by
    rw [List.reverse_cons, List.reverse_cons]
    exact (RDs.reverse t).append (.cons r .nil)
/-! ### owned trees: the tags ω tell each owned object's place, the innermost index first, the slot last -/
abbrev Tags := Addr → Option (List Nat)
mutual
inductive TR (K : PySem.W.Frag) (F H : Hp) (ω : Tags) : List Nat → V → T → Prop
  | d {p : List Nat} {v : V} {x : D} : RD K F v x → TR K F H ω p v (.d x)
  | li {p : List Nat} {a : Addr} {vs : List V} {ts : List T} : ω a = some p → H a = some (.lst vs) → TRs K F H ω p 0 vs ts → TR K F H ω p (.ref a) (.li ts)
  | ob {p : List Nat} {a C dx : Addr} {ns : List Str} {vs : List V} {ts : List T} : ω a = some p → H a = some (.ins C dx (ns.zip vs)) → ns.length = vs.length → TRs K F H ω p 0 vs ts → TR K F H ω p (.ref a) (.ob C ns ts)
inductive TRs (K : PySem.W.Frag) (F H : Hp) (ω : Tags) : List Nat → Nat → List V → List T → Prop
  | nil {p : List Nat} {i : Nat} : TRs K F H ω p i [] []
  | cons {p : List Nat} {i : Nat} {v : V} {vs : List V} {t : T} {ts : List T} : TR K F H ω (i :: p) v t → TRs K F H ω p (i + 1) vs ts → TRs K F H ω p i (v :: vs) (t :: ts)
end
theorem TRs.length {K : PySem.W.Frag} {F H : Hp} {ω : Tags} {p : List Nat} : ∀ {i : Nat} {vs : List V} {ts : List T}, TRs K F H ω p i vs ts → vs.length = ts.length
  | _, _, _, .nil => rfl
  | _, _, _, .cons _ t => by rw [List.length_cons, List.length_cons, TRs.length t]
theorem TRs.get {K : PySem.W.Frag} {F H : Hp} {ω : Tags} {p : List Nat} : ∀ {i : Nat} {vs : List V} {ts : List T} {k : Nat} {t : T}, TRs K F H ω p i vs ts → ts[k]? = some t → ∃ v, vs[k]? = some v ∧ TR K F H ω ((i + k) :: p) v t
  | _, _, _, _, _, .nil, e => by simp at e
  | _, _, _, 0, _, .cons h _, e => by
    simp at e
    subst e
    exact ⟨_, rfl, h⟩
  | i, _, _, k + 1, t, .cons _ r, e => by
    obtain ⟨v, h1, h2⟩ := TRs.get (k := k) (t := t) r (by simpa using e)
    refine ⟨v, by simpa using h1, ?_⟩
    rw [show i + (k + 1) = i + 1 + k by omega]
    exact h2
/-- the very tree, told by other heaps and under another path: what stands within is as it was -/
abbrev Moved (F H : Hp) (ω : Tags) (p : List Nat) (H' : Hp) (ω' : Tags) (p' : List Nat) : Prop := ∀ a r o, ω a = some (r ++ p) → H a = some o → H' a = some o ∧ ω' a = some (r ++ p')
mutual
theorem TR.move {K : PySem.W.Frag} {F H F' H' : Hp} {ω ω' : Tags} (e : Same F F') : ∀ {t : T} {p p' : List Nat} {v : V}, Moved F H ω p H' ω' p' → TR K F H ω p v t → TR K F' H' ω' p' v t
  | .d x, _, _, _, _, h => by cases h with | d h => exact .d (h.mono e)
  | .li ts, p, p', _, m, h => by
    cases h with
    | li h1 h2 h3 =>
      obtain ⟨g1, g2⟩ := m _ [] _ h1 h2
      exact .li g2 g1 (TRs.move e m h3)
  | .ob C ns ts, p, p', _, m, h => by
    cases h with
    | ob h1 h2 h3 h4 =>
      obtain ⟨g1, g2⟩ := m _ [] _ h1 h2
      exact .ob g2 g1 h3 (TRs.move e m h4)
theorem TRs.move {K : PySem.W.Frag} {F H F' H' : Hp} {ω ω' : Tags} (e : Same F F') : ∀ {ts : List T} {p p' : List Nat} {i : Nat} {vs : List V}, Moved F H ω p H' ω' p' → TRs K F H ω p i vs ts → TRs K F' H' ω' p' i vs ts
  | [], _, _, _, _, _, h => by cases h; exact .nil
  | t :: ts, p, p', i, _, m, h => by
    cases h with
    | cons h1 h2 =>
      refine .cons (TR.move e (p := i :: p) (p' := i :: p') (fun a r o h3 h4 => ?_) h1) (TRs.move e m h2)
      obtain ⟨g1, g2⟩ := m a (r ++ [i]) o (by simpa using h3) h4
      exact ⟨g1, by simpa using g2⟩
end
mutual
def fz : T → D
  | .d x => x
  | .li ts => .lst (fzs ts)
  | .ob C ns ts => .obj C ns (fzs ts)
def fzs : List T → List D
  | [] => []
  | t :: ts => fz t :: fzs ts
end
theorem fzs_map : ∀ (ts : List T), fzs ts = ts.map fz
  | [] => rfl
  | t :: ts => by rw [fzs, fzs_map ts]; rfl
mutual
/-- a tree as data, where all that it owns is in F' -/
theorem TR.rd {K : PySem.W.Frag} {F H F' : Hp} {ω : Tags} (e : Same F F') : ∀ {t : T} {p : List Nat} {v : V}, (∀ a r o, ω a = some (r ++ p) → H a = some o → F' a = some o) → TR K F H ω p v t → RD K F' v (fz t)
  | .d x, _, _, _, h => by cases h with | d h => exact h.mono e
  | .li ts, p, _, m, h => by
    cases h with
    | li h1 h2 h3 => exact .lst (m _ [] _ h1 h2) (TRs.rd e m h3)
  | .ob C ns ts, p, _, m, h => by
    cases h with
    | ob h1 h2 h3 h4 => exact .obj (m _ [] _ h1 h2) h3 (TRs.rd e m h4)
theorem TRs.rd {K : PySem.W.Frag} {F H F' : Hp} {ω : Tags} (e : Same F F') : ∀ {ts : List T} {p : List Nat} {i : Nat} {vs : List V}, (∀ a r o, ω a = some (r ++ p) → H a = some o → F' a = some o) → TRs K F H ω p i vs ts → RDs K F' vs (fzs ts)
  | [], _, _, _, _, h => by cases h; exact .nil
  | t :: ts, p, i, _, m, h => by
    cases h with
    | cons h1 h2 =>
      refine .cons (TR.rd e (p := i :: p) (fun a r o h3 h4 => ?_) h1) (TRs.rd e m h2)
      exact m a (r ++ [i]) o (by simpa using h3) h4
end
theorem TR.rdH {K : PySem.W.Frag} {F H : Hp} {ω : Tags} {t : T} {p : List Nat} {v : V} (e : Same F H) (h : TR K F H ω p v t) : RD K H v (fz t) := h.rd e fun _ _ _ _ h => h
/-! ### the state -/
structure Cf where
  F : Hp
  H : Hp
  ω : Tags
  σ : L2.St
  τ : List V
def Cf.vs (c : Cf) : List (Option V) := c.σ ++ c.τ.map some
structure Stt (K : PySem.W.Frag) (c : Cf) (Γ : Env) : Prop where
  sub : Same c.F c.H
  own : ∀ a q, c.ω a = some q → c.F a = none ∧ ∃ o, c.H a = some o
  len : Γ.length = c.σ.length + c.τ.length
  at_ : ∀ i t, Γ[i]? = some (some t) → ∃ v, c.vs[i]? = some (some v) ∧ TR K c.F c.H c.ω [i] v t
structure Ext (c c' : Cf) : Prop where
  f : Same c.F c'.F
  k : ∀ a o, c.H a = some o → c.ω a = none → c'.H a = some o ∧ c'.ω a = none
  g : ∀ a o, c'.F a = some o → c.F a = some o ∨ c.H a = none ∨ ∃ q, c.ω a = some q
  d : ∀ a, c'.H a = none → c.H a = none
structure ExtE (m : Bool) (c c' : Cf) : Prop extends Ext c c' where
  s : c'.σ = c.σ
  t : ∃ ws, c'.τ = c.τ ++ ws
  p : m = false → Same c.H c'.H
theorem Ext.refl (c : Cf) : Ext c c := ⟨Same.refl _, fun _ _ h h' => ⟨h, h'⟩, fun _ _ h => .inl h, fun _ h => h⟩
theorem Ext.trans {a b c : Cf} (h : Ext a b) (h' : Ext b c) : Ext a c where
  f := h.f.trans h'.f
  k := fun x o e n => let ⟨e1, n1⟩ := h.k x o e n; h'.k x o e1 n1
  g := fun x o e => by
    rcases h'.g x o e with q | q | ⟨r, q⟩
    · exact h.g x o q
    · exact .inr (.inl (h.d x q))
    · cases e1 : a.ω x with
      | some y => exact .inr (.inr ⟨y, rfl⟩)
      | none =>
        cases e2 : a.H x with
        | none => exact .inr (.inl rfl)
        | some o' =>
          have := (h.k x o' e2 e1).2
          rw [this] at q; cases q
  d := fun x e => h.d x (h'.d x e)
theorem ExtE.refl (m : Bool) (c : Cf) : ExtE m c c := ⟨Ext.refl c, rfl, ⟨[], by simp⟩, fun _ => Same.refl _⟩
theorem ExtE.trans {m m' : Bool} {a b c : Cf} (h : ExtE m a b) (h' : ExtE m' b c) : ExtE (m || m') a c := by
  refine ⟨h.toExt.trans h'.toExt, h'.s.trans h.s, ?_, fun e => ?_⟩
  · obtain ⟨w1, e1⟩ := h.t
    obtain ⟨w2, e2⟩ := h'.t
    exact ⟨w1 ++ w2, by rw [e2, e1, List.append_assoc]⟩
  · have e1 : m = false := by cases m <;> simp_all
    have e2 : m' = false := by cases m' <;> simp_all
    exact (h.p e1).trans (h'.p e2)
theorem ExtE.weak {m : Bool} {a b : Cf} (h : ExtE m a b) : ExtE true a b := ⟨h.toExt, h.s, h.t, fun e => by cases e⟩
theorem ExtE.le {m m' : Bool} {a b : Cf} (h : ExtE m a b) (e : m' = false → m = false) : ExtE m' a b := ⟨h.toExt, h.s, h.t, fun z => h.p (e z)⟩
theorem ExtE.vs {m : Bool} {a b : Cf} (h : ExtE m a b) : ∃ ws, b.vs = a.vs ++ ws := by
  obtain ⟨w, e⟩ := h.t
  exact ⟨w.map some, by unfold Cf.vs; rw [h.s, e, List.map_append, List.append_assoc]⟩
theorem ExtE.vget {m : Bool} {a b : Cf} (h : ExtE m a b) {i : Nat} {v : V} (e : a.vs[i]? = some (some v)) : b.vs[i]? = some (some v) := by
  obtain ⟨w, e1⟩ := h.vs
  rw [e1, List.getElem?_append_left (List.getElem?_eq_some_iff.mp e).1]
  exact e
/-! ### where a place is -/
inductive Loc (H : Hp) (vs : List (Option V)) : List Nat → V → Prop
  | slot {i : Nat} {v : V} : vs[i]? = some (some v) → Loc H vs [i] v
  | li {q : List Nat} {a : Addr} {us : List V} {k : Nat} {w : V} : Loc H vs q (.ref a) → H a = some (.lst us) → us[k]? = some w → Loc H vs (k :: q) w
  | ob {q : List Nat} {a C dx : Addr} {ns : List Str} {us : List V} {k : Nat} {w : V} : Loc H vs q (.ref a) → H a = some (.ins C dx (ns.zip us)) → ns.length = us.length → us[k]? = some w → Loc H vs (k :: q) w
def VR (K : PySem.W.Frag) (c : Cf) : RV → V → Prop
  | .d x, v => RD K c.F v x
  | .p q, v => Loc c.H c.vs q v
def kid : T → Nat → Option T
  | .d _, _ => none
  | .li ts, k => ts[k]?
  | .ob _ _ ts, k => ts[k]?
def getT (Γ : Env) : List Nat → Option T
  | [] => none
  | [i] => match Γ[i]? with | some (some t) => some t | _ => none
  | k :: q => match getT Γ q with | some t => kid t k | none => none
theorem Loc.ne {H : Hp} {vs : List (Option V)} {q : List Nat} {v : V} (h : Loc H vs q v) : q ≠ [] := by cases h <;> simp
theorem zip_inj {ns : List Str} {us vs : List V} (e : ns.zip us = ns.zip vs) (h1 : ns.length = us.length) (h2 : ns.length = vs.length) : us = vs := by
  have a1 : (ns.zip us).map Prod.snd = us := List.map_snd_zip (by omega)
  have a2 : (ns.zip vs).map Prod.snd = vs := List.map_snd_zip (by omega)
  rw [← a1, ← a2, e]
theorem Stt.loc {K : PySem.W.Frag} {c : Cf} {Γ : Env} (S : Stt K c Γ) {q : List Nat} {v : V} (h : Loc c.H c.vs q v) : ∀ {t : T}, getT Γ q = some t → TR K c.F c.H c.ω q v t := by
  induction h with
  | slot e =>
    intro t ht
    simp only [getT] at ht
    split at ht
    · rename_i t' e'
      cases ht
      obtain ⟨v', e2, r⟩ := S.at_ _ _ e'
      rw [e] at e2
      cases e2
      exact r
    · cases ht
  | @li q a us k w hl hh hk ih =>
    intro t ht
    have hq := hl.ne
    obtain ⟨j, q', rfl⟩ : ∃ j q', q = j :: q' := by
      cases q with
      | nil => exact absurd rfl hq
      | cons j q' => exact ⟨j, q', rfl⟩
    simp only [getT] at ht
    split at ht
    · rename_i t' e'
      have r := ih e'
      cases r with
      | d h => simp [kid] at ht
      | li h1 h2 h3 =>
        rw [hh] at h2
        cases h2
        obtain ⟨w', e1, r'⟩ := h3.get (k := k) ht
        rw [hk] at e1
        cases e1
        simpa using r'
      | ob h1 h2 h3 h4 =>
        rw [hh] at h2
        cases h2
    · cases ht
  | @ob q a C dx ns us k w hl hh hn hk ih =>
    intro t ht
    have hq := hl.ne
    obtain ⟨j, q', rfl⟩ : ∃ j q', q = j :: q' := by
      cases q with
      | nil => exact absurd rfl hq
      | cons j q' => exact ⟨j, q', rfl⟩
    simp only [getT] at ht
    split at ht
    · rename_i t' e'
      have r := ih e'
      cases r with
      | d h => simp [kid] at ht
      | li h1 h2 h3 =>
        rw [hh] at h2
        cases h2
      | @ob _ _ _ _ ns' vs' ts' h1 h2 h3 h4 =>
        rw [hh] at h2
        injection h2 with h2
        injection h2 with z1 z2 z3
        subst z1 z2
        have e1 : ns = ns' := by
          have a1 : (ns.zip us).map Prod.fst = ns := List.map_fst_zip (by omega)
          have a2 : (ns'.zip vs').map Prod.fst = ns' := List.map_fst_zip (by omega)
          rw [← a1, ← a2, z3]
        subst e1
        have e2 := zip_inj z3 hn h3
        subst e2
        obtain ⟨w', e1, r'⟩ := h4.get (k := k) ht
        rw [hk] at e1
        cases e1
        simpa using r'
    · cases ht
/-- what is seen of a result: data, or a list of data that is owned -/
def unD : T → Option D
  | .d x => some x
  | _ => none
def flat : List T → Option (List D)
  | [] => some []
  | .d x :: ts => match flat ts with | some xs => some (x :: xs) | none => none
  | _ :: _ => none
theorem flat_eq : ∀ {ts : List T} {xs : List D}, flat ts = some xs → ts = xs.map .d
  | [], xs, h => by cases h; rfl
  | .d x :: ts, xs, h => by
    simp only [flat] at h
    split at h
    · rename_i ys e
      cases h
      rw [flat_eq e]
      rfl
    · cases h
  | .li _ :: _, xs, h => by cases h
  | .ob _ _ _ :: _, xs, h => by cases h
@[simp] theorem flat_map : ∀ (xs : List D), flat (xs.map .d) = some xs
  | [] => rfl
  | x :: xs => by
    rw [List.map_cons, flat, flat_map xs]
def vwT : T → Option D
  | .d x => some x
  | .li ts => match flat ts with | some xs => some (.lst xs) | none => none
  | .ob _ _ _ => none
def vw (Γ : Env) : RV → Option D
  | .d x => some x
  | .p q => match getT Γ q with | some t => vwT t | none => none
theorem TRs.rds {K : PySem.W.Frag} {F H : Hp} {ω : Tags} {p : List Nat} : ∀ {xs : List D} {i : Nat} {vs : List V}, TRs K F H ω p i vs (xs.map .d) → RDs K F vs xs
  | [], _, _, h => by cases h; exact .nil
  | x :: xs, _, _, h => by
    cases h with
    | cons h1 h2 =>
      cases h1 with
      | d h1 => exact .cons h1 (TRs.rds h2)
/-- a value seen as x: its items stand frozen -/
def VD (K : PySem.W.Frag) (c : Cf) (v : V) (x : D) : Prop := RD K c.F v x ∨ ∃ a us xs, x = .lst xs ∧ v = .ref a ∧ c.H a = some (.lst us) ∧ RDs K c.F us xs
theorem Stt.vd {K : PySem.W.Frag} {c : Cf} {Γ : Env} (S : Stt K c Γ) {r : RV} {v : V} (h : VR K c r v) {x : D} (e : vw Γ r = some x) : VD K c v x := by
  cases r with
  | d y =>
    cases e
    exact .inl h
  | p q =>
    simp only [vw] at e
    split at e
    · rename_i t ht
      have R := S.loc (show Loc c.H c.vs q v from h) ht
      cases R with
      | d R => cases e; exact .inl R
      | li h1 h2 h3 =>
        simp only [vwT] at e
        split at e
        · rename_i xs hx
          cases e
          rw [flat_eq hx] at h3
          exact .inr ⟨_, _, _, rfl, rfl, h2, h3.rds⟩
        · cases e
      | ob => cases e
    · cases e
theorem VD.lst {K : PySem.W.Frag} {c : Cf} {Γ : Env} {v : V} {xs : List D} (S : Stt K c Γ) (h : VD K c v (.lst xs)) : ∃ a us, v = .ref a ∧ c.H a = some (.lst us) ∧ RDs K c.F us xs := by
  rcases h with h | ⟨a, us, ys, e, h1, h2, h3⟩
  · cases h with
    | lst h1 h2 => exact ⟨_, _, rfl, S.sub _ _ h1, h2⟩
  · cases e
    exact ⟨a, us, h1, h2, h3⟩
theorem VD.rd {K : PySem.W.Frag} {c : Cf} {v : V} {x : D} (h : VD K c v x) (n : ∀ xs, x ≠ .lst xs) : RD K c.F v x := by
  rcases h with h | ⟨a, us, ys, e, h1, h2, h3⟩
  · exact h
  · exact absurd e (n _)
theorem VD.int {K : PySem.W.Frag} {c : Cf} {v : V} {i : Int} (h : VD K c v (.int i)) : v = .int i := by
  cases h.rd (by intro _ z; cases z)
  rfl
theorem VD.bl {K : PySem.W.Frag} {c : Cf} {v : V} {i : Bool} (h : VD K c v (.bl i)) : v = .bl i := by
  cases h.rd (by intro _ z; cases z)
  rfl
theorem VD.str {K : PySem.W.Frag} {c : Cf} {v : V} {i : Str} (h : VD K c v (.str i)) : v = .str i := by
  cases h.rd (by intro _ z; cases z)
  rfl
theorem VD.tup {K : PySem.W.Frag} {c : Cf} {Γ : Env} {v : V} {xs : List D} (S : Stt K c Γ) (h : VD K c v (.tup xs)) : ∃ a us, v = .ref a ∧ SqT K c.H a us ∧ RDs K c.F us xs := by
  cases h.rd (by intro _ z; cases z) with
  | tup h1 h2 => exact ⟨_, _, rfl, same_seqT S.sub h1, h2⟩
theorem VD.sq {K : PySem.W.Frag} {c : Cf} {Γ : Env} {v : V} {xs : List D} (S : Stt K c Γ) (h : VD K c v (.sq xs)) : ∃ a us, v = .ref a ∧ SqL K c.H a us ∧ RDs K c.F us xs := by
  cases h.rd (by intro _ z; cases z) with
  | sq h1 h2 => exact ⟨_, _, rfl, S.sub.seq h1, h2⟩
def stab : RV → Bool → Bool
  | .d _, _ => true
  | .p q, m => q.length == 1 || !m
theorem Loc.keep {H H' : Hp} {vs vs' : List (Option V)} {q : List Nat} {v : V} (e : Same H H') (hv : ∀ (i : Nat) (v : V), vs[i]? = some (some v) → vs'[i]? = some (some v)) (h : Loc H vs q v) : Loc H' vs' q v := by
  induction h with
  | slot e => exact .slot (hv _ _ e)
  | li h1 h2 h3 ih => exact .li ih (e _ _ h2) h3
  | ob h1 h2 h3 h4 ih => exact .ob ih (e _ _ h2) h3 h4
theorem VR.keep {K : PySem.W.Frag} {c c' : Cf} {m : Bool} {r : RV} {v : V} (x : ExtE m c c') (h : VR K c r v) (s : stab r m = true) : VR K c' r v := by
  cases r with
  | d y => exact RD.mono x.f (show RD K c.F v y from h)
  | p q =>
    have h : Loc c.H c.vs q v := h
    cases h with
    | slot e => exact Loc.slot (x.vget e)
    | @li q' _ _ _ _ h1 h2 h3 =>
      have hq := h1.ne
      have hm : m = false := by
        cases m with
        | false => rfl
        | true =>
          cases q' with
          | nil => exact absurd rfl hq
          | cons _ _ => simp [stab] at s
      exact Loc.keep (x.p hm) (fun _ _ => x.vget) (.li h1 h2 h3)
    | @ob q' _ _ _ _ _ _ _ h1 h2 h3 h4 =>
      have hq := h1.ne
      have hm : m = false := by
        cases m with
        | false => rfl
        | true =>
          cases q' with
          | nil => exact absurd rfl hq
          | cons _ _ => simp [stab] at s
      exact Loc.keep (x.p hm) (fun _ _ => x.vget) (.ob h1 h2 h3 h4)
end Mv
set_option Elab.async false
set_option linter.all false
set_option maxRecDepth 100000
namespace Mv
open PySem PySem.Spec PyProof.Rows L2
variable {K : PySem.W.Frag} {c : Cf} {Γ : Env}
theorem same_upd {H : Hp} {p : Addr} {o : HO} (h : H p = none) : Same H (upd H p o) := fun b x e => by
  rw [upd_ne (ne_of_none e h)]
  exact e
theorem Stt.fnone (S : Stt K c Γ) {p : Addr} (h : c.H p = none) : c.F p = none := by
  cases e : c.F p with
  | none => rfl
  | some o =>
    rw [S.sub p o e] at h
    cases h
theorem Stt.wnone (S : Stt K c Γ) {p : Addr} (h : c.H p = none) : c.ω p = none := by
  cases e : c.ω p with
  | none => rfl
  | some q =>
    obtain ⟨_, o, e'⟩ := S.own p q e
    rw [e'] at h
    cases h
theorem Stt.vlen (S : Stt K c Γ) : c.vs.length = Γ.length := by
  unfold Cf.vs
  rw [List.length_append, List.length_map, S.len]
theorem Cf.vs_push {c : Cf} {c' : Cf} {v : V} (h1 : c'.σ = c.σ) (h2 : c'.τ = c.τ ++ [v]) : c'.vs = c.vs ++ [some v] := by
  unfold Cf.vs
  rw [h1, h2, List.map_append, List.append_assoc]
  rfl
/-! ### a new frozen object -/
def Cf.froz (c : Cf) (p : Addr) (o : HO) : Cf := { c with F := upd c.F p o, H := upd c.H p o }
theorem Stt.froz (S : Stt K c Γ) {p : Addr} {o : HO} (hp : c.H p = none) : Stt K (c.froz p o) Γ ∧ ExtE false c (c.froz p o) := by
  have fn := S.fnone hp
  have wn := S.wnone hp
  refine ⟨⟨fun a u e => ?_, fun a q e => ?_, S.len, fun i t e => ?_⟩, ⟨⟨same_upd fn, fun a u e n => ⟨same_upd hp a u e, n⟩, fun a u e => ?_, fun a e => ?_⟩, rfl, ⟨[], by simp [Cf.froz]⟩, fun _ => same_upd hp⟩⟩
  · have e : upd c.F p o a = some u := e
    show upd c.H p o a = some u
    by_cases h : a = p
    · subst h
      rw [upd_same] at e ⊢
      exact e
    · rw [upd_ne h] at e ⊢
      exact S.sub a u e
  · obtain ⟨h1, u, h2⟩ := S.own a q e
    have h : a ≠ p := fun z => by
      subst z
      have e : c.ω a = some q := e
      rw [wn] at e
      cases e
    exact ⟨show upd c.F p o a = none by rw [upd_ne h]; exact h1, u, show upd c.H p o a = some u by rw [upd_ne h]; exact h2⟩
  · obtain ⟨v, h1, h2⟩ := S.at_ i t e
    exact ⟨v, h1, h2.move (same_upd fn) fun a r u h3 h4 => ⟨same_upd hp a u h4, h3⟩⟩
  · have e : upd c.F p o a = some u := e
    by_cases h : a = p
    · subst h
      exact .inr (.inl hp)
    · rw [upd_ne h] at e
      exact .inl e
  · have e : upd c.H p o a = none := e
    by_cases h : a = p
    · subst h
      exact hp
    · rw [upd_ne h] at e
      exact e
/-! ### a new owned list of data, as a temporary -/
def Cf.temp (c : Cf) (n : Nat) (p : Addr) (o : HO) : Cf := { c with H := upd c.H p o, ω := fun a => if a = p then some [n] else c.ω a, τ := c.τ ++ [.ref p] }
theorem TRs.ofRDs {F H : Hp} {ω : Tags} {q : List Nat} : ∀ {us : List V} {xs : List D} {i : Nat}, RDs K F us xs → TRs K F H ω q i us (xs.map .d)
  | _, _, _, .nil => .nil
  | _, _, _, .cons h t => .cons (.d h) (TRs.ofRDs t)
theorem Stt.temp (S : Stt K c Γ) {p : Addr} {us : List V} {xs : List D} (hp : c.H p = none) (r : RDs K c.F us xs) :
    Stt K (c.temp Γ.length p (.lst us)) (Γ ++ [some (.li (xs.map .d))]) ∧ ExtE false c (c.temp Γ.length p (.lst us)) ∧ VR K (c.temp Γ.length p (.lst us)) (.p [Γ.length]) (.ref p) := by
  have fn := S.fnone hp
  have wn := S.wnone hp
  have ev : (c.temp Γ.length p (.lst us)).vs = c.vs ++ [some (.ref p)] := Cf.vs_push rfl rfl
  have last : (c.temp Γ.length p (.lst us)).vs[Γ.length]? = some (some (.ref p)) := by
    rw [ev, List.getElem?_append_right (by rw [S.vlen]; exact Nat.le_refl _), S.vlen, Nat.sub_self]
    rfl
  refine ⟨⟨fun a u e => ?_, fun a q e => ?_, ?_, fun i t e => ?_⟩, ⟨⟨Same.refl _, fun a u e n => ⟨same_upd hp a u e, ?_⟩, fun a u e => .inl e, fun a e => ?_⟩, rfl, ⟨[.ref p], rfl⟩, fun _ => same_upd hp⟩, .slot last⟩
  · exact same_upd hp a u (S.sub a u e)
  · have e : (if a = p then some [Γ.length] else c.ω a) = some q := e
    by_cases h : a = p
    · subst h
      exact ⟨fn, _, upd_same⟩
    · rw [if_neg h] at e
      obtain ⟨h1, u, h2⟩ := S.own a q e
      exact ⟨h1, u, by show upd c.H p _ a = some u; rw [upd_ne h]; exact h2⟩
  · show (Γ ++ [some (T.li (xs.map .d))]).length = c.σ.length + (c.τ ++ [V.ref p]).length
    rw [List.length_append, List.length_append, S.len]
    simp only [List.length_cons, List.length_nil]
    omega
  · by_cases hi : i < Γ.length
    · rw [List.getElem?_append_left hi] at e
      obtain ⟨v, h1, h2⟩ := S.at_ i t e
      refine ⟨v, ?_, h2.move (Same.refl _) fun a r u h3 h4 => ⟨same_upd hp a u h4, ?_⟩⟩
      · rw [ev, List.getElem?_append_left (by rw [S.vlen]; exact hi)]
        exact h1
      · show (if a = p then some [Γ.length] else c.ω a) = _
        rw [if_neg (ne_of_none h4 hp)]
        exact h3
    · have hi' : i = Γ.length := by
        have := (List.getElem?_eq_some_iff.mp e).1
        rw [List.length_append] at this
        simp only [List.length_cons, List.length_nil] at this
        omega
      subst hi'
      rw [List.getElem?_append_right (Nat.le_refl _), Nat.sub_self] at e
      injection e with e
      injection e with e
      subst e
      exact ⟨.ref p, last, .li (by show (if p = p then _ else _) = _; rw [if_pos rfl]) upd_same (TRs.ofRDs r)⟩
  · show (if a = p then some [Γ.length] else c.ω a) = none
    rw [if_neg (ne_of_none e hp)]
    exact n
  · have e : upd c.H p _ a = none := e
    by_cases h : a = p
    · subst h
      exact hp
    · rw [upd_ne h] at e
      exact e
/-! ### freezing a slot -/
def tagged (ω : Tags) (i : Nat) (a : Addr) : Bool := match ω a with | some q => q.getLast? == some i | none => false
theorem tagged_of {ω : Tags} {i : Nat} {a : Addr} {r : List Nat} (h : ω a = some (r ++ [i])) : tagged ω i a = true := by
  unfold tagged
  rw [h]
  simp
theorem tagged_ne {ω : Tags} {i j : Nat} {a : Addr} {r : List Nat} (h : ω a = some (r ++ [j])) (n : j ≠ i) : tagged ω i a = false := by
  unfold tagged
  rw [h]
  simp [n]
theorem tagged_none {ω : Tags} {i : Nat} {a : Addr} (h : ω a = none) : tagged ω i a = false := by
  unfold tagged
  rw [h]
def Cf.frz (c : Cf) (i : Nat) : Cf := { c with F := fun a => if tagged c.ω i a = true then c.H a else c.F a, ω := fun a => if tagged c.ω i a = true then none else c.ω a }
theorem Cf.frz_f (S : Stt K c Γ) (i : Nat) : Same c.F (c.frz i).F := fun a o e => by
  show (if tagged c.ω i a = true then c.H a else c.F a) = some o
  split
  · exact S.sub a o e
  · exact e
theorem Stt.frz (S : Stt K c Γ) {i : Nat} {t : T} (h : Γ[i]? = some (some t)) : Stt K (c.frz i) (Γ.set i (some (.d (fz t)))) ∧ ExtE false c (c.frz i) := by
  have hf := Cf.frz_f S i
  refine ⟨⟨fun a u e => ?_, fun a q e => ?_, by rw [List.length_set]; exact S.len, fun j u e => ?_⟩, ⟨⟨hf, fun a u e n => ⟨e, ?_⟩, fun a u e => ?_, fun a e => e⟩, rfl, ⟨[], by simp [Cf.frz]⟩, fun _ => Same.refl _⟩⟩
  · have e : (if tagged c.ω i a = true then c.H a else c.F a) = some u := e
    split at e
    · exact e
    · exact S.sub a u e
  · have e : (if tagged c.ω i a = true then none else c.ω a) = some q := e
    show (if tagged c.ω i a = true then c.H a else c.F a) = none ∧ _
    split at e
    · cases e
    · rename_i n
      rw [if_neg n]
      exact S.own a q e
  · by_cases hj : j = i
    · subst hj
      rw [List.getElem?_set_self (List.getElem?_eq_some_iff.mp h).1] at e
      injection e with e
      injection e with e
      subst e
      obtain ⟨v, h1, h2⟩ := S.at_ _ t h
      refine ⟨v, h1, .d (h2.rd hf fun a r o h3 h4 => ?_)⟩
      show (if tagged c.ω j a = true then c.H a else c.F a) = some o
      rw [if_pos (tagged_of h3)]
      exact h4
    · rw [List.getElem?_set_ne (Ne.symm hj)] at e
      obtain ⟨v, h1, h2⟩ := S.at_ _ u e
      refine ⟨v, h1, h2.move hf fun a r o h3 h4 => ⟨h4, ?_⟩⟩
      show (if tagged c.ω i a = true then none else c.ω a) = _
      rw [if_neg (by rw [tagged_ne h3 hj]; decide)]
      exact h3
  · show (if tagged c.ω i a = true then none else c.ω a) = none
    rw [if_neg (by rw [tagged_none n]; decide)]
    exact n
  · have e : (if tagged c.ω i a = true then c.H a else c.F a) = some u := e
    split at e
    · rename_i n
      cases q : c.ω a with
      | none =>
        rw [tagged_none q] at n
        cases n
      | some q' => exact .inr (.inr ⟨q', rfl⟩)
    · exact .inl e
theorem VR.frz {i : Nat} {r : RV} {v : V} (S : Stt K c Γ) (h : VR K c r v) : VR K (c.frz i) r v := by
  cases r with
  | d x => exact RD.mono (Cf.frz_f S i) h
  | p q => exact h
/-! ### a place is written -/
def setKid : T → Nat → T → T
  | .d x, _, _ => .d x
  | .li ts, k, t => .li (ts.set k t)
  | .ob C ns ts, k, t => .ob C ns (ts.set k t)
def setT (Γ : Env) : List Nat → T → Env
  | [], _ => Γ
  | [i], t => Γ.set i (some t)
  | k :: q, t => match getT Γ q with | some u => setT Γ q (setKid u k t) | none => Γ
theorem TRs.setK {F H H' : Hp} {ω : Tags} {q : List Nat} {k : Nat} {w : V} {t' : T} (hk : TR K F H' ω (k :: q) w t') (mv : ∀ j, j ≠ k → Moved F H ω (j :: q) H' ω (j :: q)) : ∀ {us : List V} {ts : List T} {i j : Nat}, i + j = k → us[j]? = some w →
    TRs K F H ω q i us ts → TRs K F H' ω q i us (ts.set j t')
  | [], _, i, j, _, e, h => by simp at e
  | u :: us, [], i, j, _, e, h => by cases h
  | u :: us, t :: ts, i, 0, e0, e, h => by
    have ei : i = k := by omega
    subst ei
    simp at e
    subst e
    cases h with
    | cons h1 h2 =>
      refine .cons hk ?_
      have rest : ∀ {us : List V} {ts : List T} {i' : Nat}, i < i' → TRs K F H ω q i' us ts → TRs K F H' ω q i' us ts := by
        intro us
        induction us with
        | nil => intro ts i' _ h; cases h; exact .nil
        | cons u us ih =>
          intro ts i' hi h
          cases h with
          | cons g1 g2 => exact .cons (g1.move (Same.refl _) (mv _ (by omega))) (ih (by omega) g2)
      exact rest (by omega) h2
  | u :: us, t :: ts, i, j + 1, e0, e, h => by
    cases h with
    | cons h1 h2 =>
      exact .cons (h1.move (Same.refl _) (mv _ (by omega))) (TRs.setK hk mv (i := i + 1) (j := j) (by omega) (by simpa using e) h2)
theorem TR.tag {F H : Hp} {ω : Tags} {q : List Nat} {a : Addr} {t : T} (h : TR K F H ω q (.ref a) t) (hd : ∀ x, t ≠ .d x) : ω a = some q := by
  cases h with
  | d h => exact absurd rfl (hd _)
  | li h1 _ _ => exact h1
  | ob h1 _ _ _ => exact h1
theorem Stt.write_at (S : Stt K c Γ) {a : Addr} {o : HO} {q0 : List Nat} (ha : c.ω a = some q0) {q : List Nat} {v : V} (hl : Loc c.H c.vs q v) (hs : ∃ r, q0 = r ++ q) : ∀ {t t' : T}, getT Γ q = some t → TR K c.F (upd c.H a o) c.ω q v t' →
    Stt K { c with H := upd c.H a o } (setT Γ q t') := by
  have other : ∀ p : List Nat, (∀ r, q0 ≠ r ++ p) → Moved c.F c.H c.ω p (upd c.H a o) c.ω p := fun p np b r u h1 h2 => by
    refine ⟨?_, h1⟩
    rw [upd_ne]
    · exact h2
    · rintro rfl
      rw [ha] at h1
      injection h1 with h1
      exact np r h1
  induction hl with
  | @slot i v e =>
    obtain ⟨r0, hr0⟩ := hs
    intro t t' ht h
    have hi : Γ[i]? = some (some t) := by
      simp only [getT] at ht
      split at ht
      · rename_i e'
        cases ht
        exact e'
      · cases ht
    refine ⟨fun b u hb => ?_, fun b p hb => ?_, ?_, fun j u hj => ?_⟩
    · show upd c.H a o b = some u
      rw [upd_ne]
      · exact S.sub b u hb
      · rintro rfl
        rw [(S.own _ _ ha).1] at hb
        cases hb
    · obtain ⟨h1, u, h2⟩ := S.own b p hb
      refine ⟨h1, ?_⟩
      show ∃ u, upd c.H a o b = some u
      by_cases z : b = a
      · subst z
        exact ⟨_, upd_same⟩
      · exact ⟨u, by rw [upd_ne z]; exact h2⟩
    · show (Γ.set i (some t')).length = _
      rw [List.length_set]
      exact S.len
    · have hj : (Γ.set i (some t'))[j]? = some (some u) := hj
      by_cases z : j = i
      · subst z
        rw [List.getElem?_set_self (List.getElem?_eq_some_iff.mp hi).1] at hj
        injection hj with hj
        injection hj with hj
        subst hj
        exact ⟨v, e, h⟩
      · rw [List.getElem?_set_ne (Ne.symm z)] at hj
        obtain ⟨w, h1, h2⟩ := S.at_ j u hj
        refine ⟨w, h1, h2.move (Same.refl _) (other [j] fun r hr => ?_)⟩
        rw [hr] at hr0
        have := (List.append_inj' hr0 rfl).2
        simp at this
        exact z this
  | @li q b us k w h1 h2 h3 ih =>
    obtain ⟨r0, hr0⟩ := hs
    intro t t' ht h
    have hq := h1.ne
    obtain ⟨j0, q', rfl⟩ : ∃ j q', q = j :: q' := by
      cases q with
      | nil => exact absurd rfl hq
      | cons j q' => exact ⟨j, q', rfl⟩
    simp only [getT] at ht
    split at ht
    · rename_i pt hp
      simp only [setT, hp]
      refine ih ⟨r0 ++ [k], by simpa using hr0⟩ hp ?_
      have P := S.loc h1 hp
      have hb : ∀ x, pt ≠ .d x := by rintro x rfl; simp [kid] at ht
      have tb := P.tag hb
      have nb : b ≠ a := by
        rintro rfl
        rw [ha] at tb
        injection tb with tb
        rw [hr0] at tb
        have := congrArg List.length tb
        simp at this
        omega
      have mv : ∀ j, j ≠ k → Moved c.F c.H c.ω (j :: (j0 :: q')) (upd c.H a o) c.ω (j :: (j0 :: q')) := fun j hj => other _ fun r hr => by
        rw [hr] at hr0
        have := (List.append_inj' hr0 rfl).2
        simp at this
        exact hj this
      cases P with
      | d h => exact absurd rfl (hb _)
      | @li _ _ vs ts g1 g2 g3 =>
        rw [h2] at g2
        cases g2
        exact .li g1 (by rw [upd_ne nb]; exact h2) (TRs.setK h mv (by omega) h3 g3)
      | ob g1 g2 g3 g4 =>
        rw [h2] at g2
        cases g2
    · cases ht
  | @ob q b C dx ns us k w h1 h2 hn h3 ih =>
    obtain ⟨r0, hr0⟩ := hs
    intro t t' ht h
    have hq := h1.ne
    obtain ⟨j0, q', rfl⟩ : ∃ j q', q = j :: q' := by
      cases q with
      | nil => exact absurd rfl hq
      | cons j q' => exact ⟨j, q', rfl⟩
    simp only [getT] at ht
    split at ht
    · rename_i pt hp
      simp only [setT, hp]
      refine ih ⟨r0 ++ [k], by simpa using hr0⟩ hp ?_
      have P := S.loc h1 hp
      have hb : ∀ x, pt ≠ .d x := by rintro x rfl; simp [kid] at ht
      have tb := P.tag hb
      have nb : b ≠ a := by
        rintro rfl
        rw [ha] at tb
        injection tb with tb
        rw [hr0] at tb
        have := congrArg List.length tb
        simp at this
        omega
      have mv : ∀ j, j ≠ k → Moved c.F c.H c.ω (j :: (j0 :: q')) (upd c.H a o) c.ω (j :: (j0 :: q')) := fun j hj => other _ fun r hr => by
        rw [hr] at hr0
        have := (List.append_inj' hr0 rfl).2
        simp at this
        exact hj this
      cases P with
      | d h => exact absurd rfl (hb _)
      | li g1 g2 g3 =>
        rw [h2] at g2
        cases g2
      | @ob _ _ C' dx' ns' us' ts g1 g2 g3 g4 =>
        rw [h2] at g2
        injection g2 with g2
        injection g2 with z1 z2 z3
        subst z1 z2
        have e1 : ns = ns' := by
          have a1 : (ns.zip us).map Prod.fst = ns := List.map_fst_zip (by omega)
          have a2 : (ns'.zip us').map Prod.fst = ns' := List.map_fst_zip (by omega)
          rw [← a1, ← a2, z3]
        subst e1
        have e2 := zip_inj z3 hn g3
        subst e2
        exact .ob g1 (by rw [upd_ne nb]; exact h2) g3 (TRs.setK h mv (by omega) h3 g4)
    · cases ht
/-- the list at a place gets other items -/
theorem Stt.write_li (S : Stt K c Γ) {q : List Nat} {a : Addr} {ts ts' : List T} (hl : Loc c.H c.vs q (.ref a)) (ht : getT Γ q = some (.li ts)) :
    ∃ us, c.H a = some (.lst us) ∧ us.length = ts.length ∧ TRs K c.F c.H c.ω q 0 us ts ∧ c.ω a = some q ∧ ∀ us', TRs K c.F (upd c.H a (.lst us')) c.ω q 0 us' ts' → Stt K { c with H := upd c.H a (.lst us') } (setT Γ q (.li ts')) ∧ ExtE true c { c with H := upd c.H a (.lst us') } := by
  have r := S.loc hl ht
  cases r with
  | @li _ _ us _ h1 h2 h3 =>
    refine ⟨us, h2, h3.length, h3, h1, fun us' h => ⟨S.write_at h1 hl ⟨[], rfl⟩ ht (.li h1 upd_same h), ⟨⟨Same.refl _, fun b o e n => ⟨?_, n⟩, fun b o e => .inl e, fun b e => ?_⟩, rfl, ⟨[], by simp⟩, fun z => by cases z⟩⟩⟩
    · show upd c.H a _ b = some o
      rw [upd_ne]
      · exact e
      · rintro rfl
        rw [h1] at n
        cases n
    · have e : upd c.H a _ b = none := e
      by_cases z : b = a
      · subst z
        rw [upd_same] at e
        cases e
      · rw [upd_ne z] at e
        exact e
/-- the items' trees under a change of the list's own object -/
theorem TRs.under {F H : Hp} {ω : Tags} {q : List Nat} {a : Addr} {o : HO} (ha : ω a = some q) : ∀ {us : List V} {ts : List T} {i : Nat}, TRs K F H ω q i us ts → TRs K F (upd H a o) ω q i us ts := by
  intro us
  induction us with
  | nil => intro ts i h; cases h; exact .nil
  | cons u us ih =>
    intro ts i h
    cases h with
    | cons h1 h2 =>
      refine .cons (h1.move (Same.refl _) fun b r u h3 h4 => ⟨?_, h3⟩) (ih h2)
      rw [upd_ne]
      · exact h4
      · rintro rfl
        rw [ha] at h3
        injection h3 with h3
        have := congrArg List.length h3
        simp at this
        omega
theorem TRs.append {F H : Hp} {ω : Tags} {q : List Nat} : ∀ {us ws : List V} {ts rs : List T} {i : Nat}, TRs K F H ω q i us ts → TRs K F H ω q (i + ts.length) ws rs → TRs K F H ω q i (us ++ ws) (ts ++ rs)
  | _, _, _, _, _, .nil, h => by simpa using h
  | _, _, _, _, i, .cons h1 h2, h => by
    refine .cons h1 (TRs.append h2 ?_)
    rw [show i + 1 + _ = i + _ from by rw [Nat.add_assoc, Nat.add_comm 1]]
    exact h
theorem TRs.take {F H : Hp} {ω : Tags} {q : List Nat} : ∀ {us : List V} {ts : List T} {i : Nat} (n : Nat), TRs K F H ω q i us ts → TRs K F H ω q i (us.take n) (ts.take n)
  | _, _, _, 0, _ => .nil
  | _, _, _, _ + 1, .nil => .nil
  | _, _, _, n + 1, .cons h1 h2 => .cons h1 (TRs.take n h2)
/-! ### stores, temporaries dropped -/
theorem Stt.set_d (S : Stt K c Γ) {i : Nat} {v : V} {x : D} (hi : i < c.σ.length) (h : RD K c.F v x) : Stt K { c with σ := c.σ.set i (some v) } (Γ.set i (some (.d x))) ∧ Ext c { c with σ := c.σ.set i (some v) } := by
  refine ⟨⟨S.sub, S.own, by simp [S.len], fun j t e => ?_⟩, ⟨Same.refl _, fun _ _ h h' => ⟨h, h'⟩, fun _ _ h => .inl h, fun _ h => h⟩⟩
  by_cases hj : j = i
  · subst hj
    rw [List.getElem?_set_self (by rw [S.len]; omega)] at e
    injection e with e
    injection e with e
    subst e
    refine ⟨v, ?_, .d h⟩
    show (c.σ.set j (some v) ++ _)[j]? = _
    rw [List.getElem?_append_left (by simpa using hi), List.getElem?_set_self hi]
  · rw [List.getElem?_set_ne (Ne.symm hj)] at e
    obtain ⟨w, h1, h2⟩ := S.at_ j t e
    refine ⟨w, ?_, h2⟩
    show (c.σ.set i (some v) ++ c.τ.map some)[j]? = _
    rw [← List.set_append_left (h := hi), List.getElem?_set_ne (Ne.symm hj)]
    exact h1
/-- a temporary's tree moves into a slot -/
def Cf.moved (c : Cf) (j i : Nat) (v : V) : Cf := { c with ω := fun a => if tagged c.ω j a = true then (c.ω a).map (fun q => q.dropLast ++ [i]) else c.ω a, σ := c.σ.set i (some v) }
theorem Stt.set_p (S : Stt K c Γ) {i j : Nat} {v : V} {t : T} (hi : i < c.σ.length) (hj : c.σ.length ≤ j) (h : Γ[j]? = some (some t)) (hv : c.vs[j]? = some (some v)) :
    Stt K (c.moved j i v) ((Γ.set j none).set i (some t)) ∧ Ext c (c.moved j i v) := by
  have ow : ∀ a, (c.moved j i v).ω a = if tagged c.ω j a = true then (c.ω a).map (fun q => q.dropLast ++ [i]) else c.ω a := fun _ => rfl
  refine ⟨⟨S.sub, fun a q e => ?_, by simp [S.len, Cf.moved], fun k u e => ?_⟩, ⟨Same.refl _, fun a o e n => ⟨e, ?_⟩, fun a o e => .inl e, fun a e => e⟩⟩
  · rw [ow] at e
    split at e
    · cases e' : c.ω a with
      | none =>
        rw [e'] at e
        cases e
      | some q' => exact S.own a q' e'
    · exact S.own a q e
  · by_cases hk : k = i
    · subst hk
      rw [List.getElem?_set_self (by rw [List.length_set, S.len]; omega)] at e
      injection e with e
      injection e with e
      subst e
      refine ⟨v, ?_, ?_⟩
      · show (c.σ.set k (some v) ++ _)[k]? = _
        rw [List.getElem?_append_left (by simpa using hi), List.getElem?_set_self hi]
      · obtain ⟨w, h1, h2⟩ := S.at_ _ _ h
        rw [hv] at h1
        cases h1
        refine h2.move (Same.refl _) fun a r o h3 h4 => ⟨h4, ?_⟩
        rw [ow, if_pos (tagged_of h3), h3]
        simp
    · rw [List.getElem?_set_ne (Ne.symm hk)] at e
      have hkj : k ≠ j := by
        rintro rfl
        rw [List.getElem?_set_self (List.getElem?_eq_some_iff.mp h).1] at e
        cases e
      rw [List.getElem?_set_ne (Ne.symm hkj)] at e
      obtain ⟨w, h1, h2⟩ := S.at_ k u e
      refine ⟨w, ?_, h2.move (Same.refl _) fun a r o h3 h4 => ⟨h4, ?_⟩⟩
      · show (c.σ.set i (some v) ++ c.τ.map some)[k]? = _
        rw [← List.set_append_left (h := hi), List.getElem?_set_ne (Ne.symm hk)]
        exact h1
      · rw [ow, if_neg (by rw [tagged_ne h3 hkj]; decide)]
        exact h3
  · rw [ow, if_neg (by rw [tagged_none n]; decide)]
    exact n
def Cf.drop (c : Cf) : Cf := { c with τ := [] }
theorem Stt.drop (S : Stt K c Γ) : Stt K c.drop (Γ.take c.σ.length) ∧ Ext c c.drop := by
  refine ⟨⟨S.sub, S.own, ?_, fun i t e => ?_⟩, ⟨Same.refl _, fun _ _ h h' => ⟨h, h'⟩, fun _ _ h => .inl h, fun _ h => h⟩⟩
  · rw [List.length_take, S.len]
    show min _ _ = c.σ.length + 0
    omega
  · have hi : i < c.σ.length := by
      have := (List.getElem?_eq_some_iff.mp e).1
      rw [List.length_take] at this
      omega
    rw [List.getElem?_take_of_lt hi] at e
    obtain ⟨v, h1, h2⟩ := S.at_ i t e
    refine ⟨v, ?_, h2⟩
    show (c.σ ++ ([] : List V).map some)[i]? = _
    unfold Cf.vs at h1
    rw [List.getElem?_append_left hi] at h1
    simpa using h1
/-- trees forgotten -/
theorem Stt.weak (S : Stt K c Γ) {Γ' : Env} (hl : Γ'.length = Γ.length) (h : ∀ (i : Nat) (t : T), Γ'[i]? = some (some t) → Γ[i]? = some (some t)) : Stt K c Γ' := ⟨S.sub, S.own, hl.trans S.len, fun i t e => S.at_ i t (h i t e)⟩
end Mv
set_option Elab.async false
set_option linter.all false
set_option maxRecDepth 100000
namespace Mv
open PySem PySem.Spec PyProof.Rows L2
/-! ### the static context -/
structure Cs where
  P : Program
  w : World
  K : PySem.W.Frag
  mg : Str → Option Value
  base : Heap
  N : List Str
  sc : Scope
  fn : Str → Bool
  lk : Nat → Bool
  k : Nat
structure Cs.In (S : Cs) (X : Cx) : Prop where
  prog : X.prog = S.P
  w : X.w = S.w
  K : X.K = S.K
  mg : X.mg = S.mg
  base : X.base = S.base
  N : X.N = S.N
  sc : X.env.scope = S.sc
  calm : X.calm = true
  room : Room S.k X.A
  fn : ∀ x, S.fn x = true → X.fn x = true
  nd : S.N.Nodup
  xe : X.xe = fun _ _ => False
abbrev TD := Env → (Env → RV → Prop) → Prop
abbrev TTD := Env → (Env → Bool → Prop) → Prop
abbrev TAD := Env → (Env → List RV → Prop) → Prop
inductive VRs (K : PySem.W.Frag) (c : Cf) : List RV → List V → Prop
  | nil : VRs K c [] []
  | cons {r : RV} {v : V} {rs : List RV} {vs : List V} : VR K c r v → VRs K c rs vs → VRs K c (r :: rs) (v :: vs)
theorem VRs.map {K : PySem.W.Frag} {c c' : Cf} (f : ∀ r v, VR K c r v → VR K c' r v) : ∀ {rs : List RV} {vs : List V}, VRs K c rs vs → VRs K c' rs vs
  | _, _, .nil => .nil
  | _, _, .cons h t => .cons (f _ _ h) (VRs.map f t)
def LE (K : PySem.W.Frag) (n : Nat) (m : Bool) (te : TE) (t : TD) : Prop := ∀ (c : Cf) (Γ : Env) (Ψ : Env → RV → Prop) (Q : VK), c.σ.length = n → Stt K c Γ → t Γ Ψ →
  (∀ v c' Γ' r, ExtE m c c' → Stt K c' Γ' → VR K c' r v → Ψ Γ' r → Q v c'.H) → te c.σ c.H Q
def LT (K : PySem.W.Frag) (n : Nat) (m : Bool) (te : TT) (t : TTD) : Prop := ∀ (c : Cf) (Γ : Env) (Ψ : Env → Bool → Prop) (Q : Bool → Hp → Prop), c.σ.length = n → Stt K c Γ → t Γ Ψ →
  (∀ b c' Γ', ExtE m c c' → Stt K c' Γ' → Ψ Γ' b → Q b c'.H) → te c.σ c.H Q
def LA (K : PySem.W.Frag) (n : Nat) (m : Bool) (te : TA) (t : TAD) : Prop := ∀ (c : Cf) (Γ : Env) (Ψ : Env → List RV → Prop) (Q : List V → Hp → Prop), c.σ.length = n → Stt K c Γ → t Γ Ψ →
  (∀ vs c' Γ' rs, ExtE m c c' → Stt K c' Γ' → VRs K c' rs vs → Ψ Γ' rs → Q vs c'.H) → te c.σ c.H Q
structure PD (S : Cs) (m : Bool) (e : Expr) (t : TD) : Prop where
  ex : ∃ te, (∀ X, S.In X → PE X e te) ∧ LE S.K S.N.length m te t
structure PTD (S : Cs) (m : Bool) (e : Expr) (t : TTD) : Prop where
  ex : ∃ te, (∀ X, S.In X → PT X e te) ∧ LT S.K S.N.length m te t
structure PWD (S : Cs) (m : Bool) (e : Expr) (t : TTD) : Prop where
  ex : ∃ te, (∀ X, S.In X → PW X e te) ∧ LT S.K S.N.length m te t
structure PAD (S : Cs) (m : Bool) (es : List Expr) (t : TAD) : Prop where
  ex : ∃ te, (∀ X, S.In X → PA X es te) ∧ LA S.K S.N.length m te t
section
variable {S : Cs} {pos : Pos} {m ma mb mc : Bool} {a b e : Expr} {es : List Expr}
theorem PWD.pt {t : TTD} (h : PWD S m e t) : PTD S m e t := by
  obtain ⟨te, h1, h2⟩ := h.ex
  exact ⟨te, fun X hX => (h1 X hX).pt, h2⟩
/-! ### names, constants -/
def rvT (q : List Nat) : T → RV
  | .d x => .d x
  | _ => .p q
def tName (i : Nat) : TD := fun Γ Ψ => match Γ[i]? with
  | some (some t) => Ψ Γ (rvT [i] t)
  | _ => False
theorem Stt.slotV {K : PySem.W.Frag} {c : Cf} {Γ : Env} (st : Stt K c Γ) {i : Nat} {t : T} (h : Γ[i]? = some (some t)) : ∃ v, c.vs[i]? = some (some v) ∧ VR K c (rvT [i] t) v := by
  obtain ⟨v, h1, h2⟩ := st.at_ i t h
  refine ⟨v, h1, ?_⟩
  cases h2 with
  | d h2 => exact h2
  | li _ _ _ => exact Loc.slot h1
  | ob _ _ _ _ => exact Loc.slot h1
theorem pd_name (i : Nat) {x : Str} (hN : S.N[i]? = some x := by rfl) (hv : Vis S.sc x := by first | exact Or.inl rfl | exact Or.inr (Or.inl rfl) | exact Or.inr (Or.inr rfl)) (hd : (x == ("__debug__" : Str)) = false := by decide)
    (hcd : (x == ("__classdict__" : Str)) = false := by decide) : PD S false (.Name x pos) (tName i) := by
  refine ⟨tVar i, fun X hX => pe_var (by rw [hX.N]; exact hN) (by rw [hX.sc]; exact hv) hd hcd, fun c Γ Ψ Q hn st h k => ?_⟩
  unfold tName at h
  split at h
  · rename_i t e
    obtain ⟨v, h1, h2⟩ := st.slotV e
    refine ⟨v, ?_, k v c Γ _ (ExtE.refl _ _) st h2 h⟩
    have hi : i < c.σ.length := by rw [hn]; exact (List.getElem?_eq_some_iff.mp hN).1
    unfold Cf.vs at h1
    rwa [List.getElem?_append_left hi] at h1
  · exact h.elim
def tCon (x : D) : TD := fun Γ Ψ => Ψ Γ (.d x)
theorem lit_ok {K : PySem.W.Frag} {n : Nat} {v : V} {x : D} (h : ∀ F, RD K F v x) : LE K n false (tC v) (tCon x) := fun c Γ Ψ Q hn st q k => k v c Γ (.d x) (ExtE.refl _ _) st (h c.F) q
theorem pd_int {i : Int} {j : Nat} : PD S false (.Constant (.int i) j pos) (tCon (.int i)) := ⟨_, fun _ _ => pe_int, lit_ok fun _ => .int _⟩
theorem pd_bl {b : Bool} {j : Nat} : PD S false (.Constant (.bool b) j pos) (tCon (.bl b)) := ⟨_, fun _ _ => pe_bl, lit_ok fun _ => .bl _⟩
theorem pd_non {j : Nat} : PD S false (.Constant .none j pos) (tCon .non) := ⟨_, fun _ _ => pe_non, lit_ok fun _ => .non⟩
theorem pd_str {x : Str} {j : Nat} : PD S false (.Constant (.str x) j pos) (tCon (.str x)) := ⟨_, fun _ _ => pe_str, lit_ok fun _ => .str _⟩
/-- a global constant of the module -/
theorem pd_glob {x : Str} {v : V} {u : Value} {y : D} (hg : S.sc.names.lookup x = some .globalImplicit) (hm : S.mg x = some u) (r : RelV v u) (h : ∀ F, RD S.K F v y) (hd : (x == ("__debug__" : Str)) = false := by decide) : PD S false (.Name x pos) (tCon y) :=
  ⟨_, fun X hX => pe_glob (by show X.env.scope.names.lookup x = _; rw [hX.sc]; exact hg) (by rw [hX.mg]; exact hm) r hd, lit_ok h⟩
/-! ### two operands -/
def tBin (mb : Bool) (f : Env → RV → RV → (Env → RV → Prop) → Prop) (ta tb : TD) : TD := fun Γ Ψ => ta Γ fun Γ1 r => tb Γ1 fun Γ2 s => stab r mb = true ∧ f Γ2 r s Ψ
def tUnD (f : Env → RV → (Env → RV → Prop) → Prop) (ta : TD) : TD := fun Γ Ψ => ta Γ fun Γ1 r => f Γ1 r Ψ
abbrev F2 := Env → RV → RV → (Env → RV → Prop) → Prop
abbrev F1 := Env → RV → (Env → RV → Prop) → Prop
def OpD (K : PySem.W.Frag) (r : R2) (f : F2) : Prop := ∀ (c : Cf) (Γ : Env) (a b : RV) (x y : V) (Ψ : Env → RV → Prop) (Q : VK), Stt K c Γ → VR K c a x → VR K c b y → f Γ a b Ψ →
  (∀ v c' Γ' r', ExtE false c c' → Stt K c' Γ' → VR K c' r' v → Ψ Γ' r' → Q v c'.H) → r x y c.H Q
def UnD (K : PySem.W.Frag) (r : V → Hp → VK → Prop) (f : F1) : Prop := ∀ (c : Cf) (Γ : Env) (a : RV) (x : V) (Ψ : Env → RV → Prop) (Q : VK), Stt K c Γ → VR K c a x → f Γ a Ψ →
  (∀ v c' Γ' r', ExtE false c c' → Stt K c' Γ' → VR K c' r' v → Ψ Γ' r' → Q v c'.H) → r x c.H Q
theorem le_op {K : PySem.W.Frag} {n : Nat} {r : R2} {f : F2} {ta tb : TE} {da db : TD} (hd : OpD K r f) (ha : LE K n ma ta da) (hb : LE K n mb tb db) : LE K n (ma || mb) (tOp r ta tb) (tBin mb f da db) := by
  intro c Γ Ψ Q hn st h k
  refine ha c Γ _ _ hn st h fun x c1 Γ1 r1 e1 st1 v1 h1 => ?_
  rw [show c.σ = c1.σ from e1.s.symm]
  refine hb c1 Γ1 _ _ (by rw [e1.s]; exact hn) st1 h1 fun y c2 Γ2 r2 e2 st2 v2 h2 => ?_
  obtain ⟨hs, h2⟩ := h2
  refine hd c2 Γ2 r1 r2 x y Ψ Q st2 (v1.keep e2 hs) v2 h2 fun v c3 Γ3 r3 e3 st3 v3 h3 => ?_
  exact k v c3 Γ3 r3 (((e1.trans e2).trans e3).le fun z => by simpa using z) st3 v3 h3
theorem le_un {K : PySem.W.Frag} {n : Nat} {r : V → Hp → VK → Prop} {f : F1} {ta : TE} {da : TD} (hd : UnD K r f) (ha : LE K n ma ta da) : LE K n ma (tUn r ta) (tUnD f da) := by
  intro c Γ Ψ Q hn st h k
  refine ha c Γ _ _ hn st h fun x c1 Γ1 r1 e1 st1 v1 h1 => ?_
  refine hd c1 Γ1 r1 x Ψ Q st1 v1 h1 fun v c3 Γ3 r3 e3 st3 v3 h3 => ?_
  exact k v c3 Γ3 r3 ((e1.trans e3).le fun z => by simpa using z) st3 v3 h3
theorem pd_op {op : Operator} {r : R2} {f : F2} {ta tb : TD} (ho : ∀ X, S.In X → OpR X (binaryOp op) r) (hd : OpD S.K r f) (ha : PD S ma a ta) (hb : PD S mb b tb) : PD S (ma || mb) (.BinOp a op b pos) (tBin mb f ta tb) := by
  obtain ⟨ua, a1, a2⟩ := ha.ex
  obtain ⟨ub, b1, b2⟩ := hb.ex
  exact ⟨_, fun X hX => pe_op (ho X hX) (a1 X hX) (b1 X hX), le_op hd a2 b2⟩
theorem pd_un {op : UnaryOp} {r : V → Hp → VK → Prop} {f : F1} {ta : TD} (ho : ∀ X, S.In X → UnR X (unaryOp op) r) (hd : UnD S.K r f) (ha : PD S ma a ta) : PD S ma (.UnaryOp op a pos) (tUnD f ta) := by
  obtain ⟨ua, a1, a2⟩ := ha.ex
  exact ⟨_, fun X hX => pe_un (ho X hX) (a1 X hX), le_un hd a2⟩
/-- a comparison: as a value and as a test -/
structure PCD (S : Cs) (m : Bool) (op : CmpOp) (a b : Expr) (t : TD) : Prop where
  ex : ∃ te, (∀ X pos, S.In X → PE X (.Compare a [op] [b] pos) te ∧ PT X (.Compare a [op] [b] pos) (tTest te)) ∧ LE S.K S.N.length m te t
theorem pd_cmp {op : CmpOp} {r : R2} {f : F2} {ta tb : TD} (ho : ∀ X, S.In X → OpR X (compareOp op) r) (hd : OpD S.K r f) (ha : PD S ma a ta) (hb : PD S mb b tb) (hm : behindInMarks op b = false) : PCD S (ma || mb) op a b (tBin mb f ta tb) := by
  obtain ⟨ua, a1, a2⟩ := ha.ex
  obtain ⟨ub, b1, b2⟩ := hb.ex
  exact ⟨_, fun X pos hX => ⟨pe_cmpR (ho X hX) (a1 X hX) (b1 X hX) hm, pt_cmpR (ho X hX) (a1 X hX) (b1 X hX) hm⟩, le_op hd a2 b2⟩
theorem pd_c {op : CmpOp} {t : TD} (h : PCD S m op a b t) : PD S m (.Compare a [op] [b] pos) t := by
  obtain ⟨u, h1, h2⟩ := h.ex
  exact ⟨u, fun X hX => (h1 X pos hX).1, h2⟩
def tTst (t : TD) : TTD := fun Γ Ψ => t Γ fun Γ1 r => match r with
  | .d (.bl k) => Ψ Γ1 k
  | _ => False
theorem pt_c {op : CmpOp} {t : TD} (h : PCD S m op a b t) : PTD S m (.Compare a [op] [b] pos) (tTst t) := by
  obtain ⟨u, h1, h2⟩ := h.ex
  refine ⟨_, fun X hX => (h1 X pos hX).2, fun c Γ Ψ Q hn st h k => ?_⟩
  refine h2 c Γ _ _ hn st h fun v c1 Γ1 r e1 st1 v1 q1 => ?_
  split at q1
  · rename_i kk
    cases v1
    exact ⟨kk, rfl, k kk c1 Γ1 e1 st1 q1⟩
  · exact q1.elim
/-! ### tests -/
def truD : Env → RV → Option Bool := fun Γ r => match vw Γ r with
  | some .non => some false
  | some (.bl b) => some b
  | some (.int i) => some (i != 0)
  | some (.lst xs) => some (!xs.isEmpty)
  | some (.sq xs) => some (!xs.isEmpty)
  | some (.tup xs) => some (!xs.isEmpty)
  | _ => none
def tTru (t : TD) : TTD := fun Γ Ψ => t Γ fun Γ1 r => match truD Γ1 r with | some b => Ψ Γ1 b | none => False
theorem tru_v {K : PySem.W.Frag} {c : Cf} {Γ : Env} {r : RV} {v : V} {k : Bool} (st : Stt K c Γ) (h : VR K c r v) (e : truD Γ r = some k) : TruV K v c.H k := by
  unfold truD at e
  have isE : ∀ {us : List V} {xs : List D}, RDs K c.F us xs → (!xs.isEmpty) = (!us.isEmpty) := fun {us xs} h => by cases h <;> rfl
  split at e
  · rename_i hx
    have := (st.vd h hx).rd (by intro _ z; cases z)
    cases this
    cases e
    rfl
  · rename_i hx
    cases (st.vd h hx).bl
    cases e
    rfl
  · rename_i hx
    cases (st.vd h hx).int
    cases e
    rfl
  · rename_i hx
    obtain ⟨a, us, rfl, h1, h2⟩ := (st.vd h hx).lst st
    cases e
    exact .inl ⟨us, .of h1, isE h2⟩
  · rename_i hx
    obtain ⟨a, us, rfl, h1, h2⟩ := (st.vd h hx).sq st
    cases e
    exact .inl ⟨us, h1, isE h2⟩
  · rename_i hx
    obtain ⟨a, us, rfl, h1, h2⟩ := (st.vd h hx).tup st
    cases e
    exact .inr (.inl ⟨us, h1, isE h2⟩)
  · cases e
/-- any expression as a test -/
theorem pt_tru {t : TD} (h : PD S m e t) (he : ∀ (X : Cx) whole, isTrue e X.env whole = (do let v ← whole; standAt e.pos; holding [v] (truthy v)) := by intro _ _; rfl) : PTD S m e (tTru t) := by
  obtain ⟨ua, a1, a2⟩ := h.ex
  refine ⟨fun σ H Q => ua σ H fun x H' => ∃ k, TruV S.K x H' k ∧ Q k H', fun X hX => ?_, fun c Γ Ψ Q hn st h k => ?_⟩
  · have h1 := pt_truth (a1 X hX) (he X)
    rw [hX.K] at h1
    exact h1
  refine a2 c Γ _ _ hn st h fun v c1 Γ1 r e1 st1 v1 h1 => ?_
  split at h1
  · rename_i b hb
    refine ⟨b, ?_, k b c1 Γ1 e1 st1 h1⟩
    exact tru_v st1 v1 hb
  · exact h1.elim
def tAndD (t u : TTD) : TTD := fun Γ Ψ => t Γ fun Γ1 b => if b = true then u Γ1 Ψ else Ψ Γ1 false
def tOrD (t u : TTD) : TTD := fun Γ Ψ => t Γ fun Γ1 b => if b = true then Ψ Γ1 true else u Γ1 Ψ
def tNotD (t : TTD) : TTD := fun Γ Ψ => t Γ fun Γ1 b => Ψ Γ1 (!b)
theorem pw_andD1 {t : TTD} (h : PTD S m a t) : PWD S m (.BoolOp .And [a] pos) t := by
  obtain ⟨ua, a1, a2⟩ := h.ex
  exact ⟨_, fun X hX => pw_and1 (a1 X hX), a2⟩
theorem pw_orD1 {t : TTD} (h : PTD S m a t) : PWD S m (.BoolOp .Or [a] pos) t := by
  obtain ⟨ua, a1, a2⟩ := h.ex
  exact ⟨_, fun X hX => pw_or1 (a1 X hX), a2⟩
theorem pw_andD {t u : TTD} (h : PTD S ma a t) (h' : PWD S mb (.BoolOp .And (b :: es) pos) u) : PWD S (ma || mb) (.BoolOp .And (a :: b :: es) pos) (tAndD t u) := by
  obtain ⟨ua, a1, a2⟩ := h.ex
  obtain ⟨ub, b1, b2⟩ := h'.ex
  refine ⟨_, fun X hX => pw_and (a1 X hX) (b1 X hX), fun c Γ Ψ Q hn st h k => ?_⟩
  refine a2 c Γ _ _ hn st h fun b c1 Γ1 e1 st1 h1 => ?_
  cases b with
  | true =>
    rw [if_pos rfl] at h1 ⊢
    rw [show c.σ = c1.σ from e1.s.symm]
    exact b2 c1 Γ1 _ _ (by rw [e1.s]; exact hn) st1 h1 fun b c2 Γ2 e2 st2 h2 => k b c2 Γ2 (e1.trans e2) st2 h2
  | false =>
    rw [if_neg Bool.false_ne_true] at h1 ⊢
    exact k false c1 Γ1 (e1.le fun z => by simp at z; exact z.1) st1 h1
theorem pw_orD {t u : TTD} (h : PTD S ma a t) (h' : PWD S mb (.BoolOp .Or (b :: es) pos) u) : PWD S (ma || mb) (.BoolOp .Or (a :: b :: es) pos) (tOrD t u) := by
  obtain ⟨ua, a1, a2⟩ := h.ex
  obtain ⟨ub, b1, b2⟩ := h'.ex
  refine ⟨_, fun X hX => pw_or (a1 X hX) (b1 X hX), fun c Γ Ψ Q hn st h k => ?_⟩
  refine a2 c Γ _ _ hn st h fun b c1 Γ1 e1 st1 h1 => ?_
  cases b with
  | false =>
    rw [if_neg Bool.false_ne_true] at h1 ⊢
    rw [show c.σ = c1.σ from e1.s.symm]
    exact b2 c1 Γ1 _ _ (by rw [e1.s]; exact hn) st1 h1 fun b c2 Γ2 e2 st2 h2 => k b c2 Γ2 (e1.trans e2) st2 h2
  | true =>
    rw [if_pos rfl] at h1 ⊢
    exact k true c1 Γ1 (e1.le fun z => by simp at z; exact z.1) st1 h1
theorem pt_notD {t : TTD} (h : PTD S m a t) : PTD S m (.UnaryOp .Not a pos) (tNotD t) := by
  obtain ⟨ua, a1, a2⟩ := h.ex
  refine ⟨_, fun X hX => pt_not (a1 X hX), fun c Γ Ψ Q hn st h k => ?_⟩
  exact a2 c Γ _ _ hn st h fun b c1 Γ1 e1 st1 h1 => k (!b) c1 Γ1 e1 st1 h1
/-- and, or, not as values: bools but the last -/
def tAndVD (ta tb : TD) : TD := fun Γ Ψ => ta Γ fun Γ1 r => match vw Γ1 r with
  | some (.bl c) => if c = true then tb Γ1 Ψ else Ψ Γ1 (.d (.bl false))
  | _ => False
def tOrVD (ta tb : TD) : TD := fun Γ Ψ => ta Γ fun Γ1 r => match vw Γ1 r with
  | some (.bl c) => if c = true then Ψ Γ1 (.d (.bl true)) else tb Γ1 Ψ
  | _ => False
def tNotVD (ta : TD) : TD := fun Γ Ψ => ta Γ fun Γ1 r => match vw Γ1 r with
  | some (.bl c) => Ψ Γ1 (.d (.bl (!c)))
  | _ => False
theorem pd_one {op : BoolOp} {t : TD} (h : PD S m a t) : PD S m (.BoolOp op [a] pos) t := by
  obtain ⟨ua, a1, a2⟩ := h.ex
  exact ⟨_, fun X hX => pe_one (a1 X hX), a2⟩
theorem pd_and {t u : TD} (h : PD S ma a t) (h' : PD S mb (.BoolOp .And (b :: es) pos) u) : PD S (ma || mb) (.BoolOp .And (a :: b :: es) pos) (tAndVD t u) := by
  obtain ⟨ua, a1, a2⟩ := h.ex
  obtain ⟨ub, b1, b2⟩ := h'.ex
  refine ⟨_, fun X hX => pe_and (a1 X hX) (b1 X hX), fun c Γ Ψ Q hn st h k => ?_⟩
  refine a2 c Γ _ _ hn st h fun v c1 Γ1 r e1 st1 v1 h1 => ?_
  split at h1
  · rename_i k' hk
    cases (st1.vd v1 hk).bl
    refine ⟨k', rfl, ?_⟩
    cases k' with
    | true =>
      rw [if_pos rfl] at h1 ⊢
      rw [show c.σ = c1.σ from e1.s.symm]
      exact b2 c1 Γ1 _ _ (by rw [e1.s]; exact hn) st1 h1 fun v c2 Γ2 r e2 st2 v2 h2 => k v c2 Γ2 r (e1.trans e2) st2 v2 h2
    | false =>
      rw [if_neg Bool.false_ne_true] at h1 ⊢
      exact k _ c1 Γ1 (.d _) (e1.le fun z => by simp at z; exact z.1) st1 (RD.bl false) h1
  · exact h1.elim
theorem pd_or {t u : TD} (h : PD S ma a t) (h' : PD S mb (.BoolOp .Or (b :: es) pos) u) : PD S (ma || mb) (.BoolOp .Or (a :: b :: es) pos) (tOrVD t u) := by
  obtain ⟨ua, a1, a2⟩ := h.ex
  obtain ⟨ub, b1, b2⟩ := h'.ex
  refine ⟨_, fun X hX => pe_or (a1 X hX) (b1 X hX), fun c Γ Ψ Q hn st h k => ?_⟩
  refine a2 c Γ _ _ hn st h fun v c1 Γ1 r e1 st1 v1 h1 => ?_
  split at h1
  · rename_i k' hk
    cases (st1.vd v1 hk).bl
    refine ⟨k', rfl, ?_⟩
    cases k' with
    | false =>
      rw [if_neg Bool.false_ne_true] at h1 ⊢
      rw [show c.σ = c1.σ from e1.s.symm]
      exact b2 c1 Γ1 _ _ (by rw [e1.s]; exact hn) st1 h1 fun v c2 Γ2 r e2 st2 v2 h2 => k v c2 Γ2 r (e1.trans e2) st2 v2 h2
    | true =>
      rw [if_pos rfl] at h1 ⊢
      exact k _ c1 Γ1 (.d _) (e1.le fun z => by simp at z; exact z.1) st1 (RD.bl true) h1
  · exact h1.elim
theorem pd_not {t : TD} (h : PD S m a t) : PD S m (.UnaryOp .Not a pos) (tNotVD t) := by
  obtain ⟨ua, a1, a2⟩ := h.ex
  refine ⟨_, fun X hX => pe_not (a1 X hX), fun c Γ Ψ Q hn st h k => ?_⟩
  refine a2 c Γ _ _ hn st h fun v c1 Γ1 r e1 st1 v1 h1 => ?_
  split at h1
  · rename_i k' hk
    cases (st1.vd v1 hk).bl
    exact ⟨k', rfl, k _ c1 Γ1 (.d _) e1 st1 (RD.bl _) h1⟩
  · exact h1.elim
def tIfD (t : TTD) (ta tb : TD) : TD := fun Γ Ψ => t Γ fun Γ1 b => if b = true then ta Γ1 Ψ else tb Γ1 Ψ
theorem pd_ifExp {cnd : Expr} {t : TTD} {ta tb : TD} (hc : PTD S mc cnd t) (ha : PD S ma a ta) (hb : PD S mb b tb) : PD S (mc || (ma || mb)) (.IfExp cnd a b pos) (tIfD t ta tb) := by
  obtain ⟨uc, c1, c2⟩ := hc.ex
  obtain ⟨ua, a1, a2⟩ := ha.ex
  obtain ⟨ub, b1, b2⟩ := hb.ex
  refine ⟨_, fun X hX => pe_ifExp (c1 X hX) (a1 X hX) (b1 X hX), fun c Γ Ψ Q hn st h k => ?_⟩
  refine c2 c Γ _ _ hn st h fun b c1 Γ1 e1 st1 h1 => ?_
  rw [show c.σ = c1.σ from e1.s.symm]
  cases b with
  | true =>
    rw [if_pos rfl] at h1 ⊢
    exact a2 c1 Γ1 _ _ (by rw [e1.s]; exact hn) st1 h1 fun v c2 Γ2 r e2 st2 v2 h2 => k v c2 Γ2 r ((e1.trans e2).le fun z => by simp at z ⊢; exact ⟨z.1, z.2.1⟩) st2 v2 h2
  | false =>
    rw [if_neg Bool.false_ne_true] at h1 ⊢
    exact b2 c1 Γ1 _ _ (by rw [e1.s]; exact hn) st1 h1 fun v c2 Γ2 r e2 st2 v2 h2 => k v c2 Γ2 r ((e1.trans e2).le fun z => by simp at z ⊢; exact ⟨z.1, z.2.2⟩) st2 v2 h2
/-! ### arguments -/
def tANil : TAD := fun Γ Ψ => Ψ Γ []
def tACons (mr : Bool) (t : TD) (u : TAD) : TAD := fun Γ Ψ => t Γ fun Γ1 r => u Γ1 fun Γ2 rs => stab r mr = true ∧ Ψ Γ2 (r :: rs)
theorem pa_nilD : PAD S false [] tANil := ⟨_, fun _ _ => pa_nil, fun c Γ Ψ Q hn st h k => k [] c Γ [] (ExtE.refl _ _) st .nil h⟩
theorem pa_consD {t : TD} {u : TAD} (h : PD S ma e t) (h' : PAD S mb es u) (hs : ∀ env, starEach (e :: es) env = (false, eval e env) :: starEach es env := by intro _; rfl) : PAD S (ma || mb) (e :: es) (tACons mb t u) := by
  obtain ⟨ua, a1, a2⟩ := h.ex
  obtain ⟨ub, b1, b2⟩ := h'.ex
  refine ⟨_, fun X hX => pa_cons (a1 X hX) (b1 X hX) (hs _), fun c Γ Ψ Q hn st h k => ?_⟩
  refine a2 c Γ _ _ hn st h fun v c1 Γ1 r e1 st1 v1 h1 => ?_
  rw [show c.σ = c1.σ from e1.s.symm]
  refine b2 c1 Γ1 _ _ (by rw [e1.s]; exact hn) st1 h1 fun vs c2 Γ2 rs e2 st2 v2 h2 => ?_
  exact k (v :: vs) c2 Γ2 (r :: rs) (e1.trans e2) st2 (.cons (v1.keep e2 h2.1) v2) h2.2
/-! ### data is asked for: what is owned is frozen -/
def asD (Γ : Env) : RV → (Env → D → Prop) → Prop
  | .d x, k => k Γ x
  | .p [i], k => match Γ[i]? with | some (some t) => k (Γ.set i (some (.d (fz t)))) (fz t) | _ => False
  | .p _, _ => False
theorem asD_ok {K : PySem.W.Frag} {c : Cf} {Γ : Env} {r : RV} {v : V} {k : Env → D → Prop} (st : Stt K c Γ) (h : VR K c r v) (q : asD Γ r k) :
    ∃ c' Γ' x, ExtE false c c' ∧ Stt K c' Γ' ∧ RD K c'.F v x ∧ k Γ' x ∧ c'.H = c.H ∧ c'.τ = c.τ ∧ ∀ r' v', VR K c r' v' → VR K c' r' v' := by
  unfold asD at q
  split at q
  · exact ⟨c, Γ, _, ExtE.refl _ _, st, h, q, rfl, rfl, fun _ _ z => z⟩
  · rename_i i
    split at q
    · rename_i t e
      obtain ⟨st', x⟩ := st.frz e
      refine ⟨c.frz i, _, _, x, st', ?_, q, rfl, rfl, fun r' v' z => z.frz st⟩
      obtain ⟨v', h1, h2⟩ := st'.at_ i (.d (fz t)) (by rw [List.getElem?_set_self (List.getElem?_eq_some_iff.mp e).1])
      cases h with
      | slot h =>
        rw [show (c.frz i).vs = c.vs from rfl, h] at h1
        cases h1
        cases h2 with
        | d h2 => exact h2
      | li h1 _ _ => exact absurd rfl h1.ne
      | ob h1 _ _ _ => exact absurd rfl h1.ne
    · exact q.elim
  · exact q.elim
def asDs (Γ : Env) : List RV → (Env → List D → Prop) → Prop
  | [], k => k Γ []
  | r :: rs, k => asD Γ r fun Γ1 x => asDs Γ1 rs fun Γ2 xs => k Γ2 (x :: xs)
theorem asDs_ok {K : PySem.W.Frag} : ∀ {rs : List RV} {vs : List V} {c : Cf} {Γ : Env} {k : Env → List D → Prop}, Stt K c Γ → VRs K c rs vs → asDs Γ rs k →
    ∃ c' Γ' xs, ExtE false c c' ∧ Stt K c' Γ' ∧ RDs K c'.F vs xs ∧ k Γ' xs ∧ c'.H = c.H ∧ c'.τ = c.τ
  | [], _, c, Γ, k, st, h, q => by
    cases h
    exact ⟨c, Γ, [], ExtE.refl _ _, st, .nil, q, rfl, rfl⟩
  | r :: rs, _, c, Γ, k, st, h, q => by
    cases h with
    | cons h1 h2 =>
      obtain ⟨c1, Γ1, x, e1, st1, d1, q1, eh, et, kp⟩ := asD_ok st h1 q
      have h2' := h2.map kp
      obtain ⟨c2, Γ2, xs, e2, st2, d2, q2, eh2, et2⟩ := asDs_ok st1 h2' q1
      exact ⟨c2, Γ2, x :: xs, (e1.trans e2).le fun z => by simpa using z, st2, .cons (d1.mono e2.f) d2, q2, eh2.trans eh, et2.trans et⟩
/-! ### displays -/
def tTupD (t : TAD) : TD := fun Γ Ψ => t Γ fun Γ1 rs => asDs Γ1 rs fun Γ2 xs => xs.length ≤ sizeLine ∧ Ψ Γ2 (.d (.tup xs))
def tLstD (t : TAD) : TD := fun Γ Ψ => t Γ fun Γ1 rs => asDs Γ1 rs fun Γ2 xs => xs.length ≤ sizeLine ∧ Ψ (Γ2 ++ [some (.li (xs.map .d))]) (.p [Γ2.length])
theorem pd_tup {x1 : Nat} {t : TAD} (h : PAD S m es t) : PD S m (.Tuple es x1 pos) (tTupD t) := by
  obtain ⟨ua, a1, a2⟩ := h.ex
  refine ⟨_, fun X hX => pe_tup (a1 X hX), fun c Γ Ψ Q hn st h k => ?_⟩
  refine a2 c Γ _ _ hn st h fun vs c1 Γ1 rs e1 st1 v1 h1 => ?_
  obtain ⟨c2, Γ2, xs, e2, st2, d2, ⟨hz, h2⟩, eh, et⟩ := asDs_ok st1 v1 h1
  refine ⟨by rw [d2.length]; exact hz, fun p hp => ?_⟩
  rw [← eh] at hp ⊢
  obtain ⟨st3, e3⟩ := st2.froz (o := .tup vs) hp
  refine k (.ref p) (c2.froz p (.tup vs)) Γ2 (.d _) (((e1.trans e2).trans e3).le fun z => by simpa using z) st3 (RD.tup (.of upd_same) (d2.mono e3.f)) h2
theorem pd_lst {t : TAD} (h : PAD S m es t) : PD S m (.List es pos) (tLstD t) := by
  obtain ⟨ua, a1, a2⟩ := h.ex
  refine ⟨_, fun X hX => pe_lst (a1 X hX), fun c Γ Ψ Q hn st h k => ?_⟩
  refine a2 c Γ _ _ hn st h fun vs c1 Γ1 rs e1 st1 v1 h1 => ?_
  obtain ⟨c2, Γ2, xs, e2, st2, d2, ⟨hz, h2⟩, eh, et⟩ := asDs_ok st1 v1 h1
  refine ⟨by rw [d2.length]; exact hz, fun p hp => ?_⟩
  rw [← eh] at hp ⊢
  obtain ⟨st3, e3, v3⟩ := st2.temp hp d2
  exact k (.ref p) _ _ _ (((e1.trans e2).trans e3).le fun z => by simpa using z) st3 v3 h2
end
end Mv
set_option Elab.async false
set_option linter.all false
set_option maxRecDepth 100000
namespace Mv
open PySem PySem.Spec PyProof.Rows L2
section
variable {K : PySem.W.Frag}
/-! ### whole numbers -/
def intF (C : Int → Int → Prop) (g : Int → Int → D) : F2 := fun Γ a b Ψ => match vw Γ a, vw Γ b with
  | some (.int i), some (.int j) => C i j ∧ Ψ Γ (.d (g i j))
  | _, _ => False
theorem opd_int {C : Int → Int → Prop} {g : Int → Int → V} {g' : Int → Int → D} (h : ∀ i j F, RD K F (g i j) (g' i j)) : OpD K (rI C g) (intF C g') := by
  intro c Γ a b x y Ψ Q st va vb q k
  unfold intF at q
  split at q
  · rename_i i j h1 h2
    cases (st.vd va h1).int
    cases (st.vd vb h2).int
    exact ⟨i, j, rfl, rfl, q.1, k _ c Γ (.d _) (ExtE.refl _ _) st (h i j _) q.2⟩
  · exact q.elim
theorem opd_int0 {g : Int → Int → V} {g' : Int → Int → D} (h : ∀ i j F, RD K F (g i j) (g' i j)) : OpD K (rI0 g) (intF (fun _ _ => True) g') := by
  intro c Γ a b x y Ψ Q st va vb q k
  unfold intF at q
  split at q
  · rename_i i j h1 h2
    cases (st.vd va h1).int
    cases (st.vd vb h2).int
    exact ⟨i, j, rfl, rfl, k _ c Γ (.d _) (ExtE.refl _ _) st (h i j _) q.2⟩
  · exact q.elim
abbrev CT : Int → Int → Prop := fun _ _ => True
/-! ### + -/
def addF : F2 := fun Γ a b Ψ => match vw Γ a, vw Γ b with
  | some (.int i), some (.int j) => Ψ Γ (.d (.int (i + j)))
  | some (.str i), some (.str j) => i.length + j.length ≤ sizeLine ∧ Ψ Γ (.d (.str (i ++ j)))
  | some (.tup i), some (.tup j) => i.length + j.length ≤ sizeLine ∧ Ψ Γ (.d (.tup (i ++ j)))
  | some (.lst i), some (.lst j) => i.length + j.length ≤ sizeLine ∧ Ψ (Γ ++ [some (.li ((i ++ j).map .d))]) (.p [Γ.length])
  | _, _ => False
def rAddAll (K : PySem.W.Frag) : R2 := fun x y H Q => rI0 (fun i j => .int (i + j)) x y H Q ∨ (fun x y H Q => (fun x y H Q => ∃ i j, x = V.str i ∧ y = V.str j ∧ i.length + j.length ≤ sizeLine ∧ Q (.str (i ++ j)) H) x y H Q ∨
  (fun x y H Q => rCatA K x y H Q ∨ rCat x y H Q) x y H Q) x y H Q
theorem op_addAll {X : Cx} : OpR X (binaryOp .Add) (rAddAll X.K) := op_add.or (op_add_str.or (op_catA.or op_cat))
theorem opd_add : OpD K (rAddAll K) addF := by
  intro c Γ a b x y Ψ Q st va vb q k
  unfold addF at q
  split at q
  · rename_i i j h1 h2
    cases (st.vd va h1).int
    cases (st.vd vb h2).int
    exact .inl ⟨i, j, rfl, rfl, k _ c Γ (.d _) (ExtE.refl _ _) st (RD.int _) q⟩
  · rename_i i j h1 h2
    cases (st.vd va h1).str
    cases (st.vd vb h2).str
    exact .inr (.inl ⟨i, j, rfl, rfl, q.1, k _ c Γ (.d _) (ExtE.refl _ _) st (RD.str _) q.2⟩)
  · rename_i i j h1 h2
    obtain ⟨p, us, rfl, e1, r1⟩ := (st.vd va h1).tup st
    obtain ⟨p', us', rfl, e2, r2⟩ := (st.vd vb h2).tup st
    have d1 := (st.vd va h1).rd (by intro _ z; cases z)
    have d2 := (st.vd vb h2).rd (by intro _ z; cases z)
    refine .inr (.inr (.inl ⟨p, p', us, us', rfl, rfl, e1, e2, ?_, fun z => ?_, fun _ z => ?_, fun _ _ w hw => ?_⟩))
    · rw [r1.length, r2.length]; exact q.1
    · subst z
      cases r1
      exact k _ c Γ (.d _) (ExtE.refl _ _) st (show RD K c.F _ (.tup ([] ++ j)) from d2) q.2
    · subst z
      cases r2
      exact k _ c Γ (.d _) (ExtE.refl _ _) st (show RD K c.F _ (.tup (i ++ [])) by rw [List.append_nil]; exact d1) q.2
    · obtain ⟨st3, e3⟩ := st.froz (o := .tup (us ++ us')) hw
      exact k _ (c.froz w _) Γ (.d _) e3 st3 (RD.tup (.of upd_same) ((r1.append r2).mono e3.f)) q.2
  · rename_i i j h1 h2
    obtain ⟨p, us, rfl, e1, r1⟩ := (st.vd va h1).lst st
    obtain ⟨p', us', rfl, e2, r2⟩ := (st.vd vb h2).lst st
    refine .inr (.inr (.inr ⟨p, p', us, us', rfl, rfl, e1, e2, ?_, fun w hw => ?_⟩))
    · rw [r1.length, r2.length]; exact q.1
    · obtain ⟨st3, e3, v3⟩ := st.temp hw (r1.append r2)
      exact k _ _ _ _ e3 st3 v3 q.2
  · exact q.elim
/-! ### == != -/
mutual
def toP : D → Option PyData
  | .non => some .none
  | .bl b => some (.bool b)
  | .int i => some (.int i)
  | .str x => some (.str x)
  | .lst xs => match toPs xs with | some ps => some (.list ps) | none => none
  | .sq xs => match toPs xs with | some ps => some (.list ps) | none => none
  | .tup xs => match toPs xs with | some ps => some (.tuple ps) | none => none
  | .obj _ _ _ => none
  | .ty _ => none
  | .cls _ => none
def toPs : List D → Option (List PyData)
  | [] => some []
  | x :: xs => match toP x, toPs xs with | some p, some ps => some (p :: ps) | _, _ => none
end
mutual
theorem RD.dp {F : Hp} : ∀ {x : D} {v : V} {p : PyData}, RD K F v x → toP x = some p → Dp K F v p
  | .non, _, _, h, e => by cases h; cases e; exact .non
  | .bl _, _, _, h, e => by cases h; cases e; exact .bl _
  | .int _, _, _, h, e => by cases h; cases e; exact .int _
  | .str _, _, _, h, e => by cases h; cases e; exact .str _
  | .lst xs, _, _, h, e => by
    cases h with
    | lst h1 h2 =>
      simp only [toP] at e
      split at e
      · rename_i ps hp
        cases e
        exact .lst (.of h1) (RDs.dp h2 hp)
      · cases e
  | .sq xs, _, _, h, e => by
    cases h with
    | sq h1 h2 =>
      simp only [toP] at e
      split at e
      · rename_i ps hp
        cases e
        exact .lst h1 (RDs.dp h2 hp)
      · cases e
  | .tup xs, _, _, h, e => by
    cases h with
    | tup h1 h2 =>
      simp only [toP] at e
      split at e
      · rename_i ps hp
        cases e
        exact .tup h1 (RDs.dp h2 hp)
      · cases e
  | .obj _ _ _, _, _, h, e => by cases e
  | .ty _, _, _, h, e => by cases e
  | .cls _, _, _, h, e => by cases e
theorem RDs.dp {F : Hp} : ∀ {xs : List D} {vs : List V} {ps : List PyData}, RDs K F vs xs → toPs xs = some ps → DpAll K F vs ps
  | [], _, _, h, e => by cases h; cases e; exact .nil
  | x :: xs, _, _, h, e => by
    cases h with
    | cons h1 h2 =>
      simp only [toPs] at e
      split at e
      · rename_i p ps e1 e2
        cases e
        exact .cons (RD.dp h1 e1) (RDs.dp h2 e2)
      · cases e
end
/-- == of data, none where it is not told -/
def eqD (x y : D) : Option Bool := match toP x, toP y with
  | some p, some q => if (SeqAt.shaped p && SeqAt.shaped q) = true then some (PyData.eqv p q) else none
  | _, _ => none
theorem VD.rdH {c : Cf} {Γ : Env} (st : Stt K c Γ) {v : V} {x : D} (h : VD K c v x) : RD K c.H v x := by
  rcases h with h | ⟨a, us, xs, rfl, rfl, h1, h2⟩
  · exact h.mono st.sub
  · exact .lst h1 (h2.mono st.sub)
def eqF : F2 := fun Γ a b Ψ => match vw Γ a, vw Γ b with
  | some x, some y => (match eqD x y with | some k => Ψ Γ (.d (.bl k)) | none => False)
  | _, _ => False
def neF : F2 := fun Γ a b Ψ => match vw Γ a, vw Γ b with
  | some x, some y => (match eqD x y with | some k => Ψ Γ (.d (.bl (!k))) | none => False)
  | _, _ => False
theorem eqD_inv {x y : D} {k : Bool} (h : eqD x y = some k) : ∃ p q, toP x = some p ∧ toP y = some q ∧ SeqAt.shaped p = true ∧ SeqAt.shaped q = true ∧ PyData.eqv p q = k := by
  unfold eqD at h
  split at h
  · rename_i p q e1 e2
    split at h
    · rename_i hs
      rw [Bool.and_eq_true] at hs
      cases h
      exact ⟨p, q, e1, e2, hs.1, hs.2, rfl⟩
    · cases h
  · cases h
theorem opd_eq : OpD K (rEqD K) eqF := by
  intro c Γ a b x y Ψ Q st va vb q k
  unfold eqF at q
  split at q
  · rename_i x' y' h1 h2
    split at q
    · rename_i kk hk
      obtain ⟨p, p', e1, e2, s1, s2, rfl⟩ := eqD_inv hk
      exact ⟨p, p', ((st.vd va h1).rdH st).dp e1, ((st.vd vb h2).rdH st).dp e2, s1, s2, k _ c Γ (.d _) (ExtE.refl _ _) st (RD.bl _) q⟩
    · exact q.elim
  · exact q.elim
theorem opd_ne : OpD K (rNeD K) neF := by
  intro c Γ a b x y Ψ Q st va vb q k
  unfold neF at q
  split at q
  · rename_i x' y' h1 h2
    split at q
    · rename_i kk hk
      obtain ⟨p, p', e1, e2, s1, s2, rfl⟩ := eqD_inv hk
      exact ⟨p, p', ((st.vd va h1).rdH st).dp e1, ((st.vd vb h2).rdH st).dp e2, s1, s2, k _ c Γ (.d _) (ExtE.refl _ _) st (RD.bl _) q⟩
    · exact q.elim
  · exact q.elim
/-! ### in, not in: flat items -/
def toV : D → Option V
  | .non => some .non
  | .bl b => some (.bl b)
  | .int i => some (.int i)
  | .str x => some (.str x)
  | _ => none
theorem toV_rd {F : Hp} {x : D} {v v' : V} (h : RD K F v x) (e : toV x = some v') : v = v' ∧ flatV v = true := by
  cases h <;> cases e <;> exact ⟨rfl, rfl⟩
def toVs : List D → Option (List V)
  | [] => some []
  | x :: xs => match toV x, toVs xs with | some v, some vs => some (v :: vs) | _, _ => none
theorem toVs_rds {F : Hp} : ∀ {xs : List D} {vs vs' : List V}, RDs K F vs xs → toVs xs = some vs' → vs = vs' ∧ vs.all flatV = true
  | [], _, _, h, e => by cases h; cases e; exact ⟨rfl, rfl⟩
  | x :: xs, _, _, h, e => by
    cases h with
    | cons h1 h2 =>
      simp only [toVs] at e
      split at e
      · rename_i v vs e1 e2
        cases e
        obtain ⟨rfl, f1⟩ := toV_rd h1 e1
        obtain ⟨rfl, f2⟩ := toVs_rds h2 e2
        exact ⟨rfl, by rw [List.all_cons, f1, f2]; rfl⟩
      · cases e
def seqOf : D → Option (List D)
  | .lst xs => some xs
  | .tup xs => some xs
  | .sq xs => some xs
  | _ => none
/-- whether a flat thing is in flat things -/
def inD (x : D) (xs : List D) : Option Bool := match toV x, toVs xs with
  | some v, some vs => some (inV v vs)
  | _, _ => none
def inF (neg : Bool) : F2 := fun Γ a b Ψ => match vw Γ a, (match vw Γ b with | some y => seqOf y | none => none) with
  | some x, some xs => (match inD x xs with | some k => Ψ Γ (.d (.bl (if neg then !k else k))) | none => False)
  | _, _ => False
theorem VD.seq {c : Cf} {Γ : Env} (st : Stt K c Γ) {v : V} {y : D} {xs : List D} (h : VD K c v y) (e : seqOf y = some xs) : ∃ a us, v = .ref a ∧ (SqL K c.H a us ∨ SqT K c.H a us) ∧ RDs K c.F us xs := by
  cases y with
  | lst zs => cases e; obtain ⟨a, us, h0, h1, h2⟩ := h.lst st; exact ⟨a, us, h0, .inl (.of h1), h2⟩
  | sq zs => cases e; obtain ⟨a, us, h0, h1, h2⟩ := h.sq st; exact ⟨a, us, h0, .inl h1, h2⟩
  | tup zs => cases e; obtain ⟨a, us, h0, h1, h2⟩ := h.tup st; exact ⟨a, us, h0, .inr h1, h2⟩
  | _ => cases e
theorem VD.flat {c : Cf} {v v' : V} {x : D} (h : VD K c v x) (e : toV x = some v') : v = v' ∧ flatV v = true :=
  toV_rd (h.rd (by rintro xs rfl; cases e)) e
theorem opd_in {neg : Bool} : OpD K (rIn K neg) (inF neg) := by
  intro c Γ a b x y Ψ Q st va vb q k
  unfold inF at q
  split at q
  · rename_i x' xs h1 h2
    split at h2
    · rename_i y' hy
      obtain ⟨p, us, rfl, hs, r⟩ := (st.vd vb hy).seq st h2
      split at q
      · rename_i kk hk
        unfold inD at hk
        split at hk
        · rename_i v vs e1 e2
          cases hk
          obtain ⟨rfl, f1⟩ := (st.vd va h1).flat e1
          obtain ⟨rfl, f2⟩ := toVs_rds r e2
          refine ⟨p, us, rfl, hs, f1, f2, ?_⟩
          exact k _ c Γ (.d _) (ExtE.refl _ _) st (RD.bl _) q
        · cases hk
      · exact q.elim
    · cases h2
  · exact q.elim
/-! ### is -/
/-- is None, is True, is False -/
def isNon : D → Bool
  | .non => true
  | _ => false
def isBl (b : Bool) : D → Bool
  | .bl a => a == b
  | _ => false
def isC (x : D) : D → Option Bool
  | .non => some (isNon x)
  | .bl b => some (isBl b x)
  | _ => none
def isF (neg : Bool) : F2 := fun Γ a b Ψ => match vw Γ a, vw Γ b with
  | some x, some y => (match isC x y with | some k => Ψ Γ (.d (.bl (if neg then !k else k))) | none => False)
  | _, _ => False
def rIsC (neg : Bool) : R2 := fun x y H Q => (y = .non ∧ Q (.bl (if neg then !decide (x = .non) else decide (x = .non))) H) ∨ ∃ b, y = .bl b ∧ Q (.bl (if neg then !decide (x = .bl b) else decide (x = .bl b))) H
theorem plain_bl {x : V} {u : Value} {b : Bool} (r : RelV x u) : plainIs u (.bool b) = true ∧ (u == Value.bool b) = decide (x = .bl b) := by
  cases x with
  | non => cases r; exact ⟨rfl, by simp⟩
  | bl a => cases r; refine ⟨rfl, ?_⟩; cases a <;> cases b <;> rfl
  | int _ => obtain ⟨t, rfl⟩ := r; exact ⟨rfl, by simp⟩
  | str _ => obtain ⟨t, rfl⟩ := r; exact ⟨rfl, by simp⟩
  | byt _ => obtain ⟨t, rfl⟩ := r; exact ⟨rfl, by simp⟩
  | flt _ => obtain ⟨t, rfl⟩ := r; exact ⟨rfl, by simp⟩
  | ref _ => cases r; exact ⟨rfl, by simp⟩
  | ty _ => cases r; exact ⟨rfl, by simp⟩
theorem op_isC {X : Cx} : OpR X (compareOp .Is) (rIsC false) := by
  intro pins s σ H x y v u Q I rx ry h
  rcases h with ⟨rfl, q⟩ | ⟨b, rfl, q⟩
  · exact op_isN pins s σ H x _ v u Q I rx ry ⟨rfl, q⟩
  · cases ry
    obtain ⟨h1, h2⟩ := plain_bl (b := b) rx
    exact wpAny_is_plain h1 ⟨.bl _, H, I, by rw [h2]; rfl, q⟩
theorem op_isnotC {X : Cx} : OpR X (compareOp .IsNot) (rIsC true) := by
  intro pins s σ H x y v u Q I rx ry h
  rcases h with ⟨rfl, q⟩ | ⟨b, rfl, q⟩
  · exact op_notN pins s σ H x _ v u Q I rx ry ⟨rfl, q⟩
  · cases ry
    obtain ⟨h1, h2⟩ := plain_bl (b := b) rx
    exact wpAny_isNot_plain h1 ⟨.bl _, H, I, by rw [h2]; rfl, q⟩
theorem VD.isnon {c : Cf} {v : V} {x : D} (h : VD K c v x) : decide (v = .non) = isNon x := by
  rcases h with h | ⟨a, us, xs, rfl, rfl, h1, h2⟩
  · cases h <;> rfl
  · rfl
theorem VD.isbl {c : Cf} {v : V} {x : D} {b : Bool} (h : VD K c v x) : decide (v = .bl b) = isBl b x := by
  rcases h with h | ⟨a, us, xs, rfl, rfl, h1, h2⟩
  · cases h <;> first | rfl | (rename_i a; cases a <;> cases b <;> rfl)
  · rfl
theorem opd_is {neg : Bool} : OpD K (rIsC neg) (isF neg) := by
  intro c Γ a b x y Ψ Q st va vb q k
  unfold isF at q
  split at q
  · rename_i x' y' h1 h2
    split at q
    · rename_i kk hk
      cases y' with
      | non =>
        have hy := (st.vd vb h2).rd (by intro _ z; cases z)
        cases hy
        cases hk
        refine .inl ⟨rfl, ?_⟩
        rw [(st.vd va h1).isnon]
        exact k _ c Γ (.d _) (ExtE.refl _ _) st (RD.bl _) q
      | bl b =>
        cases (st.vd vb h2).bl
        cases hk
        refine .inr ⟨b, rfl, ?_⟩
        rw [(st.vd va h1).isbl]
        exact k _ c Γ (.d _) (ExtE.refl _ _) st (RD.bl _) q
      | _ => cases hk
    · exact q.elim
  · exact q.elim
/-! ### unary -/
def negF : F1 := fun Γ a Ψ => match vw Γ a with
  | some (.int i) => Ψ Γ (.d (.int (-i)))
  | _ => False
theorem und_neg : UnD K (rU fun i => .int (-i)) negF := by
  intro c Γ a x Ψ Q st va q k
  unfold negF at q
  split at q
  · rename_i i h
    cases (st.vd va h).int
    exact ⟨i, rfl, k _ c Γ (.d _) (ExtE.refl _ _) st (RD.int _) q⟩
  · exact q.elim
end
section
variable {S : Cs} {pos : Pos} {m ma mb : Bool} {a b e : Expr} {es : List Expr} {ta tb : TD}
theorem pd_add (ha : PD S ma a ta) (hb : PD S mb b tb) : PD S (ma || mb) (.BinOp a .Add b pos) (tBin mb addF ta tb) := pd_op (r := rAddAll S.K) (fun X hX => by rw [← hX.K]; exact op_addAll) opd_add ha hb
theorem pd_sub (ha : PD S ma a ta) (hb : PD S mb b tb) : PD S (ma || mb) (.BinOp a .Sub b pos) (tBin mb (intF CT fun i j => .int (i - j)) ta tb) := pd_op (fun X hX => op_sub) (opd_int0 fun _ _ _ => .int _) ha hb
theorem pd_mul (ha : PD S ma a ta) (hb : PD S mb b tb) : PD S (ma || mb) (.BinOp a .Mult b pos) (tBin mb (intF CMul fun i j => .int (i * j)) ta tb) := pd_op (fun X hX => op_mul) (opd_int fun _ _ _ => .int _) ha hb
theorem pd_mulW (ha : PD S ma a ta) (hb : PD S mb b tb) : PD S (ma || mb) (.BinOp a .Mult b pos) (tBin mb (intF CMulW fun i j => .int (i * j)) ta tb) := pd_op (fun X hX => op_mulW) (opd_int fun _ _ _ => .int _) ha hb
theorem pd_fdiv (ha : PD S ma a ta) (hb : PD S mb b tb) : PD S (ma || mb) (.BinOp a .FloorDiv b pos) (tBin mb (intF CDiv fun i j => .int (i / j)) ta tb) := pd_op (fun X hX => op_fdiv) (opd_int fun _ _ _ => .int _) ha hb
theorem pd_mod (ha : PD S ma a ta) (hb : PD S mb b tb) : PD S (ma || mb) (.BinOp a .Mod b pos) (tBin mb (intF (fun _ j => 0 < j) fun i j => .int (i % j)) ta tb) := pd_op (fun X hX => op_mod) (opd_int fun _ _ _ => .int _) ha hb
theorem pd_pow (ha : PD S ma a ta) (hb : PD S mb b tb) : PD S (ma || mb) (.BinOp a .Pow b pos) (tBin mb (intF CPow fun i j => .int (i ^ j.toNat)) ta tb) := pd_op (fun X hX => op_pow) (opd_int fun _ _ _ => .int _) ha hb
theorem c_lt (ha : PD S ma a ta) (hb : PD S mb b tb) : PCD S (ma || mb) .Lt a b (tBin mb (intF CT fun i j => .bl (decide (i < j))) ta tb) := pd_cmp (fun X hX => op_lt) (opd_int0 fun _ _ _ => .bl _) ha hb (nomark _)
theorem c_le (ha : PD S ma a ta) (hb : PD S mb b tb) : PCD S (ma || mb) .LtE a b (tBin mb (intF CT fun i j => .bl (decide (i ≤ j))) ta tb) := pd_cmp (fun X hX => op_le) (opd_int0 fun _ _ _ => .bl _) ha hb (nomark _)
theorem c_gt (ha : PD S ma a ta) (hb : PD S mb b tb) : PCD S (ma || mb) .Gt a b (tBin mb (intF CT fun i j => .bl (decide (j < i))) ta tb) := pd_cmp (fun X hX => op_gt) (opd_int0 fun _ _ _ => .bl _) ha hb (nomark _)
theorem c_ge (ha : PD S ma a ta) (hb : PD S mb b tb) : PCD S (ma || mb) .GtE a b (tBin mb (intF CT fun i j => .bl (decide (j ≤ i))) ta tb) := pd_cmp (fun X hX => op_ge) (opd_int0 fun _ _ _ => .bl _) ha hb (nomark _)
theorem c_eq (ha : PD S ma a ta) (hb : PD S mb b tb) : PCD S (ma || mb) .Eq a b (tBin mb eqF ta tb) := pd_cmp (r := rEqD S.K) (fun X hX => by rw [← hX.K]; exact op_eqD hX.room.units) opd_eq ha hb (nomark _)
theorem c_ne (ha : PD S ma a ta) (hb : PD S mb b tb) : PCD S (ma || mb) .NotEq a b (tBin mb neF ta tb) := pd_cmp (r := rNeD S.K) (fun X hX => by rw [← hX.K]; exact op_neD hX.room.units) opd_ne ha hb (nomark _)
theorem c_is (ha : PD S ma a ta) (hb : PD S mb b tb) : PCD S (ma || mb) .Is a b (tBin mb (isF false) ta tb) := pd_cmp (fun X hX => op_isC) opd_is ha hb (nomark _)
theorem c_isnot (ha : PD S ma a ta) (hb : PD S mb b tb) : PCD S (ma || mb) .IsNot a b (tBin mb (isF true) ta tb) := pd_cmp (fun X hX => op_isnotC) opd_is ha hb (nomark _)
theorem c_in (ha : PD S ma a ta) (hb : PD S mb b tb) (hm : behindInMarks .In b = false := by rfl) : PCD S (ma || mb) .In a b (tBin mb (inF false) ta tb) := pd_cmp (r := rIn S.K false) (fun X hX => by rw [← hX.K]; exact op_in_seq) opd_in ha hb hm
theorem c_notin (ha : PD S ma a ta) (hb : PD S mb b tb) (hm : behindInMarks .NotIn b = false := by rfl) : PCD S (ma || mb) .NotIn a b (tBin mb (inF true) ta tb) := pd_cmp (r := rIn S.K true) (fun X hX => by rw [← hX.K]; exact op_notIn_seq) opd_in ha hb hm
theorem pd_neg (ha : PD S ma a ta) : PD S ma (.UnaryOp .USub a pos) (tUnD negF ta) := pd_un (fun X hX => un_neg) und_neg ha
end
end Mv
set_option Elab.async false
set_option linter.all false
set_option maxRecDepth 100000
namespace Mv
open PySem PySem.Spec PyProof.Rows L2
section
variable {K : PySem.W.Frag}
/-! ### a[i] -/
def ixF : F2 := fun Γ a b Ψ => match vw Γ b with
  | some (.int i) => (match a with
    | .d (.lst xs) => (match atI xs i with | some y => Ψ Γ (.d y) | none => False)
    | .d (.sq xs) => (match atI xs i with | some y => Ψ Γ (.d y) | none => False)
    | .d (.tup xs) => (match atI xs i with | some y => Ψ Γ (.d y) | none => False)
    | .d (.str z) => (match atI z.cps.toList i with | some ch => z.length ≤ sizeLine ∧ Ψ Γ (.d (.str ⟨#[ch]⟩)) | none => False)
    | .p q => (match getT Γ q with
      | some (.li ts) => (match ixN ts.length i with
        | some k => (match ts[k]? with | some t => Ψ Γ (rvT (k :: q) t) | none => False)
        | none => False)
      | _ => False)
    | _ => False)
  | _ => False
theorem atI_rds {F : Hp} {us : List V} {xs : List D} {i : Int} {y : D} (r : RDs K F us xs) (e : atI xs i = some y) : ∃ v, atI us i = some v ∧ RD K F v y := by
  unfold atI at e ⊢
  rw [r.length]
  cases h : ixN xs.length i with
  | none => rw [h] at e; cases e
  | some k =>
    rw [h] at e
    exact r.get e
theorem opd_ix : OpD K (rIx K) ixF := by
  intro c Γ a b x y Ψ Q st va vb q k
  unfold ixF at q
  split at q
  · rename_i i hb
    cases (st.vd vb hb).int
    split at q
    · split at q
      · rename_i xs z h
        cases va with
        | lst h1 h2 =>
          obtain ⟨v, e1, r⟩ := atI_rds h2 h
          exact .inl ⟨_, _, i, v, rfl, rfl, .of (st.sub _ _ h1), e1, k v c Γ (.d _) (ExtE.refl _ _) st r q⟩
      · exact q.elim
    · split at q
      · rename_i xs z h
        cases va with
        | sq h1 h2 =>
          obtain ⟨v, e1, r⟩ := atI_rds h2 h
          exact .inl ⟨_, _, i, v, rfl, rfl, st.sub.seq h1, e1, k v c Γ (.d _) (ExtE.refl _ _) st r q⟩
      · exact q.elim
    · split at q
      · rename_i xs z h
        cases va with
        | tup h1 h2 =>
          obtain ⟨v, e1, r⟩ := atI_rds h2 h
          exact .inr (.inl ⟨_, _, i, v, rfl, rfl, same_seqT st.sub h1, e1, k v c Γ (.d _) (ExtE.refl _ _) st r q⟩)
      · exact q.elim
    · split at q
      · rename_i z ch h
        cases va
        exact .inr (.inr ⟨_, i, _, rfl, rfl, q.1, h, k _ c Γ (.d _) (ExtE.refl _ _) st (RD.str _) q.2⟩)
      · exact q.elim
    · rename_i p
      split at q
      · rename_i ts ht
        have hl : Loc c.H c.vs p x := va
        have R := st.loc hl ht
        cases R with
        | @li _ _ us _ h1 h2 h3 =>
          split at q
          · rename_i j hj
            split at q
            · rename_i t hk
              obtain ⟨w, e1, r⟩ := h3.get hk
              refine .inl ⟨_, us, i, w, rfl, rfl, .of h2, ?_, ?_⟩
              · unfold atI
                rw [h3.length, hj]
                exact e1
              · have hw : VR K c (rvT (j :: p) t) w := by
                  cases r with
                  | d r => exact r
                  | li _ _ _ => exact Loc.li hl h2 e1
                  | ob _ _ _ _ => exact Loc.li hl h2 e1
                exact k w c Γ _ (ExtE.refl _ _) st hw q
            · exact q.elim
          · exact q.elim
      · exact q.elim
    · exact q.elim
  · exact q.elim
/-! ### slices -/
def cutD (xs : List D) (lo hi : Option Int) : List D := (xs.drop (HT.sIx xs.length 0 lo)).take (HT.sIx xs.length xs.length hi - HT.sIx xs.length 0 lo)
theorem RDs.cut {F : Hp} {us : List V} {xs : List D} (r : RDs K F us xs) (lo hi : Option Int) : RDs K F (cutV us lo hi) (cutD xs lo hi) := by
  unfold cutV cutD
  rw [r.length]
  exact (r.drop _).take _
abbrev TOD := Env → (Env → Option Int → Prop) → Prop
def slF (Γ : Env) (a : RV) (lo hi : Option Int) (Ψ : Env → RV → Prop) : Prop := match vw Γ a with
  | some (.lst xs) => Ψ (Γ ++ [some (.li ((cutD xs lo hi).map .d))]) (.p [Γ.length])
  | some (.sq xs) => Ψ (Γ ++ [some (.li ((cutD xs lo hi).map .d))]) (.p [Γ.length])
  | some (.tup xs) => Ψ Γ (.d (.tup (cutD xs lo hi)))
  | some (.str z) => z.length ≤ sizeLine ∧ Ψ Γ (.d (.str (cutS z lo hi)))
  | _ => False
def tSlD (ml : Bool) (ta : TD) (tl th : TOD) : TD := fun Γ Ψ => ta Γ fun Γ1 r => tl Γ1 fun Γ2 lo => th Γ2 fun Γ3 hi => stab r ml = true ∧ slF Γ3 r lo hi Ψ
structure POD (S : Cs) (m : Bool) (e : Option Expr) (t : TOD) : Prop where
  ex : ∃ te : TO, (∀ X, S.In X → PO X e te) ∧ ∀ (c : Cf) (Γ : Env) (Ψ : Env → Option Int → Prop) (Q : Option Int → Hp → Prop), c.σ.length = S.N.length → Stt S.K c Γ → t Γ Ψ → (∀ i c' Γ', ExtE m c c' → Stt S.K c' Γ' → Ψ Γ' i → Q i c'.H) → te c.σ c.H Q
def tPoN : TOD := fun Γ Ψ => Ψ Γ none
def tPoS (t : TD) : TOD := fun Γ Ψ => t Γ fun Γ1 r => match vw Γ1 r with | some (.int i) => Ψ Γ1 (some i) | _ => False
theorem pod_none {S : Cs} : POD S false none tPoN := ⟨_, fun _ _ => po_none, fun c Γ Ψ Q hn st h k => k none c Γ (ExtE.refl _ _) st h⟩
theorem pod_some {S : Cs} {m : Bool} {e : Expr} {t : TD} (h : PD S m e t) : POD S m (some e) (tPoS t) := by
  obtain ⟨ua, a1, a2⟩ := h.ex
  refine ⟨_, fun X hX => po_some (a1 X hX), fun c Γ Ψ Q hn st h k => ?_⟩
  refine a2 c Γ _ _ hn st h fun v c1 Γ1 r e1 st1 v1 h1 => ?_
  split at h1
  · rename_i i hi
    cases (st1.vd v1 hi).int
    exact ⟨i, rfl, k (some i) c1 Γ1 e1 st1 h1⟩
  · exact h1.elim
def rSlAll (K : PySem.W.Frag) : V → Option Int → Option Int → Hp → VK → Prop := fun x lo hi H Q => rSlL K x lo hi H Q ∨ (fun x lo hi H Q => rSlA K x lo hi H Q ∨ rSlS x lo hi H Q) x lo hi H Q
theorem cut_full {us : List V} {lo hi : Option Int} (h : HT.sIx us.length 0 lo = 0 ∧ HT.sIx us.length us.length hi = us.length) : cutV us lo hi = us := by
  unfold cutV
  rw [h.1, h.2, List.drop_zero, Nat.sub_zero, List.take_length]
theorem pd_slice {S : Cs} {ma ml mh : Bool} {e : Expr} {lo hi : Option Expr} {p2 pos : Pos} {ta : TD} {tl th : TOD} (ha : PD S ma e ta) (hl : POD S ml lo tl) (hh : POD S mh hi th) : PD S (ma || (ml || mh)) (.Subscript e (.Slice lo hi none p2) pos) (tSlD (ml || mh) ta tl th) := by
  obtain ⟨ua, a1, a2⟩ := ha.ex
  obtain ⟨ul, l1, l2⟩ := hl.ex
  obtain ⟨uh, h1, h2⟩ := hh.ex
  refine ⟨tSl (rSlAll S.K) ua ul uh, fun X hX => pe_slice (by rw [← hX.K]; exact sl_list.or (sl_tupA.or sl_str)) (a1 X hX) (l1 X hX) (h1 X hX), fun c Γ Ψ Q hn st h k => ?_⟩
  refine a2 c Γ _ _ hn st h fun v c1 Γ1 r e1 st1 v1 q1 => ?_
  rw [show c.σ = c1.σ from e1.s.symm]
  refine l2 c1 Γ1 _ _ (by rw [e1.s]; exact hn) st1 q1 fun i c2 Γ2 e2 st2 q2 => ?_
  rw [show c1.σ = c2.σ from e2.s.symm]
  refine h2 c2 Γ2 _ _ (by rw [e2.s, e1.s]; exact hn) st2 q2 fun j c3 Γ3 e3 st3 q3 => ?_
  obtain ⟨hs, q3⟩ := q3
  have v3 := v1.keep (e2.trans e3) hs
  have ee := e1.trans (e2.trans e3)
  unfold slF at q3
  split at q3
  · rename_i xs hx
    obtain ⟨a, us, rfl, g1, g2⟩ := (st3.vd v3 hx).lst st3
    refine .inl ⟨a, us, rfl, .of g1, fun p hp => ?_⟩
    obtain ⟨st4, e4, v4⟩ := st3.temp hp (g2.cut i j)
    exact k _ _ _ _ ((ee.trans e4).le fun z => by simpa using z) st4 v4 q3
  · rename_i xs hx
    obtain ⟨a, us, rfl, g1, g2⟩ := (st3.vd v3 hx).sq st3
    refine .inl ⟨a, us, rfl, g1, fun p hp => ?_⟩
    obtain ⟨st4, e4, v4⟩ := st3.temp hp (g2.cut i j)
    exact k _ _ _ _ ((ee.trans e4).le fun z => by simpa using z) st4 v4 q3
  · rename_i xs hx
    have d1 := (st3.vd v3 hx).rd (by intro _ z; cases z)
    obtain ⟨a, us, rfl, g1, g2⟩ := (st3.vd v3 hx).tup st3
    refine .inr (.inl ⟨a, us, rfl, g1, fun z => ?_, fun _ p hp => ?_⟩)
    · refine k _ c3 Γ3 (.d _) ee st3 ?_ q3
      have := g2.cut i j
      rw [cut_full z] at this
      cases d1 with
      | tup k1 k2 => exact RD.tup k1 (by
          have e := k2.length
          have : cutD xs i j = xs := by
            unfold cutD
            rw [g2.length] at z
            rw [z.1, z.2, List.drop_zero, Nat.sub_zero, List.take_length]
          rw [this]
          exact k2)
    · obtain ⟨st4, e4⟩ := st3.froz (o := .tup (cutV us i j)) hp
      exact k _ (c3.froz p _) Γ3 (.d _) ((ee.trans e4).le fun z => by simpa using z) st4 (RD.tup (.of upd_same) ((g2.cut i j).mono e4.f)) q3
  · rename_i z hx
    cases (st3.vd v3 hx).str
    exact .inr (.inr ⟨z, rfl, q3.1, k _ c3 Γ3 (.d _) ee st3 (RD.str _) q3.2⟩)
  · exact q3.elim
def revF : F1 := fun Γ a Ψ => match vw Γ a with
  | some (.lst xs) => Ψ (Γ ++ [some (.li (xs.reverse.map .d))]) (.p [Γ.length])
  | _ => False
theorem pd_rev {S : Cs} {m : Bool} {e : Expr} {k : Nat} {p1 p2 p3 pos : Pos} {ta : TD} (ha : PD S m e ta) : PD S m (.Subscript e (.Slice none none (some (.UnaryOp .USub (.Constant (.int 1) k p1) p2)) p3) pos) (tUnD revF ta) := by
  obtain ⟨ua, a1, a2⟩ := ha.ex
  refine ⟨tRevL S.K ua, fun X hX => by rw [← hX.K]; exact pe_revL (a1 X hX), fun c Γ Ψ Q hn st h k => ?_⟩
  refine a2 c Γ _ _ hn st h fun v c1 Γ1 r e1 st1 v1 q1 => ?_
  unfold revF at q1
  split at q1
  · rename_i xs hx
    obtain ⟨a, us, rfl, g1, g2⟩ := (st1.vd v1 hx).lst st1
    refine ⟨a, us, rfl, .of g1, fun p hp => ?_⟩
    obtain ⟨st4, e4, v4⟩ := st1.temp hp g2.reverse
    exact k _ _ _ _ ((e1.trans e4).le fun z => by simpa using z) st4 v4 q1
  · exact q1.elim
/-! ### o.f -/
def idxF (f : Str) : List Str → Option Nat
  | [] => none
  | n :: ns => if n = f then some 0 else match idxF f ns with | some k => some (k + 1) | none => none
theorem idxF_lookup {f : Str} : ∀ {ns : List Str} {vs : List V} {k : Nat} {v : V}, idxF f ns = some k → vs[k]? = some v → (ns.zip vs).lookup f = some v
  | [], _, _, _, h, _ => by cases h
  | n :: ns, [], k, v, h, e => by simp at e
  | n :: ns, w :: vs, k, v, h, e => by
    simp only [idxF] at h
    rw [List.zip_cons_cons, List.lookup_cons]
    by_cases hn : n = f
    · rw [if_pos hn] at h
      cases h
      simp at e
      subst e hn
      simp
    · rw [if_neg hn] at h
      split at h
      · rename_i j hj
        cases h
        have : (f == n) = false := by simp [Ne.symm hn]
        rw [this]
        exact idxF_lookup hj (by simpa using e)
      · cases h
def fldF (A : Addr → Prop) (f : Str) : F1 := fun Γ a Ψ => match a with
  | .d (.obj C ns xs) => A C ∧ (match idxF f ns with | some k => (match xs[k]? with | some y => Ψ Γ (.d y) | none => False) | none => False)
  | .p q => (match getT Γ q with
    | some (.ob C ns ts) => A C ∧ (match idxF f ns with | some k => (match ts[k]? with | some t => Ψ Γ (rvT (k :: q) t) | none => False) | none => False)
    | _ => False)
  | _ => False
theorem pd_fld {S : Cs} {m : Bool} {e : Expr} {f : Str} {pos : Pos} {ta : TD} (A : Addr → Prop) (hA : ∀ C, A C → Cls S.K C ∧ NoAttr S.K C f) (ha : PD S m e ta) (hb : ∀ env, attributeBase e f env (eval e env) = eval e env := by intro _; rfl) :
    PD S m (.Attribute e f pos) (tUnD (fldF A f) ta) := by
  obtain ⟨ua, a1, a2⟩ := ha.ex
  refine ⟨tFld S.K ua f, fun X hX => by rw [← hX.K]; exact pe_fld (a1 X hX) (hb _), fun c Γ Ψ Q hn st h k => ?_⟩
  refine a2 c Γ _ _ hn st h fun v c1 Γ1 r e1 st1 v1 q1 => ?_
  unfold fldF at q1
  split at q1
  · obtain ⟨hC, q1⟩ := q1
    split at q1
    · rename_i j hj
      split at q1
      · rename_i y hy
        cases v1 with
        | obj g1 g2 g3 =>
          obtain ⟨w, e2, r2⟩ := g3.get hy
          exact ⟨_, _, _, _, w, rfl, st1.sub _ _ g1, (hA _ hC).1, (hA _ hC).2, idxF_lookup hj e2, k w c1 Γ1 (.d _) e1 st1 r2 q1⟩
      · exact q1.elim
    · exact q1.elim
  · rename_i p
    split at q1
    · rename_i C ns ts ht
      obtain ⟨hC, q1⟩ := q1
      have hl : Loc c1.H c1.vs p v := v1
      have R := st1.loc hl ht
      cases R with
      | @ob _ _ _ _ _ us _ g1 g2 g3 g4 =>
        split at q1
        · rename_i j hj
          split at q1
          · rename_i t hk
            obtain ⟨w, e2, r2⟩ := g4.get hk
            have hw : VR S.K c1 (rvT (j :: p) t) w := by
              cases r2 with
              | d r => exact r
              | li _ _ _ => exact Loc.ob hl g2 g3 e2
              | ob _ _ _ _ => exact Loc.ob hl g2 g3 e2
            exact ⟨_, _, _, _, w, rfl, g2, (hA _ hC).1, (hA _ hC).2, idxF_lookup hj e2, k w c1 Γ1 _ e1 st1 hw q1⟩
          · exact q1.elim
        · exact q1.elim
    · exact q1.elim
  · exact q1.elim
/-! ### built-ins called -/
abbrev FA := Env → List RV → (Env → RV → Prop) → Prop
def CallD (K : PySem.W.Frag) (r : List V → Hp → VK → Prop) (f : FA) : Prop := ∀ (c : Cf) (Γ : Env) (rs : List RV) (vs : List V) (Ψ : Env → RV → Prop) (Q : VK), Stt K c Γ → VRs K c rs vs → f Γ rs Ψ →
  (∀ v c' Γ' r', ExtE false c c' → Stt K c' Γ' → VR K c' r' v → Ψ Γ' r' → Q v c'.H) → r vs c.H Q
def tCBD (f : FA) (t : TAD) : TD := fun Γ Ψ => t Γ fun Γ1 rs => f Γ1 rs Ψ
section
variable {S : Cs} {m : Bool} {x : Str} {p pos : Pos} {e : Expr} {es : List Expr} {t : TAD} {id T : String} {r : List V → Hp → VK → Prop} {f : FA}
theorem le_cb {n : Nat} {ta : TA} (hd : CallD K r f) (ha : LA K n m ta t) : LE K n m (tCB r ta) (tCBD f t) := by
  intro c Γ Ψ Q hn st h k
  refine ha c Γ _ _ hn st h fun vs c1 Γ1 rs e1 st1 v1 q1 => ?_
  exact hd c1 Γ1 rs vs Ψ Q st1 v1 q1 fun v c2 Γ2 r2 e2 st2 v2 q2 => k v c2 Γ2 r2 ((e1.trans e2).le fun z => by simpa using z) st2 v2 q2
theorem pd_callB (hc : ∀ X, S.In X → CallR X (.builtin id) r) (hd : CallD S.K r f) (hg : S.sc.names.lookup x = some .globalImplicit) (hm : S.mg x = none) (hv : bootBuiltins x = some (.builtin id)) (ha : PAD S m (e :: es) t) (hn : x ≠ "__name__" := by decide) (hdb : (x == ("__debug__" : Str)) = false := by decide)
    (he : ∀ env, starEach (e :: es) env = (false, eval e env) :: starEach es env := by intro _; rfl) (hpl : ∀ env, (backTo pos (starEach es env)).any (·.1) = false := by intro _; rfl) : PD S m (.Call (.Name x p) (e :: es) [] pos) (tCBD f t) := by
  obtain ⟨ua, a1, a2⟩ := ha.ex
  exact ⟨_, fun X hX => pe_callB (hc X hX) (by show X.env.scope.names.lookup x = _; rw [hX.sc]; exact hg) (by rw [hX.mg]; exact hm) hv (a1 X hX) hn hdb (he _) (hpl _), le_cb hd a2⟩
theorem pd_callTy (hc : ∀ X, S.In X → CallR X (.type T) r) (hd : CallD S.K r f) (hg : S.sc.names.lookup x = some .globalImplicit) (hm : S.mg x = none) (hv : bootBuiltins x = some (.type T)) (ha : PAD S m (e :: es) t) (hn : x ≠ "__name__" := by decide) (hdb : (x == ("__debug__" : Str)) = false := by decide)
    (he : ∀ env, starEach (e :: es) env = (false, eval e env) :: starEach es env := by intro _; rfl) (hpl : ∀ env, (backTo pos (starEach es env)).any (·.1) = false := by intro _; rfl) : PD S m (.Call (.Name x p) (e :: es) [] pos) (tCBD f t) := by
  obtain ⟨ua, a1, a2⟩ := ha.ex
  exact ⟨_, fun X hX => pe_callTy (hc X hX) (by show X.env.scope.names.lookup x = _; rw [hX.sc]; exact hg) (by rw [hX.mg]; exact hm) hv (a1 X hX) hn hdb (he _) (hpl _), le_cb hd a2⟩
end
/-- len -/
def lenD (Γ : Env) : RV → Option Int
  | .d (.lst xs) => some xs.length
  | .d (.sq xs) => some xs.length
  | .d (.tup xs) => some xs.length
  | .d (.str z) => if z.length ≤ sizeLine then some z.length else none
  | .p q => (match getT Γ q with | some (.li ts) => some ts.length | _ => none)
  | _ => none
def lenF : FA := fun Γ rs Ψ => match rs with
  | [a] => (match lenD Γ a with | some n => Ψ Γ (.d (.int n)) | none => False)
  | _ => False
theorem cd_len : CallD K (fun xs H Q => ∃ x n, xs = [x] ∧ LenV K x H n ∧ Q (.int (n : Nat)) H) lenF := by
  intro c Γ rs vs Ψ Q st vr q k
  unfold lenF at q
  split at q
  · rename_i a
    cases vr with
    | cons v1 vr =>
      cases vr
      split at q
      · rename_i n hn
        unfold lenD at hn
        have fin : ∀ {j : Nat}, n = (j : Int) → ∀ {v}, LenV K v c.H j → ∃ x n, [v] = [x] ∧ LenV K x c.H n ∧ Q (.int (n : Nat)) c.H := fun {j} e {v} hl => by
          subst e
          exact ⟨v, j, rfl, hl, k _ c Γ (.d _) (ExtE.refl _ _) st (RD.int _) q⟩
        split at hn
        · cases hn
          cases v1 with
          | lst h1 h2 => exact fin rfl (.inl ⟨_, .of (st.sub _ _ h1), h2.length.symm⟩)
        · cases hn
          cases v1 with
          | sq h1 h2 => exact fin rfl (.inl ⟨_, st.sub.seq h1, h2.length.symm⟩)
        · cases hn
          cases v1 with
          | tup h1 h2 => exact fin rfl (.inr ⟨_, same_seqT st.sub h1, h2.length.symm⟩)
        · split at hn
          · rename_i hz
            cases hn
            cases v1
            exact fin rfl ⟨hz, rfl⟩
          · cases hn
        · split at hn
          · rename_i ts ht
            cases hn
            have R := st.loc (show Loc c.H c.vs _ _ from v1) ht
            cases R with
            | li h1 h2 h3 => exact fin rfl (.inl ⟨_, .of h2, h3.length.symm⟩)
          · cases hn
        · cases hn
      · exact q.elim
  · exact q.elim
/-- int, abs -/
def intB : FA := fun Γ rs Ψ => match rs with
  | [a] => (match vw Γ a with | some (.int i) => Ψ Γ (.d (.int i)) | some (.bl k) => Ψ Γ (.d (.int (if k then 1 else 0))) | _ => False)
  | _ => False
theorem cd_int : CallD K (fun xs H Q => (∃ i, xs = [.int i] ∧ Q (.int i) H) ∨ ∃ k, xs = [.bl k] ∧ Q (.int (if k then 1 else 0)) H) intB := by
  intro c Γ rs vs Ψ Q st vr q k
  unfold intB at q
  split at q
  · cases vr with
    | cons v1 vr =>
      cases vr
      split at q
      · rename_i i hi
        cases (st.vd v1 hi).int
        exact .inl ⟨i, rfl, k _ c Γ (.d _) (ExtE.refl _ _) st (RD.int _) q⟩
      · rename_i i hi
        cases (st.vd v1 hi).bl
        exact .inr ⟨i, rfl, k _ c Γ (.d _) (ExtE.refl _ _) st (RD.int _) q⟩
      · exact q.elim
  · exact q.elim
def absF : FA := fun Γ rs Ψ => match rs with
  | [a] => (match vw Γ a with | some (.int i) => Ψ Γ (.d (.int (if i < 0 then -i else i))) | _ => False)
  | _ => False
theorem cd_abs : CallD K (fun xs H Q => ∃ i, xs = [.int i] ∧ Q (.int (if i < 0 then -i else i)) H) absF := by
  intro c Γ rs vs Ψ Q st vr q k
  unfold absF at q
  split at q
  · cases vr with
    | cons v1 vr =>
      cases vr
      split at q
      · rename_i i hi
        cases (st.vd v1 hi).int
        exact ⟨i, rfl, k _ c Γ (.d _) (ExtE.refl _ _) st (RD.int _) q⟩
      · exact q.elim
  · exact q.elim
/-- list, tuple of a list or a tuple -/
def listF : FA := fun Γ rs Ψ => match rs with
  | [a] => (match (match vw Γ a with | some y => seqOf y | none => none) with | some xs => Ψ (Γ ++ [some (.li (xs.map .d))]) (.p [Γ.length]) | none => False)
  | _ => False
theorem cd_list : CallD K (fun xs H Q => ∃ p ys, xs = [.ref p] ∧ (SqL K H p ys ∨ SqT K H p ys) ∧ ∀ l, H l = none → Q (.ref l) (upd H l (.lst ys))) listF := by
  intro c Γ rs vs Ψ Q st vr q k
  unfold listF at q
  split at q
  · cases vr with
    | cons v1 vr =>
      cases vr
      split at q
      · rename_i xs hx
        split at hx
        · rename_i y hy
          obtain ⟨a, us, rfl, h1, h2⟩ := (st.vd v1 hy).seq st hx
          refine ⟨a, us, rfl, h1, fun l hl => ?_⟩
          obtain ⟨st4, e4, v4⟩ := st.temp hl h2
          exact k _ _ _ _ e4 st4 v4 q
        · cases hx
      · exact q.elim
  · exact q.elim
def tupF : FA := fun Γ rs Ψ => match rs with
  | [a] => (match (match vw Γ a with | some y => seqOf y | none => none) with | some xs => Ψ Γ (.d (.tup xs)) | none => False)
  | _ => False
theorem cd_tup : CallD K (fun xs H Q => ∃ p ys, xs = [.ref p] ∧ ((SqL K H p ys ∧ ∀ l, H l = none → Q (.ref l) (upd H l (.tup ys))) ∨ (SqT K H p ys ∧ Q (.ref p) H))) tupF := by
  intro c Γ rs vs Ψ Q st vr q k
  unfold tupF at q
  split at q
  · cases vr with
    | cons v1 vr =>
      cases vr
      split at q
      · rename_i xs hx
        split at hx
        · rename_i y hy
          have new : ∀ {us : List V}, RDs K c.F us xs → ∀ l, c.H l = none → Q (.ref l) (upd c.H l (.tup us)) := fun {us} r l hl => by
            obtain ⟨st3, e3⟩ := st.froz (o := .tup us) hl
            exact k _ (c.froz l _) Γ (.d _) e3 st3 (RD.tup (.of upd_same) (r.mono e3.f)) q
          cases y with
          | lst zs => cases hx; obtain ⟨a, us, rfl, h1, h2⟩ := (st.vd v1 hy).lst st; exact ⟨a, us, rfl, .inl ⟨.of h1, new h2⟩⟩
          | sq zs => cases hx; obtain ⟨a, us, rfl, h1, h2⟩ := (st.vd v1 hy).sq st; exact ⟨a, us, rfl, .inl ⟨h1, new h2⟩⟩
          | tup zs =>
            cases hx
            have d := (st.vd v1 hy).rd (by intro _ z; cases z)
            obtain ⟨a, us, rfl, h1, h2⟩ := (st.vd v1 hy).tup st
            exact ⟨a, us, rfl, .inr ⟨h1, k _ c Γ (.d _) (ExtE.refl _ _) st d q⟩⟩
          | _ => cases hx
        · cases hx
      · exact q.elim
  · exact q.elim
/-- sum of whole numbers -/
def intsOf : List D → Option (List Int)
  | [] => some []
  | .int i :: xs => (match intsOf xs with | some is => some (i :: is) | none => none)
  | _ :: _ => none
@[simp] theorem intsOf_map : ∀ is : List Int, intsOf (is.map .int) = some is
  | [] => rfl
  | i :: is => by rw [List.map_cons, intsOf, intsOf_map is]
theorem intsOf_rds {F : Hp} : ∀ {xs : List D} {vs : List V} {is : List Int}, RDs K F vs xs → intsOf xs = some is → vs = is.map V.int
  | [], _, _, h, e => by cases h; cases e; rfl
  | .int i :: xs, _, _, h, e => by
    cases h with
    | cons h1 h2 =>
      cases h1
      simp only [intsOf] at e
      split at e
      · rename_i is' hi
        cases e
        rw [intsOf_rds h2 hi]
        rfl
      · cases e
  | .non :: _, _, _, h, e => by cases e
  | .bl _ :: _, _, _, h, e => by cases e
  | .str _ :: _, _, _, h, e => by cases e
  | .lst _ :: _, _, _, h, e => by cases e
  | .sq _ :: _, _, _, h, e => by cases e
  | .tup _ :: _, _, _, h, e => by cases e
  | .obj _ _ _ :: _, _, _, h, e => by cases e
  | .ty _ :: _, _, _, h, e => by cases e
  | .cls _ :: _, _, _, h, e => by cases e
def sumF : FA := fun Γ rs Ψ => match rs with
  | [a] => (match vw Γ a with | some (.lst xs) => (match intsOf xs with | some is => Ψ Γ (.d (.int is.sum)) | none => False) | _ => False)
  | _ => False
theorem cd_sum : CallD K (rSum K) sumF := by
  intro c Γ rs vs Ψ Q st vr q k
  unfold sumF at q
  split at q
  · cases vr with
    | cons v1 vr =>
      cases vr
      split at q
      · rename_i xs hx
        split at q
        · rename_i is hi
          obtain ⟨a, us, rfl, h1, h2⟩ := (st.vd v1 hx).lst st
          have := intsOf_rds h2 hi
          subst this
          exact ⟨a, is, rfl, .of h1, k _ c Γ (.d _) (ExtE.refl _ _) st (RD.int _) q⟩
        · exact q.elim
      · exact q.elim
  · exact q.elim
/-- isinstance -/
def tyD : D → Value
  | .non => .type "NoneType"
  | .bl _ => .type "bool"
  | .int _ => .type "int"
  | .str _ => .type "str"
  | .lst _ => .type "list"
  | .sq _ => .type "list"
  | .tup _ => .type "tuple"
  | .obj C _ _ => .ref C
  | .ty _ => .none
  | .cls _ => .none
structure OwnCls (K : PySem.W.Frag) (C : Addr) : Prop where
  cl : Cls K C
  ha : PySem.W.findIn K (.ref C) "__class__" = some (some (.builtin "object.__class__"))
  hn : PySem.W.specialIn K (.builtin "object.__class__") "__get__" = some (some (.builtin "getset_descriptor.__get__"))
  htk : PySem.W.takesIn K (.builtin "object.__class__") = some true
  hm : PySem.W.mroIn K C (.type "object") = some true
theorem tyX_of {c : Cf} {Γ : Env} (st : Stt K c Γ) {v : V} {x : D} (h : VD K c v x) (hO : ∀ C ns xs, x = .obj C ns xs → OwnCls K C) (h1 : ∀ n, x ≠ .ty n) (h2 : ∀ C, x ≠ .cls C) : TyX K c.H v (tyD x) := by
  cases x with
  | non => cases h.rd (by intro _ z; cases z); exact .base .non
  | bl b => cases h.bl; exact .base (.bl _)
  | int i => cases h.int; exact .base (.int _)
  | str z => cases h.str; exact .base (.str _)
  | lst xs => obtain ⟨a, us, rfl, g1, _⟩ := h.lst st; exact .base (.lst g1)
  | sq xs =>
    obtain ⟨a, us, rfl, g1, _⟩ := h.sq st
    rcases g1 with (g | ⟨o, g⟩) | ⟨o, its, n, e, ec, _⟩
    · exact .base (.lst g)
    · exact .base (.frz g)
    · exact .kList e ec
  | tup xs =>
    obtain ⟨a, us, rfl, g1, _⟩ := h.tup st
    rcases g1 with (g | ⟨o, g⟩) | ⟨o, its, n, e, ec, _⟩
    · exact .base (.tup g)
    · exact .fTuple g
    · exact .kTuple e ec
  | obj C ns xs =>
    have O := hO C ns xs rfl
    cases h.rd (by intro _ z; cases z) with
    | obj g1 g2 g3 => exact .base (.ins (st.sub _ _ g1) O.cl O.ha O.hn O.htk O.hm)
  | ty n => exact absurd rfl (h1 n)
  | cls C => exact absurd rfl (h2 C)
/-- the classes asked for -/
def clsD : D → Option Value
  | .ty n => some (.type n)
  | .cls C => some (.ref C)
  | _ => none
def clsDs : List D → Option (List Value)
  | [] => some []
  | x :: xs => match clsD x, clsDs xs with | some v, some vs => some (v :: vs) | _, _ => none
theorem clsD_ok {F : Hp} {v : V} {x : D} {u : Value} (h : RD K F v x) (e : clsD x = some u) : ClsV v u := by
  cases h <;> cases e
  · exact .ty _
  · exact .own _
theorem clsDs_ok {F : Hp} : ∀ {xs : List D} {vs : List V} {us : List Value}, RDs K F vs xs → clsDs xs = some us → Paired ClsV vs us
  | [], _, _, h, e => by cases h; cases e; exact .nil
  | x :: xs, _, _, h, e => by
    cases h with
    | cons h1 h2 =>
      simp only [clsDs] at e
      split at e
      · rename_i e1 e2
        cases e
        exact .cons (clsD_ok h1 e1) (clsDs_ok h2 e2)
      · cases e
/-- the table of answers I: (type, class), own: the text's classes -/
def isiOne (I : Value → Value → Option Bool) (own : Addr → Prop) (x : D) (u : Value) (k : Bool → Prop) : Prop := (match x with | .ty _ => False | .cls _ => False | .obj C _ _ => own C | _ => True) ∧ (match I (tyD x) u with | some b => k b | none => False)
def anyI (I : Value → Value → Option Bool) (t : Value) : List Value → Option Bool
  | [] => some false
  | u :: us => match I t u with | some true => some true | some false => anyI I t us | none => none
def isiF (I : Value → Value → Option Bool) (own : Addr → Prop) : FA := fun Γ rs Ψ => match rs with
  | [a, b] => (match vw Γ a, vw Γ b with
    | some x, some y => (match x with | .ty _ => False | .cls _ => False | .obj C _ _ => own C | _ => True) ∧ (match (match y with | .tup ys => (match clsDs ys with | some us => anyI I (tyD x) us | none => none) | y => (match clsD y with | some u => I (tyD x) u | none => none)) with
      | some k => Ψ Γ (.d (.bl k))
      | none => False)
    | _, _ => False)
  | _ => False
def rIsiQ (K : PySem.W.Frag) : List V → Hp → VK → Prop := fun xs H Q => ∃ (x : V) (tp : Addr) (cs : List V) (t : Value) (us : List Value) (b : Bool), xs = [x, .ref tp] ∧ SqT K H tp cs ∧ Paired ClsV cs us ∧ TyX K H x t ∧ PySem.W.kitAny K t us = some b ∧ Q (.bl b) H
theorem call_isiQ {X : Cx} : CallR X (.builtin "isinstance") (rIsiQ X.K) := by
  intro pins s σ H xs us Q I r h
  obtain ⟨x, tp, cs, t, ws, b, rfl, hT, k, ty, e, q⟩ := h
  obtain ⟨u1, u2, rfl, r1, r2⟩ := vals2 r
  cases (show u2 = Value.ref tp from r2)
  obtain ⟨P, Z, p, hx⟩ := kit_of I r1 ty
  obtain ⟨its, rv, ⟨o, h1, h2, n, h3⟩, _⟩ := I.tuple hT
  have e3 := ClsV.all k rv
  subst e3
  obtain ⟨oc, od, dt, sl⟩ := o
  simp only at h2 h3
  subst h2 h3
  exact PySem.W.kia_tup Z I.kIn p h1 e hx fun tk => ⟨.bl b, H, I.tok tk, rfl, q⟩
def rIsiAll (K : PySem.W.Frag) : List V → Hp → VK → Prop := fun xs H Q => rIsi K xs H Q ∨ rIsiQ K xs H Q
theorem CallR.or {X : Cx} {f : Value} {r r' : List V → Hp → VK → Prop} (h : CallR X f r) (h' : CallR X f r') : CallR X f (fun xs H Q => r xs H Q ∨ r' xs H Q) := by
  intro pins s σ H xs us Q I rv hq
  rcases hq with hq | hq
  · exact h pins s σ H xs us Q I rv hq
  · exact h' pins s σ H xs us Q I rv hq
theorem anyI_ok {I : Value → Value → Option Bool} (hI : ∀ t u b, I t u = some b → PySem.W.kitOne K t u = some b) {t : Value} : ∀ {us : List Value} {k : Bool}, anyI I t us = some k → PySem.W.kitAny K t us = some k
  | [], k, h => by cases h; exact kitAny_nil
  | u :: us, k, h => by
    simp only [anyI] at h
    split at h
    · rename_i e
      cases h
      exact kitAny_cons (hI _ _ _ e) (fun z => by cases z) (fun _ => rfl)
    · rename_i e
      exact kitAny_cons (hI _ _ _ e) (fun _ => anyI_ok hI h) (fun z => by cases z)
    · cases h
theorem cd_isi {I : Value → Value → Option Bool} {own : Addr → Prop} (hI : ∀ t u b, I t u = some b → PySem.W.kitOne K t u = some b) (hO : ∀ C, own C → OwnCls K C) : CallD K (rIsiAll K) (isiF I own) := by
  intro c Γ rs vs Ψ Q st vr q k
  unfold isiF at q
  split at q
  · cases vr with
    | cons v1 vr =>
      cases vr with
      | cons v2 vr =>
        cases vr
        rename_i va vb
        split at q
        · rename_i x y hx hy
          obtain ⟨ho, q⟩ := q
          have ty : TyX K c.H va (tyD x) := tyX_of st (st.vd v1 hx) (fun C ns xs e => by subst e; exact hO C ho) (fun n e => by subst e; exact ho) (fun C e => by subst e; exact ho)
          split at q
          · rename_i kk hk
            have fin := k _ c Γ (.d (.bl kk)) (ExtE.refl _ _) st (RD.bl kk) q
            split at hk
            · rename_i ys
              split at hk
              · rename_i us hu
                obtain ⟨tp, cs, e3, h3, h4⟩ := (st.vd v2 hy).tup st
                subst e3
                exact .inr ⟨va, tp, cs, tyD x, us, kk, rfl, h3, clsDs_ok h4 hu, ty, anyI_ok hI hk, fin⟩
              · cases hk
            · split at hk
              · rename_i u hu
                have d := (st.vd v2 hy).rd (by rintro xs rfl; cases hu)
                exact .inl ⟨va, vb, tyD x, u, kk, rfl, clsD_ok d hu, ty, hI _ _ _ hk, fin⟩
              · cases hk
          · exact q.elim
        · exact q.elim
  · exact q.elim
end
end Mv
set_option Elab.async false
set_option linter.all false
set_option maxRecDepth 100000
namespace Mv
open PySem PySem.Spec PyProof.Rows L2
/-! ### what is walked -/
structure GoD (K : PySem.W.Frag) (J : It) (G F : Hp) (xs : List D) : Prop where
  go : ∀ H i, Same G H → i < xs.length → J.go i H
  stop : ∀ H, Same G H → J.stop xs.length H
  yld : ∀ H F' i v H', Same G H → Same F F' → Same F' H → J.yld i H v H' → ∀ x, xs[i]? = some x → (H' = H ∧ RD K F' v x) ∨ ∃ p o, H p = none ∧ H' = upd H p o ∧ RD K (upd F' p o) v x
abbrev TID := Env → (Env → Bool → List D → Prop) → Prop
structure PID (S : Cs) (m : Bool) (tg iter : Expr) (t : TID) : Prop where
  ex : ∃ wi : TI, (∀ X, S.In X → PI X tg iter wi) ∧ ∀ (c : Cf) (Γ : Env) (Ψ : Env → Bool → List D → Prop) (R : It → Hp → Prop), c.σ.length = S.N.length → Stt S.K c Γ → t Γ Ψ →
    (∀ J c' Γ' b xs G, ExtE m c c' → Stt S.K c' Γ' → Same G c'.H → (b = false → Same G c'.F) → GoD S.K J G c'.F xs → Ψ Γ' b xs → R J c'.H) → wi c.σ c.H R
def strD (z : Str) : List D := z.cps.toList.map fun ch => .str ⟨#[ch]⟩
def seqIt : D → Option (List D)
  | .lst xs => some xs
  | .tup xs => some xs
  | .sq xs => some xs
  | .str z => some (strD z)
  | _ => none
section
variable {S : Cs} {m ma : Bool} {tg e e2 : Expr} {pos p : Pos}
/-- a list, a tuple, a text -/
def iSeq (K : PySem.W.Frag) (tl : TE) : TI := fun σ H R => tl σ H fun x H1 => (∃ a, x = .ref a ∧ (∃ xs, SqL K H1 a xs) ∧ R (Itl K a) H1) ∨ (∃ a, x = .ref a ∧ (∃ xs, SqT K H1 a xs) ∧ R (Itt K a) H1) ∨ ∃ z, x = .str z ∧ R (Its z) H1
theorem pi_seq {X : Cx} {l : Expr} {tl : TE} (hl : PE X l tl) : PI X tg l (iSeq X.K tl) := by
  refine ⟨fun pins s σ H R I h => ?_⟩
  refine thn (hl.run pins s σ H _ I h) fun v s1 ⟨x, H1, I1, r1, q1⟩ => ?_
  rcases q1 with ⟨a, rfl, ⟨xs, hq⟩, q⟩ | ⟨a, rfl, ⟨xs, hq⟩, q⟩ | ⟨z, rfl, q⟩
  · cases r1
    obtain ⟨its, rv, p, hz⟩ := I1.list hq
    refine wpAny_pyIter_list p.isList ?_
    refine ⟨s1.heap.objs.size, [s1.heap.objs.size], _, _, H1, rfl, I1.kept (t' := s1.toks) fun b o e => Heap.get?_push_of_some _ e, turn_list a _, ⟨_, Heap.get?_push_size _ rfl, rfl, rfl⟩, fun b hb => ?_, q⟩
    have e : b = s1.heap.objs.size := by simpa using hb
    subst e
    exact I1.fpOk (Nat.le_refl _) (I1.hok.fresh (Nat.le_refl _))
  · cases r1
    obtain ⟨its, rv, p, hz⟩ := I1.tuple hq
    refine wpAny_pyIter_tuple (show s1.heap.IsTuple a its.toArray from p) ?_
    refine ⟨s1.heap.objs.size, [s1.heap.objs.size], _, _, H1, rfl, I1.kept (t' := s1.toks) fun b o e => Heap.get?_push_of_some _ e, turn_tuple a _, ⟨_, Heap.get?_push_size _ rfl, rfl, rfl⟩, fun b hb => ?_, q⟩
    have e : b = s1.heap.objs.size := by simpa using hb
    subst e
    exact I1.fpOk (Nat.le_refl _) (I1.hok.fresh (Nat.le_refl _))
  · obtain ⟨t, rfl⟩ := r1
    cases ha : z.cps.all (· < 128)
    · exact wpAny_pyIter_wide ha (pi_one (tk := s1.toks) I1 _ (turn_str _ z t "str_iterator" (.inr rfl)) ⟨_, Heap.get?_push_size _ rfl, rfl, rfl⟩ q)
    · exact wpAny_pyIter_ascii ha (pi_one (tk := s1.toks) I1 _ (turn_str _ z t "str_ascii_iterator" (.inl rfl)) ⟨_, Heap.get?_push_size _ rfl, rfl, rfl⟩ q)
def tSeqF (t : TD) : TID := fun Γ Ψ => t Γ fun Γ1 r => asD Γ1 r fun Γ2 x => match seqIt x with | some xs => Ψ Γ2 false xs | none => False
def tSeqB (t : TD) : TID := fun Γ Ψ => t Γ fun Γ1 r => match (match vw Γ1 r with | some x => seqIt x | none => none) with | some xs => Ψ Γ1 true xs | none => False
theorem goD_l {K : PySem.W.Frag} {G F : Hp} {a : Addr} {us : List V} {xs : List D} (h : SqL K G a us) (r : RDs K F us xs) : GoD K (Itl K a) G F xs where
  go := fun H i s hi => by
    obtain ⟨v, e, _⟩ := r.get (i := i) (x := xs[i]) (by simp [hi])
    exact ⟨us, v, s.seq h, e⟩
  stop := fun H s => ⟨us, s.seq h, by rw [r.length]; exact Nat.le_refl _⟩
  yld := fun H F' i v H' s f sf y x e => by
    obtain ⟨rfl, y⟩ := y
    obtain ⟨w, e', rw'⟩ := r.get e
    rw [y us (s.seq h)] at e'
    cases e'
    exact .inl ⟨rfl, rw'.mono f⟩
theorem goD_t {K : PySem.W.Frag} {G F : Hp} {a : Addr} {us : List V} {xs : List D} (h : SqT K G a us) (r : RDs K F us xs) : GoD K (Itt K a) G F xs where
  go := fun H i s hi => by
    obtain ⟨v, e, _⟩ := r.get (i := i) (x := xs[i]) (by simp [hi])
    exact ⟨us, v, same_seqT s h, e⟩
  stop := fun H s => ⟨us, same_seqT s h, by rw [r.length]; exact Nat.le_refl _⟩
  yld := fun H F' i v H' s f sf y x e => by
    obtain ⟨rfl, y⟩ := y
    obtain ⟨w, e', rw'⟩ := r.get e
    rw [y us (same_seqT s h)] at e'
    cases e'
    exact .inl ⟨rfl, rw'.mono f⟩
theorem goD_s {K : PySem.W.Frag} {G F : Hp} {z : Str} : GoD K (Its z) G F (strD z) where
  go := fun H i s hi => by
    simp only [strD, List.length_map, Array.length_toList] at hi
    exact hi
  stop := fun H s => by
    show z.cps.size ≤ _
    simp [strD]
  yld := fun H F' i v H' s f sf y x e => by
    obtain ⟨rfl, ch, e1, rfl⟩ := y
    simp only [strD, List.getElem?_map, Array.getElem?_toList, e1] at e
    cases e
    exact .inl ⟨rfl, .str _⟩
theorem pid_seqF {t : TD} (h : PD S m e t) : PID S m tg e (tSeqF t) := by
  obtain ⟨ua, a1, a2⟩ := h.ex
  refine ⟨iSeq S.K ua, fun X hX => by rw [← hX.K]; exact pi_seq (a1 X hX), fun c Γ Ψ R hn st h k => ?_⟩
  refine a2 c Γ _ _ hn st h fun v c1 Γ1 r e1 st1 v1 q1 => ?_
  obtain ⟨c2, Γ2, x, e2, st2, d2, q2, eh, _, _⟩ := asD_ok st1 v1 q1
  split at q2
  · rename_i xs hx
    rw [← eh]
    have kk := fun J G g1 g2 g3 => k J c2 Γ2 false xs G ((e1.trans e2).le fun z => by simpa using z) st2 g1 (fun _ => g2) g3 q2
    cases x with
    | lst zs =>
      cases hx
      cases d2 with
      | lst g1 g2 => exact .inl ⟨_, rfl, ⟨_, .of (st2.sub _ _ g1)⟩, kk _ c2.F st2.sub (Same.refl _) (goD_l (.of g1) g2)⟩
    | sq zs =>
      cases hx
      cases d2 with
      | sq g1 g2 => exact .inl ⟨_, rfl, ⟨_, st2.sub.seq g1⟩, kk _ c2.F st2.sub (Same.refl _) (goD_l g1 g2)⟩
    | tup zs =>
      cases hx
      cases d2 with
      | tup g1 g2 => exact .inr (.inl ⟨_, rfl, ⟨_, same_seqT st2.sub g1⟩, kk _ c2.F st2.sub (Same.refl _) (goD_t g1 g2)⟩)
    | str z =>
      cases hx
      cases d2
      exact .inr (.inr ⟨z, rfl, kk _ c2.F st2.sub (Same.refl _) goD_s⟩)
    | _ => cases hx
  · exact q2.elim
theorem pid_seqB {t : TD} (h : PD S m e t) : PID S m tg e (tSeqB t) := by
  obtain ⟨ua, a1, a2⟩ := h.ex
  refine ⟨iSeq S.K ua, fun X hX => by rw [← hX.K]; exact pi_seq (a1 X hX), fun c Γ Ψ R hn st h k => ?_⟩
  refine a2 c Γ _ _ hn st h fun v c1 Γ1 r e1 st1 v1 q1 => ?_
  split at q1
  · rename_i xs hx
    split at hx
    · rename_i x hv
      have kk := fun J g => k J c1 Γ1 true xs c1.H e1 st1 (Same.refl _) (fun z => by cases z) g q1
      have d := st1.vd v1 hv
      cases x with
      | lst zs =>
        cases hx
        obtain ⟨a, us, rfl, g1, g2⟩ := d.lst st1
        exact .inl ⟨_, rfl, ⟨_, .of g1⟩, kk _ (goD_l (.of g1) g2)⟩
      | sq zs =>
        cases hx
        obtain ⟨a, us, rfl, g1, g2⟩ := d.sq st1
        exact .inl ⟨_, rfl, ⟨_, g1⟩, kk _ (goD_l g1 g2)⟩
      | tup zs =>
        cases hx
        obtain ⟨a, us, rfl, g1, g2⟩ := d.tup st1
        exact .inr (.inl ⟨_, rfl, ⟨_, g1⟩, kk _ (goD_t g1 g2)⟩)
      | str z =>
        cases hx
        cases d.str
        exact .inr (.inr ⟨z, rfl, kk _ goD_s⟩)
      | _ => cases hx
    · cases hx
  · exact q1.elim
def rngD (lo : Int) (n : Nat) : List D := (List.range n).map fun i => .int (lo + (i : Nat))
theorem goD_r {K : PySem.W.Frag} {G F : Hp} {lo : Int} {n : Nat} : GoD K (Itr lo n) G F (rngD lo n) where
  go := fun H i s hi => by
    simp only [rngD, List.length_map, List.length_range] at hi
    exact hi
  stop := fun H s => by
    show n ≤ _
    simp [rngD]
  yld := fun H F' i v H' s f sf y x e => by
    obtain ⟨rfl, rfl⟩ := y
    have hi : i < n := by
      have := (List.getElem?_eq_some_iff.mp e).1
      simpa [rngD] using this
    simp only [rngD, List.getElem?_map, List.getElem?_range hi, Option.map_some] at e
    cases e
    exact .inl ⟨rfl, .int _⟩
def tRng1 (t : TAD) : TID := fun Γ Ψ => t Γ fun Γ1 rs => match rs with
  | [a] => (match vw Γ1 a with | some (.int j) => -(2 ^ 62) ≤ j ∧ j < 2 ^ 62 ∧ Ψ Γ1 false (rngD 0 j.toNat) | _ => False)
  | _ => False
def tRng2 (t : TAD) : TID := fun Γ Ψ => t Γ fun Γ1 rs => match rs with
  | [a, b] => (match vw Γ1 a, vw Γ1 b with | some (.int i), some (.int j) => (-(2 ^ 62) ≤ i ∧ i < 2 ^ 62 ∧ -(2 ^ 62) ≤ j ∧ j < 2 ^ 62) ∧ Ψ Γ1 false (rngD i (j - i).toNat) | _, _ => False)
  | _ => False
theorem pid_range1 {t : TAD} (hg : S.sc.names.lookup ("range" : Str) = some .globalImplicit) (hm : S.mg ("range" : Str) = none) (h : PAD S m [e] t) (hs : ∀ env, starEach [e] env = [(false, eval e env)] := by intro _; rfl) : PID S m tg (.Call (.Name "range" p) [e] [] pos) (tRng1 t) := by
  obtain ⟨ua, a1, a2⟩ := h.ex
  refine ⟨_, fun X hX => pi_range1 (by show X.env.scope.names.lookup _ = _; rw [hX.sc]; exact hg) (by rw [hX.mg]; exact hm) (a1 X hX) (hs _), fun c Γ Ψ R hn st h k => ?_⟩
  refine a2 c Γ _ _ hn st h fun vs c1 Γ1 rs e1 st1 v1 q1 => ?_
  split at q1
  · cases v1 with
    | cons v1 vr =>
      cases vr
      split at q1
      · rename_i j hj
        cases (st1.vd v1 hj).int
        exact ⟨j, rfl, q1.1, q1.2.1, k _ c1 Γ1 false _ c1.F e1 st1 st1.sub (fun _ => Same.refl _) goD_r q1.2.2⟩
      · exact q1.elim
  · exact q1.elim
theorem pid_range2 {t : TAD} (hg : S.sc.names.lookup ("range" : Str) = some .globalImplicit) (hm : S.mg ("range" : Str) = none) (h : PAD S m [e, e2] t) (hs : ∀ env, starEach [e, e2] env = [(false, eval e env), (false, eval e2 env)] := by intro _; rfl) (hs2 : ∀ env, starEach [e2] env = [(false, eval e2 env)] := by intro _; rfl) :
    PID S m tg (.Call (.Name "range" p) [e, e2] [] pos) (tRng2 t) := by
  obtain ⟨ua, a1, a2⟩ := h.ex
  refine ⟨_, fun X hX => pi_range2 (by show X.env.scope.names.lookup _ = _; rw [hX.sc]; exact hg) (by rw [hX.mg]; exact hm) (a1 X hX) (hs _) (hs2 _), fun c Γ Ψ R hn st h k => ?_⟩
  refine a2 c Γ _ _ hn st h fun vs c1 Γ1 rs e1 st1 v1 q1 => ?_
  split at q1
  · cases v1 with
    | cons v1 vr =>
      cases vr with
      | cons v2 vr =>
        cases vr
        split at q1
        · rename_i i j hi hj
          cases (st1.vd v1 hi).int
          cases (st1.vd v2 hj).int
          exact ⟨i, j, rfl, q1.1, k _ c1 Γ1 false _ c1.F e1 st1 st1.sub (fun _ => Same.refl _) goD_r q1.2⟩
        · exact q1.elim
  · exact q1.elim
/-- zip of two lists, of two tuples -/
def zipD : List D → List D → List D
  | x :: xs, y :: ys => .tup [x, y] :: zipD xs ys
  | _, _ => []
theorem zipD_length : ∀ xs ys : List D, (zipD xs ys).length = min xs.length ys.length
  | [], _ => by simp [zipD]
  | _ :: _, [] => by simp [zipD]
  | x :: xs, y :: ys => by
    rw [zipD, List.length_cons, zipD_length xs ys, List.length_cons, List.length_cons]
    omega
theorem zipD_get : ∀ {xs ys : List D} {i : Nat} {z : D}, (zipD xs ys)[i]? = some z → ∃ x y, xs[i]? = some x ∧ ys[i]? = some y ∧ z = .tup [x, y]
  | [], _, _, _, h => by simp [zipD] at h
  | _ :: _, [], _, _, h => by simp [zipD] at h
  | x :: xs, y :: ys, 0, z, h => by
    simp [zipD] at h
    exact ⟨x, y, rfl, rfl, h.symm⟩
  | x :: xs, y :: ys, i + 1, z, h => by
    obtain ⟨a, b, h1, h2, h3⟩ := zipD_get (xs := xs) (ys := ys) (i := i) (z := z) (by simpa [zipD] using h)
    exact ⟨a, b, by simpa using h1, by simpa using h2, h3⟩
theorem pair_rd {K : PySem.W.Frag} {F H : Hp} {T : Addr} {v w : V} {x y : D} (sf : Same F H) (hT : H T = none) (r1 : RD K F v x) (r2 : RD K F w y) : RD K (upd F T (.tup [v, w])) (.ref T) (.tup [x, y]) := by
  have s : Same F (upd F T (.tup [v, w])) := fun b o e => by
    rw [upd_ne (ne_of_none (sf b o e) hT)]
    exact e
  exact .tup (.of upd_same) (.cons (r1.mono s) (.cons (r2.mono s) .nil))
theorem goD_zl {K : PySem.W.Frag} {G F : Hp} {a b : Addr} {us ws : List V} {xs ys : List D} (h : SqL K G a us) (h' : SqL K G b ws) (r : RDs K F us xs) (r' : RDs K F ws ys) : GoD K (Itz K a b) G F (zipD xs ys) where
  go := fun H i s hi => by
    rw [zipD_length] at hi
    obtain ⟨v, e, _⟩ := r.get (i := i) (x := xs[i]'(by omega)) (by simp)
    obtain ⟨w, e', _⟩ := r'.get (i := i) (x := ys[i]'(by omega)) (by simp)
    exact ⟨us, ws, v, w, s.seq h, s.seq h', e, e'⟩
  stop := fun H s => by
    refine ⟨us, ws, s.seq h, s.seq h', ?_⟩
    rw [zipD_length, r.length, r'.length]
    omega
  yld := fun H F' i v H' s f sf y x e => by
    obtain ⟨T, x1, y1, rfl, hT, rfl, hx, hy⟩ := y
    obtain ⟨p, q, e1, e2, rfl⟩ := zipD_get e
    obtain ⟨v1, g1, r1⟩ := r.get e1
    obtain ⟨v2, g2, r2⟩ := r'.get e2
    rw [hx us (s.seq h)] at g1
    rw [hy ws (s.seq h')] at g2
    cases g1
    cases g2
    exact .inr ⟨T, _, hT, rfl, pair_rd sf hT (r1.mono f) (r2.mono f)⟩
theorem goD_zt {K : PySem.W.Frag} {G F : Hp} {a b : Addr} {us ws : List V} {xs ys : List D} (h : SqT K G a us) (h' : SqT K G b ws) (r : RDs K F us xs) (r' : RDs K F ws ys) : GoD K (RZ.ItzT K a b) G F (zipD xs ys) where
  go := fun H i s hi => by
    rw [zipD_length] at hi
    obtain ⟨v, e, _⟩ := r.get (i := i) (x := xs[i]'(by omega)) (by simp)
    obtain ⟨w, e', _⟩ := r'.get (i := i) (x := ys[i]'(by omega)) (by simp)
    exact ⟨us, ws, v, w, same_seqT s h, same_seqT s h', e, e'⟩
  stop := fun H s => by
    refine ⟨us, ws, same_seqT s h, same_seqT s h', ?_⟩
    rw [zipD_length, r.length, r'.length]
    omega
  yld := fun H F' i v H' s f sf y x e => by
    obtain ⟨T, x1, y1, rfl, hT, rfl, hx, hy⟩ := y
    obtain ⟨p, q, e1, e2, rfl⟩ := zipD_get e
    obtain ⟨v1, g1, r1⟩ := r.get e1
    obtain ⟨v2, g2, r2⟩ := r'.get e2
    rw [hx us (same_seqT s h)] at g1
    rw [hy ws (same_seqT s h')] at g2
    cases g1
    cases g2
    exact .inr ⟨T, _, hT, rfl, pair_rd sf hT (r1.mono f) (r2.mono f)⟩
def tZip (t : TAD) : TID := fun Γ Ψ => t Γ fun Γ1 rs => match rs with
  | [a, b] => (match vw Γ1 a, vw Γ1 b with
    | some (.lst xs), some (.lst ys) => Ψ Γ1 true (zipD xs ys)
    | some (.tup xs), some (.tup ys) => Ψ Γ1 true (zipD xs ys)
    | _, _ => False)
  | _ => False
theorem pid_zip {elts : List Expr} {kk : Nat} {tpos : Pos} {t : TAD} (hg : S.sc.names.lookup ("zip" : Str) = some .globalImplicit) (hm : S.mg ("zip" : Str) = none) (h : PAD S m [e, e2] t)
    (hs : ∀ env, starEach [e, e2] env = (false, eval e env) :: starEach [e2] env := by intro _; rfl) (hpl : ∀ env, (backTo pos (starEach [e2] env)).any (·.1) = false := by intro _; rfl) : PID S m (.Tuple elts kk tpos) (.Call (.Name "zip" p) [e, e2] [] pos) (tZip t) := by
  obtain ⟨ua, a1, a2⟩ := h.ex
  refine ⟨RZ.iZipA S.K ua, fun X hX => by rw [← hX.K]; exact RZ.pi_zipA (by show X.env.scope.names.lookup _ = _; rw [hX.sc]; exact hg) (by rw [hX.mg]; exact hm) (a1 X hX) (hs _) (hpl _), fun c Γ Ψ R hn st h k => ?_⟩
  refine a2 c Γ _ _ hn st h fun vs c1 Γ1 rs e1 st1 v1 q1 => ?_
  split at q1
  · cases v1 with
    | cons v1 vr =>
      cases vr with
      | cons v2 vr =>
        cases vr
        split at q1
        · rename_i xs ys hi hj
          obtain ⟨a, us, rfl, g1, g2⟩ := (st1.vd v1 hi).lst st1
          obtain ⟨b, ws, rfl, g3, g4⟩ := (st1.vd v2 hj).lst st1
          exact ⟨a, b, us, ws, rfl, .inl ⟨.of g1, .of g3, k _ c1 Γ1 true _ c1.H e1 st1 (Same.refl _) (fun z => by cases z) (goD_zl (.of g1) (.of g3) g2 g4) q1⟩⟩
        · rename_i xs ys hi hj
          obtain ⟨a, us, rfl, g1, g2⟩ := (st1.vd v1 hi).tup st1
          obtain ⟨b, ws, rfl, g3, g4⟩ := (st1.vd v2 hj).tup st1
          exact ⟨a, b, us, ws, rfl, .inr ⟨g1, g3, k _ c1 Γ1 true _ c1.H e1 st1 (Same.refl _) (fun z => by cases z) (goD_zt g1 g3 g2 g4) q1⟩⟩
        · exact q1.elim
  · exact q1.elim
end
/-! ### targets -/
inductive Pat where
  | nm (i : Nat) | tu (is : List Nat)
def Pat.slots : Pat → List Nat
  | .nm i => [i]
  | .tu is => is
def bindL : List Nat → List D → Env → Option Env
  | [], [], Γ => some Γ
  | i :: is, x :: xs, Γ => bindL is xs (Γ.set i (some (.d x)))
  | _, _, _ => none
def bindP : Pat → D → Env → Option Env
  | .nm i, x, Γ => some (Γ.set i (some (.d x)))
  | .tu is, .tup xs, Γ => bindL is xs Γ
  | .tu _, _, _ => none
/-- slots alone were changed -/
structure Slots (is : List Nat) (c c' : Cf) : Prop where
  F : c'.F = c.F
  H : c'.H = c.H
  ω : c'.ω = c.ω
  τ : c'.τ = c.τ
  len : c'.σ.length = c.σ.length
  out : ∀ i, i ∉ is → c'.σ[i]? = c.σ[i]?
theorem Slots.ext {is : List Nat} {c c' : Cf} (h : Slots is c c') : Ext c c' :=
  ⟨by rw [h.F]; exact Same.refl _, fun a o e n => by rw [h.H, h.ω]; exact ⟨e, n⟩, fun a o e => by rw [h.F] at e; exact .inl e, fun a e => by rw [h.H] at e; exact e⟩
theorem Slots.refl (c : Cf) (is : List Nat) : Slots is c c := ⟨rfl, rfl, rfl, rfl, rfl, fun _ _ => rfl⟩
theorem Slots.trans {is js ks : List Nat} {a b c : Cf} (h : Slots is a b) (h' : Slots js b c) (h1 : ∀ i ∈ is, i ∈ ks) (h2 : ∀ i ∈ js, i ∈ ks) : Slots ks a c :=
  ⟨h'.F.trans h.F, h'.H.trans h.H, h'.ω.trans h.ω, h'.τ.trans h.τ, h'.len.trans h.len, fun i hi => (h'.out i fun z => hi (h2 i z)).trans (h.out i fun z => hi (h1 i z))⟩
structure PGD (S : Cs) (tg : Expr) (pat : Pat) : Prop where
  ex : ∃ g, (∀ X, S.In X → PG X tg g) ∧ (∀ i ∈ pat.slots, i < S.N.length) ∧ ∀ (c : Cf) (Γ Γ' : Env) (v : V) (x : D) (Q : L2.St → Hp → Prop), c.σ.length = S.N.length → Stt S.K c Γ → RD S.K c.F v x → bindP pat x Γ = some Γ' →
    (∀ c', Slots pat.slots c c' → Stt S.K c' Γ' → Q c'.σ c'.H) → g v c.σ c.H Q
structure PGsD (S : Cs) (tgs : List Expr) (is : List Nat) : Prop where
  ex : ∃ g, (∀ X, S.In X → PGs X tgs g) ∧ (∀ i ∈ is, i < S.N.length) ∧ ∀ (c : Cf) (Γ Γ' : Env) (vs : List V) (xs : List D) (Q : L2.St → Hp → Prop), c.σ.length = S.N.length → Stt S.K c Γ → RDs S.K c.F vs xs → bindL is xs Γ = some Γ' →
    (∀ c', Slots is c c' → Stt S.K c' Γ' → Q c'.σ c'.H) → g vs c.σ c.H Q
section
variable {S : Cs} {pos : Pos}
theorem Slots.set {c : Cf} {i : Nat} {v : V} : Slots [i] c { c with σ := c.σ.set i (some v) } :=
  ⟨rfl, rfl, rfl, rfl, by simp, fun j hj => by show (c.σ.set i (some v))[j]? = _; rw [List.getElem?_set_ne]; intro z; exact hj (by simp [z])⟩
theorem pgd_name (i : Nat) {x : Str} (hi : S.N[i]? = some x := by rfl) (hx : L2.Loc S.sc x := by first | exact Or.inl rfl | exact Or.inr rfl) (hf : S.fn x = true ∨ S.sc.names.lookup x = some .local := by first | exact Or.inl rfl | exact Or.inr rfl) : PGD S (.Name x pos) (.nm i) := by
  have hl : i < S.N.length := (List.getElem?_eq_some_iff.mp hi).1
  refine ⟨_, fun X hX => pg_name (i := i) (by rw [hX.N]; exact hX.nd) (by rw [hX.N]; exact hi) (by rw [hX.sc]; exact hx) (hf.imp (hX.fn x) fun h => by rw [hX.sc]; exact h), fun j hj => by simp [Pat.slots] at hj; rw [hj]; exact hl, fun c Γ Γ' v y Q hn st r hb k => ?_⟩
  cases hb
  obtain ⟨st', _⟩ := st.set_d (i := i) (by rw [hn]; exact hl) r
  exact k _ Slots.set st'
theorem pgsd_nil : PGsD S [] [] := by
  refine ⟨gNil, fun X hX => pgs_nil, fun i hi => absurd hi (by simp), fun c Γ Γ' vs xs Q hn st r hb k => ?_⟩
  cases r with
  | nil =>
    cases hb
    exact ⟨rfl, k c (Slots.refl c _) st⟩
  | cons _ _ => cases hb
theorem pgsd_cons {e : Expr} {es : List Expr} {i : Nat} {is : List Nat} (h : PGD S e (.nm i)) (h' : PGsD S es is) (hs : ∀ env, (assignEach (e :: es) env).map (·.2) = assign e env :: (assignEach es env).map (·.2) := by intro _; rfl) : PGsD S (e :: es) (i :: is) := by
  obtain ⟨g, g1, gl, g2⟩ := h.ex
  obtain ⟨u, u1, ul, u2⟩ := h'.ex
  refine ⟨_, fun X hX => pgs_cons (g1 X hX) (u1 X hX) (hs _), fun j hj => ?_, fun c Γ Γ' vs xs Q hn st r hb k => ?_⟩
  · rcases List.mem_cons.mp hj with rfl | hj
    · exact gl j (by simp [Pat.slots])
    · exact ul j hj
  · cases r with
    | nil => cases hb
    | @cons v vs x xs r1 r2 =>
      refine ⟨v, vs, rfl, g2 c Γ _ v x _ hn st r1 rfl fun c1 s1 st1 => ?_⟩
      exact u2 c1 _ Γ' vs xs Q (by rw [s1.len]; exact hn) st1 (by rw [s1.F]; exact r2) hb fun c2 s2 st2 => k c2 (s1.trans s2 (fun j hj => by simp [Pat.slots] at hj; simp [hj]) fun j hj => List.mem_cons_of_mem _ hj) st2
theorem pgd_tup {es : List Expr} {k : Nat} {is : List Nat} {n : Nat} (h : PGsD S es is) (hl : is.length = n := by rfl) (hn : ∀ env, (assignEach es env).length = n := by intro _; rfl) (hst : ∀ env, (assignEach es env).findIdx? (·.1) = none := by intro _; rfl) : PGD S (.Tuple es k pos) (.tu is) := by
  obtain ⟨u, u1, ul, u2⟩ := h.ex
  refine ⟨gTup S.K n u, fun X hX => by rw [← hX.K]; exact pg_tup hX.calm (u1 X hX) (hn _) (hst _), ul, fun c Γ Γ' v x Q hn st r hb k => ?_⟩
  cases x with
  | tup xs =>
    cases r with
    | @tup a vs _ h1 h2 =>
      refine ⟨a, vs, rfl, same_seqT st.sub h1, ?_, u2 c Γ Γ' vs xs Q hn st h2 hb k⟩
      have : ∀ {is : List Nat} {xs : List D} {Γ Γ' : Env}, bindL is xs Γ = some Γ' → is.length = xs.length := by
        intro is
        induction is with
        | nil => intro xs Γ Γ' h; cases xs with | nil => rfl | cons _ _ => cases h
        | cons i is ih => intro xs Γ Γ' h; cases xs with | nil => cases h | cons x xs => rw [List.length_cons, List.length_cons, ih h]
      rw [h2.length, ← this hb, hl]
  | _ => cases hb
end
end Mv
set_option Elab.async false
set_option linter.all false
set_option maxRecDepth 100000
namespace Mv
open PySem PySem.Spec PyProof.Rows L2
/-! ### comprehensions -/
abbrev Cs.blk (S : Cs) (scope : Scope) : Cs := { S with sc := relS scope S.sc, fn := fun x => scope.names.lookup x == some .cell }
theorem Cs.In.blk {S : Cs} {X : Cx} (h : S.In X) (scope : Scope) (s : Shared) (H : Hp) (C : Addr) (cl : List (Str × Addr)) (fp : List Addr) : (S.blk scope).In (X.blk s H scope (compEnvC scope cl C X.env) fp) :=
  ⟨h.prog, h.w, h.K, h.mg, h.base, h.N, by show relS scope X.env.scope = _; rw [h.sc], h.calm, h.room, fun _ e => e, h.nd, rfl⟩
structure PTsD (S : Cs) (m : Bool) (ifs : List Expr) (t : TTD) : Prop where
  ex : ∃ te, (∀ X, S.In X → PTs X ifs te) ∧ LT S.K S.N.length m te t
def tYesD : TTD := fun Γ Ψ => Ψ Γ true
theorem ptsd_nil {S : Cs} : PTsD S false [] tYesD := ⟨_, fun _ _ => pts_nil, fun c Γ Ψ Q hn st h k => k true c Γ (ExtE.refl _ _) st h⟩
theorem ptsd_one {S : Cs} {m : Bool} {e : Expr} {t : TTD} (h : PTD S m e t) : PTsD S m [e] t := by
  obtain ⟨u, h1, h2⟩ := h.ex
  exact ⟨u, fun X hX => pts_one (h1 X hX), h2⟩
def wipeE (Γ : Env) : List Nat → Env
  | [] => Γ
  | v :: vs => (wipeE Γ vs).set v none
theorem wipeE_length (Γ : Env) : ∀ vs, (wipeE Γ vs).length = Γ.length
  | [] => rfl
  | v :: vs => by rw [wipeE, List.length_set, wipeE_length Γ vs]
theorem wipeE_some {Γ : Env} {i : Nat} {t : T} : ∀ {vs : List Nat}, (wipeE Γ vs)[i]? = some (some t) → Γ[i]? = some (some t) ∧ i ∉ vs
  | [], h => ⟨h, by simp⟩
  | v :: vs, h => by
    rw [wipeE] at h
    by_cases hi : v = i
    · subst hi
      by_cases hl : v < (wipeE Γ vs).length
      · rw [List.getElem?_set_self hl] at h
        cases h
      · rw [List.getElem?_eq_none (by simpa using hl)] at h
        cases h
    · rw [List.getElem?_set_ne hi] at h
      obtain ⟨h1, h2⟩ := wipeE_some h
      exact ⟨h1, by simp only [List.mem_cons, not_or]; exact ⟨fun e => hi e.symm, h2⟩⟩
theorem wipeE_out {Γ : Env} {i : Nat} : ∀ {vs : List Nat}, i ∉ vs → (wipeE Γ vs)[i]? = Γ[i]?
  | [], _ => rfl
  | v :: vs, h => by
    simp only [List.mem_cons, not_or] at h
    rw [wipeE, List.getElem?_set_ne (Ne.symm h.1), wipeE_out h.2]
theorem wipe_out {σ : L2.St} {i : Nat} : ∀ {vs : List Nat}, i ∉ vs → (wipe σ vs)[i]? = σ[i]?
  | [], _ => rfl
  | v :: vs, h => by
    simp only [List.mem_cons, not_or] at h
    rw [wipe, List.getElem?_set_ne (Ne.symm h.1), wipe_out h.2]
theorem wipe_in {σ : L2.St} {i : Nat} (hi : i < σ.length) : ∀ {vs : List Nat}, i ∈ vs → (wipe σ vs)[i]? = some none
  | [], h => by cases h
  | v :: vs, h => by
    rw [wipe]
    by_cases hv : v = i
    · subst hv
      rw [List.getElem?_set_self (by rw [wipe_length]; exact hi)]
    · rw [List.getElem?_set_ne hv]
      rcases List.mem_cons.mp h with e | h
      · exact absurd e.symm hv
      · exact wipe_in hi h
theorem wipe_eq {σ σ' : L2.St} {vs : List Nat} (hl : σ'.length = σ.length) (h : ∀ i, i ∉ vs → σ'[i]? = σ[i]?) : wipe σ' vs = wipe σ vs := by
  apply List.ext_getElem?
  intro i
  by_cases hi : i ∈ vs
  · by_cases hb : i < σ.length
    · rw [wipe_in (by omega) hi, wipe_in hb hi]
    · rw [List.getElem?_eq_none (by rw [wipe_length]; omega), List.getElem?_eq_none (by rw [wipe_length]; omega)]
  · rw [wipe_out hi, wipe_out hi, h i hi]
/-- slots given up -/
theorem Stt.wiped {K : PySem.W.Frag} {c : Cf} {Γ : Env} {own : List Nat} {σ' : L2.St} (S : Stt K c Γ) (hl : σ'.length = c.σ.length) (h : ∀ i, i ∉ own → σ'[i]? = c.σ[i]?) : Stt K { c with σ := σ' } (wipeE Γ own) := by
  refine ⟨S.sub, S.own, by rw [wipeE_length, S.len]; show _ = σ'.length + _; rw [hl], fun i t e => ?_⟩
  obtain ⟨e1, n⟩ := wipeE_some e
  obtain ⟨v, h1, h2⟩ := S.at_ i t e1
  refine ⟨v, ?_, h2⟩
  show (σ' ++ c.τ.map some)[i]? = _
  unfold Cf.vs at h1
  by_cases hi : i < c.σ.length
  · rw [List.getElem?_append_left (by omega)]
    rw [List.getElem?_append_left hi] at h1
    rw [h i n]
    exact h1
  · rw [List.getElem?_append_right (by omega)]
    rw [List.getElem?_append_right (by omega)] at h1
    rw [hl]
    exact h1
/-- temporaries given up -/
theorem Stt.shrink {K : PySem.W.Frag} {c : Cf} {Γ : Env} (S : Stt K c Γ) {τ ws : List V} (h : c.τ = τ ++ ws) : Stt K { c with τ := τ } (Γ.take (c.σ.length + τ.length)) := by
  have hl := S.len
  rw [h, List.length_append] at hl
  refine ⟨S.sub, S.own, by rw [List.length_take, hl]; show min (c.σ.length + τ.length) _ = c.σ.length + τ.length; omega, fun i t e => ?_⟩
  have hi : i < c.σ.length + τ.length := by
    have := (List.getElem?_eq_some_iff.mp e).1
    rw [List.length_take] at this
    omega
  rw [List.getElem?_take_of_lt hi] at e
  obtain ⟨v, h1, h2⟩ := S.at_ i t e
  refine ⟨v, ?_, h2⟩
  show (c.σ ++ τ.map some)[i]? = _
  unfold Cf.vs at h1
  rw [h, List.map_append, ← List.append_assoc, List.getElem?_append_left (by simpa using hi)] at h1
  exact h1
def backE (Γ0 : Env) : List Nat → Env → Env
  | [], Γ => Γ
  | i :: is, Γ => (backE Γ0 is Γ).set i (match Γ0[i]? with | some (some (.d x)) => some (.d x) | _ => none)
theorem backE_length (Γ0 Γ : Env) : ∀ is, (backE Γ0 is Γ).length = Γ.length
  | [] => rfl
  | i :: is => by rw [backE, List.length_set, backE_length Γ0 Γ is]
theorem backE_some {Γ0 Γ : Env} {j : Nat} {t : T} : ∀ {is : List Nat}, (backE Γ0 is Γ)[j]? = some (some t) → (Γ[j]? = some (some t) ∧ j ∉ is) ∨ ∃ x, t = .d x ∧ Γ0[j]? = some (some (.d x))
  | [], h => .inl ⟨h, by simp⟩
  | i :: is, h => by
    rw [backE] at h
    by_cases hi : i = j
    · subst hi
      by_cases hl : i < (backE Γ0 is Γ).length
      · rw [List.getElem?_set_self hl] at h
        injection h with h
        split at h
        · rename_i x hx
          cases h
          exact .inr ⟨x, rfl, hx⟩
        · cases h
      · rw [List.getElem?_eq_none (by simpa using hl)] at h
        cases h
    · rw [List.getElem?_set_ne hi] at h
      rcases backE_some h with ⟨h1, h2⟩ | h1
      · exact .inl ⟨h1, by simp only [List.mem_cons, not_or]; exact ⟨fun e => hi e.symm, h2⟩⟩
      · exact .inr h1
/-- one turn -/
def lcStep (own : List Nat) (pat : Pat) (tt : TTD) (te : TD) (d : Nat) (x : D) (Γ : Env) (k : Env → Prop) : Prop := match bindP pat x Γ with
  | some Γx => tt Γx fun Γ2 b => if b = true then te Γ2 fun Γ3 r => asD Γ3 r fun Γ4 y => (match Γ4[d]? with
      | some (some (.li ts)) => ts.length < sizeLine ∧ k (wipeE ((Γ4.set d (some (.li (ts ++ [.d y])))).take (d + 1)) own)
      | _ => False)
    else k (wipeE (Γ2.take (d + 1)) own)
  | none => False
def lcD (own : List Nat) (pat : Pat) (tt : TTD) (te : TD) (d : Nat) : List D → Env → (Env → Prop) → Prop
  | [], Γ, k => k Γ
  | x :: xs, Γ, k => lcStep own pat tt te d x Γ fun Γ' => lcD own pat tt te d xs Γ' k
def tLcD (own : List Nat) (pat : Pat) (mb : Bool) (ti : TID) (tt : TTD) (te : TD) : TD := fun Γ Ψ => ti Γ fun Γ1 bor xs => (bor && mb) = false ∧ lcD own pat tt te Γ1.length xs (wipeE (Γ1 ++ [some (.li [])]) own) fun Γ2 => Ψ (backE Γ1 own Γ2) (.p [Γ1.length])
/-- turns that keep a word -/
theorem lcD_inv {own : List Nat} {pat : Pat} {tt : TTD} {te : TD} {d : Nat} {k : Env → Prop} : ∀ {xs : List D} {Γ : Env} (I : Nat → Env → Prop), I 0 Γ → (∀ i x Γ K, xs[i]? = some x → I i Γ → (∀ Γ', I (i + 1) Γ' → K Γ') → lcStep own pat tt te d x Γ K) → (∀ Γ, I xs.length Γ → k Γ) → lcD own pat tt te d xs Γ k
  | [], Γ, I, h0, hs, hd => hd Γ h0
  | x :: xs, Γ, I, h0, hs, hd => hs 0 x Γ _ rfl h0 fun Γ' h' => lcD_inv (fun i => I (i + 1)) h' (fun i y Γ K e hi hk => hs (i + 1) y Γ K (by simpa using e) hi hk) hd
/-- turns that change nothing but the new list -/
theorem lcD_pure {own : List Nat} {pat : Pat} {tt : TTD} {te : TD} {d : Nat} {k : Env → Prop} {α : Type} (enc : α → D) (keep : α → Bool) (g : α → D) (E : List T → Env) : ∀ {xs : List α} {acc : List T}, acc.length + xs.length ≤ sizeLine →
    (∀ x ∈ xs, ∀ ts K, ts.length < sizeLine → (if keep x = true then K (E (ts ++ [.d (g x)])) else K (E ts)) → lcStep own pat tt te d (enc x) (E ts) K) → k (E (acc ++ ((xs.filter keep).map g).map .d)) → lcD own pat tt te d (xs.map enc) (E acc) k
  | [], acc, _, _, h => by
    show k (E acc)
    simpa using h
  | x :: xs, acc, hz, hs, h => by
    rw [List.length_cons] at hz
    refine hs x List.mem_cons_self acc _ (by omega) ?_
    by_cases hk : keep x = true
    · rw [if_pos hk]
      refine lcD_pure enc keep g E (by rw [List.length_append]; simp only [List.length_cons, List.length_nil]; omega) (fun y hy => hs y (List.mem_cons_of_mem _ hy)) ?_
      rw [List.filter_cons_of_pos hk] at h
      simpa using h
    · rw [if_neg hk]
      refine lcD_pure enc keep g E (by omega) (fun y hy => hs y (List.mem_cons_of_mem _ hy)) ?_
      rw [List.filter_cons_of_neg hk] at h
      exact h
section
variable {S : Cs} {mi mt me : Bool} {elt tg iter : Expr} {ifs : List Expr} {scope : Scope} {own : List (Str × Nat)} {pat : Pat} {ti : TID} {tt : TTD} {te : TD}
theorem lc_ex (hi : PID S mi tg iter ti) (hg : PGD (S.blk scope) tg pat) (ht : PTsD (S.blk scope) mt ifs tt) (he : PD (S.blk scope) me elt te) (hp : ∀ i ∈ pat.slots, i ∈ own.map (·.2)) :
    ∃ (wi : TI) (g : TG) (tt' : TT) (te' : TE), (∀ X, S.In X → PI X tg iter wi) ∧ (∀ X, (S.blk scope).In X → PG X tg g) ∧ (∀ X, (S.blk scope).In X → PTs X ifs tt') ∧ (∀ X, (S.blk scope).In X → PE X elt te') ∧
      LE S.K S.N.length (mi || (mt || me)) (tLc wi g tt' te' (own.map (·.2))) (tLcD (own.map (·.2)) pat (mt || me) ti tt te) := by
  obtain ⟨wi, i1, i2⟩ := hi.ex
  obtain ⟨g, g1, gl, g2⟩ := hg.ex
  obtain ⟨ut, t1, t2⟩ := ht.ex
  obtain ⟨ue, e1, e2⟩ := he.ex
  refine ⟨wi, g, ut, ue, i1, g1, t1, e1, ?_⟩
  generalize hv : own.map (·.2) = vs at hp ⊢
  clear hv i1 g1 t1 e1
  intro c Γ Ψ Q hn st h k
  refine i2 c Γ _ _ hn st h fun J c1 Γ1 b xs G x1 st1 sG sG' GJ q1 D hD => ?_
  obtain ⟨hb, q1⟩ := q1
  have hn1 : c1.σ.length = S.N.length := by rw [x1.s]; exact hn
  rw [show c.σ = c1.σ from x1.s.symm]
  -- a turn's invariant
  let Iv : Nat → Hp → Prop := fun i H => ∃ (c2 : Cf) (Γ2 : Env), c2.H = H ∧ i ≤ xs.length ∧ Ext c1 c2 ∧ ((mt || me) = false → Same c1.H c2.H) ∧ c2.σ = wipe c1.σ vs ∧ c2.τ = c1.τ ++ [.ref D] ∧ Stt S.K c2 Γ2 ∧
    lcD vs pat tt te Γ1.length (xs.drop i) Γ2 fun Γ2 => Ψ (backE Γ1 vs Γ2) (.p [Γ1.length])
  refine ⟨fun i m H => m = xs.length - i ∧ Iv i H, ⟨xs.length, rfl, ?_⟩, fun i m H hW => ?_⟩
  · obtain ⟨st2, x2, v2⟩ := st1.temp (us := []) (xs := []) hD .nil
    refine ⟨{ c1.temp Γ1.length D (.lst []) with σ := wipe c1.σ vs }, wipeE (Γ1 ++ [some (.li [])]) vs, rfl, Nat.zero_le _, ⟨x2.f, x2.k, x2.g, x2.d⟩, fun _ => x2.p rfl, rfl, rfl, ?_, by rw [List.drop_zero]; exact q1⟩
    exact st2.wiped (by rw [wipe_length]; rfl) fun i hi => wipe_out hi
  · obtain ⟨rfl, c2, Γ2, rfl, hle, y2, p2, s2, t2', st2, q2⟩ := hW
    have SG : Same G c2.H := by
      cases b with
      | false => exact ((sG' rfl).trans y2.f).trans st2.sub
      | true => exact sG.trans (p2 (by simpa using hb))
    have dn : ∀ {a o}, c1.H a = some o → a ≠ D := fun e => ne_of_none e hD
    by_cases hlt : i < xs.length
    · refine .inr ⟨GJ.go _ _ SG hlt, fun H' => Iv (i + 1) H', fun H' hI => ⟨_, by omega, rfl, hI⟩, fun v H' hy => ?_⟩
      have hx : xs[i]? = some xs[i] := by simp
      have hdr : xs.drop i = xs[i] :: xs.drop (i + 1) := List.drop_eq_getElem_cons hlt
      rw [hdr] at q2
      -- the item
      obtain ⟨c3, hH3, y3, p3, s3, t3, st3, r3⟩ : ∃ c3 : Cf, c3.H = H' ∧ Ext c2 c3 ∧ Same c2.H c3.H ∧ c3.σ = c2.σ ∧ c3.τ = c2.τ ∧ Stt S.K c3 Γ2 ∧ RD S.K c3.F v xs[i] := by
        rcases GJ.yld _ c2.F i v H' SG y2.f st2.sub hy _ hx with ⟨rfl, r⟩ | ⟨p, o, hp0, rfl, r⟩
        · exact ⟨c2, rfl, Ext.refl _, Same.refl _, rfl, rfl, st2, r⟩
        · obtain ⟨st3, x3⟩ := st2.froz (o := o) hp0
          exact ⟨c2.froz p o, rfl, x3.toExt, x3.p rfl, rfl, rfl, st3, r⟩
      subst hH3
      simp only [lcD, lcStep] at q2
      split at q2
      · rename_i Γx hbx
        rw [show wipe c1.σ vs = c3.σ from by rw [s3, s2]]
        refine g2 c3 _ Γx v _ _ (by rw [s3, s2, wipe_length]; exact hn1) st3 r3 hbx fun c4 z4 st4 => ?_
        have w4 : wipe c4.σ vs = wipe c3.σ vs := wipe_eq z4.len fun j hj => z4.out j fun hh => hj (hp j hh)
        have w43 : wipe c4.σ vs = wipe c1.σ vs := by
          rw [w4, s3, s2]
          exact wipe_eq (wipe_length _ _) fun j hj => wipe_out hj
        have hn4 : c4.σ.length = S.N.length := by rw [z4.len, s3, s2, wipe_length]; exact hn1
        refine ⟨by rw [w43, s3, s2], ?_⟩
        have s14 : (mt || me) = false → Same c1.H c4.H := fun z => by
          have := (p2 z).trans p3
          rw [← z4.H] at this
          exact this
        have fin : ∀ (c5 : Cf) (Γ5 : Env) (ws : List V), Ext c4 c5 → ((mt || me) = false → Same c1.H c5.H) → c5.σ = c4.σ → c5.τ = c4.τ ++ ws → Stt S.K c5 Γ5 → lcD vs pat tt te Γ1.length (xs.drop (i + 1)) (wipeE (Γ5.take (Γ1.length + 1)) vs) (fun Γ2 => Ψ (backE Γ1 vs Γ2) (.p [Γ1.length])) → Iv (i + 1) c5.H := by
          intro c5 Γ5 ws y5 p5 s5 t5 st5 q5
          have t5' : c5.τ = (c1.τ ++ [.ref D]) ++ ws := by rw [t5, z4.τ, t3, t2']
          have st6 := st5.shrink t5'
          have hsz : c5.σ.length + (c1.τ ++ [V.ref D]).length = Γ1.length + 1 := by
            rw [s5, hn4, st1.len, hn1, List.length_append]
            simp only [List.length_cons, List.length_nil]
            omega
          rw [hsz] at st6
          have st7 := st6.wiped (own := vs) (σ' := wipe c1.σ vs) (by rw [wipe_length]; show c1.σ.length = c5.σ.length; rw [s5, hn4, hn1]) fun j hj => by
            show (wipe c1.σ vs)[j]? = c5.σ[j]?
            rw [s5, ← w43, wipe_out hj]
          refine ⟨{ c5 with σ := wipe c1.σ vs, τ := c1.τ ++ [.ref D] }, wipeE (Γ5.take (Γ1.length + 1)) vs, rfl, hlt, ?_, p5, rfl, rfl, st7, q5⟩
          exact (y2.trans (y3.trans (z4.ext.trans y5))).trans ⟨Same.refl _, fun _ _ h h' => ⟨h, h'⟩, fun _ _ h => .inl h, fun _ h => h⟩
        refine t2 c4 Γx _ _ hn4 st4 q2 fun bb c5 Γ5 x5 st5 q5 => ?_
        obtain ⟨ws5, t5⟩ := x5.t
        cases bb with
        | false =>
          rw [if_neg Bool.false_ne_true] at q5 ⊢
          exact fin c5 Γ5 ws5 x5.toExt (fun z => (s14 z).trans (x5.p (by simp at z; exact z.1))) x5.s t5 st5 q5
        | true =>
          rw [if_pos rfl] at q5 ⊢
          rw [show c4.σ = c5.σ from x5.s.symm]
          refine e2 c5 Γ5 _ _ (by rw [x5.s]; exact hn4) st5 q5 fun y c6 Γ6 r6 x6 st6 v6 q6 => ?_
          obtain ⟨c7, Γ7, yd, x7, st7, r7, q7, h7, tt7, _⟩ := asD_ok st6 v6 q6
          split at q7
          · rename_i ts hts
            obtain ⟨hz, q7⟩ := q7
            obtain ⟨ws6, t6⟩ := x6.t
            -- the new list
            have hloc : Loc c7.H c7.vs [Γ1.length] (.ref D) := by
              refine .slot ?_
              have et : c7.τ = (c1.τ ++ [V.ref D]) ++ (ws5 ++ ws6) := by rw [tt7, t6, t5, z4.τ, t3, t2']; simp
              have es : c7.σ.length = c1.σ.length := by rw [x7.s, x6.s, x5.s, hn4, hn1]
              unfold Cf.vs
              rw [et, st1.len, ← es, List.getElem?_append_right (by omega), Nat.add_sub_cancel_left]
              simp
            have hgt : getT Γ7 [Γ1.length] = some (.li ts) := by
              simp only [getT, hts]
            obtain ⟨us, hu, hul, hut, hw, upto⟩ := st7.write_li (ts' := ts ++ [.d yd]) hloc hgt
            obtain ⟨st8, x8⟩ := upto (us ++ [y]) (((hut.under hw).append (.cons (.d r7) .nil)))
            rw [← h7]
            refine ⟨us, hu, by rw [hul]; exact hz, ?_⟩
            refine fin _ _ (ws5 ++ ws6) ?_ (fun z => ?_) ?_ ?_ st8 q7
            · exact (x5.toExt.trans (x6.toExt.trans x7.toExt)).trans x8.toExt
            · have zz : mt = false ∧ me = false := by simpa using z
              have s1 := (s14 z).trans ((x5.p zz.1).trans ((x6.p zz.2).trans (x7.p rfl)))
              intro a o e
              show upd c7.H D _ a = some o
              rw [upd_ne (dn e)]
              exact s1 a o e
            · rw [x7.s, x6.s, x5.s]
            · show c7.τ = _
              rw [tt7, t6, t5, List.append_assoc]
          · exact q7.elim
      · exact q2.elim
    · have hii : i = xs.length := by omega
      subst hii
      refine .inl ⟨GJ.stop _ SG, ?_⟩
      rw [List.drop_length] at q2
      have q2 : Ψ (backE Γ1 vs Γ2) (.p [Γ1.length]) := q2
      refine k (.ref D) { c2 with σ := c1.σ } (backE Γ1 vs Γ2) _ ⟨x1.toExt.trans ?_, x1.s, ?_, fun z => ?_⟩ ?_ ?_ q2
      · exact y2.trans ⟨Same.refl _, fun _ _ h h' => ⟨h, h'⟩, fun _ _ h => .inl h, fun _ h => h⟩
      · obtain ⟨w0, e0⟩ := x1.t
        exact ⟨w0 ++ [.ref D], by show c2.τ = _; rw [t2', e0, List.append_assoc]⟩
      · simp at z
        exact (x1.p z.1).trans (p2 (by simp [z.2.1, z.2.2]))
      · refine ⟨st2.sub, st2.own, ?_, fun j t e => ?_⟩
        · have := st2.len
          rw [s2, wipe_length] at this
          rw [backE_length]
          exact this
        · have vsame : ∀ {j : Nat}, j ∉ vs → ∀ {v : V}, c2.vs[j]? = some (some v) → ({ c2 with σ := c1.σ } : Cf).vs[j]? = some (some v) := by
            intro j hj v e
            unfold Cf.vs at e ⊢
            rw [s2] at e
            by_cases hl : j < c1.σ.length
            · rw [List.getElem?_append_left (by rw [wipe_length]; exact hl), wipe_out hj] at e
              rw [List.getElem?_append_left hl]
              exact e
            · rw [List.getElem?_append_right (by rw [wipe_length]; omega), wipe_length] at e
              rw [List.getElem?_append_right (show c1.σ.length ≤ j by omega)]
              exact e
          rcases backE_some e with ⟨e1, hj⟩ | ⟨x, rfl, e1⟩
          · obtain ⟨v, h1, h2⟩ := st2.at_ j t e1
            exact ⟨v, vsame hj h1, h2⟩
          · obtain ⟨v, h1, h2⟩ := st1.at_ j _ e1
            refine ⟨v, ?_, ?_⟩
            · unfold Cf.vs at h1 ⊢
              show (c1.σ ++ c2.τ.map some)[j]? = _
              rw [t2', List.map_append, ← List.append_assoc, List.getElem?_append_left (List.getElem?_eq_some_iff.mp h1).1]
              exact h1
            · cases h2 with
              | d h2 => exact .d (h2.mono y2.f)
      · refine .slot ?_
        unfold Cf.vs
        show (c1.σ ++ c2.τ.map some)[Γ1.length]? = _
        rw [t2', st1.len, List.getElem?_append_right (by omega), Nat.add_sub_cancel_left]
        simp
end
end Mv
set_option Elab.async false
set_option linter.all false
set_option maxRecDepth 100000
namespace Mv
open PySem PySem.Spec PyProof.Rows L2
theorem pd_lc {S : Cs} {mi mt me : Bool} {elt tg iter : Expr} {ifs : List Expr} {scope : Scope} (own : List (Str × Nat)) {pat : Pat} {ti : TID} {tt : TTD} {te : TD} {pos : Pos} (hi : PID S mi tg iter ti) (hg : PGD (S.blk scope) tg pat) (ht : PTsD (S.blk scope) mt ifs tt) (he : PD (S.blk scope) me elt te)
    (ok : blkC S.N S.sc scope own = true := by kernel_rfl) (hp : ∀ i ∈ pat.slots, i ∈ own.map (·.2) := by decide) (hs : ∀ env x, foldedSetIterable iter env x = pure x := by intro _ _; rfl) :
    PD S (mi || (mt || me)) (.ListComp elt [⟨tg, iter, ifs, 0⟩] scope pos) (tLcD (own.map (·.2)) pat (mt || me) ti tt te) := by
  obtain ⟨wi, g, ut, ue, h1, h2, h3, h4, h5⟩ := lc_ex hi hg ht he hp
  refine ⟨_, fun X hX => pe_lc (own := own) hX.calm (by rw [hX.N]; exact hX.nd) (h1 X hX) (by rw [hX.N, hX.sc]; exact blkOk_by ok) (fun s H C cl fp => h2 _ (hX.blk ..)) (fun s H C cl fp => h3 _ (hX.blk ..)) (fun s H C cl fp => h4 _ (hX.blk ..)) (hs _), h5⟩
/-! ### statements -/
structure EndsD where
  nx : Env → Prop
  rt : Env → RV → Prop
  bk : Env → Prop := fun _ => False
  ct : Env → Prop := fun _ => False
abbrev TSD := EndsD → Env → Prop
structure ExtS (n : Nat) (lk : Nat → Bool) (c c' : Cf) : Prop extends Ext c c' where
  len : c'.σ.length = n
  lock : ∀ i, lk i = true → c'.σ[i]? = c.σ[i]?
theorem ExtS.trans {n : Nat} {lk : Nat → Bool} {a b c : Cf} (h : ExtS n lk a b) (h' : ExtS n lk b c) : ExtS n lk a c := ⟨h.toExt.trans h'.toExt, h'.len, fun i e => (h'.lock i e).trans (h.lock i e)⟩
/-- the ends of both sides -/
structure Fin (K : PySem.W.Frag) (n : Nat) (lk : Nat → Bool) (c : Cf) (DD : EndsD) (Dn : Ends) : Prop where
  nx : ∀ c' Γ', ExtS n lk c c' → c'.τ = [] → Stt K c' Γ' → DD.nx Γ' → Dn.nx c'.σ c'.H
  rt : ∀ v c' Γ' r, ExtS n lk c c' → Stt K c' Γ' → VR K c' r v → DD.rt Γ' r → Dn.rt v c'.H
  bk : ∀ c' Γ', ExtS n lk c c' → c'.τ = [] → Stt K c' Γ' → DD.bk Γ' → Dn.bk c'.σ c'.H
  ct : ∀ c' Γ', ExtS n lk c c' → c'.τ = [] → Stt K c' Γ' → DD.ct Γ' → Dn.ct c'.σ c'.H
def LS (K : PySem.W.Frag) (n : Nat) (lk : Nat → Bool) (ts : TS) (t : TSD) : Prop := ∀ (c : Cf) (Γ : Env) (DD : EndsD) (Dn : Ends), c.σ.length = n → c.τ = [] → Stt K c Γ → t DD Γ → Fin K n lk c DD Dn → ts Dn c.σ c.H
structure PSD (S : Cs) (st : Stmt) (t : TSD) : Prop where
  ex : ∃ ts, (∀ X, S.In X → PS X st ts) ∧ LS S.K S.N.length S.lk ts t
structure PSsD (S : Cs) (st : List Stmt) (t : TSD) : Prop where
  ex : ∃ ts, (∀ X, S.In X → PSs X st ts) ∧ LS S.K S.N.length S.lk ts t
theorem Fin.from {K : PySem.W.Frag} {n : Nat} {lk : Nat → Bool} {c c1 : Cf} {DD : EndsD} {Dn : Ends} (x : ExtS n lk c c1) (F : Fin K n lk c DD Dn) : Fin K n lk c1 DD Dn :=
  ⟨fun c' Γ' y => F.nx c' Γ' (x.trans y), fun v c' Γ' r y => F.rt v c' Γ' r (x.trans y), fun c' Γ' y => F.bk c' Γ' (x.trans y), fun c' Γ' y => F.ct c' Γ' (x.trans y)⟩
theorem ExtS.ofE {K : PySem.W.Frag} {n : Nat} {lk : Nat → Bool} {m : Bool} {c c' : Cf} (h : ExtE m c c') (hn : c.σ.length = n) : ExtS n lk c c' := ⟨h.toExt, by rw [h.s]; exact hn, fun i _ => by rw [h.s]⟩
/-- temporaries dropped behind an expression -/
theorem drop_all {K : PySem.W.Frag} {n : Nat} {lk : Nat → Bool} {c c' : Cf} {Γ' : Env} (x : ExtS n lk c c') (st : Stt K c' Γ') : ExtS n lk c c'.drop ∧ c'.drop.τ = [] ∧ Stt K c'.drop (Γ'.take n) := by
  obtain ⟨h1, h2⟩ := st.drop
  rw [x.len] at h1
  exact ⟨⟨x.toExt.trans h2, x.len, x.lock⟩, rfl, h1⟩
section
variable {S : Cs} {pos : Pos} {m : Bool} {e : Expr} {st : Stmt} {rest : List Stmt}
def tNextD : TSD := fun D Γ => D.nx Γ
def tSeqD (t u : TSD) : TSD := fun D Γ => t { D with nx := u D } Γ
theorem psd_nil : PSsD S [] tNextD := ⟨_, fun _ _ => pss_nil, fun c Γ DD Dn hn ht st h F => F.nx c Γ ⟨Ext.refl c, hn, fun _ _ => rfl⟩ ht st h⟩
theorem psd_one {t : TSD} (h : PSD S st t) : PSsD S [st] t := by
  obtain ⟨u, h1, h2⟩ := h.ex
  exact ⟨u, fun X hX => pss_one (h1 X hX), h2⟩
theorem psd_cons {t u : TSD} (h : PSD S st t) (h' : PSsD S rest u) : PSsD S (st :: rest) (tSeqD t u) := by
  obtain ⟨a, a1, a2⟩ := h.ex
  obtain ⟨b, b1, b2⟩ := h'.ex
  refine ⟨_, fun X hX => pss_cons (a1 X hX) (b1 X hX), fun c Γ DD Dn hn ht st h F => ?_⟩
  refine a2 c Γ _ _ hn ht st h ⟨fun c1 Γ1 x1 t1 st1 h1 => ?_, F.rt, F.bk, F.ct⟩
  exact b2 c1 Γ1 DD Dn x1.len t1 st1 h1 (F.from x1)
theorem psd_pass : PSD S (.Pass pos) tNextD := ⟨_, fun _ _ => ps_pass, fun c Γ DD Dn hn ht st h F => F.nx c Γ ⟨Ext.refl c, hn, fun _ _ => rfl⟩ ht st h⟩
def tBreakD : TSD := fun D Γ => D.bk Γ
def tContD : TSD := fun D Γ => D.ct Γ
theorem psd_break : PSD S (.Break pos) tBreakD := ⟨_, fun _ _ => ps_break, fun c Γ DD Dn hn ht st h F => F.bk c Γ ⟨Ext.refl c, hn, fun _ _ => rfl⟩ ht st h⟩
theorem psd_continue : PSD S (.Continue pos) tContD := ⟨_, fun _ _ => ps_continue, fun c Γ DD Dn hn ht st h F => F.ct c Γ ⟨Ext.refl c, hn, fun _ _ => rfl⟩ ht st h⟩
def tDropD (n : Nat) (t : TD) : TSD := fun D Γ => t Γ fun Γ1 _ => D.nx (Γ1.take n)
theorem psd_expr {t : TD} {n : Nat} (h : PD S m e t) (hn : S.N.length = n := by rfl) (hs : ∀ env, swapsWith e none pos.line env = pure false := by intro _; rfl) : PSD S (.Expr e pos) (tDropD n t) := by
  subst hn
  obtain ⟨u, h1, h2⟩ := h.ex
  refine ⟨_, fun X hX => ps_expr (h1 X hX) (hs _), fun c Γ DD Dn hn ht st h F => ?_⟩
  refine h2 c Γ _ _ hn st h fun v c1 Γ1 r e1 st1 v1 q1 => ?_
  obtain ⟨x2, t2, st2⟩ := drop_all (ExtS.ofE (K := S.K) (lk := S.lk) e1 hn) st1
  rw [show c.σ = c1.drop.σ from e1.s.symm]
  exact F.nx _ _ x2 t2 st2 q1
def tRetD (t : TD) : TSD := fun D Γ => t Γ D.rt
theorem psd_ret {t : TD} (h : PD S m e t) : PSD S (.Return (some e) pos) (tRetD t) := by
  obtain ⟨u, h1, h2⟩ := h.ex
  refine ⟨_, fun X hX => ps_ret (h1 X hX), fun c Γ DD Dn hn ht st h F => ?_⟩
  exact h2 c Γ _ _ hn st h fun v c1 Γ1 r e1 st1 v1 q1 => F.rt v c1 Γ1 r (ExtS.ofE (K := S.K) e1 hn) st1 v1 q1
def tRetND : TSD := fun D Γ => D.rt Γ (.d .non)
theorem psd_retN : PSD S (.Return none pos) tRetND := ⟨_, fun _ _ => ps_retN, fun c Γ DD Dn hn ht st h F => F.rt _ c Γ (.d .non) ⟨Ext.refl c, hn, fun _ _ => rfl⟩ st (RD.non) h⟩
def tIfSD (n : Nat) (t : TTD) (u w : TSD) : TSD := fun D Γ => t Γ fun Γ1 b => if b = true then u D (Γ1.take n) else w D (Γ1.take n)
theorem psd_if {t : TTD} {u w : TSD} {n : Nat} {a b : List Stmt} (h : PTD S m e t) (ha : PSsD S a u) (hb : PSsD S b w) (hn : S.N.length = n := by rfl) : PSD S (.If e a b pos) (tIfSD n t u w) := by
  subst hn
  obtain ⟨ut, h1, h2⟩ := h.ex
  obtain ⟨ua, a1, a2⟩ := ha.ex
  obtain ⟨ub, b1, b2⟩ := hb.ex
  refine ⟨_, fun X hX => ps_if (h1 X hX) (a1 X hX) (b1 X hX), fun c Γ DD Dn hn ht st h F => ?_⟩
  refine h2 c Γ _ _ hn st h fun b c1 Γ1 e1 st1 q1 => ?_
  obtain ⟨x2, t2, st2⟩ := drop_all (ExtS.ofE (K := S.K) (lk := S.lk) e1 hn) st1
  rw [show c.σ = c1.drop.σ from e1.s.symm]
  cases b with
  | true =>
    rw [if_pos rfl] at q1 ⊢
    exact a2 c1.drop _ DD Dn x2.len t2 st2 q1 (F.from x2)
  | false =>
    rw [if_neg Bool.false_ne_true] at q1 ⊢
    exact b2 c1.drop _ DD Dn x2.len t2 st2 q1 (F.from x2)
/-! ### stores to names -/
def stoD (n i : Nat) (Γ : Env) (r : RV) (k : Env → Prop) : Prop := match r with
  | .d x => k (Γ.set i (some (.d x)))
  | .p [j] => if n ≤ j then (match Γ[j]? with | some (some t) => k ((Γ.set j none).set i (some t)) | _ => False) else asD Γ (.p [j]) fun Γ2 x => k (Γ2.set i (some (.d x)))
  | .p _ => False
theorem sto_ok {K : PySem.W.Frag} {n i : Nat} {c : Cf} {Γ : Env} {r : RV} {v : V} {k : Env → Prop} (hn : c.σ.length = n) (hi : i < n) (st : Stt K c Γ) (h : VR K c r v) (q : stoD n i Γ r k) :
    ∃ c' Γ', Ext c c' ∧ c'.H = c.H ∧ c'.σ = c.σ.set i (some v) ∧ c'.τ = c.τ ∧ Stt K c' Γ' ∧ k Γ' ∧ ∀ r' v', VR K c r' v' → (∀ q, r' = .p q → ∃ j, q = [j] ∧ n ≤ j) → VR K c' r' v' := by
  have tmpv : ∀ {c' : Cf} {j : Nat} {v' : V}, c'.σ = c.σ.set i (some v) → c'.τ = c.τ → n ≤ j → c.vs[j]? = some (some v') → c'.vs[j]? = some (some v') := by
    intro c' j v' h1 h2 hj e
    unfold Cf.vs at e ⊢
    rw [h1, h2, List.getElem?_append_right (by simp; omega), List.length_set]
    rw [List.getElem?_append_right (by omega)] at e
    exact e
  unfold stoD at q
  split at q
  · rename_i x
    obtain ⟨st', x'⟩ := st.set_d (i := i) (by rw [hn]; exact hi) (show RD K c.F v x from h)
    refine ⟨_, _, x', rfl, rfl, rfl, st', q, fun r' v' hr hp => ?_⟩
    cases r' with
    | d y => exact hr
    | p qq =>
      obtain ⟨j, rfl, hj⟩ := hp qq rfl
      cases hr with
      | slot e => exact Loc.slot (tmpv (c' := { c with σ := c.σ.set i (some v) }) rfl rfl hj e)
      | li h1 _ _ => exact absurd rfl h1.ne
      | ob h1 _ _ _ => exact absurd rfl h1.ne
  · rename_i j
    have hv : c.vs[j]? = some (some v) := by
      cases h with
      | slot e => exact e
      | li h1 _ _ => exact absurd rfl h1.ne
      | ob h1 _ _ _ => exact absurd rfl h1.ne
    split at q
    · rename_i hj
      split at q
      · rename_i t ht
        obtain ⟨st', x'⟩ := st.set_p (i := i) (by rw [hn]; exact hi) (by rw [hn]; exact hj) ht hv
        refine ⟨_, _, x', rfl, rfl, rfl, st', q, fun r' v' hr hp => ?_⟩
        cases r' with
        | d y => exact hr
        | p qq =>
          obtain ⟨j', rfl, hj'⟩ := hp qq rfl
          cases hr with
          | slot e => exact Loc.slot (tmpv (c' := c.moved j i v) rfl rfl hj' e)
          | li h1 _ _ => exact absurd rfl h1.ne
          | ob h1 _ _ _ => exact absurd rfl h1.ne
      · exact q.elim
    · obtain ⟨c1, Γ1, x, e1, st1, d1, q1, eh, et, kp⟩ := asD_ok st h q
      obtain ⟨st', x'⟩ := st1.set_d (i := i) (by rw [e1.s, hn]; exact hi) d1
      refine ⟨{ c1 with σ := c1.σ.set i (some v) }, _, e1.toExt.trans x', eh, by show c1.σ.set i _ = _; rw [e1.s], et, st', q1, fun r' v' hr hp => ?_⟩
      cases r' with
      | d y => exact RD.mono e1.f hr
      | p qq =>
        obtain ⟨j', rfl, hj'⟩ := hp qq rfl
        cases hr with
        | slot e => exact Loc.slot (tmpv (c' := { c1 with σ := c1.σ.set i (some v) }) (by show c1.σ.set i _ = _; rw [e1.s]) et hj' e)
        | li h1 _ _ => exact absurd rfl h1.ne
        | ob h1 _ _ _ => exact absurd rfl h1.ne
  · exact q.elim
def tSetD (n i : Nat) (t : TD) : TSD := fun D Γ => t Γ fun Γ1 r => stoD n i Γ1 r fun Γ2 => D.nx (Γ2.take n)
theorem ls_set {K : PySem.W.Frag} {n i : Nat} {lk : Nat → Bool} {te : TE} {t : TD} (hi : i < n) (hk : lk i = false) (h : LE K n m te t) : LS K n lk (tAsg te (gName i)) (tSetD n i t) := by
  intro c Γ DD Dn hn ht st q F
  refine h c Γ _ _ hn st q fun v c1 Γ1 r e1 st1 v1 q1 => ?_
  have hn1 : c1.σ.length = n := by rw [e1.s]; exact hn
  obtain ⟨c2, Γ2, x2, eh, es, et, st2, q2, _⟩ := sto_ok hn1 hi st1 v1 q1
  have y2 : ExtS n lk c c2 := ⟨e1.toExt.trans x2, by rw [es, List.length_set]; exact hn1, fun j hj => by
    rw [es, List.getElem?_set_ne, e1.s]
    rintro rfl
    rw [hk] at hj
    cases hj⟩
  obtain ⟨x3, t3, st3⟩ := drop_all y2 st2
  have := F.nx _ _ x3 t3 st3 q2
  show Dn.nx (c.σ.set i (some v)) c1.H
  rw [← e1.s, ← es, ← eh]
  exact this
theorem psd_set {n : Nat} (i : Nat) {x : Str} {pos' : Pos} {t : TD} (h : PD S m e t) (hi : S.N[i]? = some x := by rfl) (hn : S.N.length = n := by rfl) (hx : L2.Loc S.sc x := by first | exact Or.inl rfl | exact Or.inr rfl) (hk : S.lk i = false := by rfl)
    (hs : ∀ X, S.In X → swapsWith e (some (.Name x pos')) pos.line X.env = pure false := by intro _ _; rfl) (hf : S.fn x = true ∨ S.sc.names.lookup x = some .local := by first | exact Or.inl rfl | exact Or.inr rfl) : PSD S (.Assign [.Name x pos'] e pos) (tSetD n i t) := by
  subst hn
  obtain ⟨u, h1, h2⟩ := h.ex
  exact ⟨_, fun X hX => ps_set (i := i) (by rw [hX.N]; exact hX.nd) (by rw [hX.N]; exact hi) (by rw [hX.sc]; exact hx) (h1 X hX) (hs X hX) (hf.imp (hX.fn x) fun z => by rw [hX.sc]; exact z), ls_set (List.getElem?_eq_some_iff.mp hi).1 hk h2⟩
/-- x = [..] on one line, x a local -/
theorem psd_setLc {n : Nat} (i : Nat) {y : Str} {py spos : Pos} {mi mt me : Bool} {elt tg iter : Expr} {ifs : List Expr} {scope : Scope} (own : List (Str × Nat)) {pat : Pat} {ti : TID} {tt : TTD} {te : TD} (hi : PID S mi tg iter ti) (hg : PGD (S.blk scope) tg pat) (ht : PTsD (S.blk scope) mt ifs tt) (he : PD (S.blk scope) me elt te)
    (hy : S.N[i]? = some y := by rfl) (hn : S.N.length = n := by rfl) (hyl : S.sc.names.lookup y = some .local := by rfl) (hk : S.lk i = false := by rfl) (hkind : S.sc.kind = .function := by rfl) (hl : (py.line == pos.line) = true := by rfl) (ha : (scope.names.any fun (n, k) => n == y && (k == .local || k == .cell)) = false := by kernel_rfl)
    (ok : blkC S.N S.sc scope own = true := by kernel_rfl) (hp : ∀ i ∈ pat.slots, i ∈ own.map (·.2) := by decide) (hs : ∀ env x, foldedSetIterable iter env x = pure x := by intro _ _; rfl) :
    PSD S (.Assign [.Name y py] (.ListComp elt [⟨tg, iter, ifs, 0⟩] scope pos) spos) (tSetD n i (tLcD (own.map (·.2)) pat (mt || me) ti tt te)) := by
  subst hn
  obtain ⟨wi, g, ut, ue, h1, h2, h3, h4, h5⟩ := lc_ex hi hg ht he hp
  exact ⟨_, fun X hX => ps_setLc (i := i) (own := own) hX.calm (by rw [hX.N]; exact hX.nd) (by rw [hX.N]; exact hy) (by rw [hX.sc]; exact hyl) (sw_true (by rw [hX.sc]; exact hkind) (by rw [hX.sc]; exact hyl) hl ha) (h1 X hX) (by rw [hX.N, hX.sc]; exact blkOk_by ok) (fun s H C cl fp => h2 _ (hX.blk ..)) (fun s H C cl fp => h3 _ (hX.blk ..)) (fun s H C cl fp => h4 _ (hX.blk ..)) (hs _),
    ls_set (List.getElem?_eq_some_iff.mp hy).1 hk h5⟩
/-- a, b = x, y with plain local names -/
def tParD (n i j : Nat) (t : TAD) : TSD := fun D Γ => t Γ fun Γ1 rs => match rs with
  | [r, s] => (match r, s with | .p (_ :: _ :: _), _ => False | _, .p (_ :: _ :: _) => False | _, _ => True) ∧ (∀ a, r = .p [a] → n ≤ a) ∧ (∀ a, s = .p [a] → n ≤ a) ∧ stoD n i Γ1 r fun Γ2 => stoD n j Γ2 s fun Γ3 => D.nx (Γ3.take n)
  | _ => False
theorem psd_par {n : Nat} (i j : Nat) {x y : Str} {a b : Expr} {px py pt : Pos} {kt k2 : Nat} {pt2 : Pos} {t : TAD} (ha : PAD S m [a, b] t) (hi : S.N[i]? = some x := by rfl) (hj : S.N[j]? = some y := by rfl) (hn : S.N.length = n := by rfl) (hij : i ≠ j := by decide)
    (hx : S.sc.names.lookup x = some .local := by rfl) (hy : S.sc.names.lookup y = some .local := by rfl) (hk : S.lk i = false := by rfl) (hk' : S.lk j = false := by rfl)
    (hw : ∀ X, S.In X → swappedStores [.Tuple [.Name x px, .Name y py] kt pt] (.Tuple [a, b] k2 pt2) X.env = pure (some [x, y])) (hs : ∀ env, swapsWithSole [.Tuple [.Name x px, .Name y py] kt pt] (.Tuple [a, b] k2 pt2) pos.line env = pure false := by intro _; rfl) :
    PSD S (.Assign [.Tuple [.Name x px, .Name y py] kt pt] (.Tuple [a, b] k2 pt2) pos) (tParD n i j t) := by
  subst hn
  obtain ⟨u, h1, h2⟩ := ha.ex
  have li := (List.getElem?_eq_some_iff.mp hi).1
  have lj := (List.getElem?_eq_some_iff.mp hj).1
  refine ⟨tPar i j u, fun X hX => ps_par hX.calm (by rw [hX.N]; exact hX.nd) (by rw [hX.N]; exact hi) (by rw [hX.N]; exact hj) hij (by rw [hX.sc]; exact hx) (by rw [hX.sc]; exact hy) (h1 X hX) (hw X hX) (hs _), fun c Γ DD Dn hn ht st h F => ?_⟩
  refine h2 c Γ _ _ hn st h fun vs c1 Γ1 rs e1 st1 v1 q1 => ?_
  have hn1 : c1.σ.length = S.N.length := by rw [e1.s]; exact hn
  split at q1
  · rename_i r s
    obtain ⟨hp, hr, hs', q1⟩ := q1
    cases v1 with
    | @cons _ v _ _ vr v1 =>
      cases v1 with
      | @cons _ w _ _ vs v1 =>
        cases v1
        refine ⟨v, w, rfl, ?_⟩
        obtain ⟨c2, Γ2, x2, eh, es, et, st2, q2, kp⟩ := sto_ok hn1 li st1 vr q1
        have vs2 := kp s w vs (fun qq e => by
          subst e
          cases qq with
          | nil => exact absurd rfl (show Loc c1.H c1.vs [] w from vs).ne
          | cons a qq =>
            cases qq with
            | nil => exact ⟨a, rfl, hs' a rfl⟩
            | cons b qq =>
              cases r with
              | d _ => exact hp.elim
              | p ww =>
                cases ww with
                | nil => exact hp.elim
                | cons _ ww => cases ww <;> exact hp.elim)
        obtain ⟨c3, Γ3, x3, eh3, es3, et3, st3, q3, _⟩ := sto_ok (by rw [es, List.length_set]; exact hn1) lj st2 vs2 q2
        have y3 : ExtS S.N.length S.lk c c3 := ⟨e1.toExt.trans (x2.trans x3), by rw [es3, es, List.length_set, List.length_set]; exact hn1, fun l hl => by
          rw [es3, List.getElem?_set_ne, es, List.getElem?_set_ne, e1.s]
          · rintro rfl; rw [hk] at hl; cases hl
          · rintro rfl; rw [hk'] at hl; cases hl⟩
        obtain ⟨x4, t4, st4⟩ := drop_all y3 st3
        have := F.nx c3.drop _ x4 t4 st4 q3
        rw [← e1.s, ← es, ← es3, ← eh, ← eh3]
        exact this
  · exact q1.elim
/-- a target = e, the value as data -/
def tAsgD (n : Nat) (pat : Pat) (t : TD) : TSD := fun D Γ => t Γ fun Γ1 r => asD Γ1 r fun Γ2 x => match bindP pat x Γ2 with | some Γ3 => D.nx (Γ3.take n) | none => False
theorem psd_asg {n : Nat} {tg : Expr} {pat : Pat} {t : TD} (h : PD S m e t) (hg : PGD S tg pat) (hn : S.N.length = n := by rfl) (hka : (pat.slots.all fun i => !S.lk i) = true := by rfl) (hs : ∀ X, S.In X → swapsWithSole [tg] e pos.line X.env = pure false := by intro _ _; rfl) (hw : ∀ X, S.In X → swappedStores [tg] e X.env = pure none := by intro _ _; rfl)
    (ha : ∀ env, (assignEach [tg] env).map (·.2) = [assign tg env] := by intro _; rfl) : PSD S (.Assign [tg] e pos) (tAsgD n pat t) := by
  have hk : ∀ i ∈ pat.slots, S.lk i = false := fun i hi => by simpa using List.all_eq_true.mp hka i hi
  subst hn
  obtain ⟨u, h1, h2⟩ := h.ex
  obtain ⟨g, g1, gl, g2⟩ := hg.ex
  refine ⟨_, fun X hX => ps_asg (h1 X hX) (g1 X hX) (hs X hX) (hw X hX) (ha _), fun c Γ DD Dn hn ht st h F => ?_⟩
  refine h2 c Γ _ _ hn st h fun v c1 Γ1 r e1 st1 v1 q1 => ?_
  obtain ⟨c2, Γ2, x, e2, st2, d2, q2, eh, et, _⟩ := asD_ok st1 v1 q1
  split at q2
  · rename_i Γ3 hb
    rw [← eh, show c.σ = c2.σ from by rw [e2.s, e1.s]]
    have hn2 : c2.σ.length = S.N.length := by rw [e2.s, e1.s]; exact hn
    refine g2 c2 Γ2 Γ3 v x _ hn2 st2 d2 hb fun c3 z3 st3 => ?_
    have y3 : ExtS S.N.length S.lk c c3 := ⟨e1.toExt.trans (e2.toExt.trans z3.ext), z3.len.trans hn2, fun l hl => by
      rw [z3.out, e2.s, e1.s]
      intro hh
      rw [hk l hh] at hl
      cases hl⟩
    obtain ⟨x4, t4, st4⟩ := drop_all y3 st3
    exact F.nx c3.drop _ x4 t4 st4 q2
  · exact q2.elim
/-! ### loops -/
def forD (pat : Pat) (tb : TSD) : List D → EndsD → Env → Prop
  | [], DD, Γ => DD.nx Γ
  | x :: xs, DD, Γ => match bindP pat x Γ with
    | some Γx => tb { DD with nx := forD pat tb xs DD, ct := forD pat tb xs DD, bk := DD.nx } Γx
    | none => False
/-- turns that keep a word -/
theorem forD_inv {pat : Pat} {tb : TSD} : ∀ {xs : List D} {DD : EndsD} {Γ : Env} (I : Nat → Env → Prop), I 0 Γ → (∀ i x Γ (E : EndsD), xs[i]? = some x → I i Γ → (∀ Γ', I (i + 1) Γ' → E.nx Γ') → (∀ Γ', I (i + 1) Γ' → E.ct Γ') → E.rt = DD.rt → E.bk = DD.nx → ∃ Γx, bindP pat x Γ = some Γx ∧ tb E Γx) →
    (∀ Γ, I xs.length Γ → DD.nx Γ) → forD pat tb xs DD Γ
  | [], DD, Γ, I, h0, hs, hd => hd Γ h0
  | x :: xs, DD, Γ, I, h0, hs, hd => by
    have rest : ∀ Γ', I 1 Γ' → forD pat tb xs DD Γ' := fun Γ' h' => forD_inv (fun i => I (i + 1)) h' (fun i y Γ E e => hs (i + 1) y Γ E (by simpa using e)) hd
    obtain ⟨Γx, e, h⟩ := hs 0 x Γ { DD with nx := forD pat tb xs DD, ct := forD pat tb xs DD, bk := DD.nx } rfl h0 rest rest rfl rfl
    simp only [forD, e]
    exact h
def tForD (n : Nat) (ti : TID) (pat : Pat) (tb : TSD) : TSD := fun DD Γ => ti Γ fun Γ1 b xs => b = false ∧ forD pat tb xs DD (Γ1.take n)
theorem psd_for {n : Nat} {tg iter : Expr} {body : List Stmt} {ti : TID} {pat : Pat} {tb : TSD} (hi : PID S m tg iter ti) (hg : PGD S tg pat) (hb : PSsD S body tb) (hn : S.N.length = n := by rfl) (hka : (pat.slots.all fun i => !S.lk i) = true := by rfl)
    (hp : ∀ X, S.In X → PassesOwn (model X.prog X.w) X.A X.env X.xe := by exact fun X hX => hX.xe.symm ▸ PassesOwn.never) (hs : ∀ env x, foldedSetIterable iter env x = pure x := by intro _ _; rfl) : PSD S (.For tg iter body [] pos) (tForD n ti pat tb) := by
  have hk : ∀ i ∈ pat.slots, S.lk i = false := fun i hi => by simpa using List.all_eq_true.mp hka i hi
  subst hn
  obtain ⟨wi, i1, i2⟩ := hi.ex
  obtain ⟨g, g1, gl, g2⟩ := hg.ex
  obtain ⟨ub, b1, b2⟩ := hb.ex
  refine ⟨_, fun X hX => ps_for (hp X hX) hX.calm (i1 X hX) (g1 X hX) (b1 X hX) (hs _), fun c Γ DD Dn hn ht st h F => ?_⟩
  refine i2 c Γ _ _ hn st h fun J c1 Γ1 b xs G x1 st1 sG sG' GJ q1 => ?_
  obtain ⟨rfl, q1⟩ := q1
  obtain ⟨y1, t1, st1'⟩ := drop_all (ExtS.ofE (K := S.K) (lk := S.lk) x1 hn) st1
  have SG : Same G c1.F := sG' rfl
  let Iv : Nat → L2.St → Hp → Prop := fun i σ H => ∃ (c2 : Cf) (Γ2 : Env), c2.σ = σ ∧ c2.H = H ∧ i ≤ xs.length ∧ Same c1.F c2.F ∧ ExtS S.N.length S.lk c c2 ∧ c2.τ = [] ∧ Stt S.K c2 Γ2 ∧ forD pat tb (xs.drop i) DD Γ2
  refine ⟨fun i m σ H => m = xs.length - i ∧ Iv i σ H, ⟨xs.length, rfl, c1.drop, _, x1.s, rfl, Nat.zero_le _, Same.refl _, y1, t1, st1', by rw [List.drop_zero]; exact q1⟩, fun i m σ H hW => ?_⟩
  obtain ⟨rfl, c2, Γ2, rfl, rfl, hle, f2, y2, t2, st2, q2⟩ := hW
  have SH : Same G c2.H := (SG.trans f2).trans st2.sub
  by_cases hlt : i < xs.length
  · refine .inr ⟨GJ.go _ _ SH hlt, fun σ' H' => Iv (i + 1) σ' H', fun σ' H' hI => ⟨_, by omega, rfl, hI⟩, fun v H' hy => ?_⟩
    have hx : xs[i]? = some xs[i] := by simp
    rw [List.drop_eq_getElem_cons hlt] at q2
    obtain ⟨c3, hH3, x3, s3, t3, st3, r3⟩ : ∃ c3 : Cf, c3.H = H' ∧ Ext c2 c3 ∧ c3.σ = c2.σ ∧ c3.τ = c2.τ ∧ Stt S.K c3 Γ2 ∧ RD S.K c3.F v xs[i] := by
      rcases GJ.yld _ c2.F i v H' SH f2 st2.sub hy _ hx with ⟨rfl, r⟩ | ⟨p, o, hp0, rfl, r⟩
      · exact ⟨c2, rfl, Ext.refl _, rfl, rfl, st2, r⟩
      · obtain ⟨st3, x3⟩ := st2.froz (o := o) hp0
        exact ⟨c2.froz p o, rfl, x3.toExt, rfl, rfl, st3, r⟩
    subst hH3
    simp only [forD] at q2
    split at q2
    · rename_i Γx hbx
      rw [show c2.σ = c3.σ from s3.symm]
      refine g2 c3 Γ2 Γx v _ _ (by rw [s3]; exact y2.len) st3 r3 hbx fun c4 z4 st4 => ?_
      have y4 : ExtS S.N.length S.lk c c4 := y2.trans ⟨x3.trans z4.ext, by rw [z4.len, s3]; exact y2.len, fun l hl => by
        rw [z4.out, s3]
        intro hh
        rw [hk l hh] at hl
        cases hl⟩
      have f4 : Same c1.F c4.F := by rw [z4.F]; exact f2.trans x3.f
      have again : ∀ c5 Γ5, ExtS S.N.length S.lk c4 c5 → c5.τ = [] → Stt S.K c5 Γ5 → forD pat tb (xs.drop (i + 1)) DD Γ5 → Iv (i + 1) c5.σ c5.H := fun c5 Γ5 y5 t5 st5 q5 =>
        ⟨c5, Γ5, rfl, rfl, hlt, f4.trans y5.f, y4.trans y5, t5, st5, q5⟩
      exact b2 c4 Γx _ _ y4.len (by rw [z4.τ, t3, t2]) st4 q2 ⟨again, fun v c5 Γ5 r y5 st5 v5 q5 => F.rt v c5 Γ5 r (y4.trans y5) st5 v5 q5, fun c5 Γ5 y5 t5 st5 q5 => F.nx c5 Γ5 (y4.trans y5) t5 st5 q5, again⟩
    · exact q2.elim
  · have e : i = xs.length := by omega
    subst e
    rw [List.drop_length] at q2
    exact .inl ⟨GJ.stop _ SH, F.nx c2 Γ2 y2 t2 st2 q2⟩
def tWhileD (n : Nat) (t : TTD) (tb : TSD) : TSD := fun DD Γ => ∃ I : Nat → Env → Prop, (∃ m, I m Γ) ∧ ∀ m Γ, I m Γ → t Γ fun Γ1 b =>
  if b = true then tb { DD with nx := fun Γ' => ∃ m', m' < m ∧ I m' Γ', ct := fun Γ' => ∃ m', m' < m ∧ I m' Γ', bk := DD.nx } (Γ1.take n) else DD.nx (Γ1.take n)
theorem psd_while {n : Nat} {body : List Stmt} {t : TTD} {tb : TSD} (h : PTD S m e t) (hb : PSsD S body tb) (hn : S.N.length = n := by rfl) (hp : ∀ X, S.In X → PassesOwn (model X.prog X.w) X.A X.env X.xe := by exact fun X hX => hX.xe.symm ▸ PassesOwn.never) : PSD S (.While e body [] pos) (tWhileD n t tb) := by
  subst hn
  obtain ⟨ut, h1, h2⟩ := h.ex
  obtain ⟨ub, b1, b2⟩ := hb.ex
  refine ⟨_, fun X hX => ps_while (hp X hX) (h1 X hX) (b1 X hX), fun c Γ DD Dn hn ht st q F => ?_⟩
  obtain ⟨I, ⟨m0, i0⟩, turn⟩ := q
  refine ⟨fun m σ H => ∃ (c2 : Cf) (Γ2 : Env), c2.σ = σ ∧ c2.H = H ∧ ExtS S.N.length S.lk c c2 ∧ c2.τ = [] ∧ Stt S.K c2 Γ2 ∧ I m Γ2, ⟨m0, c, Γ, rfl, rfl, ⟨Ext.refl c, hn, fun _ _ => rfl⟩, ht, st, i0⟩, fun m σ H hW => ?_⟩
  obtain ⟨c2, Γ2, rfl, rfl, y2, t2, st2, q2⟩ := hW
  refine h2 c2 Γ2 _ _ y2.len st2 (turn m Γ2 q2) fun b c3 Γ3 e3 st3 q3 => ?_
  obtain ⟨y4, t4, st4⟩ := drop_all (ExtS.ofE (K := S.K) (lk := S.lk) e3 y2.len) st3
  rw [show c2.σ = c3.drop.σ from e3.s.symm]
  have z4 := y2.trans y4
  cases b with
  | true =>
    rw [if_pos rfl] at q3 ⊢
    refine ⟨fun σ' H' => ∃ m', m' < m ∧ ∃ (c2 : Cf) (Γ2 : Env), c2.σ = σ' ∧ c2.H = H' ∧ ExtS S.N.length S.lk c c2 ∧ c2.τ = [] ∧ Stt S.K c2 Γ2 ∧ I m' Γ2, fun σ' H' h => h, ?_⟩
    have again : ∀ c5 Γ5, ExtS S.N.length S.lk c3.drop c5 → c5.τ = [] → Stt S.K c5 Γ5 → (∃ m', m' < m ∧ I m' Γ5) → ∃ m', m' < m ∧ ∃ (c2 : Cf) (Γ2 : Env), c2.σ = c5.σ ∧ c2.H = c5.H ∧ ExtS S.N.length S.lk c c2 ∧ c2.τ = [] ∧ Stt S.K c2 Γ2 ∧ I m' Γ2 := fun c5 Γ5 y5 t5 st5 ⟨m', hm, q5⟩ =>
      ⟨m', hm, c5, Γ5, rfl, rfl, z4.trans y5, t5, st5, q5⟩
    exact b2 c3.drop _ _ _ y4.len t4 st4 q3 ⟨again, fun v c5 Γ5 r y5 st5 v5 q5 => F.rt v c5 Γ5 r (z4.trans y5) st5 v5 q5, fun c5 Γ5 y5 t5 st5 q5 => F.nx c5 Γ5 (z4.trans y5) t5 st5 q5, again⟩
  | false =>
    rw [if_neg Bool.false_ne_true] at q3 ⊢
    exact F.nx _ _ z4 t4 st4 q3
end
end Mv
set_option Elab.async false
set_option linter.all false
set_option maxRecDepth 100000
namespace Mv
open PySem PySem.Spec PyProof.Rows L2
/-! ### what a def promises -/
abbrev SpD := Env → (Env → T → Prop) → Prop
def inC (F H : Hp) (ω : Tags) (vs : List V) : Cf := ⟨F, H, ω, vs.map some, []⟩
def spOf (K : PySem.W.Frag) (np : Nat) (spec : SpD) : Sp := fun vs H Q _ => vs.length = np ∧ ∃ (F : Hp) (ω : Tags) (Γ : Env) (Ψ : Env → T → Prop), Stt K (inC F H ω vs) Γ ∧ spec Γ Ψ ∧
  ∀ v c' Γ' t, Ext (inC F H ω vs) c' → c'.σ = vs.map some → c'.τ = [v] → Stt K c' (Γ' ++ [some t]) → Γ'.length = np → Ψ Γ' t → Q v c'.H
def outE (lk : Nat → Bool) : Nat → Env → Env → Env
  | i, g :: Γ0, g' :: Γ' => (if lk i = true then g' else g) :: outE lk (i + 1) Γ0 Γ'
  | _, _, _ => []
/-- the parameters that the body stores are data -/
def okE (lk : Nat → Bool) : Nat → Env → Prop
  | _, [] => True
  | i, g :: Γ => (lk i = true ∨ (match g with | some (.d _) => True | none => True | _ => False)) ∧ okE lk (i + 1) Γ
def rtD (np : Nat) (lk : Nat → Bool) (Γ0 : Env) (Ψ : Env → T → Prop) (Γ' : Env) : RV → Prop
  | .d x => Ψ (outE lk 0 Γ0 Γ') (.d x)
  | .p [i] => (match Γ'[i]? with
    | some (some t) => if i < np then Ψ (outE lk 0 Γ0 (Γ'.set i (some (.d (fz t))))) (.d (fz t)) else Ψ (outE lk 0 Γ0 Γ') t
    | _ => False)
  | .p _ => False
def endsD (np : Nat) (lk : Nat → Bool) (Γ0 : Env) (Ψ : Env → T → Prop) : EndsD := { nx := fun Γ' => Ψ (outE lk 0 Γ0 Γ') (.d .non), rt := fun Γ' r => rtD np lk Γ0 Ψ Γ' r }
theorem outE_length (lk : Nat → Bool) : ∀ {Γ0 Γ' : Env} {i : Nat}, Γ0.length ≤ Γ'.length → (outE lk i Γ0 Γ').length = Γ0.length
  | [], _, _, _ => by simp [outE]
  | g :: Γ0, [], _, h => by simp at h
  | g :: Γ0, g' :: Γ', i, h => by
    rw [outE, List.length_cons, List.length_cons, outE_length lk (by simpa using h)]
theorem outE_get (lk : Nat → Bool) : ∀ {Γ0 Γ' : Env} {i j : Nat} {x : Option T}, (outE lk i Γ0 Γ')[j]? = some x → (lk (i + j) = true ∧ Γ'[j]? = some x) ∨ (lk (i + j) = false ∧ Γ0[j]? = some x)
  | [], _, _, _, _, h => by simp [outE] at h
  | g :: Γ0, [], _, _, _, h => by simp [outE] at h
  | g :: Γ0, g' :: Γ', i, 0, x, h => by
    simp only [outE, List.getElem?_cons_zero, Option.some.injEq, Nat.add_zero] at h ⊢
    cases hk : lk i with
    | true =>
      rw [hk, if_pos rfl] at h
      exact .inl ⟨rfl, by rw [h]⟩
    | false =>
      rw [hk, if_neg Bool.false_ne_true] at h
      exact .inr ⟨rfl, by rw [h]⟩
  | g :: Γ0, g' :: Γ', i, j + 1, x, h => by
    simp only [outE, List.getElem?_cons_succ] at h ⊢
    have := outE_get lk h
    rw [show i + (j + 1) = i + 1 + j by omega]
    exact this
theorem okE_get {lk : Nat → Bool} : ∀ {Γ : Env} {i j : Nat} {t : T}, okE lk i Γ → Γ[j]? = some (some t) → lk (i + j) = false → ∃ x, t = .d x
  | [], _, _, _, _, h, _ => by simp at h
  | g :: Γ, i, 0, t, ho, h, hk => by
    simp at h
    subst h
    rcases ho.1 with e | e
    · rw [Nat.add_zero, e] at hk
      cases hk
    · cases t with
      | d x => exact ⟨x, rfl⟩
      | li _ => exact e.elim
      | ob _ _ _ => exact e.elim
  | g :: Γ, i, j + 1, t, ho, h, hk => okE_get (i := i + 1) (j := j) ho.2 (by simpa using h) (by rw [← hk]; congr 1; omega)
/-- the ends of a body: the result is a tree behind the arguments -/
theorem body_end {K : PySem.W.Frag} {np n : Nat} {lk : Nat → Bool} {F H : Hp} {ω : Tags} {vs : List V} {σ0 : L2.St} {Γ : Env} {Ψ : Env → T → Prop} {c' : Cf} {Γ' : Env} {r : RV} {v : V} (hl : vs.length = np) (h0 : ∀ i, i < np → σ0[i]? = (vs.map some)[i]?) (hn : np ≤ n)
    (st : Stt K (inC F H ω vs) Γ) (ho : okE lk 0 Γ) (x : ExtS n lk ⟨F, H, ω, σ0, []⟩ c') (st' : Stt K c' Γ') (hv : VR K c' r v) (q : rtD np lk Γ Ψ Γ' r) :
    ∃ c2 Γ2 t, Ext (inC F H ω vs) c2 ∧ c2.σ = vs.map some ∧ c2.τ = [v] ∧ Stt K c2 (Γ2 ++ [some t]) ∧ Γ2.length = np ∧ Ψ Γ2 t ∧ c2.H = c'.H := by
  have hΓ : Γ.length = np := by
    have := st.len
    simpa [inC, hl] using this
  have x0 : Ext (inC F H ω vs) c' := ⟨x.f, x.k, x.g, x.d⟩
  -- one row for all cases
  have row : ∀ (c1 : Cf) (Γ1 : Env) (t : T) (ω2 : Tags), Ext (inC F H ω vs) c1 → c1.H = c'.H → Stt K c1 Γ1 → n ≤ Γ1.length → (∀ i, lk i = true → i < np → c1.vs[i]? = (vs.map some)[i]?) → Same c1.F c1.F →
      (∀ a, c1.ω a = none → ω2 a = none) → (∀ a q, ω2 a = some q → ∃ q', c1.ω a = some q') → (∀ i u, i < np → Γ1[i]? = some (some u) → lk i = true → ∀ a rr, c1.ω a = some (rr ++ [i]) → ω2 a = some (rr ++ [i])) →
      TR K c1.F c1.H ω2 [np] v t → Ψ (outE lk 0 Γ Γ1) t → ∃ c2 Γ2 t, Ext (inC F H ω vs) c2 ∧ c2.σ = vs.map some ∧ c2.τ = [v] ∧ Stt K c2 (Γ2 ++ [some t]) ∧ Γ2.length = np ∧ Ψ Γ2 t ∧ c2.H = c'.H := by
    intro c1 Γ1 t ω2 xx eH s1 hl1 hlk _ hw1 hw2 hw3 tr hq
    have hol : (outE lk 0 Γ Γ1).length = np := by rw [outE_length lk (by omega), hΓ]
    refine ⟨⟨c1.F, c1.H, ω2, vs.map some, [v]⟩, outE lk 0 Γ Γ1, t, ?_, rfl, rfl, ⟨s1.sub, fun a q e => ?_, ?_, fun i u e => ?_⟩, hol, hq, eH⟩
    · exact ⟨xx.f, fun a o e n => let ⟨h1, h2⟩ := xx.k a o e n; ⟨h1, hw1 a h2⟩, xx.g, xx.d⟩
    · obtain ⟨q', e'⟩ := hw2 a q e
      exact s1.own a q' e'
    · rw [List.length_append, hol]
      show np + 1 = (vs.map some).length + 1
      rw [List.length_map, hl]
    · by_cases hi : i < np
      · rw [List.getElem?_append_left (by rw [hol]; exact hi)] at e
        have hvs : ({ F := c1.F, H := c1.H, ω := ω2, σ := vs.map some, τ := [v] } : Cf).vs[i]? = (vs.map some)[i]? := by
          unfold Cf.vs
          rw [List.getElem?_append_left (by rw [List.length_map, hl]; exact hi)]
        rw [hvs]
        rcases outE_get lk e with ⟨hk, e1⟩ | ⟨hk, e1⟩
        · rw [Nat.zero_add] at hk
          obtain ⟨w, h1, h2⟩ := s1.at_ i u e1
          rw [hlk i hk hi] at h1
          exact ⟨w, h1, h2.move (Same.refl _) fun a rr o h3 h4 => ⟨h4, hw3 i u hi e1 hk a rr h3⟩⟩
        · obtain ⟨x', rfl⟩ := okE_get ho e1 hk
          obtain ⟨w, h1, h2⟩ := st.at_ i _ e1
          have h1' : (vs.map some)[i]? = some (some w) := by
            have : (inC F H ω vs).vs = vs.map some := by simp [inC, Cf.vs]
            rw [this] at h1
            exact h1
          cases h2 with
          | d h2 => exact ⟨w, h1', .d (h2.mono xx.f)⟩
      · have hi' : i = np := by
          have := (List.getElem?_eq_some_iff.mp e).1
          rw [List.length_append, hol] at this
          simp at this
          omega
        subst hi'
        rw [List.getElem?_append_right (by omega), hol, Nat.sub_self] at e
        simp at e
        subst e
        refine ⟨v, ?_, tr⟩
        unfold Cf.vs
        rw [List.getElem?_append_right (by rw [List.length_map, hl]; exact Nat.le_refl _), List.length_map, hl, Nat.sub_self]
        rfl
  have lkv : ∀ i, lk i = true → i < np → c'.vs[i]? = (vs.map some)[i]? := fun i hk hi => by
    unfold Cf.vs
    rw [List.getElem?_append_left (by rw [x.len]; omega), x.lock i hk, h0 i hi]
  have ln : n ≤ Γ'.length := by rw [st'.len, x.len]; omega
  cases r with
  | d y => exact row c' Γ' (.d y) c'.ω x0 rfl st' ln lkv (Same.refl _) (fun _ h => h) (fun a q e => ⟨q, e⟩) (fun _ _ _ _ _ a rr h => h) (.d hv) q
  | p qq =>
    cases qq with
    | nil => exact q.elim
    | cons i qq =>
      cases qq with
      | cons _ _ => exact q.elim
      | nil =>
        simp only [rtD] at q
        split at q
        · rename_i t ht
          have hs : c'.vs[i]? = some (some v) := by
            cases hv with
            | slot e => exact e
            | li h1 _ _ => exact absurd rfl h1.ne
            | ob h1 _ _ _ => exact absurd rfl h1.ne
          split at q
          · rename_i hi
            obtain ⟨st2, x2⟩ := st'.frz ht
            refine row (c'.frz i) _ (.d (fz t)) _ (x0.trans x2.toExt) rfl st2 (by rw [List.length_set]; exact ln) (fun j hk hj => lkv j hk hj) (Same.refl _) (fun _ h => h) (fun a q e => ⟨q, e⟩) (fun _ _ _ _ _ a rr h => h) ?_ q
            obtain ⟨w, h1, h2⟩ := st2.at_ i (.d (fz t)) (by rw [List.getElem?_set_self (List.getElem?_eq_some_iff.mp ht).1])
            rw [show (c'.frz i).vs = c'.vs from rfl, hs] at h1
            cases h1
            cases h2 with
            | d h2 => exact .d h2
          · rename_i hi
            obtain ⟨w, h1, h2⟩ := st'.at_ i t ht
            rw [hs] at h1
            cases h1
            refine row c' Γ' t (fun a => if tagged c'.ω i a = true then (c'.ω a).map (fun q => q.dropLast ++ [np]) else c'.ω a) x0 rfl st' ln lkv (Same.refl _) (fun a h => ?_) (fun a q e => ?_) (fun j u hj hu hk a rr h => ?_) ?_ q
            · rw [tagged_none h, if_neg Bool.false_ne_true]
              exact h
            · split at e
              · cases e' : c'.ω a with
                | none => rw [e'] at e; cases e
                | some q' => exact ⟨q', rfl⟩
              · exact ⟨q, e⟩
            · show (if tagged c'.ω i a = true then _ else c'.ω a) = _
              rw [tagged_ne h (by omega), if_neg Bool.false_ne_true]
              exact h
            · refine h2.move (Same.refl _) fun a rr o h3 h4 => ⟨h4, ?_⟩
              show (if tagged c'.ω i a = true then _ else c'.ω a) = _
              rw [tagged_of h3, if_pos rfl, h3]
              simp
        · exact q.elim
section
variable {P : Program} {w : World} {K : PySem.W.Frag} {mg : Str → Option Value} {base : Heap}
abbrev csOf (P : Program) (w : World) (K : PySem.W.Frag) (mg : Str → Option Value) (base : Heap) (N : List Str) (st : Stmt) (lk : Nat → Bool) (k : Nat) : Cs := ⟨P, w, K, mg, base, N, defScope st, fun _ => true, lk, k⟩
/-- THE RULE for a def -/
theorem fn_okD {x qual : Str} {st : Stmt} {f : Addr} {fd : FuncData} {N ps : List Str} {k : Nat} {np : Nat} {lk : Nat → Bool} {spec : SpD} {t : TSD} (F : Fun K x qual st f fd) (S : FnScope N ps (defScope st)) (hnp : ps.length = np) (hb : PSsD (csOf P w K mg base N st lk k) (defBody st) t)
    (h : ∀ Γ Ψ, spec Γ Ψ → Γ.length = np → okE lk 0 Γ ∧ t (endsD np lk Γ Ψ) (Γ ++ List.replicate (N.length - np) none)) : FnOk P w K mg base CX0 (k + 1) f fd ps (spOf K np spec) := by
  obtain ⟨ts, b1, b2⟩ := hb.ex
  have hpl : np ≤ N.length := by
    have := congrArg List.length S.pre
    rw [List.length_take] at this
    omega
  refine F.ok S (fun vs H Q E hq => by rw [hq.1, hnp]) fun cdv A outer s H vs Q E hr hq => ?_
  obtain ⟨hl, F0, ω, Γ, Ψ, st0, hs, k0⟩ := hq
  have hΓ : Γ.length = np := by
    have := st0.len
    simpa [inC, hl] using this
  obtain ⟨ho, ht⟩ := h Γ Ψ hs hΓ
  refine ⟨ts, b1 _ ⟨rfl, rfl, rfl, rfl, rfl, rfl, rfl, rfl, hr, fun _ _ => rfl, S.nd, rfl⟩, ?_⟩
  have hst : (L2.start N vs).length = N.length := by
    unfold L2.start
    rw [List.length_append, List.length_map, List.length_replicate, hl]
    omega
  have h0 : ∀ i, i < np → (L2.start N vs)[i]? = (vs.map some)[i]? := fun i hi => by
    unfold L2.start
    rw [List.getElem?_append_left (by rw [List.length_map, hl]; exact hi)]
  have st1 : Stt K ⟨F0, H, ω, L2.start N vs, []⟩ (Γ ++ List.replicate (N.length - np) none) := by
    refine ⟨st0.sub, st0.own, ?_, fun i t e => ?_⟩
    · show _ = (L2.start N vs).length + 0
      rw [hst, List.length_append, List.length_replicate, hΓ]
      omega
    · by_cases hi : i < np
      · rw [List.getElem?_append_left (by omega)] at e
        obtain ⟨v, h1, h2⟩ := st0.at_ i t e
        refine ⟨v, ?_, h2⟩
        show (L2.start N vs ++ _)[i]? = _
        rw [List.getElem?_append_left (by rw [hst]; omega), h0 i hi]
        have : (inC F0 H ω vs).vs = vs.map some := by simp [inC, Cf.vs]
        rw [this] at h1
        exact h1
      · rw [List.getElem?_append_right (by omega), List.getElem?_replicate] at e
        split at e <;> cases e
  refine b2 ⟨F0, H, ω, L2.start N vs, []⟩ _ _ _ hst rfl st1 ht ⟨fun c' Γ' xx tt stt q => ?_, fun v c' Γ' r xx stt vr q => ?_, fun _ _ _ _ _ q => q.elim, fun _ _ _ _ _ q => q.elim⟩
  · obtain ⟨c2, Γ2, t, h1, h2, h3, h4, h5, h6, h7⟩ := body_end (r := .d .non) (v := .non) hl h0 hpl st0 ho xx stt RD.non q
    have := k0 _ c2 Γ2 t h1 h2 h3 h4 h5 h6
    rw [h7] at this
    exact this
  · obtain ⟨c2, Γ2, t, h1, h2, h3, h4, h5, h6, h7⟩ := body_end hl h0 hpl st0 ho xx stt vr q
    have := k0 _ c2 Γ2 t h1 h2 h3 h4 h5 h6
    rw [h7] at this
    exact this
end
/-! ### calls -/
def argE (Γ : Env) : List RV → Option Env
  | [] => some []
  | .d x :: rs => (match argE Γ rs with | some as => some (some (.d x) :: as) | none => none)
  | .p [i] :: rs => (match Γ[i]?, argE Γ rs with | some (some t), some as => some (some t :: as) | _, _ => none)
  | .p _ :: _ => none
def plAt (rs : List RV) (j : Nat) : Option Nat := match rs[j]? with | some (.p [i]) => some i | _ => none
def places : List RV → List Nat
  | [] => []
  | .p [i] :: rs => i :: places rs
  | _ :: rs => places rs
def putBack (Γ : Env) : List RV → Env → Env
  | .p [i] :: rs, o :: os => putBack (Γ.set i o) rs os
  | .d _ :: rs, _ :: os => putBack Γ rs os
  | _, _ => Γ
def resD (Γ : Env) (t : T) (Ψ : Env → RV → Prop) : Prop := match t with
  | .d x => Ψ Γ (.d x)
  | t => Ψ (Γ ++ [some t]) (.p [Γ.length])
def callD (spec : SpD) (rs : List RV) (Γ : Env) (Ψ : Env → RV → Prop) : Prop := match argE Γ rs with
  | some as => (places rs).Nodup ∧ spec as fun outs t => resD (putBack Γ rs outs) t Ψ
  | none => False
theorem argE_length {Γ : Env} : ∀ {rs : List RV} {as : Env}, argE Γ rs = some as → as.length = rs.length
  | [], as, h => by cases h; rfl
  | .d x :: rs, as, h => by
    simp only [argE] at h
    split at h
    · rename_i as' e
      cases h
      rw [List.length_cons, List.length_cons, argE_length e]
    · cases h
  | .p [] :: rs, as, h => by simp [argE] at h
  | .p [i] :: rs, as, h => by
    simp only [argE] at h
    split at h
    · rename_i t as' _ e
      cases h
      rw [List.length_cons, List.length_cons, argE_length e]
    · cases h
  | .p (_ :: _ :: _) :: rs, as, h => by simp [argE] at h
theorem argE_get {Γ : Env} : ∀ {rs : List RV} {as : Env} {j : Nat} {t : T}, argE Γ rs = some as → as[j]? = some (some t) → (∃ x, rs[j]? = some (.d x) ∧ t = .d x) ∨ ∃ i, rs[j]? = some (.p [i]) ∧ Γ[i]? = some (some t)
  | [], as, j, t, h, e => by cases h; simp at e
  | .d x :: rs, as, j, t, h, e => by
    simp only [argE] at h
    split at h
    · rename_i as' ea
      cases h
      cases j with
      | zero =>
        simp at e
        exact .inl ⟨x, rfl, e.symm⟩
      | succ j => simpa using argE_get (j := j) ea (by simpa using e)
    · cases h
  | .p [] :: rs, as, j, t, h, e => by simp [argE] at h
  | .p [i] :: rs, as, j, t, h, e => by
    simp only [argE] at h
    split at h
    · rename_i t' as' et ea
      cases h
      cases j with
      | zero =>
        simp at e
        subst e
        exact .inr ⟨i, rfl, et⟩
      | succ j => simpa using argE_get (j := j) ea (by simpa using e)
    · cases h
  | .p (_ :: _ :: _) :: rs, as, j, t, h, e => by simp [argE] at h
theorem mem_places : ∀ {rs : List RV} {j i : Nat}, rs[j]? = some (.p [i]) → i ∈ places rs
  | [], j, i, h => by simp at h
  | r :: rs, 0, i, h => by
    simp at h
    subst h
    simp [places]
  | r :: rs, j + 1, i, h => by
    have := mem_places (rs := rs) (j := j) (i := i) (by simpa using h)
    unfold places
    split
    · contradiction
    · rename_i hr
      injection hr with h1 h2
      subst h1 h2
      exact List.mem_cons_of_mem _ this
    · rename_i hr
      injection hr with h1 h2
      subst h2
      exact this
theorem places_inj : ∀ {rs : List RV} {j j' i : Nat}, (places rs).Nodup → rs[j]? = some (.p [i]) → rs[j']? = some (.p [i]) → j = j'
  | [], j, j', i, _, h, _ => by simp at h
  | r :: rs, 0, 0, i, _, _, _ => rfl
  | r :: rs, 0, j' + 1, i, nd, h, h' => by
    simp at h
    subst h
    have := mem_places (rs := rs) (j := j') (i := i) (by simpa using h')
    simp only [places, List.nodup_cons] at nd
    exact absurd this nd.1
  | r :: rs, j + 1, 0, i, nd, h, h' => by
    simp at h'
    subst h'
    have := mem_places (rs := rs) (j := j) (i := i) (by simpa using h)
    simp only [places, List.nodup_cons] at nd
    exact absurd this nd.1
  | r :: rs, j + 1, j' + 1, i, nd, h, h' => by
    have nd' : (places rs).Nodup := by
      unfold places at nd
      split at nd
      · contradiction
      · rename_i hr
        injection hr with h1 h2
        subst h2
        exact (List.nodup_cons.mp nd).2
      · rename_i hr
        injection hr with h1 h2
        subst h2
        exact nd
    rw [places_inj (j := j) (j' := j') nd' (by simpa using h) (by simpa using h')]
theorem putBack_length : ∀ {rs : List RV} {Γ os : Env}, (putBack Γ rs os).length = Γ.length
  | [], Γ, os => by simp [putBack]
  | .d x :: rs, Γ, [] => by simp [putBack]
  | .d x :: rs, Γ, o :: os => by rw [putBack, putBack_length]
  | .p [] :: rs, Γ, os => by simp [putBack]
  | .p [i] :: rs, Γ, [] => by simp [putBack]
  | .p [i] :: rs, Γ, o :: os => by rw [putBack, putBack_length, List.length_set]
  | .p (_ :: _ :: _) :: rs, Γ, os => by simp [putBack]
theorem putBack_get : ∀ {rs : List RV} {Γ os : Env} {l : Nat} {x : Option T}, (∀ r ∈ rs, ∀ q, r = .p q → ∃ i, q = [i]) → os.length = rs.length → (places rs).Nodup → (putBack Γ rs os)[l]? = some x → (∃ j : Nat, rs[j]? = some (RV.p [l]) ∧ os[j]? = some x) ∨ (l ∉ places rs ∧ Γ[l]? = some x)
  | [], Γ, os, l, x, _, _, _, h => .inr ⟨by simp [places], by simpa [putBack] using h⟩
  | .d y :: rs, Γ, [], l, x, _, e, _, h => by simp at e
  | .d y :: rs, Γ, o :: os, l, x, hf, e, nd, h => by
    rw [putBack] at h
    rcases putBack_get (fun r hr => hf r (List.mem_cons_of_mem _ hr)) (by simpa using e) (by simpa [places] using nd) h with ⟨j, h1, h2⟩ | ⟨h1, h2⟩
    · exact .inl ⟨j + 1, by simpa using h1, by simpa using h2⟩
    · exact .inr ⟨by simpa [places] using h1, h2⟩
  | .p [] :: rs, Γ, os, l, x, hf, e, nd, h => by
    obtain ⟨i, hi⟩ := hf _ (List.mem_cons_self) _ rfl
    cases hi
  | .p (_ :: _ :: _) :: rs, Γ, os, l, x, hf, e, nd, h => by
    obtain ⟨i, hi⟩ := hf _ (List.mem_cons_self) _ rfl
    cases hi
  | .p [i] :: rs, Γ, [], l, x, _, e, _, h => by simp at e
  | .p [i] :: rs, Γ, o :: os, l, x, hf, e, nd, h => by
    rw [putBack] at h
    simp only [places, List.nodup_cons] at nd
    rcases putBack_get (fun r hr => hf r (List.mem_cons_of_mem _ hr)) (by simpa using e) nd.2 h with ⟨j, h1, h2⟩ | ⟨h1, h2⟩
    · exact .inl ⟨j + 1, by simpa using h1, by simpa using h2⟩
    · by_cases hl : l = i
      · subst hl
        have hb : l < (Γ.set l o).length := (List.getElem?_eq_some_iff.mp h2).1
        rw [List.length_set] at hb
        rw [List.getElem?_set_self hb] at h2
        exact .inl ⟨0, rfl, by simpa using h2⟩
      · rw [List.getElem?_set_ne (Ne.symm hl)] at h2
        exact .inr ⟨by simp only [places, List.mem_cons, not_or]; exact ⟨hl, h1⟩, h2⟩
theorem VRs.get {K : PySem.W.Frag} {c : Cf} : ∀ {rs : List RV} {vs : List V} {j : Nat} {r : RV}, VRs K c rs vs → rs[j]? = some r → ∃ v, vs[j]? = some v ∧ VR K c r v
  | _, _, _, _, .nil, e => by simp at e
  | _, _, 0, _, .cons h _, e => by
    simp at e
    subst e
    exact ⟨_, rfl, h⟩
  | _, _, j + 1, r, .cons _ t, e => by
    obtain ⟨v, h1, h2⟩ := VRs.get (j := j) t (by simpa using e)
    exact ⟨v, by simpa using h1, h2⟩
theorem VRs.length {K : PySem.W.Frag} {c : Cf} : ∀ {rs : List RV} {vs : List V}, VRs K c rs vs → vs.length = rs.length
  | _, _, .nil => rfl
  | _, _, .cons _ t => by rw [List.length_cons, List.length_cons, VRs.length t]
theorem argE_flat {Γ : Env} : ∀ {rs : List RV} {as : Env}, argE Γ rs = some as → ∀ r ∈ rs, ∀ q, r = .p q → ∃ i, q = [i]
  | [], as, h, r, hr => by cases hr
  | .d x :: rs, as, h, r, hr => by
    simp only [argE] at h
    split at h
    · rename_i as' ea
      rcases List.mem_cons.mp hr with rfl | hr
      · intro q e; cases e
      · exact argE_flat ea r hr
    · cases h
  | .p [] :: rs, as, h, r, hr => by simp [argE] at h
  | .p [i] :: rs, as, h, r, hr => by
    simp only [argE] at h
    split at h
    · rename_i t' as' et ea
      rcases List.mem_cons.mp hr with rfl | hr
      · intro q e; cases e; exact ⟨i, rfl⟩
      · exact argE_flat ea r hr
    · cases h
  | .p (_ :: _ :: _) :: rs, as, h, r, hr => by simp [argE] at h
/-- the place of a slot among the arguments -/
def posOf (rs : List RV) (i : Nat) : Option Nat := rs.findIdx? fun r => match r with | .p [j] => j == i | _ => false
theorem posOf_some {rs : List RV} {i j : Nat} (h : posOf rs i = some j) : rs[j]? = some (.p [i]) := by
  unfold posOf at h
  obtain ⟨hj, h1, _⟩ := List.findIdx?_eq_some_iff_getElem.mp h
  rw [List.getElem?_eq_getElem hj]
  split at h1
  · rename_i k e
    have : k = i := by simpa using h1
    rw [e, this]
  · cases h1
theorem posOf_of {rs : List RV} {i j : Nat} (nd : (places rs).Nodup) (h : rs[j]? = some (.p [i])) : posOf rs i = some j := by
  cases e : posOf rs i with
  | none =>
    unfold posOf at e
    rw [List.findIdx?_eq_none_iff] at e
    have := e _ (List.mem_of_getElem? h)
    simp at this
  | some j' => rw [places_inj nd (posOf_some e) h]
theorem posOf_mem {rs : List RV} {i j : Nat} (h : posOf rs i = some j) : i ∈ places rs := mem_places (posOf_some h)
theorem posOf_none {rs : List RV} {i : Nat} (nd : (places rs).Nodup) (h : posOf rs i = none) : ∀ j : Nat, rs[j]? ≠ some (RV.p [i]) := fun j e => by
  rw [posOf_of nd e] at h
  cases h
theorem last_split {q : List Nat} {i : Nat} (h : q.getLast? = some i) : ∃ r, q = r ++ [i] := by
  cases hq : q with
  | nil => rw [hq] at h; cases h
  | cons a b =>
    refine ⟨q.dropLast, ?_⟩
    rw [hq] at h ⊢
    have hne : (a :: b) ≠ [] := by simp
    rw [List.getLast?_eq_some_getLast hne] at h
    injection h with h
    rw [← h]
    exact (List.dropLast_concat_getLast hne).symm
/-- a callee's tags -/
def tagsIn (ω : Tags) (rs : List RV) : Tags := fun a => match ω a with
  | some q => (match q.getLast? with | some i => (match posOf rs i with | some j => some (q.dropLast ++ [j]) | none => none) | none => none)
  | none => none
theorem tagsIn_of {ω : Tags} {rs : List RV} {a : Addr} {r : List Nat} {i j : Nat} (h : ω a = some (r ++ [i])) (hp : posOf rs i = some j) : tagsIn ω rs a = some (r ++ [j]) := by
  unfold tagsIn
  rw [h]
  simp [hp]
theorem tagsIn_out {ω : Tags} {rs : List RV} {a : Addr} {r : List Nat} {i : Nat} (h : ω a = some (r ++ [i])) (hp : posOf rs i = none) : tagsIn ω rs a = none := by
  unfold tagsIn
  rw [h]
  simp [hp]
theorem tagsIn_none {ω : Tags} {rs : List RV} {a : Addr} (h : ω a = none) : tagsIn ω rs a = none := by
  unfold tagsIn
  rw [h]
theorem tagsIn_some {ω : Tags} {rs : List RV} {a : Addr} {q : List Nat} (h : tagsIn ω rs a = some q) : ∃ q', ω a = some q' := by
  cases e : ω a with
  | none => rw [tagsIn_none e] at h; cases h
  | some q' => exact ⟨q', rfl⟩
/-- the caller's tags behind a call -/
def tagsOut (ω ω' : Tags) (rs : List RV) (d : Nat) : Tags := fun a => match ω' a with
  | some q => (match q.getLast? with | some j => (match plAt rs j with | some i => some (q.dropLast ++ [i]) | none => if j = rs.length then some (q.dropLast ++ [d]) else none) | none => none)
  | none => (match ω a with | some q => (match q.getLast? with | some i => (match posOf rs i with | some _ => none | none => some q) | none => none) | none => none)
theorem call_back {K : PySem.W.Frag} {c : Cf} {Γ : Env} {rs : List RV} {vs : List V} {as Γ' : Env} {t : T} {v : V} {c' : Cf} (st : Stt K c Γ) (hv : VRs K c rs vs) (ha : argE Γ rs = some as) (nd : (places rs).Nodup)
    (x : Ext (inC c.F c.H (tagsIn c.ω rs) vs) c') (hσ : c'.σ = vs.map some) (hτ : c'.τ = [v]) (st' : Stt K c' (Γ' ++ [some t])) (hl : Γ'.length = rs.length) :
    ∃ c2 : Cf, c2.H = c'.H ∧ ExtE true c { c2 with τ := c.τ } ∧ Stt K { c2 with τ := c.τ } (putBack Γ rs Γ') ∧ ExtE true c { c2 with τ := c.τ ++ [v] } ∧ Stt K { c2 with τ := c.τ ++ [v] } (putBack Γ rs Γ' ++ [some t]) ∧ (places rs = [] → Same c.H c2.H) ∧ (∀ y, t = .d y → RD K c2.F v y) ∧
      Loc c2.H ({ c2 with τ := c.τ ++ [v] } : Cf).vs [(putBack Γ rs Γ').length] v := by
  have hvl := hv.length
  have pl : ∀ {j i : Nat}, rs[j]? = some (.p [i]) → plAt rs j = some i := fun {j i} e => by unfold plAt; rw [e]
  have plr : plAt rs rs.length = none := by unfold plAt; simp
  have Le := putBack_length (rs := rs) (Γ := Γ) (os := Γ')
  let ω2 := tagsOut c.ω c'.ω rs Γ.length
  have keep : ∀ {a : Addr} {o : HO} {r : List Nat} {i : Nat}, c.ω a = some (r ++ [i]) → posOf rs i = none → c.H a = some o → c'.H a = some o ∧ ω2 a = some (r ++ [i]) := fun {a o r i} h1 h2 h3 => by
    obtain ⟨k1, k2⟩ := x.k a o h3 (tagsIn_out h1 h2)
    refine ⟨k1, ?_⟩
    show tagsOut c.ω c'.ω rs Γ.length a = _
    unfold tagsOut
    rw [k2, h1]
    simp [h2]
  have EX : Ext c { F := c'.F, H := c'.H, ω := ω2, σ := c.σ, τ := c.τ } := by
    refine ⟨x.f, fun a o e n => ?_, fun a o e => ?_, x.d⟩
    · obtain ⟨k1, k2⟩ := x.k a o e (tagsIn_none n)
      refine ⟨k1, ?_⟩
      show tagsOut c.ω c'.ω rs Γ.length a = none
      unfold tagsOut
      rw [k2, n]
    · rcases x.g a o e with q | q | ⟨q, hq⟩
      · exact .inl q
      · exact .inr (.inl q)
      · exact .inr (.inr (tagsIn_some hq))
  have OWN : ∀ a q, ω2 a = some q → c'.F a = none ∧ ∃ o, c'.H a = some o := fun a q e => by
    have e : tagsOut c.ω c'.ω rs Γ.length a = some q := e
    unfold tagsOut at e
    split at e
    · rename_i q' hq
      exact st'.own a q' hq
    · rename_i hn
      split at e
      · rename_i q' hq
        split at e
        · rename_i i hi
          split at e
          · cases e
          · rename_i hp
            obtain ⟨r, rfl⟩ := last_split hi
            obtain ⟨h1, o, h2⟩ := st.own a _ hq
            obtain ⟨k1, k2⟩ := x.k a o h2 (tagsIn_out hq hp)
            refine ⟨?_, o, k1⟩
            cases hF : c'.F a with
            | none => rfl
            | some o' =>
              rcases x.g a o' hF with z | z | ⟨z, hz⟩
              · rw [show (inC c.F c.H (tagsIn c.ω rs) vs).F a = c.F a from rfl, h1] at z
                cases z
              · rw [show (inC c.F c.H (tagsIn c.ω rs) vs).H a = c.H a from rfl, h2] at z
                cases z
              · rw [show (inC c.F c.H (tagsIn c.ω rs) vs).ω a = tagsIn c.ω rs a from rfl, tagsIn_out hq hp] at hz
                cases hz
        · cases e
      · cases e
  have cvs : c'.vs = vs.map some ++ [some v] := by
    unfold Cf.vs
    rw [hσ, hτ]
    rfl
  have AT : ∀ i u, (putBack Γ rs Γ')[i]? = some (some u) → ∃ w, c.vs[i]? = some (some w) ∧ TR K c'.F c'.H ω2 [i] w u := fun i u e => by
    rcases putBack_get (argE_flat ha) hl nd e with ⟨j, h1, h2⟩ | ⟨h1, h2⟩
    · obtain ⟨w, e1, e2⟩ := hv.get h1
      have hj : j < Γ'.length := (List.getElem?_eq_some_iff.mp h2).1
      obtain ⟨w', k1, k2⟩ := st'.at_ j u (by rw [List.getElem?_append_left hj]; exact h2)
      rw [cvs, List.getElem?_append_left (by rw [List.length_map, hvl]; omega), List.getElem?_map, e1] at k1
      simp at k1
      subst k1
      refine ⟨w, ?_, k2.move (Same.refl _) fun a r o h3 h4 => ⟨h4, ?_⟩⟩
      · cases e2 with
        | slot e => exact e
        | li h _ _ => exact absurd rfl h.ne
        | ob h _ _ _ => exact absurd rfl h.ne
      · show tagsOut c.ω c'.ω rs Γ.length a = _
        unfold tagsOut
        rw [h3]
        simp [pl h1]
    · obtain ⟨w, k1, k2⟩ := st.at_ i u h2
      have hp : posOf rs i = none := by
        cases e : posOf rs i with
        | none => rfl
        | some j => exact absurd (posOf_mem e) h1
      exact ⟨w, k1, k2.move x.f fun a r o h3 h4 => keep h3 hp h4⟩
  have RES : TR K c'.F c'.H ω2 [Γ.length] v t := by
    obtain ⟨w, k1, k2⟩ := st'.at_ rs.length t (by rw [List.getElem?_append_right (by omega), hl, Nat.sub_self]; rfl)
    rw [cvs, List.getElem?_append_right (by rw [List.length_map, hvl]; exact Nat.le_refl _), List.length_map, hvl, Nat.sub_self] at k1
    simp at k1
    subst k1
    refine k2.move (Same.refl _) fun a r o h3 h4 => ⟨h4, ?_⟩
    show tagsOut c.ω c'.ω rs Γ.length a = _
    unfold tagsOut
    rw [h3]
    simp [plr]
  refine ⟨⟨c'.F, c'.H, ω2, c.σ, []⟩, rfl, ⟨EX, rfl, ⟨[], by simp⟩, fun z => by cases z⟩, ⟨st'.sub, OWN, by rw [Le]; exact st.len, AT⟩, ⟨⟨EX.f, EX.k, EX.g, EX.d⟩, rfl, ⟨[v], rfl⟩, fun z => by cases z⟩, ⟨st'.sub, OWN, ?_, fun i u e => ?_⟩, fun z a o e => ?_, fun y hy => ?_, ?_⟩
  · rw [List.length_append, Le, st.len]
    show _ = c.σ.length + (c.τ ++ [v]).length
    rw [List.length_append]
    simp only [List.length_cons, List.length_nil]
    omega
  · by_cases hi : i < Γ.length
    · rw [List.getElem?_append_left (by rw [Le]; exact hi)] at e
      obtain ⟨w, k1, k2⟩ := AT i u e
      refine ⟨w, ?_, k2⟩
      unfold Cf.vs
      show (c.σ ++ (c.τ ++ [v]).map some)[i]? = _
      rw [List.map_append, ← List.append_assoc, List.getElem?_append_left (by have := st.vlen; unfold Cf.vs at this; rw [this]; exact hi)]
      exact k1
    · have hi' : i = Γ.length := by
        have := (List.getElem?_eq_some_iff.mp e).1
        rw [List.length_append, Le] at this
        simp at this
        omega
      subst hi'
      rw [List.getElem?_append_right (by rw [Le]; exact Nat.le_refl _), Le, Nat.sub_self] at e
      simp at e
      subst e
      refine ⟨v, ?_, RES⟩
      unfold Cf.vs
      show (c.σ ++ (c.τ ++ [v]).map some)[Γ.length]? = _
      have hh := st.vlen
      unfold Cf.vs at hh
      rw [List.map_append, ← List.append_assoc, List.getElem?_append_right (by rw [hh]; exact Nat.le_refl _), hh, Nat.sub_self]
      rfl
  · refine (x.k a o e ?_).1
    show tagsIn c.ω rs a = none
    cases hw : c.ω a with
    | none => exact tagsIn_none hw
    | some q =>
      cases hq : q.getLast? with
      | none => unfold tagsIn; rw [hw]; simp [hq]
      | some i =>
        obtain ⟨r, rfl⟩ := last_split hq
        refine tagsIn_out hw ?_
        cases hp : posOf rs i with
        | none => rfl
        | some j =>
          have := posOf_mem hp
          rw [z] at this
          cases this
  · subst hy
    cases RES with
    | d r => exact r
  · rw [Le]
    refine .slot ?_
    unfold Cf.vs
    show (c.σ ++ (c.τ ++ [v]).map some)[Γ.length]? = _
    have hh := st.vlen
    unfold Cf.vs at hh
    rw [List.map_append, ← List.append_assoc, List.getElem?_append_right (by rw [hh]; exact Nat.le_refl _), hh, Nat.sub_self]
    rfl
theorem call_in {K : PySem.W.Frag} {c : Cf} {Γ : Env} {rs : List RV} {vs : List V} {as : Env} (st : Stt K c Γ) (hv : VRs K c rs vs) (ha : argE Γ rs = some as) (nd : (places rs).Nodup) : Stt K (inC c.F c.H (tagsIn c.ω rs) vs) as := by
  refine ⟨st.sub, fun a q e => ?_, ?_, fun j t e => ?_⟩
  · obtain ⟨q', e'⟩ := tagsIn_some e
    exact st.own a q' e'
  · rw [argE_length ha]
    show rs.length = (vs.map some).length + 0
    rw [List.length_map, hv.length]
    omega
  · have hvs : (inC c.F c.H (tagsIn c.ω rs) vs).vs = vs.map some := by simp [inC, Cf.vs]
    rw [hvs]
    rcases argE_get ha e with ⟨x, h1, rfl⟩ | ⟨i, h1, h2⟩
    · obtain ⟨v, e1, e2⟩ := hv.get h1
      exact ⟨v, by rw [List.getElem?_map, e1]; rfl, .d e2⟩
    · obtain ⟨v, e1, e2⟩ := hv.get h1
      refine ⟨v, by rw [List.getElem?_map, e1]; rfl, ?_⟩
      obtain ⟨w, k1, k2⟩ := st.at_ i t h2
      have : c.vs[i]? = some (some v) := by
        cases e2 with
        | slot e => exact e
        | li h _ _ => exact absurd rfl h.ne
        | ob h _ _ _ => exact absurd rfl h.ne
      rw [this] at k1
      cases k1
      exact k2.move (Same.refl _) fun a r o h3 h4 => ⟨h4, tagsIn_of h3 (posOf_of nd h1)⟩
/-- a call: the promise is asked of the arguments' trees -/
theorem call_ok {K : PySem.W.Frag} {np : Nat} {spec : SpD} {c : Cf} {Γ : Env} {rs : List RV} {vs : List V} {Ψ : Env → RV → Prop} {Q : VK} {E : XK} (hnp : rs.length = np) (st : Stt K c Γ) (hv : VRs K c rs vs) (q : callD spec rs Γ Ψ)
    (k : ∀ v c' Γ' r, ExtE true c c' → (places rs = [] → Same c.H c'.H) → Stt K c' Γ' → VR K c' r v → Ψ Γ' r → Q v c'.H) : spOf K np spec vs c.H Q E := by
  unfold callD at q
  split at q
  · rename_i as ha
    obtain ⟨nd, q⟩ := q
    refine ⟨by rw [hv.length]; exact hnp, c.F, tagsIn c.ω rs, as, _, call_in st hv ha nd, q, fun v c' Γ' t x hσ hτ st' hl hΨ => ?_⟩
    obtain ⟨c2, h1, h2, h3, h4, h5, h6, h7, h8⟩ := call_back st hv ha nd x hσ hτ st' (by rw [hl, hnp])
    rw [← h1]
    unfold resD at hΨ
    split at hΨ
    · rename_i y
      exact k v { c2 with τ := c.τ } _ (.d y) h2 h6 h3 (h7 y rfl) hΨ
    · exact k v { c2 with τ := c.τ ++ [v] } _ (.p [_]) h4 h6 h5 h8 hΨ
  · exact q.elim
section
variable {S : Cs} {m : Bool} {x : Str} {p pos : Pos} {e : Expr} {es : List Expr} {k f np : Nat} {fd : FuncData} {ps : List Str} {spec : SpD} {t : TAD}
def tCallD (spec : SpD) (t : TAD) : TD := fun Γ Ψ => t Γ fun Γ1 rs => callD spec rs Γ1 Ψ
/-- the arguments as data -/
def tCallP (spec : SpD) (t : TAD) : TD := fun Γ Ψ => t Γ fun Γ1 rs => asDs Γ1 rs fun Γ2 xs => callD spec (xs.map .d) Γ2 Ψ
theorem pd_call {f : Addr} (F : FnOk S.P S.w S.K S.mg S.base CX0 k f fd ps (spOf S.K np spec)) (hk : k ≤ S.k) (hm : S.mg x = some (.ref f)) (hkp : PySem.W.keepIn S.K (.ref f) = true) (hb : Binds S.K fd ps []) (ha : PAD S m (e :: es) t)
    (hg : S.sc.names.lookup x = some .globalImplicit := by rfl) (hdb : (x == ("__debug__" : Str)) = false := by decide) (he : ∀ env, starEach (e :: es) env = (false, eval e env) :: starEach es env := by intro _; rfl) (hpl : ∀ env, (backTo pos (starEach es env)).any (·.1) = false := by intro _; rfl)
    : PD S true (.Call (.Name x p) (e :: es) [] pos) (fun Γ Ψ => t Γ fun Γ1 rs => rs.length = np ∧ callD spec rs Γ1 Ψ) := by
  obtain ⟨u, a1, a2⟩ := ha.ex
  refine ⟨tCall (spOf S.K np spec) [] E0 u, fun X hX => ?_, fun c Γ Ψ Q hn st h kk => ?_⟩
  · exact pe_call (k := k) (f := f) (fd := fd) (ps := ps) (by rw [hX.prog, hX.w, hX.K, hX.mg, hX.base]; exact F) (hX.room.mono hk) (by show X.env.scope.names.lookup x = _; rw [hX.sc]; exact hg) (by rw [hX.mg]; exact hm) (by rw [hX.K]; exact hkp) (by rw [hX.K]; exact hb) .nil pass0 (a1 X hX) hdb (he _) (hpl _)
  · refine a2 c Γ _ _ hn st h fun vs c1 Γ1 rs e1 st1 v1 q1 => ?_
    rw [List.append_nil]
    exact call_ok q1.1 st1 v1 q1.2 fun v c2 Γ2 r x2 _ st2 v2 q2 => kk v c2 Γ2 r (e1.weak.trans x2) st2 v2 q2
theorem pd_callP {f : Addr} (F : FnOk S.P S.w S.K S.mg S.base CX0 k f fd ps (spOf S.K np spec)) (hk : k ≤ S.k) (hm : S.mg x = some (.ref f)) (hkp : PySem.W.keepIn S.K (.ref f) = true) (hb : Binds S.K fd ps []) (ha : PAD S m (e :: es) t)
    (hg : S.sc.names.lookup x = some .globalImplicit := by rfl) (hdb : (x == ("__debug__" : Str)) = false := by decide) (he : ∀ env, starEach (e :: es) env = (false, eval e env) :: starEach es env := by intro _; rfl) (hpl : ∀ env, (backTo pos (starEach es env)).any (·.1) = false := by intro _; rfl) :
    PD S m (.Call (.Name x p) (e :: es) [] pos) (fun Γ Ψ => t Γ fun Γ1 rs => rs.length = np ∧ asDs Γ1 rs fun Γ2 xs => callD spec (xs.map .d) Γ2 Ψ) := by
  obtain ⟨u, a1, a2⟩ := ha.ex
  refine ⟨tCall (spOf S.K np spec) [] E0 u, fun X hX => ?_, fun c Γ Ψ Q hn st h kk => ?_⟩
  · exact pe_call (k := k) (f := f) (fd := fd) (ps := ps) (by rw [hX.prog, hX.w, hX.K, hX.mg, hX.base]; exact F) (hX.room.mono hk) (by show X.env.scope.names.lookup x = _; rw [hX.sc]; exact hg) (by rw [hX.mg]; exact hm) (by rw [hX.K]; exact hkp) (by rw [hX.K]; exact hb) .nil pass0 (a1 X hX) hdb (he _) (hpl _)
  · refine a2 c Γ _ _ hn st h fun vs c1 Γ1 rs e1 st1 v1 q1 => ?_
    rw [List.append_nil]
    obtain ⟨hl, q1⟩ := q1
    have hvl := v1.length
    obtain ⟨c2, Γ2, xs, e2, st2, d2, q2, eh, et⟩ := asDs_ok st1 v1 q1
    have pn : ∀ xs : List D, places (xs.map RV.d) = [] := by
      intro xs
      induction xs with
      | nil => rfl
      | cons x xs ih => simp only [List.map_cons, places]; exact ih
    have vr : ∀ {vs : List V} {xs : List D}, RDs S.K c2.F vs xs → VRs S.K c2 (xs.map .d) vs := by
      intro vs xs h
      induction xs generalizing vs with
      | nil => cases h; exact .nil
      | cons x xs ih =>
        cases h with
        | cons h1 h2 => exact .cons h1 (ih h2)
    rw [← eh]
    refine call_ok (by rw [List.length_map, ← d2.length, hvl]; exact hl) st2 (vr d2) q2 fun v c3 Γ3 r x3 sm st3 v3 q3 => kk v c3 Γ3 r ?_ st3 v3 q3
    have x3' : ExtE false c2 c3 := ⟨x3.toExt, x3.s, x3.t, fun _ => sm (pn xs)⟩
    exact ((e1.trans e2).trans x3').le fun z => by simpa using z
end
end Mv
set_option Elab.async false
set_option linter.all false
set_option maxRecDepth 100000
namespace Mv
open PySem PySem.Spec PyProof.Rows L2
section
variable {S : Cs} {m mo ma mi : Bool} {o e e2 : Expr} {es : List Expr} {name : Str} {apos cpos pos tpos : Pos} {to ta ti t : TD} {tA : TAD}
/-! ### lists' own methods -/
theorem li_ty {K : PySem.W.Frag} {c : Cf} {Γ : Env} {q : List Nat} {v : V} {ts : List T} (st : Stt K c Γ) (h : VR K c (.p q) v) (e : getT Γ q = some (.li ts)) : ∃ a us, v = .ref a ∧ c.H a = some (.lst us) ∧ tyV K "list" v c.H := by
  have R := st.loc (show Loc c.H c.vs q v from h) e
  cases R with
  | li h1 h2 h3 => exact ⟨_, _, rfl, h2, .inl ⟨rfl, _, .of h2⟩⟩
def liAt (Γ : Env) (q : List Nat) : Bool := match getT Γ q with | some (.li _) => true | _ => false
theorem liAt_of {Γ : Env} {q : List Nat} (h : liAt Γ q = true) : ∃ ts, getT Γ q = some (.li ts) := by
  unfold liAt at h
  split at h
  · rename_i ts e
    exact ⟨ts, e⟩
  · cases h
def tAppD (mt : Bool) (to : TD) (ta : TAD) : TD := fun Γ Ψ => to Γ fun Γ1 r => match r with
  | .p q => liAt Γ1 q = true ∧ ta Γ1 fun Γ2 rs => stab (.p q) mt = true ∧ (match rs with
    | [a] => asD Γ2 a fun Γ3 x => (match getT Γ3 q with
      | some (.li ts) => ts.length < sizeLine ∧ Ψ (setT Γ3 q (.li (ts ++ [.d x]))) (.d .non)
      | _ => False)
    | _ => False)
  | _ => False
theorem pd_append (ho : PD S mo o to) (ha : PAD S ma (e :: es) tA) (hb : ∀ env, attributeBase o ("append" : Str) env (eval o env) = eval o env := by intro _; rfl) (hl : (apos.endLine == cpos.line) = true := by rfl) (hfew : ∀ env, (((backTo cpos (starEach (e :: es) env)).all fun x => !x.1) && (backToKw cpos (keywordEach [] env)).all (fun x => x.1.isSome) && decide (((e :: es).length + ([] : List Keyword).length + if ([] : List Keyword).isEmpty = true then 0 else 1) < 30)) = true := by intro _; rfl) (hs1 : ∀ env, starEach (e :: es) env = (false, eval e env) :: starEach es env := by intro _; rfl) (hpl1 : ∀ env, (backTo cpos (starEach es env)).any (·.1) = false := by intro _; rfl) : PD S true (.Call (.Attribute o "append" apos) (e :: es) [] cpos) (tAppD ma to tA) := by
  obtain ⟨uo, o1, o2⟩ := ho.ex
  obtain ⟨ua, a1, a2⟩ := ha.ex
  refine ⟨tBM S.K "list" rAppend uo ua, fun X hX => by rw [← hX.K]; exact pe_bm PySem.F.plainAttrs_list PySem.F.slot_list_append PySem.F.type_list_append mt_append (o1 X hX) (a1 X hX) (hbase := hb _) (hline := hl) (hfew := hfew _) (hs := hs1 _) (hplain := hpl1 _), fun c Γ Ψ Q hn st h k => ?_⟩
  refine o2 c Γ _ _ hn st h fun v c1 Γ1 r e1 st1 v1 q1 => ?_
  split at q1
  · rename_i q
    obtain ⟨hq, q1⟩ := q1
    obtain ⟨ts0, ht0⟩ := liAt_of hq
    obtain ⟨a, us0, rfl, g0, gty⟩ := li_ty st1 v1 ht0
    refine ⟨gty, ?_⟩
    rw [show c.σ = c1.σ from e1.s.symm]
    refine a2 c1 Γ1 _ _ (by rw [e1.s]; exact hn) st1 q1 fun vs c2 Γ2 rs e2 st2 v2 q2 => ?_
    obtain ⟨hs, q2⟩ := q2
    have w1 := v1.keep e2 hs
    split at q2
    · rename_i r
      cases v2 with
      | cons v2 v3 =>
        cases v3
        obtain ⟨c3, Γ3, x, e3, st3, d3, q3, eh, et, kp⟩ := asD_ok st2 v2 q2
        have w3 : VR S.K c3 (.p q) (.ref a) := kp _ _ w1
        split at q3
        · rename_i ts ht
          obtain ⟨hz, q3⟩ := q3
          obtain ⟨us, g1, g2, g3, g4, up⟩ := st3.write_li (ts' := ts ++ [.d x]) (show Loc c3.H c3.vs q _ from w3) ht
          obtain ⟨st4, e4⟩ := up (us ++ [_]) ((g3.under g4).append (.cons (.d d3) .nil))
          rw [← eh]
          refine ⟨a, us, _, rfl, rfl, g1, by rw [g2]; exact hz, ?_⟩
          exact k _ _ _ (.d .non) ((e1.trans (e2.trans (e3.trans e4))).le fun z => by cases z) st4 RD.non q3
        · exact q3.elim
    · exact q2.elim
  · exact q1.elim
def tExtD (mt : Bool) (to : TD) (ta : TAD) : TD := fun Γ Ψ => to Γ fun Γ1 r => match r with
  | .p q => liAt Γ1 q = true ∧ ta Γ1 fun Γ2 rs => stab (.p q) mt = true ∧ (match rs with
    | [a] => (match getT Γ2 q, vw Γ2 a with
      | some (.li ts), some (.lst xs) => ts.length + xs.length ≤ sizeLine ∧ Ψ (setT Γ2 q (.li (ts ++ xs.map .d))) (.d .non)
      | _, _ => False)
    | _ => False)
  | _ => False
theorem pd_extend (ho : PD S mo o to) (ha : PAD S ma (e :: es) tA) (hb : ∀ env, attributeBase o ("extend" : Str) env (eval o env) = eval o env := by intro _; rfl) (hl : (apos.endLine == cpos.line) = true := by rfl) (hfew : ∀ env, (((backTo cpos (starEach (e :: es) env)).all fun x => !x.1) && (backToKw cpos (keywordEach [] env)).all (fun x => x.1.isSome) && decide (((e :: es).length + ([] : List Keyword).length + if ([] : List Keyword).isEmpty = true then 0 else 1) < 30)) = true := by intro _; rfl) (hs1 : ∀ env, starEach (e :: es) env = (false, eval e env) :: starEach es env := by intro _; rfl) (hpl1 : ∀ env, (backTo cpos (starEach es env)).any (·.1) = false := by intro _; rfl) : PD S true (.Call (.Attribute o "extend" apos) (e :: es) [] cpos) (tExtD ma to tA) := by
  obtain ⟨uo, o1, o2⟩ := ho.ex
  obtain ⟨ua, a1, a2⟩ := ha.ex
  refine ⟨tBM S.K "list" rExtend uo ua, fun X hX => by rw [← hX.K]; exact pe_bm PySem.F.plainAttrs_list PySem.F.slot_list_extend PySem.F.type_list_extend mt_extend (o1 X hX) (a1 X hX) (hbase := hb _) (hline := hl) (hfew := hfew _) (hs := hs1 _) (hplain := hpl1 _), fun c Γ Ψ Q hn st h k => ?_⟩
  refine o2 c Γ _ _ hn st h fun v c1 Γ1 r e1 st1 v1 q1 => ?_
  split at q1
  · rename_i q
    obtain ⟨hq, q1⟩ := q1
    obtain ⟨ts0, ht0⟩ := liAt_of hq
    obtain ⟨a, us0, rfl, g0, gty⟩ := li_ty st1 v1 ht0
    refine ⟨gty, ?_⟩
    rw [show c.σ = c1.σ from e1.s.symm]
    refine a2 c1 Γ1 _ _ (by rw [e1.s]; exact hn) st1 q1 fun vs c2 Γ2 rs e2 st2 v2 q2 => ?_
    obtain ⟨hs, q2⟩ := q2
    have w1 := v1.keep e2 hs
    split at q2
    · rename_i r
      cases v2 with
      | cons v2 v3 =>
        cases v3
        split at q2
        · rename_i ts xs ht hx
          obtain ⟨hz, q2⟩ := q2
          obtain ⟨b, ws, rfl, k1, k2⟩ := (st2.vd v2 hx).lst st2
          obtain ⟨us, g1, g2, g3, g4, up⟩ := st2.write_li (ts' := ts ++ xs.map .d) (show Loc c2.H c2.vs q _ from w1) ht
          obtain ⟨st4, e4⟩ := up (us ++ ws) ((g3.under g4).append (TRs.ofRDs k2))
          refine ⟨a, b, us, ws, rfl, rfl, g1, k1, by rw [g2, k2.length]; exact hz, ?_⟩
          exact k _ _ _ (.d .non) ((e1.trans (e2.trans e4)).le fun z => by cases z) st4 RD.non q2
        · exact q2.elim
    · exact q2.elim
  · exact q1.elim
def tPopD (to : TD) : TD := fun Γ Ψ => to Γ fun Γ1 r => match r with
  | .p q => (match getT Γ1 q with
    | some (.li ts) => (match ts[ts.length - 1]? with | some (.d x) => Ψ (setT Γ1 q (.li ts.dropLast)) (.d x) | _ => False)
    | _ => False)
  | _ => False
theorem dropLast_take {α : Type} (l : List α) : l.dropLast = l.take (l.length - 1) := List.dropLast_eq_take
theorem pd_pop (ho : PD S mo o to) (hb : ∀ env, attributeBase o ("pop" : Str) env (eval o env) = eval o env := by intro _; rfl) (hl : (apos.endLine == cpos.line) = true := by rfl) : PD S true (.Call (.Attribute o "pop" apos) [] [] cpos) (tPopD to) := by
  obtain ⟨uo, o1, o2⟩ := ho.ex
  refine ⟨tBM0 S.K "list" rPop uo, fun X hX => by rw [← hX.K]; exact pe_bm0 PySem.F.plainAttrs_list PySem.F.slot_list_pop PySem.F.type_list_pop mt_pop (o1 X hX) (hbase := hb _) (hline := hl), fun c Γ Ψ Q hn st h k => ?_⟩
  refine o2 c Γ _ _ hn st h fun v c1 Γ1 r e1 st1 v1 q1 => ?_
  split at q1
  · rename_i q
    split at q1
    · rename_i ts ht
      split at q1
      · rename_i x hx
        obtain ⟨a, us0, rfl, g0, gty⟩ := li_ty st1 v1 ht
        obtain ⟨us, g1, g2, g3, g4, up⟩ := st1.write_li (ts' := ts.dropLast) (show Loc c1.H c1.vs q _ from v1) ht
        obtain ⟨w, k1, k2⟩ := g3.get hx
        obtain ⟨st4, e4⟩ := up us.dropLast (by
          have := (g3.under (o := .lst us.dropLast) g4).take (ts.length - 1)
          rw [← g2] at this
          rw [dropLast_take ts, ← g2]
          rw [dropLast_take us] at this ⊢
          exact this)
        cases k2 with
        | d k2 =>
          exact ⟨gty, a, us, w, rfl, rfl, g1, by rw [g2]; exact k1, k w _ _ (.d x) ((e1.trans e4).le fun z => by cases z) st4 (show RD S.K c1.F w x from k2) q1⟩
      · exact q1.elim
    · exact q1.elim
  · exact q1.elim
theorem RDs.erase {K : PySem.W.Frag} {F : Hp} : ∀ {vs : List V} {xs : List D} (n : Nat), RDs K F vs xs → RDs K F (vs.eraseIdx n) (xs.eraseIdx n)
  | _, _, _, .nil => .nil
  | _, _, 0, .cons _ t => t
  | _, _, n + 1, .cons h t => .cons h (RDs.erase n t)
def tPopAtD (mt : Bool) (to : TD) (ta : TAD) : TD := fun Γ Ψ => to Γ fun Γ1 r => match r with
  | .p q => liAt Γ1 q = true ∧ ta Γ1 fun Γ2 rs => stab (.p q) mt = true ∧ (match rs with
    | [a] => (match getT Γ2 q, vw Γ2 a with
      | some (.li ts), some (.int i) => (-(2 ^ 63) ≤ i ∧ i < 2 ^ 63) ∧ (match flat ts, ixN ts.length i with
        | some xs, some k => (match xs[k]? with | some x => Ψ (setT Γ2 q (.li ((xs.eraseIdx k).map .d))) (.d x) | none => False)
        | _, _ => False)
      | _, _ => False)
    | _ => False)
  | _ => False
theorem pd_popAt (ho : PD S mo o to) (ha : PAD S ma (e :: es) tA) (hb : ∀ env, attributeBase o ("pop" : Str) env (eval o env) = eval o env := by intro _; rfl) (hl : (apos.endLine == cpos.line) = true := by rfl) (hfew : ∀ env, (((backTo cpos (starEach (e :: es) env)).all fun x => !x.1) && (backToKw cpos (keywordEach [] env)).all (fun x => x.1.isSome) && decide (((e :: es).length + ([] : List Keyword).length + if ([] : List Keyword).isEmpty = true then 0 else 1) < 30)) = true := by intro _; rfl) (hs1 : ∀ env, starEach (e :: es) env = (false, eval e env) :: starEach es env := by intro _; rfl) (hpl1 : ∀ env, (backTo cpos (starEach es env)).any (·.1) = false := by intro _; rfl) : PD S true (.Call (.Attribute o "pop" apos) (e :: es) [] cpos) (tPopAtD ma to tA) := by
  obtain ⟨uo, o1, o2⟩ := ho.ex
  obtain ⟨ua, a1, a2⟩ := ha.ex
  refine ⟨tBM S.K "list" rPopAt uo ua, fun X hX => by rw [← hX.K]; exact pe_bm PySem.F.plainAttrs_list PySem.F.slot_list_pop PySem.F.type_list_pop mt_popAt (o1 X hX) (a1 X hX) (hbase := hb _) (hline := hl) (hfew := hfew _) (hs := hs1 _) (hplain := hpl1 _), fun c Γ Ψ Q hn st h k => ?_⟩
  refine o2 c Γ _ _ hn st h fun v c1 Γ1 r e1 st1 v1 q1 => ?_
  split at q1
  · rename_i q
    obtain ⟨hq, q1⟩ := q1
    obtain ⟨ts0, ht0⟩ := liAt_of hq
    obtain ⟨a, us0, rfl, g0, gty⟩ := li_ty st1 v1 ht0
    refine ⟨gty, ?_⟩
    rw [show c.σ = c1.σ from e1.s.symm]
    refine a2 c1 Γ1 _ _ (by rw [e1.s]; exact hn) st1 q1 fun vs c2 Γ2 rs e2 st2 v2 q2 => ?_
    obtain ⟨hs, q2⟩ := q2
    have w1 := v1.keep e2 hs
    split at q2
    · rename_i r
      cases v2 with
      | cons v2 v3 =>
        cases v3
        split at q2
        · rename_i ts i ht hi
          cases (st2.vd v2 hi).int
          obtain ⟨hr, q2⟩ := q2
          split at q2
          · rename_i xs kk hf hk
            split at q2
            · rename_i x hx
              have := flat_eq hf
              subst this
              obtain ⟨us, g1, g2, g3, g4, up⟩ := st2.write_li (ts' := (xs.eraseIdx kk).map .d) (show Loc c2.H c2.vs q _ from w1) ht
              have rd := g3.rds
              obtain ⟨w, k1, k2⟩ := rd.get hx
              obtain ⟨st4, e4⟩ := up (us.eraseIdx kk) (TRs.ofRDs (rd.erase kk))
              obtain ⟨b1, b2, b3, b4⟩ := ixN_seq hk
              refine ⟨a, us, i, kk, w, rfl, rfl, g1, hr.1, hr.2, by rw [g2]; exact b1, k1, ?_⟩
              exact k w _ _ (.d x) ((e1.trans (e2.trans e4)).le fun z => by cases z) st4 (show RD S.K c2.F w x from k2) q2
            · exact q2.elim
          · exact q2.elim
        · exact q2.elim
    · exact q2.elim
  · exact q1.elim
/-! ### a[i] = e -/
theorem TRs.setD {K : PySem.W.Frag} {F H : Hp} {ω : Tags} {q : List Nat} {v : V} {x : D} (r : RD K F v x) : ∀ {us : List V} {ts : List T} {i k : Nat}, TRs K F H ω q i us ts → TRs K F H ω q i (us.set k v) (ts.set k (.d x))
  | [], _, _, _, h => by cases h; exact .nil
  | u :: us, [], _, _, h => by cases h
  | u :: us, t :: ts, i, 0, h => by
    cases h with
    | cons h1 h2 => exact .cons (.d r) h2
  | u :: us, t :: ts, i, k + 1, h => by
    cases h with
    | cons h1 h2 => exact .cons h1 (TRs.setD r h2)
def tSetIxD (n : Nat) (mi : Bool) (t to ti : TD) : TSD := fun DD Γ => t Γ fun Γ1 r => asD Γ1 r fun Γ2 x => to Γ2 fun Γ3 ro => ti Γ3 fun Γ4 ri => stab ro mi = true ∧ (match ro, vw Γ4 ri with
  | .p q, some (.int i) => (match getT Γ4 q with
    | some (.li ts) => (match ixN ts.length i with | some k => DD.nx ((setT Γ4 q (.li (ts.set k (.d x)))).take n) | none => False)
    | _ => False)
  | _, _ => False)
theorem psd_setIx {n : Nat} (h : PD S m e t) (ho : PD S mo o to) (hi : PD S mi e2 ti) (hn : S.N.length = n := by rfl) (hs : ∀ env, swapsWithSole [Expr.Subscript o e2 tpos] e pos.line env = pure false := by intro _; rfl) (hw : ∀ env, swappedStores [Expr.Subscript o e2 tpos] e env = pure none := by intro _; rfl)
    (h1 : ∀ env, (assignEach [Expr.Subscript o e2 tpos] env).map (·.2) = [assign (Expr.Subscript o e2 tpos) env] := by intro _; rfl)
    (ha : ∀ env v, assign (.Subscript o e2 tpos) env v = (do
      let ov ← holding [v] (eval o env)
      let iv ← holding [v, ov] (eval e2 env)
      standAt tpos
      holding [v, ov, iv] (setItem ov iv v)
      release [v, ov, iv] []) := by intro _ _; rfl) : PSD S (.Assign [.Subscript o e2 tpos] e pos) (tSetIxD n mi t to ti) := by
  subst hn
  obtain ⟨u, a1, a2⟩ := h.ex
  obtain ⟨uo, o1, o2⟩ := ho.ex
  obtain ⟨ui, i1, i2⟩ := hi.ex
  refine ⟨tAsg u (gSub uo ui rSetL), fun X hX => ps_asg (a1 X hX) (pg_sub (o1 X hX) (i1 X hX) set_list (ha _)) (hs _) (hw _) (h1 _), fun c Γ DD Dn hn ht st h F => ?_⟩
  refine a2 c Γ _ _ hn st h fun v c1 Γ1 r e1 st1 v1 q1 => ?_
  obtain ⟨c2, Γ2, x, e2, st2, d2, q2, eh, et, kp⟩ := asD_ok st1 v1 q1
  rw [← eh, show c.σ = c2.σ from by rw [e2.s, e1.s]]
  have hn2 : c2.σ.length = S.N.length := by rw [e2.s, e1.s]; exact hn
  refine o2 c2 Γ2 _ _ hn2 st2 q2 fun ov c3 Γ3 ro e3 st3 v3 q3 => ?_
  rw [show c2.σ = c3.σ from e3.s.symm]
  refine i2 c3 Γ3 _ _ (by rw [e3.s]; exact hn2) st3 q3 fun iv c4 Γ4 ri e4 st4 v4 q4 => ?_
  obtain ⟨hst, q4⟩ := q4
  have w3 := v3.keep e4 hst
  split at q4
  · rename_i q i hri
    cases (st4.vd v4 hri).int
    split at q4
    · rename_i ts ht2
      split at q4
      · rename_i kk hk
        obtain ⟨a, us0, rfl, g0, gty⟩ := li_ty st4 w3 ht2
        obtain ⟨us, g1, g2, g3, g4, up⟩ := st4.write_li (ts' := ts.set kk (.d x)) (show Loc c4.H c4.vs q _ from w3) ht2
        obtain ⟨st5, e5⟩ := up (us.set kk v) (TRs.setD (d2.mono (e3.f.trans e4.f)) (g3.under g4))
        refine ⟨a, us, i, kk, rfl, rfl, g1, by rw [g2]; exact hk, ?_⟩
        have ee := e1.trans (e2.trans (e3.trans (e4.trans e5)))
        obtain ⟨x6, t6, st6⟩ := drop_all (ExtS.ofE (K := S.K) (lk := S.lk) ee hn) st5
        have := F.nx _ _ x6 t6 st6 q4
        rw [show c3.σ = c4.σ from e4.s.symm]
        exact this
      · exact q4.elim
    · exact q4.elim
  · exact q4.elim
end
end Mv
set_option Elab.async false
set_option linter.all false
set_option maxRecDepth 100000
namespace Mv
open PySem PySem.Spec PyProof.Rows L2
section
variable {S : Cs} {m mo ma mi : Bool} {o e e2 : Expr} {es : List Expr} {name : Str} {apos cpos pos tpos : Pos} {to ta ti t : TD} {tA : TAD}
/-! ### a list's display that takes in what its items own -/
def clearE (Γ : Env) : List Nat → Env
  | [] => Γ
  | i :: is => (clearE Γ is).set i none
def unT : Env → Option (List T)
  | [] => some []
  | some t :: as => (match unT as with | some ts => some (t :: ts) | none => none)
  | none :: _ => none
def tLstO (t : TAD) : TD := fun Γ Ψ => t Γ fun Γ1 rs => match argE Γ1 rs with
  | some as => (match unT as with
    | some ts => (places rs).Nodup ∧ ts.length ≤ sizeLine ∧ Ψ (wipeE Γ1 (places rs) ++ [some (.li ts)]) (.p [Γ1.length])
    | none => False)
  | none => False
theorem unT_eq : ∀ {as : Env} {ts : List T}, unT as = some ts → as = ts.map some
  | [], ts, h => by cases h; rfl
  | some t :: as, ts, h => by
    simp only [unT] at h
    split at h
    · rename_i ts' e
      cases h
      rw [unT_eq e]
      rfl
    · cases h
  | none :: as, ts, h => by cases h
theorem TRs.mk {K : PySem.W.Frag} {F H : Hp} {ω : Tags} {q : List Nat} : ∀ {us : List V} {ts : List T} {i : Nat}, us.length = ts.length → (∀ (j : Nat) (v : V) (t : T), us[j]? = some v → ts[j]? = some t → TR K F H ω ((i + j) :: q) v t) → TRs K F H ω q i us ts
  | [], [], _, _, _ => .nil
  | [], _ :: _, _, h, _ => by simp at h
  | _ :: _, [], _, h, _ => by simp at h
  | u :: us, t :: ts, i, h, f => .cons (f 0 u t rfl rfl) (TRs.mk (by simpa using h) fun j v t h1 h2 => by
      have := f (j + 1) v t (by simpa using h1) (by simpa using h2)
      rw [show i + (j + 1) = i + 1 + j by omega] at this
      exact this)
theorem pd_lstO (h : PAD S m es tA) : PD S true (.List es pos) (tLstO tA) := by
  obtain ⟨ua, a1, a2⟩ := h.ex
  refine ⟨_, fun X hX => pe_lst (a1 X hX), fun c Γ Ψ Q hn st h k => ?_⟩
  refine a2 c Γ _ _ hn st h fun vs c1 Γ1 rs e1 st1 v1 q1 => ?_
  split at q1
  · rename_i as ha
    split at q1
    · rename_i ts hu
      obtain ⟨nd, hz, q1⟩ := q1
      have has := unT_eq hu
      have hl : ts.length = rs.length := by rw [← argE_length ha, has, List.length_map]
      have hvl := v1.length
      refine ⟨by rw [hvl, ← hl]; exact hz, fun p hp => ?_⟩
      have fn := st1.fnone hp
      have wn := st1.wnone hp
      let ω2 : Tags := fun a => if a = p then some [Γ1.length] else match c1.ω a with
        | some q => (match q.getLast? with | some i => (match posOf rs i with | some j => some (q.dropLast ++ [j, Γ1.length]) | none => some q) | none => some q)
        | none => none
      have w_in : ∀ {a : Addr} {r : List Nat} {i j : Nat}, a ≠ p → c1.ω a = some (r ++ [i]) → posOf rs i = some j → ω2 a = some (r ++ [j, Γ1.length]) := fun {a r i j} np h1 h2 => by
        show (if a = p then _ else _) = _
        rw [if_neg np, h1]
        simp [h2]
      have w_out : ∀ {a : Addr} {r : List Nat} {i : Nat}, a ≠ p → c1.ω a = some (r ++ [i]) → posOf rs i = none → ω2 a = some (r ++ [i]) := fun {a r i} np h1 h2 => by
        show (if a = p then _ else _) = _
        rw [if_neg np, h1]
        simp [h2]
      have w_none : ∀ {a : Addr}, a ≠ p → c1.ω a = none → ω2 a = none := fun {a} np h1 => by
        show (if a = p then _ else _) = _
        rw [if_neg np, h1]
      have nep : ∀ {a : Addr} {o : HO}, c1.H a = some o → a ≠ p := fun e => ne_of_none e hp
      refine k (.ref p) ⟨c1.F, upd c1.H p (.lst vs), ω2, c1.σ, c1.τ ++ [.ref p]⟩ _ (.p [Γ1.length]) ⟨e1.toExt.trans ⟨Same.refl _, fun a o e n => ⟨same_upd hp a o e, w_none (nep e) n⟩, fun a o e => .inl e, fun a e => ?_⟩, e1.s, ?_, fun z => by cases z⟩ ?_ ?_ q1
      · have e : upd c1.H p _ a = none := e
        by_cases z : a = p
        · subst z; exact hp
        · rw [upd_ne z] at e; exact e
      · obtain ⟨w, e⟩ := e1.t
        exact ⟨w ++ [.ref p], by show c1.τ ++ [V.ref p] = _; rw [e, List.append_assoc]⟩
      · have hvs : (⟨c1.F, upd c1.H p (.lst vs), ω2, c1.σ, c1.τ ++ [.ref p]⟩ : Cf).vs = c1.vs ++ [some (.ref p)] := Cf.vs_push rfl rfl
        refine ⟨fun a o e => same_upd hp a o (st1.sub a o e), fun a q e => ?_, ?_, fun i t e => ?_⟩
        · by_cases z : a = p
          · subst z
            exact ⟨fn, _, upd_same⟩
          · have : ∃ q', c1.ω a = some q' := by
              cases h : c1.ω a with
              | none => have e : ω2 a = some q := e; rw [w_none z h] at e; cases e
              | some q' => exact ⟨q', rfl⟩
            obtain ⟨q', hq'⟩ := this
            obtain ⟨h1, o, h2⟩ := st1.own a q' hq'
            exact ⟨h1, o, by show upd c1.H p _ a = _; rw [upd_ne z]; exact h2⟩
        · rw [List.length_append, wipeE_length, st1.len]
          show _ = c1.σ.length + (c1.τ ++ [V.ref p]).length
          rw [List.length_append]
          simp only [List.length_cons, List.length_nil]
          omega
        · rw [hvs]
          by_cases hi : i < Γ1.length
          · rw [List.getElem?_append_left (by rw [wipeE_length]; exact hi)] at e
            obtain ⟨e', hni⟩ := wipeE_some e
            obtain ⟨v, h1, h2⟩ := st1.at_ i t e'
            refine ⟨v, by rw [List.getElem?_append_left (by rw [st1.vlen]; exact hi)]; exact h1, h2.move (Same.refl _) fun a r o h3 h4 => ⟨same_upd hp a o h4, w_out (nep h4) h3 ?_⟩⟩
            cases hpz : posOf rs i with
            | none => rfl
            | some j => exact absurd (posOf_mem hpz) hni
          · have hi' : i = Γ1.length := by
              have := (List.getElem?_eq_some_iff.mp e).1
              rw [List.length_append, wipeE_length] at this
              simp at this
              omega
            subst hi'
            rw [List.getElem?_append_right (by rw [wipeE_length]; exact Nat.le_refl _), wipeE_length, Nat.sub_self] at e
            simp at e
            subst e
            refine ⟨.ref p, by rw [List.getElem?_append_right (by rw [st1.vlen]; exact Nat.le_refl _), st1.vlen, Nat.sub_self]; rfl, .li (by show (if p = p then _ else _) = _; rw [if_pos rfl]) upd_same (TRs.mk (by rw [hvl, hl]) fun j v t h1 h2 => ?_)⟩
            rw [Nat.zero_add]
            rcases argE_get ha (by rw [has, List.getElem?_map, h2]; rfl) with ⟨x, g1, rfl⟩ | ⟨i, g1, g2⟩
            · obtain ⟨v', k1, k2⟩ := v1.get g1
              rw [h1] at k1
              cases k1
              exact .d k2
            · obtain ⟨v', k1, k2⟩ := v1.get g1
              rw [h1] at k1
              cases k1
              obtain ⟨w, z1, z2⟩ := st1.at_ i t g2
              have : c1.vs[i]? = some (some v) := by
                cases k2 with
                | slot e => exact e
                | li h _ _ => exact absurd rfl h.ne
                | ob h _ _ _ => exact absurd rfl h.ne
              rw [this] at z1
              cases z1
              refine z2.move (Same.refl _) fun a r o h3 h4 => ⟨same_upd hp a o h4, ?_⟩
              exact w_in (nep h4) h3 (posOf_of nd g1)
      · refine .slot ?_
        have hh := st1.vlen
        unfold Cf.vs at hh ⊢
        show (c1.σ ++ (c1.τ ++ [V.ref p]).map some)[Γ1.length]? = _
        rw [List.map_append, ← List.append_assoc, List.getElem?_append_right (by rw [hh]; exact Nat.le_refl _), hh, Nat.sub_self]
        rfl
    · exact q1.elim
  · exact q1.elim
end
end Mv
set_option Elab.async false
set_option linter.all false
set_option maxRecDepth 100000
namespace Mv
open PySem PySem.Spec PyProof.Rows L2
/-- a def of the text, called by its name -/
structure Callee (P : Program) (w : World) (K : PySem.W.Frag) (mg : Str → Option Value) (base : Heap) (x : Str) (k np : Nat) (spec : SpD) : Prop where
  ex : ∃ (f : Addr) (fd : FuncData) (ps : List Str), FnOk P w K mg base CX0 k f fd ps (spOf K np spec) ∧ mg x = some (.ref f) ∧ PySem.W.keepIn K (.ref f) = true ∧ L2.Binds K fd ps []
theorem Callee.weak {P : Program} {w : World} {K : PySem.W.Frag} {mg : Str → Option Value} {base : Heap} {x : Str} {k np : Nat} {spec spec' : SpD} (h : Callee P w K mg base x k np spec) (f : ∀ Γ Ψ, spec' Γ Ψ → spec Γ Ψ) : Callee P w K mg base x k np spec' := by
  obtain ⟨a, fd, ps, h1, h2, h3, h4⟩ := h.ex
  refine ⟨a, fd, ps, h1.imp fun vs H Q E ⟨g1, F, ω, Γ, Ψ, g2, g3, g4⟩ => ⟨g1, F, ω, Γ, Ψ, g2, f _ _ g3, g4⟩, h2, h3, h4⟩
section
variable {S : Cs} {m mo ma mb : Bool} {x : Str} {p pos : Pos} {e e2 a : Expr} {es : List Expr} {k np : Nat} {spec : SpD} {t : TAD} {ta tb : TD}
def tCl (np : Nat) (spec : SpD) (t : TAD) : TD := fun Γ Ψ => t Γ fun Γ1 rs => rs.length = np ∧ callD spec rs Γ1 Ψ
def tClP (np : Nat) (spec : SpD) (t : TAD) : TD := fun Γ Ψ => t Γ fun Γ1 rs => rs.length = np ∧ asDs Γ1 rs fun Γ2 xs => callD spec (xs.map .d) Γ2 Ψ
theorem pd_cl (h : Callee S.P S.w S.K S.mg S.base x k np spec) (ha : PAD S m (e :: es) t) (hk : k ≤ S.k := by exact Nat.le_of_ble_eq_true rfl) (hg : S.sc.names.lookup x = some .globalImplicit := by rfl) (hdb : (x == ("__debug__" : Str)) = false := by decide)
    (he : ∀ env, starEach (e :: es) env = (false, eval e env) :: starEach es env := by intro _; rfl) (hpl : ∀ env, (backTo pos (starEach es env)).any (·.1) = false := by intro _; rfl) : PD S true (.Call (.Name x p) (e :: es) [] pos) (tCl np spec t) := by
  obtain ⟨f, fd, ps, h1, h2, h3, h4⟩ := h.ex
  exact pd_call h1 hk h2 h3 h4 ha hg hdb he hpl
theorem pd_clP (h : Callee S.P S.w S.K S.mg S.base x k np spec) (ha : PAD S m (e :: es) t) (hk : k ≤ S.k := by exact Nat.le_of_ble_eq_true rfl) (hg : S.sc.names.lookup x = some .globalImplicit := by rfl) (hdb : (x == ("__debug__" : Str)) = false := by decide)
    (he : ∀ env, starEach (e :: es) env = (false, eval e env) :: starEach es env := by intro _; rfl) (hpl : ∀ env, (backTo pos (starEach es env)).any (·.1) = false := by intro _; rfl) : PD S m (.Call (.Name x p) (e :: es) [] pos) (tClP np spec t) := by
  obtain ⟨f, fd, ps, h1, h2, h3, h4⟩ := h.ex
  exact pd_callP h1 hk h2 h3 h4 ha hg hdb he hpl
/-! ### built-ins by name -/
variable (hm : S.mg x = none)
theorem pd_len (hm : S.mg ("len" : Str) = none) (ha : PAD S m (e :: es) t) (hg : S.sc.names.lookup ("len" : Str) = some .globalImplicit := by rfl) (he : ∀ env, starEach (e :: es) env = (false, eval e env) :: starEach es env := by intro _; rfl) (hpl : ∀ env, (backTo pos (starEach es env)).any (·.1) = false := by intro _; rfl) : PD S m (.Call (.Name "len" p) (e :: es) [] pos) (tCBD lenF t) :=
  pd_callB (r := fun xs H Q => ∃ x n, xs = [x] ∧ LenV S.K x H n ∧ Q (.int (n : Nat)) H) (fun X hX => by rw [← hX.K]; exact call_len) cd_len hg hm PySem.boot_len ha (by decide) (by decide) he hpl
theorem pd_abs (hm : S.mg ("abs" : Str) = none) (ha : PAD S m (e :: es) t) (hg : S.sc.names.lookup ("abs" : Str) = some .globalImplicit := by rfl) (he : ∀ env, starEach (e :: es) env = (false, eval e env) :: starEach es env := by intro _; rfl) (hpl : ∀ env, (backTo pos (starEach es env)).any (·.1) = false := by intro _; rfl) : PD S m (.Call (.Name "abs" p) (e :: es) [] pos) (tCBD absF t) :=
  pd_callB (fun X hX => call_abs) cd_abs hg hm (by decide +kernel) ha (by decide) (by decide) he hpl
theorem pd_sum (hm : S.mg ("sum" : Str) = none) (ha : PAD S m (e :: es) t) (hg : S.sc.names.lookup ("sum" : Str) = some .globalImplicit := by rfl) (he : ∀ env, starEach (e :: es) env = (false, eval e env) :: starEach es env := by intro _; rfl) (hpl : ∀ env, (backTo pos (starEach es env)).any (·.1) = false := by intro _; rfl) : PD S m (.Call (.Name "sum" p) (e :: es) [] pos) (tCBD sumF t) :=
  pd_callB (r := rSum S.K) (fun X hX => by rw [← hX.K]; exact cr_sum hX.calm) cd_sum hg hm (by decide +kernel) ha (by decide) (by decide) he hpl
theorem pd_isi (I : Value → Value → Option Bool) (own : Addr → Prop) (hI : ∀ t u b, I t u = some b → PySem.W.kitOne S.K t u = some b) (hO : ∀ C, own C → OwnCls S.K C) (hm : S.mg ("isinstance" : Str) = none) (ha : PAD S m (e :: es) t) (hg : S.sc.names.lookup ("isinstance" : Str) = some .globalImplicit := by rfl)
    (he : ∀ env, starEach (e :: es) env = (false, eval e env) :: starEach es env := by intro _; rfl) (hpl : ∀ env, (backTo pos (starEach es env)).any (·.1) = false := by intro _; rfl) : PD S m (.Call (.Name "isinstance" p) (e :: es) [] pos) (tCBD (isiF I own) t) :=
  pd_callB (r := rIsiAll S.K) (fun X hX => by rw [← hX.K]; exact CallR.or call_isi call_isiQ) (cd_isi hI hO) hg hm (by decide +kernel) ha (by decide) (by decide) he hpl
theorem pd_intB (hm : S.mg ("int" : Str) = none) (ha : PAD S m (e :: es) t) (hg : S.sc.names.lookup ("int" : Str) = some .globalImplicit := by rfl) (he : ∀ env, starEach (e :: es) env = (false, eval e env) :: starEach es env := by intro _; rfl) (hpl : ∀ env, (backTo pos (starEach es env)).any (·.1) = false := by intro _; rfl) : PD S m (.Call (.Name "int" p) (e :: es) [] pos) (tCBD intB t) :=
  pd_callTy (fun X hX => call_int1) cd_int hg hm (by decide +kernel) ha (by decide) (by decide) he hpl
theorem pd_listB (hm : S.mg ("list" : Str) = none) (ha : PAD S m (e :: es) t) (hg : S.sc.names.lookup ("list" : Str) = some .globalImplicit := by rfl) (he : ∀ env, starEach (e :: es) env = (false, eval e env) :: starEach es env := by intro _; rfl) (hpl : ∀ env, (backTo pos (starEach es env)).any (·.1) = false := by intro _; rfl) : PD S m (.Call (.Name "list" p) (e :: es) [] pos) (tCBD listF t) :=
  pd_callTy (r := fun xs H Q => ∃ p ys, xs = [.ref p] ∧ (SqL S.K H p ys ∨ SqT S.K H p ys) ∧ ∀ l, H l = none → Q (.ref l) (upd H l (.lst ys))) (fun X hX => by rw [← hX.K]; exact call_list_of) cd_list hg hm (by decide +kernel) ha (by decide) (by decide) he hpl
theorem pd_tupB (hm : S.mg ("tuple" : Str) = none) (ha : PAD S m (e :: es) t) (hg : S.sc.names.lookup ("tuple" : Str) = some .globalImplicit := by rfl) (he : ∀ env, starEach (e :: es) env = (false, eval e env) :: starEach es env := by intro _; rfl) (hpl : ∀ env, (backTo pos (starEach es env)).any (·.1) = false := by intro _; rfl) : PD S m (.Call (.Name "tuple" p) (e :: es) [] pos) (tCBD tupF t) :=
  pd_callTy (r := fun xs H Q => ∃ p ys, xs = [.ref p] ∧ ((SqL S.K H p ys ∧ ∀ l, H l = none → Q (.ref l) (upd H l (.tup ys))) ∨ (SqT S.K H p ys ∧ Q (.ref p) H))) (fun X hX => by rw [← hX.K]; exact call_tuple_of) cd_tup hg hm (by decide +kernel) ha (by decide) (by decide) he hpl
theorem pd_ix (ha : PD S ma a ta) (hb : PD S mb e tb) (hs : PlainIx e := by exact fun _ _ => rfl) : PD S (ma || mb) (.Subscript a e pos) (tBin mb ixF ta tb) := by
  obtain ⟨ua, a1, a2⟩ := ha.ex
  obtain ⟨ub, b1, b2⟩ := hb.ex
  exact ⟨tOp (rIx S.K) ua ub, fun X hX => by rw [← hX.K]; exact pe_ix ix_seq (a1 X hX) (b1 X hX) hs, le_op opd_ix a2 b2⟩
/-- a built-in type, a class of the text as values -/
theorem pd_ty {n : String} (hm : S.mg x = none) (hv : bootBuiltins x = some (.type n)) (hg : S.sc.names.lookup x = some .globalImplicit := by rfl) (hn : x ≠ "__name__" := by decide) (hd : (x == ("__debug__" : Str)) = false := by decide) : PD S false (.Name x pos) (tCon (.ty n)) :=
  ⟨_, fun X hX => pe_bltn (v := .ty n) (by show X.env.scope.names.lookup x = _; rw [hX.sc]; exact hg) (by rw [hX.mg]; exact hm) hv rfl hn hd, lit_ok fun _ => .ty _⟩
theorem pd_cls {C : Addr} (hm : S.mg x = some (.ref C)) (hg : S.sc.names.lookup x = some .globalImplicit := by rfl) (hd : (x == ("__debug__" : Str)) = false := by decide) : PD S false (.Name x pos) (tCon (.cls C)) :=
  pd_glob hg hm (v := .ref C) rfl (fun _ => .cls _) hd
end
end Mv
set_option Elab.async false
set_option linter.all false
set_option maxRecDepth 100000
namespace Mv
open PySem PySem.Spec PyProof.Rows L2
/-! ### tuples of whole numbers in order -/
theorem roomW {k : Nat} {A : Around} (r : Room k A) : A.units + 64 < cLine := by
  have := r.un
  omega
abbrev AK := Addr × List Int
abbrev rfV (p : AK) : V := .ref p.1
abbrev rfU (p : AK) : Value := .ref p.1
def encT (p : AK) : PyData := .tuple (p.2.map .int)
def leT (p q : AK) : Bool := decide (p.2 ≤ q.2)
def sortT (xs : List (List Int)) : List (List Int) := xs.mergeSort fun a b => decide (a ≤ b)
def sortI (xs : List Int) : List Int := xs.mergeSort fun a b => decide (a ≤ b)
theorem leT_eq : PySem.W.dataLe false encT = leT := by
  funext p q
  show (!PySem.W.dataLt (.tuple (q.2.map .int)) (.tuple (p.2.map .int))) = _
  rw [PySem.W.dataLt_tuple]
  show (!PySem.W.rowLt (q.2.map .int) (p.2.map .int)) = _
  rw [PySem.W.dataLt_ints]
  unfold leT
  by_cases h : q.2 < p.2
  · have n : ¬ p.2 ≤ q.2 := fun r => List.not_lt.mpr r h
    simp [h, n]
  · have n : p.2 ≤ q.2 := List.not_lt.mp h
    simp [h, n]
theorem sortT_map (ks : List AK) : (ks.mergeSort leT).map (·.2) = sortT (ks.map (·.2)) := List.map_mergeSort fun _ _ _ _ => rfl
theorem encT_alike (ks : List AK) : PySem.W.AllAlike (ks.map encT) := PySem.W.AllAlike.of fun b b' => by
  show PySem.W.alike (.tuple _) (.tuple _) = true
  simp only [PySem.W.alike]
  exact PySem.W.alike_ints _ _
theorem encT_depth (p : AK) : (encT p).depth ≤ 1 := by
  unfold encT
  simp only [PyData.depth, PySem.W.depth_ints]
  omega
def NeT (xs : List (List Int)) : Prop := (∀ x ∈ xs, x ≠ []) ∨ xs.length ≤ 1
section
variable {prog : Program} {w : World} {A : Around} {E : Value → Shared → Prop} {s : Shared}
theorem each_rf {Rr : Value → AK → Prop} : ∀ {ks : List AK}, (∀ p ∈ ks, Rr (rfU p) p) → PySem.W.EachIs Rr (ks.map rfU) ks
  | [], _ => .nil
  | p :: ks, h => .cons (h p List.mem_cons_self) (each_rf fun q hq => h q (List.mem_cons_of_mem _ hq))
theorem rf_each : ∀ {us : List Value} {ks : List AK}, PySem.W.EachIs (fun v (p : AK) => v = rfU p) us ks → us = ks.map rfU
  | _, _, .nil => rfl
  | _, _, .cons h t => by rw [List.map_cons, h, rf_each t]
theorem each_enc {Rr : Value → PyData → Prop} : ∀ {us : List Value} {ks : List AK}, PySem.W.EachIs (fun v p => Rr v (encT p)) us ks → PySem.W.EachIs Rr us (ks.map encT)
  | _, _, .nil => .nil
  | _, _, .cons h t => .cons h (each_enc t)
theorem sortsT {ks : List AK} (hr : ∀ p ∈ ks, ∃ as, Reads s.heap (rfU p) (encT p) as) (hn : NeT (ks.map (·.2))) (hu : A.units + 1 < cLine) : PySem.W.SortsAt prog w A s (PySem.W.dataKind s.heap (ks.map encT)) (ks.map rfU) := by
  have room : ∀ p : AK, A.units + (encT p).depth < cLine := fun p => Nat.lt_of_le_of_lt (Nat.add_le_add_left (encT_depth p) _) hu
  have er : PySem.W.EachIs (fun v d => ∃ as, Reads s.heap v d as) (ks.map rfU) (ks.map encT) := each_enc (Rr := fun v d => ∃ as, Reads s.heap v d as) (each_rf hr)
  rcases hn with hn | hn
  · refine PySem.W.SortsAt.data er (encT_alike ks) (.inl fun d hd => ?_) (PySem.W.bound_map fun p _ => room p)
    obtain ⟨p, hp, rfl⟩ := List.mem_map.mp hd
    have := hn p.2 (List.mem_map.mpr ⟨p, hp, rfl⟩)
    unfold encT
    cases h : p.2 with
    | nil => exact absurd h this
    | cons x r => exact ⟨.int x, r.map .int, rfl⟩
  · rw [List.length_map] at hn
    refine ⟨fun v hv => ?_, general', fun E' x y a b Q ha hb hq => ?_, fun h2 => by rw [List.length_map] at h2; omega⟩
    · obtain ⟨d, hd, as, r⟩ := er.left v hv
      exact ⟨_, PySem.W.dataKind_some (encT_alike ks) hd r⟩
    · obtain ⟨d, as, hd, ra, rfl⟩ := PySem.W.dataKind_inv ha
      obtain ⟨d', as', hd', rb, rfl⟩ := PySem.W.dataKind_inv hb
      show wpAny (model prog w) A (oneLt' false x y) Q E' s
      obtain ⟨p, hp, rfl⟩ := List.mem_map.mp hd
      obtain ⟨p', hp', rfl⟩ := List.mem_map.mp hd'
      exact PySem.W.oneLt_alike (fun z => by cases z) ra rb (encT_alike ks _ hd _ hd') (fun z => by cases z) (Nat.lt_of_le_of_lt (Nat.add_le_add_left (Nat.min_le_left _ _) _) (room p)) hq
/-- the list that was gathered is put in order -/
theorem sort_tail {ks : List AK} {Q : Value → Shared → Prop} (hr : ∀ p ∈ ks, ∃ as, Reads s.heap (rfU p) (encT p) as) (hn : NeT (ks.map (·.2))) (hL : ks.length ≤ sizeLine) (hu : A.units + 1 < cLine)
    (h : Q (.ref s.heap.objs.size) { s with heap := sortedHeap (s.heap.push (seqObj "list" (ks.map rfU).toArray 0)) s.heap.objs.size (ks.map rfU) ((ks.mergeSort leT).map rfU).toArray }) :
    wpAny (model prog w) A (Builtin.«list.sort» ⟨[.ref s.heap.objs.size], []⟩) (fun f s' => f = .done (.ret .none) ∧ Q (.ref s.heap.objs.size) s') E { s with heap := s.heap.push (seqObj "list" (ks.map rfU).toArray 0) } := by
  have ho : (s.heap.push (seqObj "list" (ks.map rfU).toArray 0)).get? s.heap.objs.size = some (seqObj "list" (ks.map rfU).toArray 0) := Heap.get?_push_size _ rfl
  have kp : ∀ b o, s.heap.get? b = some o → (PySem.W.sortingHeap (s.heap.push (seqObj "list" (ks.map rfU).toArray 0)) s.heap.objs.size (ks.map rfU)).get? b = some o := fun b o e =>
    PySem.W.sortingHeap_old (Nat.ne_of_lt (Heap.lt_size e)) (Heap.get?_push_of_some _ e)
  have hr' : ∀ p ∈ ks, ∃ as, Reads (PySem.W.sortingHeap (s.heap.push (seqObj "list" (ks.map rfU).toArray 0)) s.heap.objs.size (ks.map rfU)) (rfU p) (encT p) as := fun p hp => by
    obtain ⟨as, r⟩ := hr p hp
    exact ⟨as, PyProof.Rows.Reads.keeps kp r⟩
  refine PySem.W.list_sort_vals (s := { s with heap := s.heap.push (seqObj "list" (ks.map rfU).toArray 0) }) ho (sortsT (s := { s with heap := PySem.W.sortingHeap (s.heap.push (seqObj "list" (ks.map rfU).toArray 0)) s.heap.objs.size (ks.map rfU) }) hr' hn hu) (by rw [List.length_map]; exact hL) ⟨rfl, ?_⟩
  have e := PySem.W.sortVals_data (R := fun v (p : AK) => v = rfU p) false (each_rf fun _ _ => rfl) (each_rf hr') (encT_alike ks)
  rw [leT_eq] at e
  show Q _ { s with heap := sortedHeap _ _ _ (PySem.W.sortVals (PySem.W.dataKind _ (ks.map encT)) false (ks.map rfU) (ks.map rfU)).toArray }
  rw [rf_each e]
  exact h
/-- sorted(x), by what x's walk gathers -/
theorem sorted_by {a : Addr} {Q : Value → Shared → Prop} {G : List Value → Shared → Prop} (hc : wpAny (model prog w) A.in1 (collect (.ref a)) G E s)
    (h : ∀ vs s1, G vs s1 → vs.length ≤ sizeLine ∧ wpAny (model prog w) A.in1.in1 (Builtin.«list.sort» ⟨[.ref s1.heap.objs.size], []⟩) (fun f s' => f = .done (.ret .none) ∧ Q (.ref s1.heap.objs.size) s') E { s1 with heap := s1.heap.push (seqObj "list" vs.toArray 0) }) :
    wpAny (model prog w) A (call (.builtin "sorted") [.ref a]) Q E s := by
  refine Calls.call_function_entry kind_sorted plain_sorted entry_sorted (args_sorted1 _) ?_
  unfold Builtin.«sorted»
  refine wpAny_bind (m := checkCount "sorted" 1 1 _) (wpAny_pure ?_)
  refine wpAny_bind (wpAny_mono hc (fun vs s1 g => ?_) fun _ _ e => e)
  obtain ⟨hz, hb⟩ := h vs s1 g
  refine wpAny_bind (wpAny_newList ?_ hz)
  have ho : (s1.heap.push (seqObj "list" vs.toArray 0)).get? s1.heap.objs.size = some (seqObj "list" vs.toArray 0) := Heap.get?_push_size _ rfl
  refine wpAny_bind (wpAny_holding (wpAny_call_entry slot_list_sort ⟨_, ho, rfl⟩ entry_list_sort (wpAny_mono hb (fun f s' hf => ?_) fun _ _ e => e) (args_list_sort _)))
  obtain ⟨rfl, q⟩ := hf
  exact ⟨_, rfl, wpAny_pure ⟨_, rfl, q⟩⟩
end
/-- what a dict's walk gathers; the heap grows -/
theorem gather {prog : Program} {w : World} {A : Around} {E : Value → Shared → Prop} {s : Shared} {T : String} {r d : Addr} {n : Nat} {P : Nat → Value → Prop} {OK : Heap → Prop} {G : List Value → Shared → Prop} (src : PySem.W.KdlSrc prog w T r d n P OK) (hh : A.handled = none) (ok : OK s.heap) (hn : n ≤ sizeLine)
    (k : ∀ (h1 : Heap) (tk : Nat) (got : Array Value), (∀ b o, s.heap.get? b = some o → h1.get? b = some o) → s.heap.objs.size < h1.objs.size → ItemsOf P got n → G got.toList { s with heap := h1, toks := tk }) : wpAny (model prog w) A (collect (.ref r)) G E s := by
  have there := src.there _ ok
  have at0 : (s.heap.push { cls := .type "list", data := .seq ([] : List Value).toArray }).get? s.heap.objs.size = some { cls := .type "list", data := .seq #[] } := Heap.get?_push_size _ rfl
  have walk := PySem.W.kdl_extend (A := A) (s := { s with heap := s.heap.push { cls := .type "list", data := .seq ([] : List Value).toArray } })
    (R := fun (q : Result) (u : Shared) => ∃ (h1 : Heap) (tk : Nat) (got : Array Value) (c1 : Nat), q = .ok (.ret (.ref s.heap.objs.size)) ∧ u = { s with heap := h1, toks := tk } ∧ (∀ b o, s.heap.get? b = some o → h1.get? b = some o) ∧
      h1.get? s.heap.objs.size = some { cls := .type "list", dict := none, data := .seq got c1, slots := #[] } ∧ ItemsOf P got n)
    src hh (src.keep _ _ ok fun b _ o e => Heap.get?_push_of_some _ e) s.heap.objs.size (Nat.ne_of_gt there.1) (Nat.ne_of_gt there.2) (.ref s.heap.objs.size) 0 at0
    (fun h1 tk got c1 kp hS it => ⟨h1, tk, got, c1, rfl, rfl, fun b o e => kp b o (Nat.ne_of_lt (Heap.lt_size e)) (Heap.get?_push_of_some _ e), hS, it⟩) hn
  unfold collect
  refine wpAny_bind (wpAny_runValue (codeAny_builtin entry_proto_collect' ?_)); rw [Around.under_plainId PySem.F.plain_proto_collect _]
  show wpAny _ A.in1 (newList [] >>= fun l => again (.builtin "list.__iadd__" ⟨[l, .ref r], []⟩)) _ _ s; refine wpAny_bind (wpAny_newObj_type ?_)
  refine wpAny_pure ⟨plainId_quiet PySem.F.plain_list_iadd _, codeAny_builtin entry_list_iadd' ?_⟩; rw [Around.under_plainId PySem.F.plain_list_iadd _]
  show wpAny _ A.in1 (Builtin.List.listExtendWith (.ref s.heap.objs.size) (.ref r) (.ref s.heap.objs.size)) _ _ _; refine wpAny_mono walk (fun fin u x => ?_) fun e u x => ?_
  · cases fin with
    | done f =>
      obtain ⟨h1, tk, got, c1, e, rfl, kp, hS, it⟩ := x
      cases e
      show wpAny _ A (load s.heap.objs.size >>= _) _ _ _; exact wpAny_bind (wpAny_load hS (wpAny_pure (k h1 tk got kp (Heap.lt_size hS) it)))
    | again c =>
      refine ⟨x.1, codeAny_mono x.2 fun q u2 y => ?_⟩
      obtain ⟨h1, tk, got, c1, rfl, rfl, kp, hS, it⟩ := y
      show wpAny _ A (load s.heap.objs.size >>= _) _ _ _; exact wpAny_bind (wpAny_load hS (wpAny_pure (k h1 tk got kp (Heap.lt_size hS) it)))
  · obtain ⟨_, _, _, _, z, _⟩ := x
    cases z
/-! ### sorted of a list, a set, a dict of such tuples -/
section
variable {X : Cx} {pins : List (Addr × Obj)} {σ : L2.St} {H : Hp} {s : Shared}
theorem dpInts {K : PySem.W.Frag} {H : Hp} : ∀ ns : List Int, DpAll K H (ns.map V.int) (ns.map .int)
  | [] => .nil
  | _ :: ns => .cons (.int _) (dpInts ns)
theorem tupReads (I : L2.Inv X pins σ H s) {p : AK} (h : SqT X.K H p.1 (p.2.map V.int)) : ∃ as, Reads s.heap (rfU p) (encT p) as := Dp.reads I _ _ _ (.tup h (dpInts _)) rfl
theorem vals_rf : ∀ ks : List AK, Vals (ks.map rfV) (ks.map rfU)
  | [] => .nil
  | _ :: ks => .cons rfl (vals_rf ks)
theorem rf_vals : ∀ {ks : List AK} {us : List Value}, Vals (ks.map rfV) us → us = ks.map rfU
  | [], _, h => by cases h; rfl
  | p :: ks, _, h => by
    cases h with
    | cons h1 h2 =>
      cases h1
      rw [List.map_cons, rf_vals h2]
/-- behind the walk: the state of the caller, grown -/
theorem sort_end {s1 : Shared} {ks : List AK} {Q : VK} (I : L2.Inv X pins σ H s) (k : ∀ b o, s.heap.get? b = some o → s1.heap.get? b = some o) (hg : s1.gens = s.gens) (ho : s1.os = s.os) (hz : s.heap.objs.size ≤ s1.heap.objs.size) (ht : ∀ p ∈ ks, SqT X.K H p.1 (p.2.map V.int)) (hn : NeT (ks.map (·.2)))
    (hL : ks.length ≤ sizeLine) (hu : X.A.units + 64 < cLine) (h : ∀ p, H p = none → Q (.ref p) (upd H p (.lst ((ks.mergeSort leT).map rfV)))) :
    wpAny (model X.prog X.w) X.A.in1.in1 (Builtin.«list.sort» ⟨[.ref s1.heap.objs.size], []⟩) (fun f s' => f = .done (.ret .none) ∧ EP X pins σ Q (.ref s1.heap.objs.size) s') X.xe { s1 with heap := s1.heap.push (seqObj "list" (ks.map rfU).toArray 0) } := by
  refine sort_tail (fun p hp => ?_) hn hL (by show X.A.units + 1 + 1 + 1 < cLine; omega) ?_
  · obtain ⟨as, r⟩ := tupReads I (ht p hp)
    exact ⟨as, PyProof.Rows.Reads.keeps k r⟩
  · have hob : (s1.heap.push (seqObj "list" (ks.map rfU).toArray 0)).get? s1.heap.objs.size = some (seqObj "list" (ks.map rfU).toArray 0) := Heap.get?_push_size _ rfl
    obtain ⟨c, hc⟩ := sortedHeap_at (vs := ks.map rfU) (out := ((ks.mergeSort leT).map rfU).toArray) hob
    have kk : ∀ b u, s.heap.get? b = some u → (sortedHeap (s1.heap.push (seqObj "list" (ks.map rfU).toArray 0)) s1.heap.objs.size (ks.map rfU) ((ks.mergeSort leT).map rfU).toArray).get? b = some u := fun b u e => by
      have q := k b u e
      have hlt := Heap.lt_size q
      rw [sortedHeap_old (Nat.ne_of_lt hlt) (by rw [size_push']; exact Nat.lt_succ_of_lt hlt)]
      exact Heap.get?_push_of_some _ q
    have hlen : ((ks.mergeSort leT).map rfV).length ≤ sizeLine := by rw [List.length_map, List.length_mergeSort]; exact hL
    have hn' : H s1.heap.objs.size = none := I.hok.fresh hz
    have J : L2.Inv X pins σ (upd H s1.heap.objs.size (.lst ((ks.mergeSort leT).map rfV))) { s with heap := sortedHeap (s1.heap.push (seqObj "list" (ks.map rfU).toArray 0)) s1.heap.objs.size (ks.map rfU) ((ks.mergeSort leT).map rfU).toArray, gens := s1.gens, drawn := s1.drawn, toks := s1.toks } :=
      I.call (ch := []) (Un.laid kk hz hn') (I.hok.laid kk hz ⟨hlen, (ks.mergeSort leT).map rfU, c, vals_rf _, hc⟩) (by rw [hg]; exact I.bare) (fun _ z => nomatch z)
    have e : ({ s1 with heap := sortedHeap (s1.heap.push (seqObj "list" (ks.map rfU).toArray 0)) s1.heap.objs.size (ks.map rfU) ((ks.mergeSort leT).map rfU).toArray } : Shared) = { s with heap := sortedHeap (s1.heap.push (seqObj "list" (ks.map rfU).toArray 0)) s1.heap.objs.size (ks.map rfU) ((ks.mergeSort leT).map rfU).toArray, gens := s1.gens, drawn := s1.drawn, toks := s1.toks } := by
      cases s1
      cases s
      cases ho
      rfl
    rw [e]
    exact ⟨.ref s1.heap.objs.size, _, J, rfl, h _ hn'⟩
def rSrtL (K : PySem.W.Frag) : List V → Hp → VK → Prop := fun xs H Q => ∃ (a : Addr) (ks : List AK), xs = [.ref a] ∧ SqL K H a (ks.map rfV) ∧ (∀ p ∈ ks, SqT K H p.1 (p.2.map V.int)) ∧ NeT (ks.map (·.2)) ∧ ∀ p, H p = none → Q (.ref p) (upd H p (.lst ((ks.mergeSort leT).map rfV)))
theorem cr_srtL (hu : X.A.units + 64 < cLine) : CallR X (.builtin "sorted") (rSrtL X.K) := by
  intro pins s σ H vs us Q I r h
  obtain ⟨a, ks, rfl, hl, ht, hn, q⟩ := h
  rw [Vals.ref1 r]
  obtain ⟨its, rv, pl, hz⟩ := I.list hl
  have ei := rf_vals rv
  subst ei
  have hz' : ks.length ≤ sizeLine := by simpa using hz
  refine sorted_by (G := fun vs s1 => vs = ks.map rfU ∧ s1 = { s with heap := (s.heap.push (seqObj "list" #[] 0)).update s.heap.objs.size (Obj.mapSeq (· ++ (ks.map rfU).toArray)) }) (collect_list pl.isList ⟨rfl, rfl⟩ (by rw [List.length_map]; exact hz')) fun vs s1 g => ?_
  obtain ⟨rfl, rfl⟩ := g
  refine ⟨by rw [List.length_map]; exact hz', ?_⟩
  refine sort_end I (fun b o e => ?_) rfl rfl ?_ ht hn hz' hu q
  · show ((s.heap.push _).update _ _).get? b = some o
    rw [Heap.get?_update_ne _ _ _ _ (Nat.ne_of_lt (Heap.lt_size e))]
    exact Heap.get?_push_of_some _ e
  · show s.heap.objs.size ≤ ((s.heap.push _).update _ _).objs.size
    rw [Heap.size_update, size_push']
    exact Nat.le_succ _
def rSrtS (K : PySem.W.Frag) (P : Program) (w : World) : List V → Hp → VK → Prop := fun xs H Q => ∃ (a : Addr) (L : List AK), xs = [.ref a] ∧ H a = some (SetTO P w a L) ∧ (∀ p ∈ L, SqT K H p.1 (p.2.map V.int)) ∧ ((L.map (·.2)).Nodup → NeT (L.map (·.2))) ∧
  ∀ (L' : List AK) p, L'.Perm L → (L.map (·.2)).Nodup → H p = none → Q (.ref p) (upd H p (.lst ((L'.mergeSort leT).map rfV)))
theorem NeT.perm {xs ys : List (List Int)} (h : xs.Perm ys) (n : NeT ys) : NeT xs := by
  rcases n with n | n
  · exact .inl fun x hx => n x (h.mem_iff.mp hx)
  · exact .inr (by rw [h.length_eq]; exact n)
theorem cr_srtS (hc : X.calm = true) (hu : X.A.units + 64 < cLine) : CallR X (.builtin "sorted") (rSrtS X.K X.prog X.w) := by
  intro pins s σ H vs us Q I r h
  obtain ⟨a, L, rfl, ha, ht, hn, q⟩ := h
  have R0 : SetT0 X.prog X.w s.heap a L := (I.hok a _ ha).1
  obtain ⟨es, ep, t, R⟩ := R0.full fun p hp => I.isT (ht p hp)
  rw [Vals.ref1 r]
  obtain ⟨o, ho, hex, hd⟩ := R.ob
  have hsz := R.size
  have hfew := R.few
  have hes : es.toList.map (·.2) = L.map rfU := by
    rw [R.rows]
    unfold rowsOf
    rw [List.map_map]
    rfl
  refine sorted_by (G := fun (vs : List Value) (s1 : Shared) => (∀ b o, s.heap.get? b = some o → s1.heap.get? b = some o) ∧ s.heap.objs.size ≤ s1.heap.objs.size ∧ s1.gens = s.gens ∧ s1.os = s.os ∧ vs.Perm (L.map rfU))
    (collect_set (A := X.A.in1) (I.ok.hd hc) ⟨o, ho, hex.1, hd⟩ R.fits (by unfold scanBound; omega) R.tab.ris R.led fun s1 vs k1 hz g1 o1 pm => ?_) fun vs s1 g => ?_
  · exact ⟨k1, hz, g1, o1, by rw [← hes]; exact pm⟩
  · obtain ⟨k1, hz, g1, o1, pm⟩ := g
    -- the values in their order
    have : ∃ L' : List AK, vs = L'.map rfU ∧ L'.Perm L := by
      have aux : ∀ {us ws : List Value}, us.Perm ws → ∀ M : List AK, ws = M.map rfU → ∃ M' : List AK, us = M'.map rfU ∧ M'.Perm M := by
        intro us ws hp
        induction hp with
        | nil =>
          intro M e
          cases M with
          | nil => exact ⟨[], rfl, .nil⟩
          | cons p M => cases e
        | cons x _ ih =>
          intro M e
          cases M with
          | nil => cases e
          | cons p M =>
            rw [List.map_cons] at e
            injection e with e1 e2
            obtain ⟨M', h1, h2⟩ := ih M e2
            exact ⟨p :: M', by rw [List.map_cons, e1, h1], h2.cons p⟩
        | swap x y l =>
          intro M e
          match M, e with
          | p :: q :: M, e =>
            rw [List.map_cons, List.map_cons] at e
            injection e with e1 e2
            injection e2 with e2 e3
            exact ⟨q :: p :: M, by rw [List.map_cons, List.map_cons, e1, e2, e3], .swap ..⟩
          | [_], e => cases e
          | [], e => cases e
        | trans _ _ ih1 ih2 =>
          intro M e
          obtain ⟨M1, h1, h2⟩ := ih2 M e
          obtain ⟨M2, h3, h4⟩ := ih1 M1 h1
          exact ⟨M2, h3, h4.trans h2⟩
      exact aux pm L rfl
    obtain ⟨L', rfl, pL⟩ := this
    have hl' : L'.length < 64 := by rw [pL.length_eq]; exact hfew
    refine ⟨by rw [List.length_map, sizeLine_eq]; omega, ?_⟩
    exact sort_end I k1 g1 o1 hz (fun p hp => ht p (pL.mem_iff.mp hp)) ((hn R.nd).perm (pL.map _)) (by rw [sizeLine_eq]; omega) hu fun p hp => q L' p pL R.nd hp
/-- the dict at a: tuples of whole numbers, each with True -/
def rowD (p : AK) : List Int × Addr × Value := (p.2, p.1, .bool true)
structure DctT (P : Program) (w : World) (h : Heap) (a : Addr) (L : List AK) : Prop where
  own : (a == sysModules) = false
  ex : ∃ o es ep, h.get? a = some o ∧ o.ExactDict ∧ o.data = .dict es ep ∧ es.toList = (L.map rowD).map (entryOfKey (tupleKind (intKind P w)))
  nd : (L.map (·.2)).Nodup
def DctO (P : Program) (w : World) (a : Addr) (L : List AK) : HO := .ext fun h => DctT P w h a L
theorem dctO_ok {P : Program} {w : World} {H : Hp} {h : Heap} {a : Addr} {L : List AK} (R : DctT P w h a L) : ObjOk P w H h a (DctO P w a L) := by
  have ⟨o, es, ep, ho, q⟩ := R.ex
  refine ⟨R, ⟨o, ho⟩, fun h1 h2 p k => ?_⟩
  have ⟨o', es', ep', ho', q'⟩ := DctT.ex p
  exact ⟨R.own, ⟨o', es', ep', k o' ho', q'⟩, R.nd⟩
def rSrtD (K : PySem.W.Frag) (P : Program) (w : World) : List V → Hp → VK → Prop := fun xs H Q => ∃ (a : Addr) (L : List AK), xs = [.ref a] ∧ H a = some (DctO P w a L) ∧ (∀ p ∈ L, SqT K H p.1 (p.2.map V.int)) ∧ ((L.map (·.2)).Nodup → NeT (L.map (·.2))) ∧ L.length ≤ sizeLine ∧
  ((L.map (·.2)).Nodup → ∀ p, H p = none → Q (.ref p) (upd H p (.lst ((L.mergeSort leT).map rfV))))
theorem cr_srtD (hc : X.calm = true) (hu : X.A.units + 64 < cLine) : CallR X (.builtin "sorted") (rSrtD X.K X.prog X.w) := by
  intro pins s σ H vs us Q I r h
  obtain ⟨a, L, rfl, ha, ht, hn, hz, q⟩ := h
  rw [Vals.ref1 r]
  have R : DctT X.prog X.w s.heap a L := (I.hok a _ ha).1
  obtain ⟨o, es, ep, ho, hx, hdt, he⟩ := R.ex
  have l1 : es.size = L.length := by rw [size_of_entries he, List.length_map]
  refine sorted_by (G := fun vs s1 => vs = L.map rfU ∧ ∃ h' tk, s1 = { s with heap := h', toks := tk } ∧ (∀ b o, s.heap.get? b = some o → h'.get? b = some o) ∧ s.heap.objs.size < h'.objs.size)
    (gather (A := X.A.in1) (kdl_raw R.own hx hdt) (I.ok.hd hc) ho (by omega) fun h' tk acc kp hgr it => ⟨?_, h', tk, rfl, kp, hgr⟩) fun vs s1 g => ?_
  · have hl : acc.toList.length = L.length := by rw [Array.length_toList, it.1]; exact l1
    apply List.ext_getElem?
    intro j
    rw [List.getElem?_map]
    cases hj : acc.toList[j]? with
    | none =>
      have h1 := List.getElem?_eq_none_iff.mp hj
      rw [List.getElem?_eq_none (by omega)]
      rfl
    | some v =>
      obtain ⟨en, hen, hv⟩ := it.2 j v (by rw [← Array.getElem?_toList]; exact hj)
      have qe := entry_at he j
      rw [hen, List.getElem?_map] at qe
      cases hb : L[j]? with
      | none => rw [hb] at qe; exact nomatch (show some en = none from qe)
      | some b =>
        rw [hb] at qe
        have e2 : en = entryOfKey (tupleKind (intKind X.prog X.w)) (rowD b) := Option.some.inj qe
        rw [hv, e2]
        rfl
  · obtain ⟨rfl, h', tk, rfl, kp, hgr⟩ := g
    refine ⟨by rw [List.length_map]; omega, ?_⟩
    exact sort_end I kp rfl rfl (Nat.le_of_lt hgr) ht (hn R.nd) hz hu fun p hp => q R.nd p hp
end
end Mv
set_option Elab.async false
set_option linter.all false
set_option maxRecDepth 100000
namespace Mv
open PySem PySem.Spec PyProof.Rows L2
section
variable {P : Program} {w : World} {A : Around} {E : Value → Shared → Prop} {s : Shared}
set_option maxHeartbeats 3200000 in
theorem set_of_list {l : Addr} {items : Array Value} (ns : List Int) {Q : Value → Shared → Prop} (hh : A.handled = none) (lst : s.heap.IsList l items) (its : IntsAre items.toList ns) (few : ns.length + 1 < scanBound)
    (h : ∀ (h' : Heap) (tk c : Nat), SetR w h' s.heap.objs.size (fun j => decide (j ∈ ns)) c → c ≤ ns.length → (∀ b o, s.heap.get? b = some o → h'.get? b = some o) → Q (.ref s.heap.objs.size) { s with heap := h', toks := tk }) :
    wpAny (model P w) A (call (.type "set") [.ref l]) Q E s := by
  have isz : items.size = ns.length := by
    have q := IntsAre.length its
    rw [Array.length_toList] at q
    exact q
  obtain ⟨c, tl, omro⟩ := F.called_set.mro
  have omade := F.called_set.made
  have osub := F.called_set.sub
  refine wpAny_call (codeAny_of_tree ?_)
  show wpAny _ _ (callAny (.type "set") _) _ _ _
  refine wpAny_pure ⟨Code.quiet_builtin _ (by decide +kernel), codeAny_builtin F.entry_type_call ?_⟩
  rw [Around.under_plain (weight_type_call_type "set" [.ref l] []) rfl]
  have k1 := F.called_set.notType
  have k2 := F.called_set.canCreate
  have kct := F.typeCall_set_1 (.ref l)
  repeat (any_goals (first | assumption | wp_step))
  refine codeAny_mono (code_set_led1 (.ref l) (E := E) (Q₁ := fun ob u1 => ob = .ref s.heap.objs.size ∧ u1 = { s with heap := s.heap.push { cls := .type "set", dict := none, data := .set #[] 0 (.fresh 0 0 (!w.params.followText "set-order")) } }) ⟨rfl, rfl⟩) fun r u1 hr1 => ?_
  cases r with
  | error e => exact hr1
  | ok fl =>
    cases fl with
    | ret ob =>
      obtain ⟨rfl, rfl⟩ := hr1
      have oS : (s.heap.push { cls := .type "set", dict := none, data := .set #[] 0 (.fresh 0 0 (!w.params.followText "set-order")) }).get? s.heap.objs.size = some { cls := .type "set", dict := none, data := .set #[] 0 (.fresh 0 0 (!w.params.followText "set-order")) } := Heap.get?_push_size _ rfl
      have oT : Shared.TypeIs { s with heap := s.heap.push { cls := .type "set", dict := none, data := .set #[] 0 (.fresh 0 0 (!w.params.followText "set-order")) } } (.ref s.heap.objs.size) "set" := ⟨_, oS, rfl⟩
      have oli := F.called_set.init.lookup
      have obi := F.called_set.init.bind (.ref s.heap.objs.size)
      repeat (any_goals (first | assumption | wp_step))
      refine codeAny_mono (codeAny_call_builtin (R := wants (fun r u2 => r = .none ∧ ∃ h' tk c, u2 = { s with heap := h', toks := tk } ∧ SetR w h' s.heap.objs.size (fun j => decide (j ∈ ns)) c ∧ c ≤ ns.length ∧
          (∀ b o, s.heap.get? b = some o → h'.get? b = some o)) E) F.called_set.init.plain F.entry_set_init (check_set_init_1 oT ?_)) fun r2 u2 hr2 => ?_
      · obtain ⟨ol, pol0, pcl, nn, pdl⟩ := lst
        obtain ⟨ocls, odict, odata, oslots⟩ := ol
        simp only at pcl pdl
        subst pcl; subst pdl
        have pol : (s.heap.push { cls := .type "set", dict := none, data := .set #[] 0 (.fresh 0 0 (!w.params.followText "set-order")) }).get? l = some { cls := .type "list", dict := odict, data := .seq items nn, slots := oslots } := Heap.get?_push_of_some _ pol0
        have nA := F.sub_list_set
        have nB := F.sub_list_frozenset
        have neq : (Value.type "list" == Value.type "dict") = false := by decide
        have isl : (s.heap.push { cls := .type "set", dict := none, data := .set #[] 0 (.fresh 0 0 (!w.params.followText "set-order")) }).IsList l items := ⟨_, pol, rfl, nn, rfl⟩
        unfold Builtin.«set.__init__» noKeywords Builtin.Frozenset.updateFrom
        generalize ePI : pyIter = PI
        wp_walk
        subst ePI
        refine wpAny_pyIter_list isl ?_
        refine wpAny_bind (wpAny_runValue ?_)
        have ltS : l < s.heap.objs.size := Heap.lt_size pol0
        have nh : A.in1.in1.in1.handled = none := by simp [hh]
        have sz1 : (s.heap.push { cls := .type "set", dict := none, data := .set #[] 0 (.fresh 0 0 (!w.params.followText "set-order")) }).objs.size = s.heap.objs.size + 1 := Heap.size_push ..
        have neI : l ≠ (s.heap.push { cls := .type "set", dict := none, data := .set #[] 0 (.fresh 0 0 (!w.params.followText "set-order")) }).objs.size := by
          rw [Heap.size_push]; exact Nat.ne_of_lt (Nat.lt_succ_of_lt ltS)
        have out : s.heap.objs.size ∉ [(s.heap.push { cls := .type "set", dict := none, data := .set #[] 0 (.fresh 0 0 (!w.params.followText "set-order")) }).objs.size, l] := by
          rw [Heap.size_push]; simp only [List.mem_cons, List.mem_singleton, List.not_mem_nil, or_false, not_or]
          exact ⟨Nat.ne_of_lt (Nat.lt_succ_self _), Nat.ne_of_gt ltS⟩
        have vals : ∀ (i : Nat) (v : Value), items[i]? = some v → ∃ k t, ns[i]? = some k ∧ v = .int k t := fun i v hv => by
          have hi : i < ns.length := by rw [← isz]; exact (Array.getElem?_eq_some_iff.mp hv).1
          obtain ⟨t, e⟩ := PyProof.Rows.IntsAre.int_at its i v (by rw [Array.getElem?_toList]; exact hv)
          refine ⟨ns[i], t, List.getElem?_eq_getElem hi, ?_⟩
          rw [e, List.getD_eq_getElem?_getD, List.getElem?_eq_getElem hi] <;> rfl
        refine set_update_ints ((Walks.list nh _ l neI items).toS) s.heap.objs.size
          out ns isz few vals (items.size - 0) 0 _ (by omega) (Nat.zero_le _)
          ⟨⟨_, Heap.get?_push_size _ rfl, rfl, rfl⟩, (isl.push _)⟩ ?hS0 ?hR
        case hS0 =>
          have got : ((s.heap.push { cls := .type "set", dict := none, data := .set #[] 0 (.fresh 0 0 (!w.params.followText "set-order")) }).push { cls := .type "list_iterator", data := .fields #[.ref l, .int 0 0] }).get? s.heap.objs.size
              = some { cls := .type "set", dict := none, data := .set #[] 0 (.fresh 0 0 (!w.params.followText "set-order")) } := Heap.get?_push_of_some _ oS
          exact ⟨0, Nat.le_refl 0, setR_new_at got⟩
        case hR =>
          intro s' c' mv lc' oS'
          obtain ⟨h', gn, d', tk', os'⟩ := s'
          have eg : gn = s.gens := mv.gens
          have ed : d' = s.drawn := mv.drawn
          have eo : os' = s.os := mv.os
          subst eg; subst ed; subst eo
          show wpAny _ _ _ _ _ _
          refine wpAny_pure ?_
          show wpAny _ _ (ret Value.none) _ _ _
          rw [isz] at lc'
          refine wpAny_pure ⟨rfl, h', tk', c', rfl, oS', lc', fun b o e => ?_⟩
          have lb0 : b < s.heap.objs.size := Heap.lt_size e
          have lb1 : b ≠ s.heap.objs.size := Nat.ne_of_lt lb0
          have lb2 : b ≠ (s.heap.push { cls := .type "set", dict := none, data := .set #[] 0 (.fresh 0 0 (!w.params.followText "set-order")) }).objs.size := by
            rw [Heap.size_push]; exact Nat.ne_of_lt (Nat.lt_succ_of_lt lb0)
          exact mv.heap b o (by simp only [List.mem_cons, List.mem_singleton, List.not_mem_nil, or_false, not_or]; exact ⟨lb1, lb2⟩) (Heap.get?_push_of_some _ (Heap.get?_push_of_some _ e))
      · cases r2 with
        | error e => exact hr2
        | ok fl2 =>
          cases fl2 with
          | ret r =>
            obtain ⟨rfl, h', tk, c', rfl, oS', lc', kp'⟩ := hr2
            repeat (any_goals (first | assumption | wp_step))
            exact h _ _ _ oS' lc' kp'
          | _ => exact hr2.elim
    | _ => exact hr1.elim
end
/-! ### set(xs), whole numbers -/
section
variable {X : Cx}
def rSetI (K : PySem.W.Frag) (w : World) : List V → Hp → VK → Prop := fun xs H Q => ∃ (l : Addr) (ns : List Int), xs = [.ref l] ∧ SqL K H l (ns.map V.int) ∧ ns.length + 1 < scanBound ∧
  ∀ a c, H a = none → c ≤ ns.length → Q (.ref a) (upd H a (SetO w a (fun j => decide (j ∈ ns)) c))
theorem cr_setI (hc : X.calm = true) : CallR X (.type "set") (rSetI X.K X.w) := by
  intro pins s σ H vs us Q I r h
  obtain ⟨l, ns, rfl, hl, hb, q⟩ := h
  rw [Vals.ref1 r]
  obtain ⟨its, rv, pl, hz⟩ := I.list hl
  refine set_of_list (P := X.prog) (w := X.w) ns (I.ok.hd hc) pl.isList (by simpa using rv.ints) hb fun h1 tk c R hc1 kp => ?_
  exact ⟨.ref s.heap.objs.size, upd H s.heap.objs.size (SetO X.w s.heap.objs.size (fun j => decide (j ∈ ns)) c), I.laid (t' := tk) kp (Nat.le_refl _) (setO_new R), rfl, q _ c (I.hok.fresh (Nat.le_refl _)) hc1⟩
end
/-! ### {v: True for v in ..}, tuples of whole numbers -/
theorem dct_empty {P : Program} {w : World} (h : Heap) (hb : sysModules < h.objs.size) : DctT P w (h.push { cls := .type "dict", data := .dict #[] }) h.objs.size [] :=
  ⟨beq_eq_false_iff_ne.mpr (Ne.symm (Nat.ne_of_lt hb)), ⟨_, #[], 0, Heap.get?_push_size _ rfl, ⟨rfl, rfl, rfl⟩, rfl, rfl⟩, List.nodup_nil⟩
def putT (L : List AK) (p : AK) : List AK := if p.2 ∈ L.map (·.2) then L else L ++ [p]
theorem atKey_rows (k : List Int) : ∀ L : List AK, (atKey (L.map rowD) k).isSome = decide (k ∈ L.map (·.2))
  | [] => rfl
  | p :: L => by
    have ih := atKey_rows k L
    unfold atKey at ih ⊢
    rw [List.map_cons, List.find?_cons]
    by_cases e : p.2 = k
    · have e1 : (rowD p).1 = k := e
      simp [e1, e]
    · have e1 : ¬ (rowD p).1 = k := e
      simp only [e1, decide_false]
      rw [ih]
      have : ¬ k = p.2 := fun z => e z.symm
      simp [this]
theorem rows_put (L : List AK) (p : AK) : storedH (L.map rowD) p.2 p.1 (.bool true) = (putT L p).map rowD := by
  unfold storedH putT
  rw [atKey_rows]
  by_cases e : p.2 ∈ L.map (·.2)
  · rw [if_pos (decide_eq_true e), if_pos e, List.map_map]
    refine List.map_congr_left fun q _ => ?_
    show (if q.2 = p.2 then (q.2, q.1, Value.bool true) else rowD q) = rowD q
    split <;> rfl
  · rw [if_neg (by simpa using e), if_neg e, List.map_append]
    rfl
theorem dct_put {X : Cx} {pins : List (Addr × Obj)} {σ : L2.St} {H : Hp} {s : Shared} {E : Value → Shared → Prop} {d : Addr} {L : List AK} {p : AK} {u r : Value} {Q : Unit → Shared → Prop} (hu : X.A.units < cLine) (I : L2.Inv X pins σ H s) (hd : H d = some (DctO X.prog X.w d L)) (ht : ∀ q ∈ L, SqT X.K H q.1 (q.2.map V.int)) (hz : L.length < sizeLine)
    (hp : SqT X.K H p.1 (p.2.map V.int)) (ru : RelV (rfV p) u) (rr : RelV (.bl true) r) (h : ∀ s', L2.Inv X pins σ (upd H d (DctO X.prog X.w d (putT L p))) s' → Q () s') : wpAny (model X.prog X.w) X.A (dictSet d u r) Q E s := by
  cases ru
  cases rr
  have R : DctT X.prog X.w s.heap d L := (I.hok d _ hd).1
  obtain ⟨o, es, ep, ho, hx, hdt, he⟩ := R.ex
  have D : s.heap.DictOfH (tupleKind (intKind X.prog X.w)) d (L.map rowD) := ⟨o, es, ep, ho, hx, hdt, he, fun x hx' => by
    obtain ⟨q, hq, rfl⟩ := List.mem_map.mp hx'
    exact I.isT (ht q hq), by
    rw [List.map_map]
    exact R.nd⟩
  refine wpAny_dictSet_heap (hsz := by rw [List.length_map]; omega) (knd := tupleKind (intKind X.prog X.w)) hu (I.isT hp) D fun h1 D1 hs => h _ ?_
  rw [rows_put] at D1
  obtain ⟨o1, es1, ep1, ho1, hx1, hdt1, he1, _, hn1⟩ := D1
  rw [List.map_map] at hn1
  exact d_write (t' := s.toks + _) I (by rw [hd]; trivial) hs ⟨_, ho1⟩ (dctO_ok ⟨R.own, ⟨o1, es1, ep1, ho1, hx1, hdt1, he1⟩, hn1⟩)
section
variable {X : Cx}
def tDcB (K : PySem.W.Frag) (P : Program) (w : World) (wi : TI) (g : TG) (tk tv : TE) (vs : List Nat) : TE := fun σ H Q => wi σ H fun J H1 => ∀ D, H1 D = none → ∃ W : Nat → Nat → Hp → Prop, (∃ m, W 0 m (upd H1 D (DctO P w D []))) ∧ ∀ i m H, W i m H →
  (J.stop i H ∧ Q (.ref D) H) ∨ (J.go i H ∧ ∃ Nx : Hp → Prop, (∀ H', Nx H' → ∃ m', m' < m ∧ W (i + 1) m' H') ∧ ∀ x H', J.yld i H x H' → g x (wipe σ vs) H' fun σ2 H2 => wipe σ2 vs = wipe σ vs ∧
    tk σ2 H2 fun y H3 => tv σ2 H3 fun z H4 => ∃ (L : List AK) (p : AK), y = rfV p ∧ z = .bl true ∧ H4 D = some (DctO P w D L) ∧ (∀ q ∈ L, SqT K H4 q.1 (q.2.map V.int)) ∧ SqT K H4 p.1 (p.2.map V.int) ∧ L.length < sizeLine ∧ Nx (upd H4 D (DctO P w D (putT L p))))
theorem dct_core {pins : List (Addr × Obj)} {s : Shared} {σ : L2.St} {H : Hp} {Q : VK} {kx vx tg iter : Expr} {scope : Scope} {own : List (Str × Nat)} {pos pos' : Pos} {wi : TI} {g : TG} {tk tv : TE} {use : Option (Value → Sem Unit)} {Qf : Value → Shared → Prop}
    (hc : X.calm = true) (hroom : X.A.units < cLine) (hN : X.N.Nodup) (I : L2.Inv X pins σ H s) (hi : PI X tg iter wi) (ok : BlkOk X.N X.env.scope scope own)
    (hg : ∀ (s : Shared) (H : Hp) (C : Addr) (cl : List (Str × Addr)) (fp : List Addr), PG (X.blk s H scope (compEnvC scope cl C X.env) fp) tg g)
    (hk : ∀ (s : Shared) (H : Hp) (C : Addr) (cl : List (Str × Addr)) (fp : List Addr), PE (X.blk s H scope (compEnvC scope cl C X.env) fp) kx tk)
    (he : ∀ (s : Shared) (H : Hp) (C : Addr) (cl : List (Str × Addr)) (fp : List Addr), PE (X.blk s H scope (compEnvC scope cl C X.env) fp) vx tv) (hs : ∀ x, foldedSetIterable iter X.env x = pure x)
    (h : tDcB X.K X.prog X.w wi g tk tv (own.map (·.2)) σ H Q)
    (back : ∀ D C s' m H', L2.Inv X pins σ H' s' → Q (.ref D) H' → s'.heap.Ns C m → FpOk X pins H' C → compPost (model X.prog X.w) X.A X.xe use Qf (.ref D) C (.ok .next) s') :
    wpAny (model X.prog X.w) X.A (comprehension (.DictComp kx vx [⟨tg, iter, [], 0⟩] scope pos) scope X.env pos' newDict false (eval iter X.env) use) Qf X.xe s := by
  have free : ∀ y ∈ scope.names, y.2 = .free → ∃ c, X.env.cells.lookup y.1 = some c := fun y hy e => by
    rcases ok.free y hy e with k | k
    · exact I.ok.has _ (.inl k)
    · exact I.ok.has _ (.inr k)
  refine wpAny_comprehension_free (use := use) rfl hs (closure_ok free) ok.kind (fun y hy e => by rw [ok.uniq y hy, e])
    (thn (hi.run pins s σ H _ I h) fun xw a1 hx => thn hx fun ite a2 h2 => ?_)
  obtain ⟨it, fp, tn, J, G2, e, J2, T, tn2, fr2, q⟩ := h2
  subst e
  refine wpAny_newObj_type (newEnv_comp ?_)
  generalize eD : a2.heap.objs.size = D
  have nD : G2 D = none := J2.hok.fresh (Nat.le_of_eq eD)
  obtain ⟨W, ⟨m0, w0⟩, trn⟩ := q D nD
  -- the new list
  generalize ea3 : ({ a2 with heap := a2.heap.push { cls := .type "dict", data := .dict #[] } } : Shared) = a3
  have J3 : L2.Inv X pins σ (upd G2 D (DctO X.prog X.w D [])) a3 := by
    rw [← ea3]
    refine J2.laid (t' := a2.toks) (fun b o e => Heap.get?_push_of_some _ e) (Nat.le_of_eq eD) ?_
    rw [← eD]
    exact dctO_ok (dct_empty a2.heap J2.big)
  have h3 : a3.heap = a2.heap.push { cls := .type "dict", data := .dict #[] } := by rw [← ea3]
  have sz0 : ∀ b ∈ fp, b < a2.heap.objs.size := fun b hb => by
    obtain ⟨o, e, _⟩ := T.obj _ _ tn2 b hb
    exact Heap.lt_size e
  have fr3 : ∀ b ∈ fp, FpOk X pins (upd G2 D (DctO X.prog X.w D [])) b ∧ b < a3.heap.objs.size := fun b hb => by
    have hlt := sz0 b hb
    refine ⟨⟨?_, (fr2 b hb).2⟩, by rw [h3, Heap.size_push]; exact Nat.lt_succ_of_lt hlt⟩
    rw [upd_ne (by rw [← eD]; exact Nat.ne_of_lt hlt)]
    exact (fr2 b hb).1
  have tn3 : tn 0 a3.heap := T.keep _ _ _ tn2 fun b _ o e => by rw [h3]; exact Heap.get?_push_of_some _ e
  have J4 := block_start J3 ok hN fr3
  have rg := hg a3 (upd G2 D (DctO X.prog X.w D [])) a3.heap.objs.size (cellsFrom (a3.heap.objs.size + 1) scope.names (cloFrom X.env.cells scope.names [])) fp
  have rk := hk a3 (upd G2 D (DctO X.prog X.w D [])) a3.heap.objs.size (cellsFrom (a3.heap.objs.size + 1) scope.names (cloFrom X.env.cells scope.names [])) fp
  have rv := he a3 (upd G2 D (DctO X.prog X.w D [])) a3.heap.objs.size (cellsFrom (a3.heap.objs.size + 1) scope.names (cloFrom X.env.cells scope.names [])) fp
  show codeAny _ _ (.compStart (.DictComp kx vx [⟨tg, iter, [], 0⟩] scope pos) 0 (.ref it) (.ref D) (compEnvC scope (cellsFrom (a3.heap.objs.size + 1) scope.names (cloFrom X.env.cells scope.names [])) a3.heap.objs.size X.env)) (compPost (model X.prog X.w) X.A X.xe use Qf (.ref D) a3.heap.objs.size) { a3 with heap := pushCells (a3.heap.push { cls := .type "dict", data := .dict #[] }) scope.names }
  have nf : ∀ b ∈ fp, (upd G2 D (DctO X.prog X.w D [])) b = none := fun b hb => (fr3 b hb).1.1
  generalize ece : compEnvC scope (cellsFrom (a3.heap.objs.size + 1) scope.names (cloFrom X.env.cells scope.names [])) a3.heap.objs.size X.env = ce0 at J4 rg rk rv ⊢
  have cl0 : ce0.locals = a3.heap.objs.size := by subst ece; rfl
  generalize eg3 : upd G2 D (DctO X.prog X.w D []) = G3 at J3 J4 rg rk rv w0 nf fr3
  generalize ea4 : ({ a3 with heap := pushCells (a3.heap.push { cls := .type "dict", data := .dict #[] }) scope.names } : Shared) = a4 at J4 ⊢
  have tn4 : tn 0 a4.heap := T.keep _ _ _ tn3 fun b _ o e => by rw [← ea4]; exact pushCells_keeps _ _ _ _ (Heap.get?_push_of_some _ e)
  have stay : ∀ {σ' : L2.St} {H' : Hp} {s' : Shared}, L2.Inv (X.blk a3 G3 scope ce0 fp) [] σ' H' s' → (∀ b ∈ fp, H' b = none) → ∀ b ∈ fp, FpOk (X.blk a3 G3 scope ce0 fp) [] H' b := fun {σ' H' s'} I' hn b hb =>
    ⟨hn b hb, (I'.ok.exf b hb).1, I'.ok.exfs b hb, .inl hb, fun x c e => (I'.ok.exf b hb).2 x c e, fun p hp => absurd (show p ∈ ([] : List (Addr × Obj)) ++ [] from hp) (by simp)⟩
  have lp : codeAny (model X.prog X.w) X.A (.compLoop (.DictComp kx vx [⟨tg, iter, [], 0⟩] scope pos) 0 (.ref it) (.ref D) ce0) (compPost (model X.prog X.w) X.A X.xe use Qf (.ref D) a3.heap.objs.size) a4 := by
    refine compLoop_anyD (fun n s' => ∃ i H', L2.Inv (X.blk a3 G3 scope ce0 fp) [] (wipe σ (own.map (·.2))) H' s' ∧ tn i s'.heap ∧ (∀ b ∈ fp, H' b = none) ∧ W i n H') ?_ m0 ⟨0, G3, J4, tn4, nf, w0⟩
    rintro n a5 ⟨i, G5, J5, tn5, n5, w5⟩
    rcases trn i n G5 w5 with ⟨ends, qe⟩ | ⟨goes, Nx, hNx, stp⟩
    · have td := T.done (X.blk a3 G3 scope ce0 fp) rfl rfl rfl hc i [] a5 _ G5 (fun _ _ => False) J5 (stay J5 n5) tn5 ends
      refine thnF td fun r a6 ⟨hr, J6⟩ => ?_
      subst hr
      -- back in the def's context
      have J7 : L2.Inv X pins σ G5 a6 := J3.call' (ch := fp) J6.os J6.base J6.hok J6.bare fun b hb => ⟨(fr3 b hb).1.2.2.2.1, (fr3 b hb).1.2.1, (fr3 b hb).1.2.2.2.2.1, (fr3 b hb).1.2.2.2.2.2⟩
      have nC : G5 a3.heap.objs.size = none := by
        have z : G5 ce0.locals = none := J6.free
        rw [cl0] at z
        exact z
      obtain ⟨m, hn, _⟩ := J6.loc
      have hn : a6.heap.Ns ce0.locals m := hn
      rw [cl0] at hn
      exact back D a3.heap.objs.size a6 m G5 J7 qe hn (J3.fpOk (Nat.le_refl _) nC)
    · have ti := T.item (X.blk a3 G3 scope ce0 fp) rfl rfl rfl hc i [] a5 _ G5 (fun _ _ => False) J5 (stay J5 n5) tn5 goes
      refine thnF ti fun r a6 ⟨u, hr, h6⟩ => ?_
      subst hr
      refine thnF h6 fun _ a7 ⟨x, G7, J7, r7, y7, st7, n7⟩ => ?_
      have J7' := J7.pinned (stay J7 n7) (T.obj _ _ st7)
      refine thnF (rg.run _ a7 _ G7 x u _ J7' r7 (stp x G7 y7)) fun _ a8 ⟨σ8, G8, J8, hw8, q8⟩ => ?_
      refine thnF ((pts_nil (X := X.blk a3 G3 scope ce0 fp)).run _ a8 σ8 G8 (fun b G9 => b = true ∧ G9 = G8) J8 ⟨rfl, rfl⟩) fun b a9 ⟨G9, J9, eb, eh⟩ => ?_
      subst eb
      subst eh
      -- the turn's end
      have fin0 : ∀ {s' : Shared} {H' : Hp}, L2.Inv (X.blk a3 G3 scope ce0 fp) ([] ++ pinsAt fp a7.heap) σ8 H' s' → Nx H' → ∃ m, m < n ∧ ∃ i H', L2.Inv (X.blk a3 G3 scope ce0 fp) [] (wipe σ (own.map (·.2))) H' s' ∧ tn i s'.heap ∧ (∀ b ∈ fp, H' b = none) ∧ W i m H' := fun {s' H'} I' nx => by
        obtain ⟨m', hm, w'⟩ := hNx H' nx
        have pin' : ∀ b ∈ fp, ∀ o, a7.heap.get? b = some o → s'.heap.get? b = some o ∧ H' b = none := fun b hb o e =>
          let z := I'.pin (b, o) (List.mem_append_right _ (List.mem_append_right _ (mem_pinsAt hb e)))
          ⟨z.1, z.2.1⟩
        have hl : (wipe σ (own.map (·.2))).length = σ8.length := by rw [← hw8, wipe_length]
        refine ⟨m', hm, i + 1, H', (I'.unpinned (pins := [])).weak hl (fun j v e => ?_), T.keep _ _ _ st7 fun b hb o e => (pin' b hb o e).1, fun b hb => ?_, w'⟩
        · rw [← hw8] at e
          exact (wipe_some e).1
        · obtain ⟨o, e, _⟩ := T.obj _ _ st7 b hb
          exact (pin' b hb o e).2
      simp only [if_true]
      refine thnF (rk.run _ a9 σ8 G9 _ J9 q8) fun z a10 ⟨yk, G10, I10, r10, q10⟩ => ?_
      refine thnF (rv.run _ a10 σ8 G10 _ I10 q10) fun z2 a11 ⟨yv, G11, I11, r11, L, p, ek, ev, hD11, ht11, hp11, hz11, nx⟩ => ?_
      subst ek
      subst ev
      exact dct_put (X := X.blk a3 G3 scope ce0 fp) hroom I11 hD11 ht11 hz11 hp11 r10 r11 fun s12 I12 => fin0 I12 nx
  exact codeAny_compStart_dict lp (T.self X.A 0 _ _ _ tn4 lp)
/-- as a value -/
theorem pe_dct {kx vx tg iter : Expr} {scope : Scope} {own : List (Str × Nat)} {pos : Pos} {wi : TI} {g : TG} {tk tv : TE} (hc : X.calm = true) (hroom : X.A.units < cLine) (hN : X.N.Nodup) (hi : PI X tg iter wi) (ok : BlkOk X.N X.env.scope scope own)
    (hg : ∀ (s : Shared) (H : Hp) (C : Addr) (cl : List (Str × Addr)) (fp : List Addr), PG (X.blk s H scope (compEnvC scope cl C X.env) fp) tg g)
    (hk : ∀ (s : Shared) (H : Hp) (C : Addr) (cl : List (Str × Addr)) (fp : List Addr), PE (X.blk s H scope (compEnvC scope cl C X.env) fp) kx tk)
    (he : ∀ (s : Shared) (H : Hp) (C : Addr) (cl : List (Str × Addr)) (fp : List Addr), PE (X.blk s H scope (compEnvC scope cl C X.env) fp) vx tv) (hs : ∀ x, foldedSetIterable iter X.env x = pure x := by intro _; rfl) :
    PE X (.DictComp kx vx [⟨tg, iter, [], 0⟩] scope pos) (tDcB X.K X.prog X.w wi g tk tv (own.map (·.2))) := by
  refine ⟨fun pins s σ H Q I h => ?_⟩
  rw [arm_eval_DictComp]
  refine dct_core hc hroom hN I hi ok hg hk he hs h fun D C s' m H' I' q hn f => ⟨m, hn, fun h'' sb => ?_⟩
  obtain ⟨f0, f1, fr2, fr3, f4, f5⟩ := f
  exact ⟨.ref D, H', I'.turned (t' := s'.toks) (fun b o hb e => (sb.2 b hb).trans e) f0 f1 fr3 f4 f5, rfl, q⟩
end
end Mv
set_option Elab.async false
set_option linter.all false
set_option maxRecDepth 100000
namespace Mv
open PySem PySem.Spec PyProof.Rows L2
/-! ### sorting, by the data -/
/-- each once (the last of the like ones) -/
def ddp {α : Type} [DecidableEq α] : List α → List α
  | [] => []
  | x :: xs => if x ∈ xs then ddp xs else x :: ddp xs
theorem mem_ddp {α : Type} [DecidableEq α] {x : α} : ∀ {xs : List α}, x ∈ ddp xs ↔ x ∈ xs
  | [] => Iff.rfl
  | y :: ys => by
    unfold ddp
    split
    · rename_i h
      rw [mem_ddp, List.mem_cons]
      exact ⟨.inr, fun z => z.elim (fun e => e ▸ h) id⟩
    · rw [List.mem_cons, mem_ddp, List.mem_cons]
theorem ddp_nodup {α : Type} [DecidableEq α] : ∀ xs : List α, (ddp xs).Nodup
  | [] => List.nodup_nil
  | y :: ys => by
    unfold ddp
    split
    · exact ddp_nodup ys
    · rename_i h
      exact List.nodup_cons.mpr ⟨fun z => h (mem_ddp.mp z), ddp_nodup ys⟩
theorem ddp_perm {α : Type} [DecidableEq α] {xs ys : List α} (hn : xs.Nodup) (hm : ∀ x, x ∈ xs ↔ x ∈ ys) : xs.Perm (ddp ys) :=
  (List.perm_ext_iff_of_nodup hn (ddp_nodup ys)).mpr fun x => by rw [hm, mem_ddp]
theorem ddp_length {α : Type} [DecidableEq α] : ∀ xs : List α, (ddp xs).length ≤ xs.length
  | [] => Nat.le_refl _
  | y :: ys => by
    unfold ddp
    have := ddp_length ys
    split
    · rw [List.length_cons]; omega
    · rw [List.length_cons, List.length_cons]; omega
theorem leL_trans (a b c : List Int) (h1 : decide (a ≤ b) = true) (h2 : decide (b ≤ c) = true) : decide (a ≤ c) = true := decide_eq_true (List.le_trans (of_decide_eq_true h1) (of_decide_eq_true h2))
theorem leL_total (a b : List Int) : (decide (a ≤ b) || decide (b ≤ a)) = true := by
  rcases List.le_total a b with h | h
  · rw [decide_eq_true h]; rfl
  · rw [decide_eq_true h, Bool.or_true]
theorem sortT_perm (xs : List (List Int)) : (sortT xs).Perm xs := List.mergeSort_perm _ _
theorem sortT_le (xs : List (List Int)) : (sortT xs).Pairwise (· ≤ ·) := (List.pairwise_mergeSort leL_trans leL_total xs).imp fun h => of_decide_eq_true h
theorem sortT_uniq {xs ys : List (List Int)} (p : xs.Perm ys) (h : xs.Pairwise (· ≤ ·)) : xs = sortT ys :=
  List.Perm.eq_of_pairwise (le := (· ≤ ·)) (fun a b _ _ h1 h2 => List.le_antisymm h1 h2) h (sortT_le ys) (p.trans (sortT_perm ys).symm)
theorem sortT_congr {xs ys : List (List Int)} (p : xs.Perm ys) : sortT xs = sortT ys := sortT_uniq ((sortT_perm xs).trans p) (sortT_le xs)
theorem leI_trans (a b c : Int) (h1 : decide (a ≤ b) = true) (h2 : decide (b ≤ c) = true) : decide (a ≤ c) = true := decide_eq_true (Int.le_trans (of_decide_eq_true h1) (of_decide_eq_true h2))
theorem leI_total (a b : Int) : (decide (a ≤ b) || decide (b ≤ a)) = true := by
  rcases Int.le_total a b with h | h
  · rw [decide_eq_true h]; rfl
  · rw [decide_eq_true h, Bool.or_true]
theorem sortI_perm (xs : List Int) : (sortI xs).Perm xs := List.mergeSort_perm _ _
theorem sortI_le (xs : List Int) : (sortI xs).Pairwise (· ≤ ·) := (List.pairwise_mergeSort leI_trans leI_total xs).imp fun h => of_decide_eq_true h
theorem sortI_uniq {xs ys : List Int} (p : xs.Perm ys) (h : xs.Pairwise (· ≤ ·)) : xs = sortI ys :=
  List.Perm.eq_of_pairwise (le := (· ≤ ·)) (fun a b _ _ h1 h2 => Int.le_antisymm h1 h2) h (sortI_le ys) (p.trans (sortI_perm ys).symm)
abbrev iT (xs : List Int) : D := .tup (xs.map .int)
def tupsOf : List D → Option (List (List Int))
  | [] => some []
  | .tup ys :: xs => (match intsOf ys with | some is => (match tupsOf xs with | some ts => some (is :: ts) | none => none) | none => none)
  | _ :: _ => none
@[simp] theorem tupsOf_map : ∀ vs : List (List Int), tupsOf (vs.map iT) = some vs
  | [] => rfl
  | v :: vs => by rw [List.map_cons, tupsOf, intsOf_map, tupsOf_map vs]
theorem tupsOf_rds {K : PySem.W.Frag} {F : Hp} : ∀ {xs : List D} {us : List V} {vs : List (List Int)}, RDs K F us xs → tupsOf xs = some vs → ∃ ks : List AK, us = ks.map rfV ∧ ks.map (·.2) = vs ∧ ∀ p ∈ ks, SqT K F p.1 (p.2.map V.int)
  | [], _, _, h, e => by cases h; cases e; exact ⟨[], rfl, rfl, fun p hp => absurd hp (by simp)⟩
  | .tup ys :: xs, _, _, h, e => by
    cases h with
    | cons h1 h2 =>
      cases h1 with
      | @tup a ws _ g1 g2 =>
        simp only [tupsOf] at e
        split at e
        · rename_i is hi
          split at e
          · rename_i ts ht
            cases e
            obtain ⟨ks, k1, k2, k3⟩ := tupsOf_rds h2 ht
            have := intsOf_rds g2 hi
            subst this
            refine ⟨(a, is) :: ks, by rw [List.map_cons, k1], by rw [List.map_cons, k2], fun p hp => ?_⟩
            rcases List.mem_cons.mp hp with rfl | hp
            · exact g1
            · exact k3 p hp
          · cases e
        · cases e
  | .int _ :: _, _, _, _, e => by cases e
  | .non :: _, _, _, _, e => by cases e
  | .bl _ :: _, _, _, _, e => by cases e
  | .str _ :: _, _, _, _, e => by cases e
  | .lst _ :: _, _, _, _, e => by cases e
  | .sq _ :: _, _, _, _, e => by cases e
  | .obj _ _ _ :: _, _, _, _, e => by cases e
  | .ty _ :: _, _, _, _, e => by cases e
  | .cls _ :: _, _, _, _, e => by cases e
theorem rds_ints {K : PySem.W.Frag} {F : Hp} : ∀ ns : List Int, RDs K F (ns.map V.int) (ns.map .int)
  | [] => .nil
  | n :: ns => .cons (.int n) (rds_ints ns)
theorem rds_tups {K : PySem.W.Frag} {F : Hp} : ∀ {ks : List AK}, (∀ p ∈ ks, SqT K F p.1 (p.2.map V.int)) → RDs K F (ks.map rfV) ((ks.map (·.2)).map iT)
  | [], _ => .nil
  | p :: ks, h => .cons (.tup (h p List.mem_cons_self) (rds_ints _)) (rds_tups fun q hq => h q (List.mem_cons_of_mem _ hq))
theorem rds_srt {K : PySem.W.Frag} {F : Hp} {ks : List AK} (h : ∀ p ∈ ks, SqT K F p.1 (p.2.map V.int)) : RDs K F ((ks.mergeSort leT).map rfV) ((sortT (ks.map (·.2))).map iT) := by
  rw [← sortT_map]
  exact rds_tups fun p hp => h p ((List.mergeSort_perm ks leT).mem_iff.mp hp)
def srtTF : FA := fun Γ rs Ψ => match rs with
  | [a] => (match vw Γ a with | some (.lst xs) => (match tupsOf xs with | some vs => NeT vs ∧ Ψ (Γ ++ [some (.li (((sortT vs).map iT).map .d))]) (.p [Γ.length]) | none => False) | _ => False)
  | _ => False
def srtIF : FA := fun Γ rs Ψ => match rs with
  | [a] => (match vw Γ a with | some (.lst xs) => (match intsOf xs with | some vs => Ψ (Γ ++ [some (.li (((sortI vs).map .int).map .d))]) (.p [Γ.length]) | none => False) | _ => False)
  | _ => False
def srtSTF : FA := fun Γ rs Ψ => match rs with
  | [a] => (match vw Γ a with | some (.lst xs) => (match tupsOf xs with | some vs => (vs.length < 64 ∧ NeT (ddp vs)) ∧ Ψ (Γ ++ [some (.li (((sortT (ddp vs)).map iT).map .d))]) (.p [Γ.length]) | none => False) | _ => False)
  | _ => False
def srtSIF : FA := fun Γ rs Ψ => match rs with
  | [a] => (match vw Γ a with | some (.lst xs) => (match intsOf xs with | some vs => vs.length < 64 ∧ Ψ (Γ ++ [some (.li (((sortI (ddp vs)).map .int).map .d))]) (.p [Γ.length]) | none => False) | _ => False)
  | _ => False
section
variable {K : PySem.W.Frag}
theorem cd_srtT : CallD K (rSrtL K) srtTF := by
  intro c Γ rs vs Ψ Q st vr q k
  unfold srtTF at q
  split at q
  · cases vr with
    | cons v1 vr =>
      cases vr
      split at q
      · rename_i xs hx
        split at q
        · rename_i ws hi
          obtain ⟨a, us, rfl, h1, h2⟩ := (st.vd v1 hx).lst st
          obtain ⟨ks, rfl, rfl, hk⟩ := tupsOf_rds h2 hi
          refine ⟨a, ks, rfl, .of h1, fun p hp => same_seqT st.sub (hk p hp), q.1, fun p hp => ?_⟩
          obtain ⟨st4, e4, v4⟩ := st.temp hp (rds_srt hk)
          exact k _ _ _ _ e4 st4 v4 q.2
        · exact q.elim
      · exact q.elim
  · exact q.elim
theorem cd_srtI : CallD K (rSortedI K) srtIF := by
  intro c Γ rs vs Ψ Q st vr q k
  unfold srtIF at q
  split at q
  · cases vr with
    | cons v1 vr =>
      cases vr
      split at q
      · rename_i xs hx
        split at q
        · rename_i ws hi
          obtain ⟨a, us, rfl, h1, h2⟩ := (st.vd v1 hx).lst st
          have := intsOf_rds h2 hi
          subst this
          refine ⟨a, ws, rfl, .of h1, fun ns' p pm le hp => ?_⟩
          rw [sortI_uniq pm le]
          obtain ⟨st4, e4, v4⟩ := st.temp hp (rds_ints (K := K) (F := c.F) (sortI ws))
          exact k _ _ _ _ e4 st4 v4 q
        · exact q.elim
      · exact q.elim
  · exact q.elim
theorem cd_srtST {P : Program} {w : World} : CallD K (fun xs H Q => rSetOfT K P w xs H fun v H1 => rSrtS K P w [v] H1 Q) srtSTF := by
  intro c Γ rs vs Ψ Q st vr q k
  unfold srtSTF at q
  split at q
  · cases vr with
    | cons v1 vr =>
      cases vr
      split at q
      · rename_i xs hx
        split at q
        · rename_i ws hi
          obtain ⟨⟨q1, q2⟩, q⟩ := q
          obtain ⟨a, us, rfl, h1, h2⟩ := (st.vd v1 hx).lst st
          obtain ⟨ks, rfl, rfl, hk⟩ := tupsOf_rds h2 hi
          rw [List.length_map] at q1
          refine ⟨a, ks, rfl, .of h1, fun p hp => same_seqT st.sub (hk p hp), q1, fun d L hd hL1 hL2 => ?_⟩
          obtain ⟨st3, e3⟩ := st.froz (o := SetTO P w d L) hd
          have sL : ∀ p ∈ L, SqT K (c.froz d (SetTO P w d L)).F p.1 (p.2.map V.int) := fun p hp => same_seqT e3.f (hk p (hL1 p hp))
          have hm : ∀ x, x ∈ L.map (·.2) ↔ x ∈ ks.map (·.2) := fun x => ⟨fun hx => by
            obtain ⟨p, hp, rfl⟩ := List.mem_map.mp hx
            exact List.mem_map.mpr ⟨p, hL1 p hp, rfl⟩, fun hx => by
            obtain ⟨p, hp, rfl⟩ := List.mem_map.mp hx
            exact hL2 p hp⟩
          have fin : ∀ (L' : List AK) p, L'.Perm L → (L.map (·.2)).Nodup → (upd c.H d (SetTO P w d L)) p = none → Q (.ref p) (upd (upd c.H d (SetTO P w d L)) p (.lst ((L'.mergeSort leT).map rfV))) := fun L' p pm nd hp => by
            have r := rds_srt (K := K) (F := (c.froz d (SetTO P w d L)).F) (ks := L') fun p hp => sL p (pm.mem_iff.mp hp)
            have e : sortT (L'.map (·.2)) = sortT (ddp (ks.map (·.2))) := sortT_congr ((pm.map _).trans (ddp_perm nd hm))
            rw [e] at r
            obtain ⟨st4, e4, v4⟩ := st3.temp (p := p) hp r
            exact k _ _ _ _ ((e3.trans e4).le fun z => by simpa using z) st4 v4 q
          exact ⟨d, L, rfl, upd_same, fun p hp => same_seqT st3.sub (sL p hp), fun ne => NeT.perm (ddp_perm ne hm) q2, fin⟩
        · exact q.elim
      · exact q.elim
  · exact q.elim
theorem cd_srtSI {w : World} : CallD K (fun xs H Q => rSetI K w xs H fun v H1 => rSortedSet w [v] H1 Q) srtSIF := by
  intro c Γ rs vs Ψ Q st vr q k
  unfold srtSIF at q
  split at q
  · cases vr with
    | cons v1 vr =>
      cases vr
      split at q
      · rename_i xs hx
        split at q
        · rename_i ws hi
          obtain ⟨q1, q⟩ := q
          obtain ⟨a, us, rfl, h1, h2⟩ := (st.vd v1 hx).lst st
          have := intsOf_rds h2 hi
          subst this
          refine ⟨a, ws, rfl, .of h1, by unfold scanBound; omega, fun d n hd hn => ?_⟩
          obtain ⟨st3, e3⟩ := st.froz (o := SetO w d (fun j => decide (j ∈ ws)) n) hd
          refine ⟨d, _, n, rfl, upd_same, by omega, fun ns p lt mem _ hp => ?_⟩
          have e : ns = sortI (ddp ws) := sortI_uniq (ddp_perm (lt.imp fun h => Int.ne_of_lt h) fun x => by rw [mem]; simp) (lt.imp fun h => Int.le_of_lt h)
          subst e
          obtain ⟨st4, e4, v4⟩ := st3.temp (p := p) hp (rds_ints (K := K) (sortI (ddp ws)))
          exact k _ _ _ _ ((e3.trans e4).le fun z => by simpa using z) st4 v4 q
        · exact q.elim
      · exact q.elim
  · exact q.elim
end
section
variable {S : Cs} {m : Bool} {p p2 pos pos2 : Pos} {e : Expr} {t : TAD}
theorem pd_sortT (hm : S.mg ("sorted" : Str) = none) (ha : PAD S m [e] t) (hg : S.sc.names.lookup ("sorted" : Str) = some .globalImplicit := by rfl) (he : ∀ env, starEach [e] env = (false, eval e env) :: starEach [] env := by intro _; rfl) (hpl : ∀ env, (backTo pos (starEach [] env)).any (·.1) = false := by intro _; rfl) : PD S m (.Call (.Name "sorted" p) [e] [] pos) (tCBD srtTF t) :=
  pd_callB (r := rSrtL S.K) (fun X hX => by rw [← hX.K]; exact cr_srtL (roomW hX.room)) cd_srtT hg hm (by decide +kernel) ha (by decide) (by decide) he hpl
theorem pd_sortI (hm : S.mg ("sorted" : Str) = none) (ha : PAD S m [e] t) (hg : S.sc.names.lookup ("sorted" : Str) = some .globalImplicit := by rfl) (he : ∀ env, starEach [e] env = (false, eval e env) :: starEach [] env := by intro _; rfl) (hpl : ∀ env, (backTo pos (starEach [] env)).any (·.1) = false := by intro _; rfl) : PD S m (.Call (.Name "sorted" p) [e] [] pos) (tCBD srtIF t) :=
  pd_callB (r := rSortedI S.K) (fun X hX => by rw [← hX.K]; exact cr_sortedI) cd_srtI hg hm (by decide +kernel) ha (by decide) (by decide) he hpl
theorem pd_sortST (hm : S.mg ("sorted" : Str) = none) (hm2 : S.mg ("set" : Str) = none) (ha : PAD S m [e] t) (hg : S.sc.names.lookup ("sorted" : Str) = some .globalImplicit := by rfl) (hg2 : S.sc.names.lookup ("set" : Str) = some .globalImplicit := by rfl)
    (he : ∀ env, starEach [e] env = (false, eval e env) :: starEach [] env := by intro _; rfl) (hpl : ∀ env, (backTo pos2 (starEach [] env)).any (·.1) = false := by intro _; rfl) (he2 : ∀ env, starEach [Expr.Call (.Name "set" p2) [e] [] pos2] env = (false, eval (.Call (.Name "set" p2) [e] [] pos2) env) :: starEach [] env := by intro _; rfl) (hpl2 : ∀ env, (backTo pos (starEach [] env)).any (·.1) = false := by intro _; rfl) :
    PD S m (.Call (.Name "sorted" p) [.Call (.Name "set" p2) [e] [] pos2] [] pos) (tCBD srtSTF t) := by
  obtain ⟨ua, a1, a2⟩ := ha.ex
  refine ⟨tCB (fun xs H Q => rSetOfT S.K S.P S.w xs H fun v H1 => rSrtS S.K S.P S.w [v] H1 Q) ua, fun X hX => ?_, le_cb cd_srtST a2⟩
  have i1 : PE X (.Call (.Name "set" p2) [e] [] pos2) (tCB (rSetOfT S.K S.P S.w) ua) := by
    rw [← hX.K, ← hX.prog, ← hX.w]
    exact pe_callTy (cr_setOfT hX.calm (roomW hX.room)) (by show X.env.scope.names.lookup _ = _; rw [hX.sc]; exact hg2) (by rw [hX.mg]; exact hm2) (by decide +kernel) (a1 X hX) (by decide) (by decide) (he _) (hpl _)
  have i2 := pe_callB (p := p) (pos := pos) (cr_srtS hX.calm (roomW hX.room)) (by show X.env.scope.names.lookup ("sorted" : Str) = _; rw [hX.sc]; exact hg) (by rw [hX.mg]; exact hm) (by decide +kernel) (pa_cons i1 pa_nil (he2 _)) (by decide) (by decide) (he2 _) (hpl2 _)
  rw [hX.K, hX.prog, hX.w] at i2
  exact i2
theorem pd_sortSI (hm : S.mg ("sorted" : Str) = none) (hm2 : S.mg ("set" : Str) = none) (ha : PAD S m [e] t) (hg : S.sc.names.lookup ("sorted" : Str) = some .globalImplicit := by rfl) (hg2 : S.sc.names.lookup ("set" : Str) = some .globalImplicit := by rfl)
    (he : ∀ env, starEach [e] env = (false, eval e env) :: starEach [] env := by intro _; rfl) (hpl : ∀ env, (backTo pos2 (starEach [] env)).any (·.1) = false := by intro _; rfl) (he2 : ∀ env, starEach [Expr.Call (.Name "set" p2) [e] [] pos2] env = (false, eval (.Call (.Name "set" p2) [e] [] pos2) env) :: starEach [] env := by intro _; rfl) (hpl2 : ∀ env, (backTo pos (starEach [] env)).any (·.1) = false := by intro _; rfl) :
    PD S m (.Call (.Name "sorted" p) [.Call (.Name "set" p2) [e] [] pos2] [] pos) (tCBD srtSIF t) := by
  obtain ⟨ua, a1, a2⟩ := ha.ex
  refine ⟨tCB (fun xs H Q => rSetI S.K S.w xs H fun v H1 => rSortedSet S.w [v] H1 Q) ua, fun X hX => ?_, le_cb cd_srtSI a2⟩
  have i1 : PE X (.Call (.Name "set" p2) [e] [] pos2) (tCB (rSetI S.K S.w) ua) := by
    rw [← hX.K, ← hX.w]
    exact pe_callTy (cr_setI hX.calm) (by show X.env.scope.names.lookup _ = _; rw [hX.sc]; exact hg2) (by rw [hX.mg]; exact hm2) (by decide +kernel) (a1 X hX) (by decide) (by decide) (he _) (hpl _)
  have i2 := pe_callB (p := p) (pos := pos) (cr_sortedSet hX.calm) (by show X.env.scope.names.lookup ("sorted" : Str) = _; rw [hX.sc]; exact hg) (by rw [hX.mg]; exact hm) (by decide +kernel) (pa_cons i1 pa_nil (he2 _)) (by decide) (by decide) (he2 _) (hpl2 _)
  rw [hX.w] at i2
  exact i2
end
end Mv
set_option Elab.async false
set_option linter.all false
set_option maxRecDepth 100000
namespace Mv
open PySem PySem.Spec PyProof.Rows L2
/-! ### sorted({v: True for v in ..}) -/
def tSrtDc (ti : TID) : TD := fun Γ Ψ => ti Γ fun Γ1 _ xs => match tupsOf xs with
  | some vs => (NeT (ddp vs) ∧ vs.length < sizeLine) ∧ Ψ (Γ1 ++ [some (.li (((sortT (ddp vs)).map iT).map .d))]) (.p [Γ1.length])
  | none => False
theorem tupsOf_eq : ∀ {xs : List D} {vs : List (List Int)}, tupsOf xs = some vs → xs = vs.map iT
  | [], _, e => by cases e; rfl
  | .tup ys :: xs, _, e => by
    simp only [tupsOf] at e
    split at e
    · rename_i is hi
      split at e
      · rename_i ts ht
        cases e
        rw [List.map_cons, ← tupsOf_eq ht]
        have : ∀ {ys : List D} {is : List Int}, intsOf ys = some is → ys = is.map .int := by
          intro ys
          induction ys with
          | nil => intro is h; cases h; rfl
          | cons y ys ih =>
            intro is h
            cases y with
            | int i =>
              simp only [intsOf] at h
              split at h
              · rename_i is' h'
                cases h
                rw [List.map_cons, ← ih h']
              · cases h
            | _ => cases h
        rw [this hi]
      · cases e
    · cases e
  | .int _ :: _, _, e => by cases e
  | .non :: _, _, e => by cases e
  | .bl _ :: _, _, e => by cases e
  | .str _ :: _, _, e => by cases e
  | .lst _ :: _, _, e => by cases e
  | .sq _ :: _, _, e => by cases e
  | .obj _ _ _ :: _, _, e => by cases e
  | .ty _ :: _, _, e => by cases e
  | .cls _ :: _, _, e => by cases e
theorem rd_iT {K : PySem.W.Frag} {F : Hp} {v : V} {k : List Int} (h : RD K F v (iT k)) : ∃ a, v = .ref a ∧ SqT K F a (k.map V.int) := by
  cases h with
  | @tup a us _ h1 h2 =>
    have := intsOf_rds h2 (intsOf_map k)
    subst this
    exact ⟨a, rfl, h1⟩
structure DcI (K : PySem.W.Frag) (P : Program) (w : World) (c1 : Cf) (D : Addr) (vs : List (List Int)) (j : Nat) (H : Hp) (F2 : Hp) (L : List AK) : Prop where
  f : Same c1.F F2
  fh : Same F2 H
  h : Same c1.H H
  t : ∀ a q, c1.ω a = some q → F2 a = none
  g : ∀ a o, F2 a = some o → c1.F a = some o ∨ c1.H a = none
  d0 : F2 D = none
  d : H D = some (DctO P w D L)
  len : L.length ≤ j
  tu : ∀ p ∈ L, SqT K F2 p.1 (p.2.map V.int)
  nd : (L.map (·.2)).Nodup
  mem : ∀ k, k ∈ L.map (·.2) ↔ k ∈ vs.take j
theorem DcI.put {K : PySem.W.Frag} {P : Program} {w : World} {c1 : Cf} {D a : Addr} {vs : List (List Int)} {j : Nat} {H F2 : Hp} {L : List AK} {k : List Int} (I : DcI K P w c1 D vs j H F2 L) (hD : c1.H D = none) (hk : vs[j]? = some k) (ha : SqT K F2 a (k.map V.int)) :
    DcI K P w c1 D vs (j + 1) (upd H D (DctO P w D (putT L (a, k)))) F2 (putT L (a, k)) where
  f := I.f
  fh := fun b o e => by
    rw [upd_ne]
    · exact I.fh b o e
    · rintro rfl
      rw [I.d0] at e
      cases e
  h := fun b o e => by
    rw [upd_ne (ne_of_none e hD)]
    exact I.h b o e
  t := I.t
  g := I.g
  d0 := I.d0
  d := upd_same
  len := by
    have := I.len
    unfold putT
    split
    · omega
    · rw [List.length_append]
      simp only [List.length_cons, List.length_nil]
      omega
  tu := fun p hp => by
    unfold putT at hp
    split at hp
    · exact I.tu p hp
    · rcases List.mem_append.mp hp with hp | hp
      · exact I.tu p hp
      · rw [List.mem_singleton.mp hp]
        exact ha
  nd := by
    unfold putT
    split
    · exact I.nd
    · rename_i h
      rw [List.map_append, List.nodup_append]
      refine ⟨I.nd, by simp, fun x hx y hy e => ?_⟩
      have hy : y = k := by simpa using hy
      subst hy
      subst e
      exact h hx
  mem := fun x => by
    rw [List.take_add_one, hk, List.mem_append, ← I.mem x]
    unfold putT
    split
    · rename_i h
      constructor
      · exact .inl
      · rintro (z | z)
        · exact z
        · have z : x = k := by simpa using z
          rw [z]
          exact h
    · rw [List.map_append, List.mem_append]
      simp
theorem DcI.new {K : PySem.W.Frag} {P : Program} {w : World} {c1 : Cf} {D p : Addr} {vs : List (List Int)} {j : Nat} {H F2 : Hp} {L : List AK} {o : HO} (I : DcI K P w c1 D vs j H F2 L) (own : ∀ a q, c1.ω a = some q → ∃ o, c1.H a = some o) (hp : H p = none) : DcI K P w c1 D vs j (upd H p o) (upd F2 p o) L := by
  have e1 : Same F2 (upd F2 p o) := fun b u e => by
    rw [upd_ne (ne_of_none (I.fh b u e) hp)]
    exact e
  have hc : c1.H p = none := by
    cases e : c1.H p with
    | none => rfl
    | some u => have := I.h p u e; rw [hp] at this; cases this
  have hDp : D ≠ p := ne_of_none I.d hp
  refine ⟨I.f.trans e1, fun b u e => ?_, fun b u e => ?_, fun a q e => ?_, fun a u e => ?_, ?_, ?_, I.len, fun q hq => same_seqT e1 (I.tu q hq), I.nd, I.mem⟩
  · by_cases z : b = p
    · subst z
      rw [upd_same] at e ⊢
      exact e
    · rw [upd_ne z] at e ⊢
      exact I.fh b u e
  · rw [upd_ne (ne_of_none (I.h b u e) hp)]
    exact I.h b u e
  · by_cases z : a = p
    · subst z
      obtain ⟨u, hu⟩ := own _ _ e
      rw [hc] at hu
      cases hu
    · rw [upd_ne z]
      exact I.t a q e
  · by_cases z : a = p
    · subst z
      exact .inr hc
    · rw [upd_ne z] at e
      exact I.g a u e
  · rw [upd_ne hDp]
    exact I.d0
  · rw [upd_ne hDp]
    exact I.d
theorem DcI.stt {K : PySem.W.Frag} {P : Program} {w : World} {c1 : Cf} {Γ1 : Env} {D : Addr} {vs : List (List Int)} {j : Nat} {H F2 : Hp} {L : List AK} (I : DcI K P w c1 D vs j H F2 L) (st : Stt K c1 Γ1) : Stt K ⟨F2, H, c1.ω, c1.σ, c1.τ⟩ Γ1 ∧ ExtE false c1 ⟨F2, H, c1.ω, c1.σ, c1.τ⟩ := by
  refine ⟨⟨I.fh, fun a q e => ?_, st.len, fun i t e => ?_⟩, ⟨⟨I.f, fun a o e n => ⟨I.h a o e, n⟩, fun a o e => (I.g a o e).imp id .inl, fun a e => ?_⟩, rfl, ⟨[], by simp⟩, fun _ => I.h⟩⟩
  · obtain ⟨_, o, ho⟩ := st.own a q e
    exact ⟨I.t a q e, o, I.h a o ho⟩
  · obtain ⟨v, h1, h2⟩ := st.at_ i t e
    exact ⟨v, h1, h2.move I.f fun a r o h3 h4 => ⟨I.h a o h4, h3⟩⟩
  · cases e' : c1.H a with
    | none => rfl
    | some o =>
      have := I.h a o e'
      rw [show H a = none from e] at this
      cases this
section
variable {S : Cs} {m : Bool} {p p1 p2 p3 px pos pos2 : Pos} {iter : Expr} {scope : Scope} {x : Str} {ti : TID}
theorem pd_sortDc {kk : Nat} (i : Nat) (hi : PID S m (.Name x px) iter ti) (hm : S.mg ("sorted" : Str) = none) (hN : S.N[i]? = some x := by rfl) (hv : Vis (relS scope S.sc) x := by first | exact Or.inl rfl | exact Or.inr (Or.inl rfl) | exact Or.inr (Or.inr rfl)) (hl : L2.Loc (relS scope S.sc) x := by first | exact Or.inl rfl | exact Or.inr rfl)
    (hf : (scope.names.lookup x == some .cell) = true ∨ (relS scope S.sc).names.lookup x = some .local := by first | exact Or.inl rfl | exact Or.inr rfl) (ok : blkC S.N S.sc scope [(x, i)] = true := by kernel_rfl) (hd : (x == ("__debug__" : Str)) = false := by decide) (hcd : (x == ("__classdict__" : Str)) = false := by decide)
    (hg : S.sc.names.lookup ("sorted" : Str) = some .globalImplicit := by rfl) (hs : ∀ env x, foldedSetIterable iter env x = pure x := by intro _ _; rfl)
    (he2 : ∀ env e, starEach [Expr.DictComp e (.Constant (.bool true) kk p3) [⟨.Name x px, iter, [], 0⟩] scope pos2] env = (false, eval (.DictComp e (.Constant (.bool true) kk p3) [⟨.Name x px, iter, [], 0⟩] scope pos2) env) :: starEach [] env := by intro _ _; rfl) (hpl : ∀ env, (backTo pos (starEach [] env)).any (·.1) = false := by intro _; rfl) :
    PD S m (.Call (.Name "sorted" p) [.DictComp (.Name x p1) (.Constant (.bool true) kk p3) [⟨.Name x px, iter, [], 0⟩] scope pos2] [] pos) (tSrtDc ti) := by
  obtain ⟨wi, i1, i2⟩ := hi.ex
  refine ⟨tCB (rSrtD S.K S.P S.w) (tCons (tDcB S.K S.P S.w wi (gName i) (tVar i) (tC (.bl true)) [i]) tNil), fun X hX => ?_, fun c Γ Ψ Q hn st h k => ?_⟩
  · have k1 : PE X (.DictComp (.Name x p1) (.Constant (.bool true) kk p3) [⟨.Name x px, iter, [], 0⟩] scope pos2) (tDcB X.K X.prog X.w wi (gName i) (tVar i) (tC (.bl true)) ([(x, i)].map (·.2))) := by
      refine pe_dct hX.calm (by have := roomW hX.room; omega) (by rw [hX.N]; exact hX.nd) (i1 X hX) (by rw [hX.N, hX.sc]; exact blkOk_by ok) (fun s H C cl fp => ?_) (fun s H C cl fp => ?_) (fun s H C cl fp => pe_bl) (hs _)
      · have B := hX.blk scope s H C cl fp
        exact pg_name (i := i) (by rw [B.N]; exact hX.nd) (by rw [B.N]; exact hN) (by rw [B.sc]; exact hl) (hf.imp (B.fn x) fun z => by rw [B.sc]; exact z)
      · have B := hX.blk scope s H C cl fp
        exact pe_var (i := i) (by rw [B.N]; exact hN) (by rw [B.sc]; exact hv) hd hcd
    rw [hX.K, hX.prog, hX.w] at k1
    have k2 := pe_callB (p := p) (pos := pos) (cr_srtD hX.calm (roomW hX.room)) (by show X.env.scope.names.lookup ("sorted" : Str) = _; rw [hX.sc]; exact hg) (by rw [hX.mg]; exact hm) (by decide +kernel) (pa_cons k1 pa_nil (he2 _ _)) (by decide) (by decide) (he2 _ _) (hpl _)
    rw [hX.K, hX.prog, hX.w] at k2
    exact k2
  · show wi c.σ c.H fun J H1 => ∀ D, H1 D = none → _
    refine i2 c Γ _ _ hn st h fun J c1 Γ1 b xs G x1 st1 sG sG' GJ q1 D hD => ?_
    split at q1
    · rename_i vs hvs
      obtain ⟨⟨q2, q3⟩, q1⟩ := q1
      have exs := tupsOf_eq hvs
      have hlen : xs.length = vs.length := by rw [exs, List.length_map]
      have hil : i < c1.σ.length := by rw [x1.s, hn]; exact (List.getElem?_eq_some_iff.mp hN).1
      rw [show c.σ = c1.σ from x1.s.symm]
      refine ⟨fun j m H => m = xs.length - j ∧ j ≤ xs.length ∧ ∃ F2 L, DcI S.K S.P S.w c1 D vs j H F2 L, ⟨xs.length, by simp, Nat.zero_le _, c1.F, [], ?_⟩, ?_⟩
      · refine ⟨Same.refl _, fun b o e => ?_, fun b o e => ?_, fun a q e => (st1.own a q e).1, fun a o e => .inl e, ?_, upd_same, Nat.le_refl _, fun p hp => absurd hp (by simp), List.nodup_nil, fun k => by simp⟩
        · rw [upd_ne (ne_of_none (st1.sub b o e) hD)]
          exact st1.sub b o e
        · rw [upd_ne (ne_of_none e hD)]
          exact e
        · cases e : c1.F D with
          | none => rfl
          | some o => have := st1.sub _ _ e; rw [hD] at this; cases this
      · rintro j m H ⟨rfl, hj, F2, L, I⟩
        have SG : Same G H := sG.trans I.h
        by_cases hlt : j < xs.length
        · refine .inr ⟨GJ.go _ _ SG hlt, fun H' => ∃ F2 L, DcI S.K S.P S.w c1 D vs (j + 1) H' F2 L, fun H' hI => ⟨xs.length - (j + 1), by omega, rfl, hlt, hI⟩, fun v H' y => ?_⟩
          have hx : xs[j]? = some xs[j] := by simp
          obtain ⟨kv, hkv⟩ : ∃ kv, vs[j]? = some kv := ⟨vs[j]'(by omega), by simp⟩
          have ex : xs[j] = iT kv := by
            have e : xs[j]? = some (iT kv) := by rw [exs, List.getElem?_map, hkv]; rfl
            rw [hx] at e
            exact Option.some.inj e
          show (fun σ2 H2 => _) ((wipe c1.σ [i]).set i (some v)) H'
          have hw : wipe ((wipe c1.σ [i]).set i (some v)) [i] = wipe c1.σ [i] := by
            simp [wipe]
          refine ⟨hw, v, ?_, ?_⟩
          · rw [List.getElem?_set_self (by rw [wipe_length]; exact hil)]
          · have own : ∀ a q, c1.ω a = some q → ∃ o, c1.H a = some o := fun a q e => (st1.own a q e).2
            rcases GJ.yld H F2 j v H' SG I.f I.fh y _ hx with ⟨rfl, r⟩ | ⟨pp, o, hp0, rfl, r⟩
            · rw [ex] at r
              obtain ⟨a, rfl, ha⟩ := rd_iT r
              exact ⟨L, (a, kv), rfl, rfl, I.d, fun q hq => same_seqT I.fh (I.tu q hq), same_seqT I.fh ha, by have := I.len; omega, F2, _, I.put hD hkv ha⟩
            · rw [ex] at r
              obtain ⟨a, rfl, ha⟩ := rd_iT r
              have I2 := I.new (o := o) own hp0
              exact ⟨L, (a, kv), rfl, rfl, I2.d, fun q hq => same_seqT I2.fh (I2.tu q hq), same_seqT I2.fh ha, by have := I2.len; omega, _, _, I2.put hD hkv ha⟩
        · have ej : j = xs.length := by omega
          subst ej
          refine .inl ⟨GJ.stop _ SG, D, L, rfl, I.d, fun p hp => same_seqT I.fh (I.tu p hp), fun nd => ?_, by have := I.len; omega, fun nd p hp => ?_⟩
          · refine NeT.perm (ddp_perm nd fun k => ?_) q2
            rw [I.mem, hlen, List.take_length]
          · obtain ⟨st2, e2⟩ := I.stt st1
            have r := rds_srt I.tu
            have e : sortT (L.map (·.2)) = sortT (ddp vs) := sortT_congr (ddp_perm I.nd fun k => by rw [I.mem, hlen, List.take_length])
            rw [e] at r
            obtain ⟨st4, e4, v4⟩ := st2.temp (p := p) hp r
            exact k _ _ _ _ (((x1.trans e2).trans e4).le fun z => by simpa using z) st4 v4 q1
    · exact q1.elim
end
end Mv
set_option Elab.async false
set_option linter.all false
set_option maxRecDepth 100000
set_option maxHeartbeats 4000000
namespace Mv
open PySem PySem.Spec PyProof.Rows L2
/-! ### (..) * k -/
theorem mul_one_tup (l : Addr) (items : Array Value) (n : Nat) (dd : Option Addr) (sl : Array (Option Value)) (u : Tok) :
    Meets (Builtin.«tuple.__mul__» ⟨[.ref l, .int 1 u], []⟩) (fun _ R s => s.heap.get? l = some { cls := .type "tuple", dict := dd, data := .seq items n, slots := sl } ∧ R (.ok (.ret (Value.ref l))) s) :=
  .of_wp fun prog w A R s h => by
    obtain ⟨hp, g, d, tk, os⟩ := s
    obtain ⟨hl, h⟩ := h
    have f1 := AutoSeq1.idx_int
    wp_walk using PySem.AutoSeq1.wpAny_loadPart' hl
    exact ⟨_, rfl, h⟩
def rRep1 (K : PySem.W.Frag) : R2 := fun x y H Q => ∃ l xs, x = .ref l ∧ y = .int 1 ∧ SqT K H l xs ∧ Q (.ref l) H
theorem op_rep1 {X : Cx} : OpR X (binaryOp .Mult) (rRep1 X.K) := by
  intro pins s σ H x y v u Q I rx ry h
  obtain ⟨l, xs, rfl, rfl, hT, q⟩ := h
  cases rx
  obtain ⟨t, rfl⟩ := ry
  obtain ⟨its, r, ⟨⟨cls, dd, data, sl⟩, ho, hc, n, hd⟩, hs⟩ := I.tuple hT
  simp only at hc hd
  subst hc hd
  exact wpAny_binaryOp_repeat_ref (T := "tuple") (U := "int") (by decide) ⟨_, ho, rfl⟩ (fun s' => typeIs_int s' 1 t) noFill_tuple_mul F.fills_int_mul F.slot_int_rmul repeat_tuple F.slot_int_index.lookup
    (call_meets F.slot_int_rmul (typeIs_int s 1 t) F.entry_int_rmul (F.args_int_rmul_2 _ _) (int_rmul_tuple 1 t l its.toArray n dd sl)
      ⟨ho, rfl, ⟨_, ho, rfl⟩, call_meets F.slot_tuple_mul ⟨_, ho, rfl⟩ F.entry_tuple_mul (F.args_tuple_mul_2 _ _) (mul_one_tup l its.toArray n dd sl t) ⟨ho, .ref l, H, I, rfl, q⟩⟩)
def rRepAll (K : PySem.W.Frag) : R2 := fun x y H Q => rRep1 K x y H Q ∨ rRepT K x y H Q
def repF : F2 := fun Γ a b Ψ => match vw Γ a, vw Γ b with
  | some (.tup xs), some (.int k) => (xs ≠ [] ∧ 1 ≤ k ∧ k ≤ 1000 ∧ xs.length ≤ 1000) ∧ Ψ Γ (.d (.tup (List.replicate k.toNat xs).flatten))
  | _, _ => False
theorem RDs.rep {K : PySem.W.Frag} {F : Hp} {us : List V} {xs : List D} (r : RDs K F us xs) : ∀ k : Nat, RDs K F (List.replicate k us).flatten (List.replicate k xs).flatten
  | 0 => .nil
  | k + 1 => by
    rw [List.replicate_succ, List.replicate_succ, List.flatten_cons, List.flatten_cons]
    exact r.append (RDs.rep r k)
theorem opd_rep {K : PySem.W.Frag} : OpD K (rRepAll K) repF := by
  intro c Γ a b x y Ψ Q st va vb q k
  unfold repF at q
  split at q
  · rename_i xs j h1 h2
    obtain ⟨⟨q1, q2, q3, q4⟩, q⟩ := q
    cases (st.vd vb h2).int
    have d := (st.vd va h1).rd (by intro _ z; cases z)
    obtain ⟨p, us, rfl, e1, r1⟩ := (st.vd va h1).tup st
    by_cases hj : j = 1
    · subst hj
      refine .inl ⟨p, us, rfl, rfl, e1, k _ c Γ (.d _) (ExtE.refl _ _) st ?_ q⟩
      show RD K c.F _ (.tup (List.replicate 1 xs).flatten)
      rw [show (List.replicate 1 xs).flatten = xs by simp]
      exact d
    · refine .inr ⟨p, j, us, rfl, rfl, e1, ?_, by omega, q3, by rw [r1.length]; exact q4, fun w hw => ?_⟩
      · rintro rfl
        cases r1
        exact q1 rfl
      · obtain ⟨st3, e3⟩ := st.froz (o := .tup (List.replicate j.toNat us).flatten) hw
        exact k _ (c.froz w _) Γ (.d _) e3 st3 (RD.tup (.of upd_same) ((r1.rep _).mono e3.f)) q
  · exact q.elim
section
variable {S : Cs} {pos : Pos} {ma mb : Bool} {a b : Expr} {ta tb : TD}
theorem pd_rep (ha : PD S ma a ta) (hb : PD S mb b tb) : PD S (ma || mb) (.BinOp a .Mult b pos) (tBin mb repF ta tb) := pd_op (r := rRepAll S.K) (fun X hX => by rw [← hX.K]; exact op_rep1.or op_repT) opd_rep ha hb
end
/-! ### enumerate(tuple) -/
def Iet (K : PySem.W.Frag) (a : Addr) : It :=
  ⟨fun i H => ∃ (xs : List V) (x : V), SqT K H a xs ∧ xs[i]? = some x, fun i H v H' => ∃ T x, v = .ref T ∧ H T = none ∧ H' = upd H T (.tup [.int (i : Nat), x]) ∧ ∀ xs, SqT K H a xs → xs[i]? = some x, fun i H => ∃ xs : List V, SqT K H a xs ∧ xs.length ≤ i⟩
theorem turn_enT {P : Program} {w : World} {K : PySem.W.Frag} {elts : List Expr} {kk : Nat} {tpos : Pos} (a e it : Addr) (hai : a ≠ it) (hea : e ≠ a) :
    Turn P w K (.Tuple elts kk tpos) (Iet K a) [e, it] e (fun i h => (∃ old, IsEnum h e it ((i : Nat) : Int) old) ∧ h.IsTupleIter it a i ∧ e ≠ it) where
  mem := by simp
  obj := fun i h st b hb => by
    obtain ⟨⟨old, he⟩, ⟨o, ho, hc, hd⟩, _⟩ := st
    rcases (show b = e ∨ b = it by simpa using hb) with z | z
    · rw [z]; exact ⟨_, he, fun v q => nomatch q⟩
    · rw [z]; exact ⟨o, ho, fun v q => by rw [hd] at q; cases q⟩
  keep := fun i h h' st k => let ⟨⟨old, he⟩, hi, hne⟩ := st; ⟨⟨old, k e (by simp) _ he⟩, hi.at fun o q => k it (by simp) o q, hne⟩
  item := by
    intro X hP hw hK hc i pins s σ H E I hf st hg
    subst hP hw hK
    obtain ⟨⟨old, he⟩, hit, hne⟩ := st
    obtain ⟨xs, x, hq, hx⟩ := hg
    obtain ⟨its, rv, p, hz⟩ := I.tuple hq
    obtain ⟨u, hu, ru⟩ := rv.get hx
    have hel : e < s.heap.objs.size := Heap.lt_size he
    have hil : it < s.heap.objs.size := by obtain ⟨_, q, _⟩ := hit; exact Heap.lt_size q
    have hlt : i < its.toArray.size := by
      have := (List.getElem?_eq_some_iff.mp hu).1
      simpa using this
    refine wpAny_pyNext_enum_itemC (Draws.tuple (A := X.A.in1) (I.ok.hd hc) it a hai its.toArray) he ⟨hit, p⟩ hlt hne (by simp only [List.mem_cons, List.not_mem_nil, or_false, not_or]; exact ⟨hne, hea⟩) fun y h1 tk hy ho hit1 hT hsz hk => ?_
    have ey : y = u := by
      have hu' : its.toArray[i]? = some u := by simpa using hu
      rw [hu'] at hy
      exact (Option.some.inj hy).symm
    subst ey
    refine ⟨_, rfl, wpAny_letOwnedTupleGo_enum (s := { s with heap := h1, toks := tk + 1 }) ho fun h2 he2 sb => ?_⟩
    have hT2 : h2.get? s.heap.objs.size = some { cls := .type "tuple", data := .seq #[.int i tk, y] } := (sb.2 _ (Nat.ne_of_gt hel)).trans hT
    have new : ObjOk X.prog X.w (upd H s.heap.objs.size (.tup [.int (i : Nat), x])) h2 s.heap.objs.size (.tup [.int (i : Nat), x]) :=
      ⟨by show 2 ≤ sizeLine; decide, [.int i tk, y], .cons ⟨_, rfl⟩ (.cons ru .nil), ⟨_, hT2, rfl, _, rfl⟩⟩
    have I1 : L2.Inv X pins σ (upd H s.heap.objs.size (.tup [.int (i : Nat), x])) { s with heap := h2, toks := tk + 1 } :=
      I.turnedNew (ch := [e, it]) (fun b ob hb q => (sb.2 b (fun z => hb (by simp [z]))).trans (hk b ob (fun z => hb (by simp [z])) (fun z => hb (by simp [z])) q)) hf (Nat.le_refl _) new
    refine ⟨.ref s.heap.objs.size, _, I1, rfl, ⟨_, x, rfl, I.hok.fresh (Nat.le_refl _), rfl, fun ys hy => by rw [I.tuple_inj hy hq]; exact hx⟩, ⟨⟨y, ?_⟩, hit1.1.at fun o q => (sb.2 it (Ne.symm hne)).trans q, hne⟩, fun b hb => ?_⟩
    · rw [show ((i + 1 : Nat) : Int) = (i : Int) + 1 by omega]
      exact he2
    · have hb' : b < s.heap.objs.size := by
        rcases (show b = e ∨ b = it by simpa using hb) with z | z
        · rw [z]; exact hel
        · rw [z]; exact hil
      rw [upd_ne (Nat.ne_of_lt hb')]
      exact (hf b hb).1
  done := by
    intro X hP hw hK hc i pins s σ H E I hf st hg
    subst hP hw hK
    obtain ⟨⟨old, he⟩, hit, hne⟩ := st
    obtain ⟨xs, hq, hx⟩ := hg
    obtain ⟨its, rv, p, hz⟩ := I.tuple hq
    obtain ⟨f0, f1, f2, f3, f4, f5⟩ := hf it (by simp)
    have hl := rv.length
    have ends : ∀ {Q : Option Value → Shared → Prop}, (∀ h1, Heap.ExtBut it s.heap h1 → Q none { s with heap := h1 }) → wpAny (model X.prog X.w) X.A (pyNext (.ref e)) Q E s := fun {Q} hQ => by
      have hT : s.TypeIs (.ref e) "enumerate" := ⟨_, he, rfl⟩
      unfold pyNext
      refine wpAny_bind (wpAny_attempt (wpAny_callSpecial?_slot (name := Str.ofString "__next__") hT F.slot_enumerate_next (wpAny_call_entry F.slot_enumerate_next hT F.entry_enumerate_next ?_ (F.args_enumerate_next_1 _))))
      show wpAny _ _ (field (.ref e) 2 >>= _) _ _ _
      refine wpAny_bind (wpAny_field he rfl (x := .ref it) rfl ?_)
      refine wpAny_bind (wpAny_nextOf_tuple_end (I.ok.hd hc) hit p (by simp; omega) fun h1 e1 x1 ⟨o, ho, hc1⟩ => ?_)
      refine wpAny_bind (wpAny_isInstance (T := "StopIteration") (b := true) ⟨o, ho, hc1⟩ isSubtype_stop ?_)
      exact wpAny_pure (hQ _ x1)
    exact ends fun h1 eb => ⟨rfl, I.turned (t' := s.toks) (fun b o hb q => eb b o hb q) f0 f1 f3 f4 f5⟩
  self := fun A i s Q E st h => let ⟨⟨_, he⟩, _⟩ := st; wpAny_pyIter_enum he h
theorem new_enT {v : Value} {o : Obj} {H : Heap → Prop} (B : Begins v o H) :
    Meets (Builtin.«enumerate.__new__» ⟨[.type "enumerate", v], []⟩) (fun _ R s => H s.heap ∧
      R (.ok (.ret (.ref (s.heap.push o).objs.size))) { s with heap := (s.heap.push o).push { cls := .type "enumerate", data := .fields #[.none, .bool false, .ref s.heap.objs.size, rawInt 0, .none, .none] } }) :=
  .of_wp fun prog w A R s h => by
    obtain ⟨hp, g, d, tk, os⟩ := s
    obtain ⟨h1, h⟩ := h
    have hsub := sub_enumerate
    have q1 : ∀ {A' : Around} {E : Value → Shared → Prop} {Q : Value → Shared → Prop}, Q (.ref hp.objs.size) ⟨hp.push o, g, d, tk, os⟩ → wpAny (model prog w) A' (pyIter v) Q E ⟨hp, g, d, tk, os⟩ :=
      fun q => B.iter prog w _ _ ⟨hp, g, d, tk, os⟩ _ h1 q
    wp_walk using q1
    refine wpAny_stack_any fun st => wpAny_pure ?_
    split
    · rename_i c _ _ _ _ _
      cases (c == Value.type "enumerate") <;> (wp_walk using q1; exact ⟨_, rfl, h⟩)
    · wp_walk using q1
      exact ⟨_, rfl, h⟩
theorem begins_enT {prog : Program} {w : World} {A : Around} {E : Value → Shared → Prop} {s : Shared} {v : Value} {o : Obj} {H : Heap → Prop} {Q : Value → Shared → Prop} (B : Begins v o H) (h1 : H s.heap)
    (h : ∀ h', IsEnum h' (s.heap.objs.size + 1) s.heap.objs.size 0 .none → h'.get? s.heap.objs.size = some o → h'.objs.size = s.heap.objs.size + 2 → (∀ b o, s.heap.get? b = some o → h'.get? b = some o) → Q (.ref (s.heap.objs.size + 1)) { s with heap := h' }) :
    wpAny (model prog w) A (call (.type "enumerate") [v]) Q E s := by
  refine callType_new F.called_enumerate (by decide) (F.typeCall_enumerate_1 _) (F.newCall_enumerate_1 _) (fun obj => F.args_object_init_2 obj _) F.entry_enumerate_new (new_enT B) ⟨h1, ?_⟩
  have hz : (s.heap.push o).objs.size = s.heap.objs.size + 1 := Heap.size_push ..
  show _ ∧ _
  rw [hz]
  have he : IsEnum ((s.heap.push o).push { cls := .type "enumerate", data := .fields #[.none, .bool false, .ref s.heap.objs.size, rawInt 0, .none, .none] }) (s.heap.objs.size + 1) s.heap.objs.size 0 .none := by
    have g := Heap.get?_push_size (s.heap.push o) (o := { cls := .type "enumerate", data := .fields #[.none, .bool false, .ref s.heap.objs.size, rawInt 0, .none, .none] }) rfl
    rw [hz] at g
    exact g
  exact ⟨⟨_, he, rfl⟩, h _ he (Heap.get?_push_of_some _ (Heap.get?_push_size _ B.free)) (by rw [Heap.size_push, hz]) fun b o x => Heap.get?_push_of_some _ (Heap.get?_push_of_some _ x)⟩
def iEnA (K : PySem.W.Frag) (ta : TA) : TI := fun σ H R => ta σ H fun vs H1 => ∃ a xs, vs = [.ref a] ∧ ((SqL K H1 a xs ∧ R (Ite K a) H1) ∨ (SqT K H1 a xs ∧ R (Iet K a) H1))
theorem pi_enA {X : Cx} {e : Expr} {ta : TA} {p pos tpos : Pos} {elts : List Expr} {kk : Nat} (hg : Gl X "enumerate") (hm : X.mg "enumerate" = none) (ha : PA X [e] ta) (hs : starEach [e] X.env = [(false, eval e X.env)] := by rfl) :
    PI X (.Tuple elts kk tpos) (.Call (.Name "enumerate" p) [e] [] pos) (iEnA X.K ta) := by
  refine ⟨fun pins s σ H R I h => ?_⟩
  refine Call_ (ld_blt I hg hm boot_enumerate (PyProof.Rows.callWith_type1 (thn (ha.run pos pins s σ H _ I h) fun us s1 ⟨vs, H1, I1, r1, q1⟩ => ?_) hs rfl))
  obtain ⟨a, xs, rfl, q1⟩ := q1
  obtain rfl := Vals.ref1 r1
  have fp : ∀ b ∈ [s1.heap.objs.size + 1, s1.heap.objs.size], FpOk X pins H1 b := fun b hb => by
    have hle : s1.heap.objs.size ≤ b := by
      rcases (show b = s1.heap.objs.size + 1 ∨ b = s1.heap.objs.size by simpa using hb) with z | z
      · rw [z]; exact Nat.le_add_right _ _
      · rw [z]; exact Nat.le_refl _
    exact I1.fpOk hle (I1.hok.fresh hle)
  rcases q1 with ⟨hq, q⟩ | ⟨hq, q⟩
  · obtain ⟨its, rv, p', hz⟩ := I1.list hq
    refine call_enumerate_list p'.isList fun h' he hit hsz hk => wpAny_pyIter_enum he ?_
    have I2 : L2.Inv X pins σ H1 { s1 with heap := h' } := I1.kept (t' := s1.toks) hk
    exact ⟨s1.heap.objs.size + 1, [s1.heap.objs.size + 1, s1.heap.objs.size], _, _, H1, rfl, I2, turn_enum a (s1.heap.objs.size + 1) s1.heap.objs.size, ⟨⟨.none, he⟩, hit, Nat.succ_ne_self _⟩, fp, q⟩
  · obtain ⟨its, rv, p', hz⟩ := I1.tuple hq
    have hal : a < s1.heap.objs.size := p'.lt
    refine begins_enT (begins_tuple a its.toArray) p' fun h' he hit hsz hk => wpAny_pyIter_enum he ?_
    have I2 : L2.Inv X pins σ H1 { s1 with heap := h' } := I1.kept (t' := s1.toks) hk
    exact ⟨s1.heap.objs.size + 1, [s1.heap.objs.size + 1, s1.heap.objs.size], _, _, H1, rfl, I2, turn_enT a (s1.heap.objs.size + 1) s1.heap.objs.size (Nat.ne_of_lt hal) (Nat.ne_of_gt (Nat.lt_succ_of_lt hal)), ⟨⟨.none, he⟩, ⟨_, hit, rfl, rfl⟩, Nat.succ_ne_self _⟩, fp, q⟩
end Mv
set_option Elab.async false
set_option linter.all false
set_option maxRecDepth 100000
namespace Mv
open PySem PySem.Spec PyProof.Rows L2
/-! ### enumerate, by the data -/
def enumD (n : Nat) : List D → List D
  | [] => []
  | x :: xs => .tup [.int n, x] :: enumD (n + 1) xs
theorem enumD_length : ∀ {n : Nat} {xs : List D}, (enumD n xs).length = xs.length
  | _, [] => rfl
  | n, x :: xs => by rw [enumD, List.length_cons, enumD_length, List.length_cons]
theorem enumD_get : ∀ {n : Nat} {xs : List D} {i : Nat} {z : D}, (enumD n xs)[i]? = some z → ∃ x, xs[i]? = some x ∧ z = .tup [.int (n + i : Nat), x]
  | _, [], _, _, h => by simp [enumD] at h
  | n, x :: xs, 0, z, h => by
    simp [enumD] at h
    exact ⟨x, rfl, h.symm⟩
  | n, x :: xs, i + 1, z, h => by
    obtain ⟨a, h1, h2⟩ := enumD_get (n := n + 1) (xs := xs) (i := i) (z := z) (by simpa [enumD] using h)
    refine ⟨a, by simpa using h1, ?_⟩
    rw [h2, show n + 1 + i = n + (i + 1) by omega]
theorem goD_el {K : PySem.W.Frag} {G F : Hp} {a : Addr} {us : List V} {xs : List D} (h : SqL K G a us) (r : RDs K F us xs) : GoD K (Ite K a) G F (enumD 0 xs) where
  go := fun H i s hi => by
    rw [enumD_length] at hi
    obtain ⟨v, e, _⟩ := r.get (i := i) (x := xs[i]) (by simp [hi])
    exact ⟨us, v, s.seq h, e⟩
  stop := fun H s => ⟨us, s.seq h, by rw [enumD_length, r.length]; exact Nat.le_refl _⟩
  yld := fun H F' i v H' s f sf y x e => by
    obtain ⟨T, x1, rfl, hT, rfl, hx⟩ := y
    obtain ⟨p, e1, rfl⟩ := enumD_get e
    obtain ⟨v1, g1, r1⟩ := r.get e1
    rw [hx us (s.seq h)] at g1
    cases g1
    rw [Nat.zero_add]
    exact .inr ⟨T, _, hT, rfl, pair_rd sf hT (.int _) (r1.mono f)⟩
theorem goD_et {K : PySem.W.Frag} {G F : Hp} {a : Addr} {us : List V} {xs : List D} (h : SqT K G a us) (r : RDs K F us xs) : GoD K (Iet K a) G F (enumD 0 xs) where
  go := fun H i s hi => by
    rw [enumD_length] at hi
    obtain ⟨v, e, _⟩ := r.get (i := i) (x := xs[i]) (by simp [hi])
    exact ⟨us, v, same_seqT s h, e⟩
  stop := fun H s => ⟨us, same_seqT s h, by rw [enumD_length, r.length]; exact Nat.le_refl _⟩
  yld := fun H F' i v H' s f sf y x e => by
    obtain ⟨T, x1, rfl, hT, rfl, hx⟩ := y
    obtain ⟨p, e1, rfl⟩ := enumD_get e
    obtain ⟨v1, g1, r1⟩ := r.get e1
    rw [hx us (same_seqT s h)] at g1
    cases g1
    rw [Nat.zero_add]
    exact .inr ⟨T, _, hT, rfl, pair_rd sf hT (.int _) (r1.mono f)⟩
def tEnB (t : TAD) : TID := fun Γ Ψ => t Γ fun Γ1 rs => match rs with
  | [a] => (match vw Γ1 a with
    | some (.lst xs) => Ψ Γ1 true (enumD 0 xs)
    | some (.tup xs) => Ψ Γ1 true (enumD 0 xs)
    | _ => False)
  | _ => False
def tEnF (t : TAD) : TID := fun Γ Ψ => t Γ fun Γ1 rs => match rs with
  | [a] => asD Γ1 a fun Γ2 x => (match x with
    | .lst xs => Ψ Γ2 false (enumD 0 xs)
    | .tup xs => Ψ Γ2 false (enumD 0 xs)
    | _ => False)
  | _ => False
def tZipF (t : TAD) : TID := fun Γ Ψ => t Γ fun Γ1 rs => asDs Γ1 rs fun Γ2 zs => match zs with
  | [.lst xs, .lst ys] => Ψ Γ2 false (zipD xs ys)
  | [.tup xs, .tup ys] => Ψ Γ2 false (zipD xs ys)
  | _ => False
section
variable {S : Cs} {m : Bool} {p pos tpos : Pos} {e e2 : Expr} {elts : List Expr} {kk : Nat} {t : TAD}
theorem pid_enumB (hm : S.mg ("enumerate" : Str) = none) (h : PAD S m [e] t) (hg : S.sc.names.lookup ("enumerate" : Str) = some .globalImplicit := by rfl) (hs : ∀ env, starEach [e] env = [(false, eval e env)] := by intro _; rfl) : PID S m (.Tuple elts kk tpos) (.Call (.Name "enumerate" p) [e] [] pos) (tEnB t) := by
  obtain ⟨ua, a1, a2⟩ := h.ex
  refine ⟨iEnA S.K ua, fun X hX => by rw [← hX.K]; exact pi_enA (by show X.env.scope.names.lookup _ = _; rw [hX.sc]; exact hg) (by rw [hX.mg]; exact hm) (a1 X hX) (hs _), fun c Γ Ψ R hn st h k => ?_⟩
  refine a2 c Γ _ _ hn st h fun vs c1 Γ1 rs e1 st1 v1 q1 => ?_
  split at q1
  · cases v1 with
    | cons v1 vr =>
      cases vr
      split at q1
      · rename_i xs hi
        obtain ⟨a, us, rfl, g1, g2⟩ := (st1.vd v1 hi).lst st1
        exact ⟨a, us, rfl, .inl ⟨.of g1, k _ c1 Γ1 true _ c1.H e1 st1 (Same.refl _) (fun z => by cases z) (goD_el (.of g1) g2) q1⟩⟩
      · rename_i xs hi
        obtain ⟨a, us, rfl, g1, g2⟩ := (st1.vd v1 hi).tup st1
        exact ⟨a, us, rfl, .inr ⟨g1, k _ c1 Γ1 true _ c1.H e1 st1 (Same.refl _) (fun z => by cases z) (goD_et g1 g2) q1⟩⟩
      · exact q1.elim
  · exact q1.elim
theorem pid_enumF (hm : S.mg ("enumerate" : Str) = none) (h : PAD S m [e] t) (hg : S.sc.names.lookup ("enumerate" : Str) = some .globalImplicit := by rfl) (hs : ∀ env, starEach [e] env = [(false, eval e env)] := by intro _; rfl) : PID S m (.Tuple elts kk tpos) (.Call (.Name "enumerate" p) [e] [] pos) (tEnF t) := by
  obtain ⟨ua, a1, a2⟩ := h.ex
  refine ⟨iEnA S.K ua, fun X hX => by rw [← hX.K]; exact pi_enA (by show X.env.scope.names.lookup _ = _; rw [hX.sc]; exact hg) (by rw [hX.mg]; exact hm) (a1 X hX) (hs _), fun c Γ Ψ R hn st h k => ?_⟩
  refine a2 c Γ _ _ hn st h fun vs c1 Γ1 rs e1 st1 v1 q1 => ?_
  split at q1
  · cases v1 with
    | cons v1 vr =>
      cases vr
      obtain ⟨c2, Γ2, x, e2, st2, d2, q2, eh, et, _⟩ := asD_ok st1 v1 q1
      rw [← eh]
      split at q2
      · cases d2 with
        | lst g1 g2 => exact ⟨_, _, rfl, .inl ⟨.of (st2.sub _ _ g1), k _ c2 Γ2 false _ c2.F ((e1.trans e2).le fun z => by simpa using z) st2 st2.sub (fun _ => Same.refl _) (goD_el (.of g1) g2) q2⟩⟩
      · cases d2 with
        | tup g1 g2 => exact ⟨_, _, rfl, .inr ⟨same_seqT st2.sub g1, k _ c2 Γ2 false _ c2.F ((e1.trans e2).le fun z => by simpa using z) st2 st2.sub (fun _ => Same.refl _) (goD_et g1 g2) q2⟩⟩
      · exact q2.elim
  · exact q1.elim
theorem pid_zipF (hm : S.mg ("zip" : Str) = none) (h : PAD S m [e, e2] t) (hg : S.sc.names.lookup ("zip" : Str) = some .globalImplicit := by rfl)
    (hs : ∀ env, starEach [e, e2] env = (false, eval e env) :: starEach [e2] env := by intro _; rfl) (hpl : ∀ env, (backTo pos (starEach [e2] env)).any (·.1) = false := by intro _; rfl) : PID S m (.Tuple elts kk tpos) (.Call (.Name "zip" p) [e, e2] [] pos) (tZipF t) := by
  obtain ⟨ua, a1, a2⟩ := h.ex
  refine ⟨RZ.iZipA S.K ua, fun X hX => by rw [← hX.K]; exact RZ.pi_zipA (by show X.env.scope.names.lookup _ = _; rw [hX.sc]; exact hg) (by rw [hX.mg]; exact hm) (a1 X hX) (hs _) (hpl _), fun c Γ Ψ R hn st h k => ?_⟩
  refine a2 c Γ _ _ hn st h fun vs c1 Γ1 rs e1 st1 v1 q1 => ?_
  obtain ⟨c2, Γ2, zs, e2, st2, d2, q2, eh, et⟩ := asDs_ok st1 v1 q1
  rw [← eh]
  have ee := (e1.trans e2).le (m' := m) fun z => by simpa using z
  split at q2
  · cases d2 with
    | cons r1 d2 =>
      cases d2 with
      | cons r2 d2 =>
        cases d2
        cases r1 with
        | lst g1 g2 =>
          cases r2 with
          | lst g3 g4 => exact ⟨_, _, _, _, rfl, .inl ⟨.of (st2.sub _ _ g1), .of (st2.sub _ _ g3), k _ c2 Γ2 false _ c2.F ee st2 st2.sub (fun _ => Same.refl _) (goD_zl (.of g1) (.of g3) g2 g4) q2⟩⟩
  · cases d2 with
    | cons r1 d2 =>
      cases d2 with
      | cons r2 d2 =>
        cases d2
        cases r1 with
        | tup g1 g2 =>
          cases r2 with
          | tup g3 g4 => exact ⟨_, _, _, _, rfl, .inr ⟨same_seqT st2.sub g1, same_seqT st2.sub g3, k _ c2 Γ2 false _ c2.F ee st2 st2.sub (fun _ => Same.refl _) (goD_zt g1 g3 g2 g4) q2⟩⟩
  · exact q2.elim
end
/-! ### an object of a class of the text, made by an __init__ that keeps what it is given -/
def spMk (C : Addr) (ns : List Str) : Sp := fun vs H Q _ => ∃ a dx us, vs = V.ref a :: us ∧ us.length = ns.length ∧ H a = some (.ins C dx []) ∧ Q .non (upd H a (.ins C dx (ns.zip us)))
structure Maker (P : Program) (w : World) (K : PySem.W.Frag) (mg : Str → Option Value) (base : Heap) (x : Str) (k : Nat) (C : Addr) (ns : List Str) : Prop where
  ex : ∃ (f : Addr) (fd : FuncData) (ps : List Str), Mk K C f ∧ FnOk P w K mg base CX0 k f fd ps (spMk C ns) ∧ mg x = some (.ref C) ∧ L2.Binds K fd ps []
section
variable {S : Cs} {m : Bool} {x : Str} {p pos : Pos} {e : Expr} {es : List Expr} {k : Nat} {C : Addr} {ns : List Str} {t : TAD}
def tMk (C : Addr) (ns : List Str) (t : TAD) : TD := fun Γ Ψ => t Γ fun Γ1 rs => asDs Γ1 rs fun Γ2 xs => xs.length = ns.length ∧ Ψ Γ2 (.d (.obj C ns xs))
theorem pd_mk (h : Maker S.P S.w S.K S.mg S.base x k C ns) (ha : PAD S m (e :: es) t) (hk : k + 1 ≤ S.k := by exact Nat.le_of_ble_eq_true rfl) (hg : S.sc.names.lookup x = some .globalImplicit := by rfl) (hdb : (x == ("__debug__" : Str)) = false := by decide)
    (he : ∀ env, starEach (e :: es) env = (false, eval e env) :: starEach es env := by intro _; rfl) (hpl : ∀ env, (backTo pos (starEach es env)).any (·.1) = false := by intro _; rfl) : PD S m (.Call (.Name x p) (e :: es) [] pos) (tMk C ns t) := by
  obtain ⟨f, fd, ps, M, F, hm, hb⟩ := h.ex
  obtain ⟨u, a1, a2⟩ := ha.ex
  refine ⟨tMake C (spMk C ns) [] E0 u, fun X hX => ?_, fun c Γ Ψ Q hn st h kk => ?_⟩
  · exact pe_make (k := k) (f := f) (fd := fd) (ps := ps) (by rw [hX.K]; exact M) (by rw [hX.prog, hX.w, hX.K, hX.mg, hX.base]; exact F) (hX.room.mono hk) (by show X.env.scope.names.lookup x = _; rw [hX.sc]; exact hg) (by rw [hX.mg]; exact hm) (by rw [hX.K]; exact hb) .nil pass0 (a1 X hX) hdb (he _) (hpl _)
  · refine a2 c Γ _ _ hn st h fun vs c1 Γ1 rs e1 st1 v1 q1 => ?_
    obtain ⟨c2, Γ2, xs, e2, st2, d2, ⟨hl, q2⟩, eh, et⟩ := asDs_ok st1 v1 q1
    intro a dx ha hdx hne
    rw [List.append_nil]
    refine ⟨a, dx, vs, rfl, by rw [d2.length, hl], upd_same, ⟨rfl, ?_⟩⟩
    rw [upd_upd, ← eh]
    rw [← eh] at ha hdx
    obtain ⟨st3, e3⟩ := st2.froz (o := .own a) hdx
    have ha3 : (c2.froz dx (.own a)).H a = none := by
      show upd c2.H dx _ a = none
      rw [upd_ne (Ne.symm hne)]
      exact ha
    obtain ⟨st4, e4⟩ := st3.froz (o := .ins C dx (ns.zip vs)) ha3
    refine kk (.ref a) ((c2.froz dx (.own a)).froz a (.ins C dx (ns.zip vs))) Γ2 (.d _) ((((e1.trans e2).trans e3).trans e4).le fun z => by simpa using z) st4 ?_ q2
    exact RD.obj (dx := dx) upd_same (by rw [← hl, d2.length]) (d2.mono (e3.f.trans e4.f))
end
end Mv
set_option Elab.async false
set_option linter.all false
set_option maxRecDepth 100000
namespace Mv
open PySem PySem.Spec PyProof.Rows L2
/-! ### calls by keywords alone -/
def pick {α : Type} (π : List Nat) (xs : List α) : List α := π.filterMap fun i => xs[i]?
def byKw {α : Type} (n : Nat) (π : List Nat) (us ws : List α) : List α := if us.isEmpty = true ∧ ws.length = n then pick π ws else []
theorem vals_pick {zs : List V} {ws : List Value} (r : Vals zs ws) : ∀ π : List Nat, Vals (pick π zs) (pick π ws)
  | [] => .nil
  | i :: π => by
    have ih := vals_pick r π
    unfold pick at ih ⊢
    rw [List.filterMap_cons, List.filterMap_cons]
    cases h : zs[i]? with
    | none =>
      rw [r.none_of h]
      exact ih
    | some z =>
      obtain ⟨u, hu, ru⟩ := r.get h
      rw [hu]
      exact .cons ru ih
theorem vals_byKw {n : Nat} {π : List Nat} {vs zs : List V} {us ws : List Value} (r : Vals vs us) (r2 : Vals zs ws) : Vals (byKw n π vs zs) (byKw n π us ws) := by
  have e1 : vs.isEmpty = us.isEmpty := by cases r <;> rfl
  have e2 := r2.length
  unfold byKw
  by_cases h : us.isEmpty = true ∧ ws.length = n
  · rw [if_pos h, if_pos (by rw [e1, e2]; exact h)]
    exact vals_pick r2 π
  · rw [if_neg h, if_neg (by rw [e1, e2]; exact h)]
    exact .nil
structure PKD (S : Cs) (m : Bool) (kws : List Keyword) (t : TAD) : Prop where
  ex : ∃ te, (∀ X, S.In X → PK X kws te) ∧ LA S.K S.N.length m te t
structure CalleeK (P : Program) (w : World) (K : PySem.W.Frag) (mg : Str → Option Value) (base : Heap) (x : Str) (k np : Nat) (spec : SpD) (ks : List Str) (π : List Nat) : Prop where
  ex : ∃ (f : Addr) (fd : FuncData) (ps : List Str), FnOk P w K mg base CX0 k f fd ps (spOf K np spec) ∧ mg x = some (.ref f) ∧ PySem.W.keepIn K (.ref f) = true ∧ KBinds K fd ps ks (byKw ks.length π) (byKw ks.length π)
section
variable {S : Cs} {m ma mb : Bool} {x : Str} {p pos kpos : Pos} {e : Expr} {nm : Option Str} {kws : List Keyword} {k np : Nat} {spec : SpD} {t : TD} {u tk : TAD} {ks : List Str} {π : List Nat}
theorem pkd_nil : PKD S false [] tANil := ⟨_, fun _ _ => pk_nil, fun c Γ Ψ Q hn st h k => k [] c Γ [] (ExtE.refl _ _) st .nil h⟩
theorem pkd_cons (h : PD S ma e t) (h' : PKD S mb kws u) : PKD S (ma || mb) (⟨nm, e, kpos⟩ :: kws) (tACons mb t u) := by
  obtain ⟨ua, a1, a2⟩ := h.ex
  obtain ⟨ub, b1, b2⟩ := h'.ex
  refine ⟨_, fun X hX => pk_cons (a1 X hX) (b1 X hX), fun c Γ Ψ Q hn st h k => ?_⟩
  refine a2 c Γ _ _ hn st h fun v c1 Γ1 r e1 st1 v1 h1 => ?_
  rw [show c.σ = c1.σ from e1.s.symm]
  refine b2 c1 Γ1 _ _ (by rw [e1.s]; exact hn) st1 h1 fun vs c2 Γ2 rs e2 st2 v2 h2 => ?_
  exact k (v :: vs) c2 Γ2 (r :: rs) (e1.trans e2) st2 (.cons (v1.keep e2 h2.1) v2) h2.2
def tClK (np n : Nat) (spec : SpD) (π : List Nat) (t : TAD) : TD := fun Γ Ψ => t Γ fun Γ1 rs => asDs Γ1 rs fun Γ2 xs => (xs.length = n ∧ (pick π xs).length = np) ∧ callD spec ((pick π xs).map .d) Γ2 Ψ
theorem places_d (xs : List D) : places (xs.map RV.d) = [] := by
  induction xs with
  | nil => rfl
  | cons x xs ih => simp only [List.map_cons, places]; exact ih
theorem vrs_d {K : PySem.W.Frag} {c : Cf} {vs : List V} {xs : List D} (h : RDs K c.F vs xs) : VRs K c (xs.map .d) vs := by
  induction xs generalizing vs with
  | nil => cases h; exact .nil
  | cons x xs ih =>
    cases h with
    | cons h1 h2 => exact .cons h1 (ih h2)
theorem RDs.pick {K : PySem.W.Frag} {F : Hp} {vs : List V} {xs : List D} (r : RDs K F vs xs) : ∀ π : List Nat, RDs K F (pick π vs) (pick π xs)
  | [] => .nil
  | i :: π => by
    have ih := RDs.pick r π
    unfold Mv.pick at ih ⊢
    rw [List.filterMap_cons, List.filterMap_cons]
    cases h : xs[i]? with
    | none =>
      have : vs[i]? = none := by
        rw [List.getElem?_eq_none_iff] at h ⊢
        rw [r.length]
        exact h
      rw [this]
      exact ih
    | some z =>
      obtain ⟨w, hw, rw'⟩ := r.get h
      rw [hw]
      exact .cons rw' ih
theorem pd_clK (h : CalleeK S.P S.w S.K S.mg S.base x k np spec ks π) (ha : PKD S m kws tk) (hk : k ≤ S.k := by exact Nat.le_of_ble_eq_true rfl) (hg : S.sc.names.lookup x = some .globalImplicit := by rfl) (hdb : (x == ("__debug__" : Str)) = false := by decide)
    (hall : ∀ env, (backToKw pos (keywordEach kws env)).all (·.1.isSome) = true := by intro _; rfl) (hks : ∀ env, (backToKw pos (keywordEach kws env)).filterMap (·.1) = ks := by intro _; rfl)
    (hpl : ∀ env, ((backTo pos (starEach [] env)).any (·.1) || (backToKw pos (keywordEach kws env)).any (·.1.isNone)) = false := by intro _; rfl) : PD S m (.Call (.Name x p) [] kws pos) (tClK np ks.length spec π tk) := by
  obtain ⟨f, fd, ps, F, hm, hkp, hb⟩ := h.ex
  obtain ⟨uk, a1, a2⟩ := ha.ex
  refine ⟨fun σ H Q => uk σ H fun zs H2 => spOf S.K np spec (byKw ks.length π [] zs) H2 Q E0, fun X hX => ⟨fun pins s σ H Q I h => ?_⟩, fun c Γ Ψ Q hn st h kk => ?_⟩
  · refine wpAny_Call_Name_kw (ld_glob I (by show X.env.scope.names.lookup x = _; rw [hX.sc]; exact hg) (by rw [hX.mg]; exact hm) ?_ hdb)
    refine PySem.W.callWith_KW0 (h₀ := X.base) I.ok.mod.kin (by rw [hX.K]; exact hkp) (hall _) ?_ (hpl _)
    refine thn ((a1 X hX).run pos pins s σ H _ I h) fun ws s2 ⟨zs, H2, I2, rz, q2⟩ => ⟨I2.kIn, ?_⟩
    rw [hks]
    exact run_fnk (us := []) (vs := []) (k := k) (by rw [hX.prog, hX.w, hX.K, hX.mg, hX.base]; exact F) (hX.room.mono hk) (by rw [hX.K]; exact hb) pass0 I2 .nil rz q2
  · refine a2 c Γ _ _ hn st h fun vs c1 Γ1 rs e1 st1 v1 q1 => ?_
    obtain ⟨c2, Γ2, xs, e2, st2, d2, ⟨⟨hl, hl2⟩, q2⟩, eh, et⟩ := asDs_ok st1 v1 q1
    have eb : byKw ks.length π [] vs = pick π vs := by
      unfold byKw
      rw [if_pos ⟨rfl, by rw [d2.length]; exact hl⟩]
    rw [eb, ← eh]
    refine call_ok (by rw [List.length_map]; exact hl2) st2 (vrs_d (d2.pick π)) q2 fun v c3 Γ3 r x3 sm st3 v3 q3 => kk v c3 Γ3 r ?_ st3 v3 q3
    have x3' : ExtE false c2 c3 := ⟨x3.toExt, x3.s, x3.t, fun _ => sm (places_d _)⟩
    exact ((e1.trans e2).trans x3').le fun z => by simpa using z
end
end Mv
set_option Elab.async false
set_option linter.all false
set_option maxRecDepth 100000
set_option maxHeartbeats 1000000
namespace Mv
open PySem PySem.Spec PySem.W PyProof.Rows L2
/-! ### zip of two tuples, its tuple held: the next one is new -/
section
variable {prog : Program} {w : World} {A : Around} {E : Value → Shared → Prop} {s : Shared}
theorem zipH_item {z TI TO T i1 i2 l1 l2 : Addr} {f : Bool} {ob : Obj} {k1 k2 : Nat} {xs ys : Array Value} {x y : Value} {Q : Value → Shared → Prop} (D : ZipApart z TI TO i1 i2 l1 l2)
    (zz : IsZipHeld s.heap z TI TO T f) (tT : s.heap.get? T = some ob) (tI : IsPair s.heap TI (.ref i1) (.ref i2))
    (j1 : s.heap.IsTupleIter i1 l1 k1) (j2 : s.heap.IsTupleIter i2 l2 k2) (q1 : s.heap.IsTuple l1 xs) (q2 : s.heap.IsTuple l2 ys) (ex : xs[k1]? = some x) (ey : ys[k2]? = some y)
    (kQ : ∀ h', IsZipHeld h' z TI TO T true → h'.IsTupleIter i1 l1 (k1 + 1) → h'.IsTupleIter i2 l2 (k2 + 1) → IsPair h' s.heap.objs.size x y → h'.objs.size = s.heap.objs.size + 1 →
      (∀ c o, c ≠ z → c ≠ i1 → c ≠ i2 → s.heap.get? c = some o → h'.get? c = some o) → Q (.ref s.heap.objs.size) { s with heap := h' }) :
    wpAny (model prog w) A (Builtin.«zip.__next__» ⟨[.ref z], []⟩) (fun fin s' => ∃ v, fin = .done (.ret v) ∧ Q v s') E s := by
  show wpAny _ _ (field (.ref z) 2 >>= _) _ _ _
  refine wpAny_bind (wpAny_field zz rfl (x := .bool false) rfl ?_)
  show wpAny _ _ (field (.ref z) 3 >>= _) _ _ _
  refine wpAny_bind (wpAny_field zz rfl (x := .ref TI) rfl ?_)
  refine wpAny_bind (wpAny_seqItems tI rfl ?_)
  show wpAny _ _ (Builtin.SmallTypes.ownedTupleIsFree (.ref z) >>= _) _ _ _
  refine wpAny_bind (wpAny_tupleHeld_zip zz tT fun g1 zz1 b1 => ?_)
  simp only [Bool.false_eq_true, if_false]
  refine wpAny_bind ?_
  rw [← Array.forIn_toList]
  simp only [List.forIn_cons, List.forIn_nil]
  refine wpAny_bind (wpAny_bind (wpAny_holding ?_))
  show wpAny _ _ (Builtin.SmallTypes.nextOf (.ref i1) >>= _) _ _ _
  refine wpAny_bind (RZ.nextOf_tuple_item (s := { s with heap := g1 }) (j1.extBut b1.extBut D.i1z) (q1.extBut b1.extBut D.l1z) ex fun g2 j12 b2 => wpAny_pure ?_)
  refine wpAny_pure ?_
  refine wpAny_bind (wpAny_bind (wpAny_holding ?_))
  show wpAny _ _ (Builtin.SmallTypes.nextOf (.ref i2) >>= _) _ _ _
  refine wpAny_bind (RZ.nextOf_tuple_item (s := { s with heap := g2 }) ((j2.extBut b1.extBut D.i2z).extBut b2.extBut D.i12.symm) ((q2.extBut b1.extBut D.l2z).extBut b2.extBut D.l2i1) ey fun g3 j23 b3 => wpAny_pure ?_)
  refine wpAny_pure (wpAny_pure ?_)
  show wpAny _ _ (newTuple [x, y] >>= _) _ _ _
  refine wpAny_bind (wpAny_newTuple ?_)
  have sz : g3.objs.size = s.heap.objs.size := by rw [b3.1, b2.1, b1.1]
  have zz3 : IsZipHeld g3 z TI TO T true := b3.extBut _ _ D.i2z.symm (b2.extBut _ _ D.i1z.symm zz1)
  have kp : ∀ c o, c ≠ z → c ≠ i1 → c ≠ i2 → s.heap.get? c = some o → g3.get? c = some o := fun c o c1 c2 c3 e => b3.extBut _ _ c3 (b2.extBut _ _ c2 (b1.extBut _ _ c1 e))
  have j13 : g3.IsTupleIter i1 l1 (k1 + 1) := j12.extBut b3.extBut D.i12
  refine wpAny_pure ⟨_, rfl, ?_⟩
  show Q (.ref g3.objs.size) _
  have pr : IsPair (g3.push { cls := .type "tuple", data := .seq #[x, y] }) g3.objs.size x y := Heap.get?_push_size _ rfl
  have z4 : (g3.push { cls := .type "tuple", data := .seq #[x, y] }).objs.size = g3.objs.size + 1 := Heap.size_push ..
  rw [sz] at pr z4 ⊢
  exact kQ _ (Heap.get?_push_of_some _ zz3) (j13.at fun o e => Heap.get?_push_of_some _ e) (j23.at fun o e => Heap.get?_push_of_some _ e) pr z4 fun c o c1 c2 c3 e => Heap.get?_push_of_some _ (kp c o c1 c2 c3 e)
theorem zipH_end {z TI TO T i1 i2 l1 l2 : Addr} {f : Bool} {ob : Obj} {k1 k2 : Nat} {xs ys : Array Value} {Q : PySem.Fin → Shared → Prop} (hh : A.handled = none) (D : ZipApart z TI TO i1 i2 l1 l2)
    (zz : IsZipHeld s.heap z TI TO T f) (tT : s.heap.get? T = some ob) (tI : IsPair s.heap TI (.ref i1) (.ref i2))
    (j1 : s.heap.IsTupleIter i1 l1 k1) (j2 : s.heap.IsTupleIter i2 l2 k2) (q1 : s.heap.IsTuple l1 xs) (q2 : s.heap.IsTuple l2 ys) (lst : xs[k1]? = none ∨ ys[k2]? = none)
    (kE : ∀ h' e, (∀ c o, c ≠ z → c ≠ i1 → c ≠ i2 → s.heap.get? c = some o → h'.get? c = some o) → (∃ o, h'.get? e = some o ∧ o.cls = .type "StopIteration") → E (.ref e) { s with heap := h' }) :
    wpAny (model prog w) A (Builtin.«zip.__next__» ⟨[.ref z], []⟩) Q E s := by
  show wpAny _ _ (field (.ref z) 2 >>= _) _ _ _
  refine wpAny_bind (wpAny_field zz rfl (x := .bool false) rfl ?_)
  show wpAny _ _ (field (.ref z) 3 >>= _) _ _ _
  refine wpAny_bind (wpAny_field zz rfl (x := .ref TI) rfl ?_)
  refine wpAny_bind (wpAny_seqItems tI rfl ?_)
  show wpAny _ _ (Builtin.SmallTypes.ownedTupleIsFree (.ref z) >>= _) _ _ _
  refine wpAny_bind (wpAny_tupleHeld_zip zz tT fun g1 zz1 b1 => ?_)
  simp only [Bool.false_eq_true, if_false]
  refine wpAny_bind ?_
  rw [← Array.forIn_toList]
  simp only [List.forIn_cons, List.forIn_nil]
  refine wpAny_bind (wpAny_bind (wpAny_holding ?_))
  show wpAny _ _ (Builtin.SmallTypes.nextOf (.ref i1) >>= _) _ _ _
  cases ex : xs[k1]? with
  | none =>
    refine wpAny_bind (RZ.nextOf_tuple_end (s := { s with heap := g1 }) hh (j1.extBut b1.extBut D.i1z) (q1.extBut b1.extBut D.l1z) ex fun g2 e b2 he => ?_)
    exact kE g2 e (fun c o c1 c2 _ x => b2 _ _ c2 (b1.extBut _ _ c1 x)) he
  | some x =>
    have ey : ys[k2]? = none := by rcases lst with h | h; rw [ex] at h; cases h; exact h
    refine wpAny_bind (RZ.nextOf_tuple_item (s := { s with heap := g1 }) (j1.extBut b1.extBut D.i1z) (q1.extBut b1.extBut D.l1z) ex fun g2 j12 b2 => wpAny_pure ?_)
    refine wpAny_pure ?_
    refine wpAny_bind (wpAny_bind (wpAny_holding ?_))
    show wpAny _ _ (Builtin.SmallTypes.nextOf (.ref i2) >>= _) _ _ _
    refine wpAny_bind (RZ.nextOf_tuple_end (s := { s with heap := g2 }) hh ((j2.extBut b1.extBut D.i2z).extBut b2.extBut D.i12.symm) ((q2.extBut b1.extBut D.l2z).extBut b2.extBut D.l2i1) ey fun g3 e b3 he => ?_)
    exact kE g3 e (fun c o c1 c2 c3 x => b3 _ _ c3 (b2.extBut _ _ c2 (b1.extBut _ _ c1 x))) he
theorem nextH_item {z TI TO T i1 i2 l1 l2 : Addr} {f : Bool} {ob : Obj} {k1 k2 : Nat} {xs ys : Array Value} {x y : Value} {Q : Option Value → Shared → Prop} (D : ZipApart z TI TO i1 i2 l1 l2)
    (zz : IsZipHeld s.heap z TI TO T f) (tT : s.heap.get? T = some ob) (tI : IsPair s.heap TI (.ref i1) (.ref i2))
    (j1 : s.heap.IsTupleIter i1 l1 k1) (j2 : s.heap.IsTupleIter i2 l2 k2) (q1 : s.heap.IsTuple l1 xs) (q2 : s.heap.IsTuple l2 ys) (ex : xs[k1]? = some x) (ey : ys[k2]? = some y)
    (kQ : ∀ h', IsZipHeld h' z TI TO T true → h'.IsTupleIter i1 l1 (k1 + 1) → h'.IsTupleIter i2 l2 (k2 + 1) → IsPair h' s.heap.objs.size x y → h'.objs.size = s.heap.objs.size + 1 →
      (∀ c o, c ≠ z → c ≠ i1 → c ≠ i2 → s.heap.get? c = some o → h'.get? c = some o) → Q (some (.ref s.heap.objs.size)) { s with heap := h' }) :
    wpAny (model prog w) A (pyNext (.ref z)) Q E s := by
  have ty : s.TypeIs (.ref z) "zip" := ⟨_, zz, rfl⟩
  unfold pyNext
  exact wpAny_bind (wpAny_attempt (wpAny_callSpecial?_slot (name := Str.ofString "__next__") ty F.slot_zip_next
    (wpAny_call_entry F.slot_zip_next ty F.entry_zip_next
      (zipH_item D zz tT tI j1 j2 q1 q2 ex ey fun h' a1 a3 a4 a5 a6 a7 => wpAny_pure (kQ h' a1 a3 a4 a5 a6 a7)) (F.args_zip_next_1 _))))
theorem nextH_end {z TI TO T i1 i2 l1 l2 : Addr} {f : Bool} {ob : Obj} {k1 k2 : Nat} {xs ys : Array Value} {Q : Option Value → Shared → Prop} (hh : A.handled = none) (D : ZipApart z TI TO i1 i2 l1 l2)
    (zz : IsZipHeld s.heap z TI TO T f) (tT : s.heap.get? T = some ob) (tI : IsPair s.heap TI (.ref i1) (.ref i2))
    (j1 : s.heap.IsTupleIter i1 l1 k1) (j2 : s.heap.IsTupleIter i2 l2 k2) (q1 : s.heap.IsTuple l1 xs) (q2 : s.heap.IsTuple l2 ys) (lst : xs[k1]? = none ∨ ys[k2]? = none)
    (kQ : ∀ h', (∀ c o, c ≠ z → c ≠ i1 → c ≠ i2 → s.heap.get? c = some o → h'.get? c = some o) → Q none { s with heap := h' }) : wpAny (model prog w) A (pyNext (.ref z)) Q E s := by
  have ty : s.TypeIs (.ref z) "zip" := ⟨_, zz, rfl⟩
  unfold pyNext
  refine wpAny_bind (wpAny_attempt (wpAny_callSpecial?_slot (name := Str.ofString "__next__") ty F.slot_zip_next
    (wpAny_call_entry F.slot_zip_next ty F.entry_zip_next (zipH_end hh D zz tT tI j1 j2 q1 q2 lst fun h' e kp he => ?_) (F.args_zip_next_1 _))))
  obtain ⟨o, ho, hc⟩ := he
  refine wpAny_bind (wpAny_isInstance (T := "StopIteration") (b := true) ⟨o, ho, hc⟩ isSubtype_stop ?_)
  exact wpAny_pure (kQ _ kp)
/-- how the walk over the zip at z stands behind i turns; its tuples are held, not at S -/
structure ZSt (z TI TO i1 i2 l1 l2 S : Addr) (xs ys : Array Value) (i : Nat) (h : Heap) : Prop where
  ti : IsPair h TI (.ref i1) (.ref i2)
  j1 : h.IsTupleIter i1 l1 i
  j2 : h.IsTupleIter i2 l2 i
  q1 : h.IsTuple l1 xs
  q2 : h.IsTuple l2 ys
  zz : (IsZip h z TI TO .none ∧ ∃ a b, IsPair h TO a b) ∨ ∃ T f oT, IsZipHeld h z TI TO T f ∧ h.get? T = some oT ∧ T ≠ z ∧ T ≠ i1 ∧ T ≠ i2 ∧ T ≠ S
theorem ZSt.keep {z TI TO i1 i2 l1 l2 S : Addr} {xs ys : Array Value} {i : Nat} {h h' : Heap} (st : ZSt z TI TO i1 i2 l1 l2 S xs ys i h) (hS : S ∉ [z, TI, TO, i1, i2, l1, l2]) (k : ∀ b o, b ≠ S → h.get? b = some o → h'.get? b = some o) : ZSt z TI TO i1 i2 l1 l2 S xs ys i h' := by
  simp only [List.mem_cons, List.not_mem_nil, or_false, not_or] at hS
  obtain ⟨dz, dTI, dTO, d1, d2, e1, e2⟩ := hS
  refine ⟨k _ _ (Ne.symm dTI) st.ti, st.j1.at fun o e => k _ o (Ne.symm d1) e, st.j2.at fun o e => k _ o (Ne.symm d2) e, st.q1.at fun o e => k _ o (Ne.symm e1) e, st.q2.at fun o e => k _ o (Ne.symm e2) e, ?_⟩
  rcases st.zz with ⟨hz, a, b, hTO⟩ | ⟨T, f, oT, hz, hT, r1, r2, r3, r4⟩
  · exact .inl ⟨k _ _ (Ne.symm dz) hz, a, b, k _ _ (Ne.symm dTO) hTO⟩
  · exact .inr ⟨T, f, oT, k _ _ (Ne.symm dz) hz, k _ _ r4 hT, r1, r2, r3, r4⟩
theorem ZSt.ty {z TI TO i1 i2 l1 l2 S : Addr} {xs ys : Array Value} {i : Nat} (st : ZSt z TI TO i1 i2 l1 l2 S xs ys i s.heap) : s.TypeIs (.ref z) "zip" := by
  rcases st.zz with ⟨hz, _⟩ | ⟨T, f, oT, hz, _⟩
  · exact ⟨_, hz, rfl⟩
  · exact ⟨_, hz, rfl⟩
theorem ZSt.next {z TI TO i1 i2 l1 l2 S : Addr} {xs ys : Array Value} {i : Nat} {x y : Value} {Q : Option Value → Shared → Prop} (D : ZipApart z TI TO i1 i2 l1 l2) (st : ZSt z TI TO i1 i2 l1 l2 S xs ys i s.heap) (hS : S < s.heap.objs.size) (ex : xs[i]? = some x) (ey : ys[i]? = some y)
    (kQ : ∀ h', ZSt z TI TO i1 i2 l1 l2 S xs ys (i + 1) h' → IsPair h' s.heap.objs.size x y → h'.objs.size = s.heap.objs.size + 1 → (∀ c o, c ≠ z → c ≠ TO → c ≠ i1 → c ≠ i2 → s.heap.get? c = some o → h'.get? c = some o) → Q (some (.ref s.heap.objs.size)) { s with heap := h' }) :
    wpAny (model prog w) A (pyNext (.ref z)) Q E s := by
  have lt : ∀ {c o}, s.heap.get? c = some o → s.heap.objs.size ≠ c := fun e => Nat.ne_of_gt (Heap.lt_size e)
  have n1 : s.heap.objs.size ≠ i1 := let ⟨_, e, _⟩ := st.j1; lt e
  have n2 : s.heap.objs.size ≠ i2 := let ⟨_, e, _⟩ := st.j2; lt e
  rcases st.zz with ⟨hz, a, b, hTO⟩ | ⟨T, f, oT, hz, hT, r1, r2, r3, r4⟩
  · refine RZ.pyNext_zipT_item D hz st.ti hTO st.j1 st.j2 st.q1 st.q2 ex ey fun h' a1 a2 a3 a4 a5 a6 hk => ?_
    exact kQ h' ⟨hk _ _ D.TIz D.TITO D.TIi1 D.TIi2 st.ti, a3, a4, st.q1.at fun o e => hk _ o D.l1z D.l1TO D.l1i1 D.l1i2 e, st.q2.at fun o e => hk _ o D.l2z D.l2TO D.l2i1 D.l2i2 e, .inr ⟨s.heap.objs.size, false, _, a1, a5, lt hz, n1, n2, Nat.ne_of_gt hS⟩⟩ a5 a6 hk
  · refine nextH_item D hz hT st.ti st.j1 st.j2 st.q1 st.q2 ex ey fun h' a1 a3 a4 a5 a6 hk => ?_
    exact kQ h' ⟨hk _ _ D.TIz D.TIi1 D.TIi2 st.ti, a3, a4, st.q1.at fun o e => hk _ o D.l1z D.l1i1 D.l1i2 e, st.q2.at fun o e => hk _ o D.l2z D.l2i1 D.l2i2 e, .inr ⟨T, true, oT, a1, hk _ _ r1 r2 r3 hT, r1, r2, r3, r4⟩⟩ a5 a6 fun c o c1 _ c3 c4 e => hk c o c1 c3 c4 e
theorem ZSt.done {z TI TO i1 i2 l1 l2 S : Addr} {xs ys : Array Value} {i : Nat} {Q : Option Value → Shared → Prop} (hh : A.handled = none) (D : ZipApart z TI TO i1 i2 l1 l2) (st : ZSt z TI TO i1 i2 l1 l2 S xs ys i s.heap) (he : xs[i]? = none ∨ ys[i]? = none)
    (kQ : ∀ h', (∀ c o, c ≠ z → c ≠ TO → c ≠ i1 → c ≠ i2 → s.heap.get? c = some o → h'.get? c = some o) → Q none { s with heap := h' }) : wpAny (model prog w) A (pyNext (.ref z)) Q E s := by
  rcases st.zz with ⟨hz, a, b, hTO⟩ | ⟨T, f, oT, hz, hT, r1, r2, r3, r4⟩
  · exact RZ.pyNext_zipT_end hh D hz st.ti hTO st.j1 st.j2 st.q1 st.q2 he fun h' hk => kQ h' hk
  · exact nextH_end hh D hz hT st.ti st.j1 st.j2 st.q1 st.q2 he fun h' hk => kQ h' fun c o c1 _ c3 c4 e => hk c o c1 c3 c4 e
/-- the tuples that were made -/
structure MadeZ (xs ys : Array Value) (lo : Addr) (h : Heap) (as : List Addr) : Prop where
  rise : as.Pairwise (· < ·)
  above : ∀ a ∈ as, lo ≤ a
  pairs : ∀ (j : Nat) (a : Addr), as[j]? = some a → ∃ x y, xs[j]? = some x ∧ ys[j]? = some y ∧ IsPair h a x y
theorem MadeZ.there {xs ys : Array Value} {lo : Addr} {h : Heap} {as : List Addr} (g : MadeZ xs ys lo h as) {a : Addr} (ha : a ∈ as) : a < h.objs.size := by
  obtain ⟨j, hj⟩ := List.mem_iff_getElem?.mp ha
  obtain ⟨_, _, _, _, e⟩ := g.pairs j a hj
  exact Heap.lt_size e
theorem zip_loop {z TI TO i1 i2 l1 l2 S lo : Addr} {xs ys : Array Value} {R : Result → Shared → Prop} (hh : A.handled = none) (D : ZipApart z TI TO i1 i2 l1 l2) (hS : S ∉ [z, TI, TO, i1, i2, l1, l2]) (hlo : S < lo ∧ z < lo ∧ TO < lo ∧ i1 < lo ∧ i2 < lo) (hn : min xs.size ys.size ≤ sizeLine) (res : Value) {h₁ : Heap}
    (hR : ∀ h' acc c as, (∀ b o, b ≠ S → b ≠ z → b ≠ TO → b ≠ i1 → b ≠ i2 → h₁.get? b = some o → h'.get? b = some o) → h'.get? S = some { cls := .type "list", dict := none, data := .seq acc c, slots := #[] } → as.length = min xs.size ys.size → MadeZ xs ys lo h' as →
      acc.toList = as.map Value.ref → R (.ok (.ret res)) { s with heap := h' }) :
    ∀ (k i : Nat) (h : Heap) (c : Nat) (acc : Array Value) (as : List Addr), min xs.size ys.size - i = k → i ≤ min xs.size ys.size → ZSt z TI TO i1 i2 l1 l2 S xs ys i h → (∀ b o, b ≠ S → b ≠ z → b ≠ TO → b ≠ i1 → b ≠ i2 → h₁.get? b = some o → h.get? b = some o) →
      h.get? S = some { cls := .type "list", dict := none, data := .seq acc c, slots := #[] } → acc.toList = as.map Value.ref → as.length = i → MadeZ xs ys lo h as → lo ≤ h.objs.size →
      codeAny (model prog w) A (.builtin "list.extend.loop" ⟨[.ref S, .ref z, res], []⟩) R { s with heap := h } := by
  have hS' := hS
  simp only [List.mem_cons, List.not_mem_nil, or_false, not_or] at hS'
  obtain ⟨dz, dTI, dTO, d1, d2, _, _⟩ := hS'
  obtain ⟨o0, o1, o2, o3, o4⟩ := hlo
  intro k
  induction k with
  | zero =>
    intro i h c acc as hk hi st keep hl hacc hal G hs
    have ei : i = min xs.size ys.size := by omega
    refine codeAny_builtin PySem.F.entry_extend_loop ?_
    rw [Around.under_plainId PySem.F.plain_extend_loop _]
    show wpAny _ A.in1 (pyNext (.ref z) >>= _) _ _ _
    have he : xs[i]? = none ∨ ys[i]? = none := by
      rcases Nat.le_total xs.size ys.size with q | q
      · exact .inl (Array.getElem?_eq_none (by rw [ei, Nat.min_eq_left q]; exact Nat.le_refl _))
      · exact .inr (Array.getElem?_eq_none (by rw [ei, Nat.min_eq_right q]; exact Nat.le_refl _))
    refine wpAny_bind (ZSt.done (s := { s with heap := h }) (A := A.in1) hh D st he fun h' hk' => ?_)
    refine wpAny_pure (hR h' acc c as (fun b o b0 b1 b2 b3 b4 e => hk' b o b1 b2 b3 b4 (keep b o b0 b1 b2 b3 b4 e)) (hk' S _ dz dTO d1 d2 hl) (by omega) ⟨G.rise, G.above, fun j a hj => ?_⟩ hacc)
    obtain ⟨x, y, e1, e2, e3⟩ := G.pairs j a hj
    have ha := G.above a (List.mem_of_getElem? hj)
    exact ⟨x, y, e1, e2, hk' a _ (Nat.ne_of_gt (Nat.lt_of_lt_of_le o1 ha)) (Nat.ne_of_gt (Nat.lt_of_lt_of_le o2 ha)) (Nat.ne_of_gt (Nat.lt_of_lt_of_le o3 ha)) (Nat.ne_of_gt (Nat.lt_of_lt_of_le o4 ha)) e3⟩
  | succ k ih =>
    intro i h c acc as hk hi st keep hl hacc hal G hs
    have hlt : i < min xs.size ys.size := by omega
    have ex : xs[i]? = some (xs[i]'(by omega)) := Array.getElem?_eq_getElem _
    have ey : ys[i]? = some (ys[i]'(by omega)) := Array.getElem?_eq_getElem _
    have hsz : acc.size = i := by rw [← Array.length_toList, hacc, List.length_map, hal]
    have hSl : S < h.objs.size := Heap.lt_size hl
    refine codeAny_builtin PySem.F.entry_extend_loop ?_
    rw [Around.under_plainId PySem.F.plain_extend_loop _]
    show wpAny _ A.in1 (pyNext (.ref z) >>= _) _ _ _
    refine wpAny_bind (ZSt.next (s := { s with heap := h }) D st hSl ex ey fun h' st' hp hz hkp => ?_)
    dsimp only at hp hz hkp ⊢
    have hl' := hkp S _ dz dTO d1 d2 hl
    have up : ∀ b o, b ≠ S → h'.get? b = some o → (h'.update S (Obj.mapSeq (·.push (Value.ref h.objs.size)))).get? b = some o := fun b o hb e => (Heap.get?_update_other _ _ (Ne.symm hb)).trans e
    have new : IsPair (h'.update S (Obj.mapSeq (·.push (Value.ref h.objs.size)))) h.objs.size (xs[i]'(by omega)) (ys[i]'(by omega)) := up _ _ (Nat.ne_of_gt hSl) hp
    show wpAny _ A.in1 (updateSeq S (·.push (Value.ref h.objs.size)) >>= _) _ _ _
    refine wpAny_bind ?_
    refine wpAny_updateSeq hl' rfl (wpAny_pure ⟨plainId_quiet PySem.F.plain_extend_loop _, ih (i + 1) _ _ (acc.push (Value.ref h.objs.size)) (as ++ [h.objs.size]) (by omega) hlt (st'.keep hS up)
      (fun b o b0 b1 b2 b3 b4 e => up b o b0 (hkp b o b1 b2 b3 b4 (keep b o b0 b1 b2 b3 b4 e))) (Heap.get?_update_self _ hl' rfl) (by rw [Array.toList_push, hacc, List.map_append]; rfl) (by rw [List.length_append, hal]; rfl) ⟨?_, ?_, ?_⟩ ?_⟩) (by rw [hsz]; omega) (by show (acc.push (Value.ref h.objs.size)).size ≤ sizeLine + 1; rw [Array.size_push, hsz]; omega)
    · refine List.pairwise_append.mpr ⟨G.rise, List.pairwise_singleton _ _, fun a ha b hb => ?_⟩
      rw [List.mem_singleton.mp hb]
      exact G.there ha
    · intro a ha
      rcases List.mem_append.mp ha with ha | ha
      · exact G.above a ha
      · rw [List.mem_singleton.mp ha]; exact hs
    · intro j b hj
      rcases Nat.lt_trichotomy j as.length with q | q | q
      · rw [List.getElem?_append_left q] at hj
        obtain ⟨x, y, e1, e2, e3⟩ := G.pairs j b hj
        have hb := G.above b (List.mem_of_getElem? hj)
        exact ⟨x, y, e1, e2, up b _ (Nat.ne_of_gt (Nat.lt_of_lt_of_le o0 hb)) (hkp b _ (Nat.ne_of_gt (Nat.lt_of_lt_of_le o1 hb)) (Nat.ne_of_gt (Nat.lt_of_lt_of_le o2 hb)) (Nat.ne_of_gt (Nat.lt_of_lt_of_le o3 hb)) (Nat.ne_of_gt (Nat.lt_of_lt_of_le o4 hb)) e3)⟩
      · subst q
        have hb : h.objs.size = b := by simpa using hj
        subst hb
        subst hal
        exact ⟨_, _, ex, ey, new⟩
      · have hnone : (as ++ [h.objs.size])[j]? = none := List.getElem?_eq_none (by rw [List.length_append, List.length_singleton]; omega)
        rw [hnone] at hj
        cases hj
    · exact Nat.le_of_lt (Nat.lt_of_le_of_lt hs (Heap.lt_size new))
end
end Mv
set_option Elab.async false
set_option linter.all false
set_option maxRecDepth 100000
set_option maxHeartbeats 1000000
namespace Mv
open PySem PySem.Spec PySem.W PyProof.Rows L2
/-! ### list(zip(a, b)) -/
theorem zip_nolen : typeLookup (.type "zip") "__len__" = pure none := am_miss_of_fast (by decide +kernel)
theorem zip_nohint : typeLookup (.type "zip") "__length_hint__" = pure none := am_miss_of_fast (by decide +kernel)
section
variable {prog : Program} {w : World} {A : Around} {E : Value → Shared → Prop} {s : Shared}
theorem zip_iter {z TI TO i1 i2 l1 l2 S : Addr} {xs ys : Array Value} {i : Nat} {Q : Value → Shared → Prop} (st : ZSt z TI TO i1 i2 l1 l2 S xs ys i s.heap) (h : Q (.ref z) s) : wpAny (model prog w) A (pyIter (.ref z)) Q E s := by
  rcases st.zz with ⟨hz, _⟩ | ⟨T, f, oT, hz, _⟩
  · exact wpAny_pyIter_zip hz h
  · have hT : s.TypeIs (.ref z) "zip" := ⟨_, hz, rfl⟩
    refine wpAny_pyIter_slot hT PySem.F.slot_zip_iter (wpAny_call_entry PySem.F.slot_zip_iter hT PySem.F.entry_zip_iter ?_ (PySem.F.args_zip_iter_1 _))
    show wpAny _ _ (ret (.ref z)) _ _ s
    exact wpAny_pure ⟨_, rfl, "zip", _, hT, PySem.F.slot_zip_next.lookup, h⟩
theorem list_of_zip {z TI TO i1 i2 l1 l2 : Addr} {xs ys : Array Value} {Q : Value → Shared → Prop} (hh : A.handled = none) (D : ZipApart z TI TO i1 i2 l1 l2) (st : ZSt z TI TO i1 i2 l1 l2 s.heap.objs.size xs ys 0 s.heap) (hlt : ∀ b ∈ [z, TI, TO, i1, i2, l1, l2], b < s.heap.objs.size) (hn : min xs.size ys.size ≤ sizeLine)
    (kQ : ∀ h' as acc c, (∀ b o, b ≠ z → b ≠ TO → b ≠ i1 → b ≠ i2 → s.heap.get? b = some o → h'.get? b = some o) → h'.get? s.heap.objs.size = some { cls := .type "list", dict := none, data := .seq acc c, slots := #[] } → acc.toList = as.map Value.ref → as.length = min xs.size ys.size →
      MadeZ xs ys (s.heap.objs.size + 1) h' as → Q (.ref s.heap.objs.size) { s with heap := h' }) : wpAny (model prog w) A (call (.type "list") [.ref z]) Q E s := by
  have hSf : s.heap.objs.size ∉ [z, TI, TO, i1, i2, l1, l2] := fun hm => Nat.lt_irrefl _ (hlt _ hm)
  have zlt := hlt z (by simp)
  refine callType_codes (Q₁ := fun ob u => ob = .ref s.heap.objs.size ∧ u = { s with heap := s.heap.push { cls := .type "list", data := .seq #[] } }) PySem.F.called_list (PySem.F.typeCall_list_1 _) PySem.F.entry_list_init (code_list_new _ ⟨rfl, rfl⟩) fun ob u hu => ?_
  obtain ⟨rfl, rfl⟩ := hu
  have e0 : (s.heap.push { cls := .type "list", data := .seq #[] }).get? s.heap.objs.size = some { cls := .type "list", data := .seq #[] } := Heap.get?_push_size _ rfl
  refine ⟨⟨_, e0, rfl⟩, PySem.F.args_list_init_2 _ _, ?_⟩
  show wpAny _ A.in1.in1 (do let old ← Builtin.List.listItems (.ref s.heap.objs.size); Builtin.List.listUpdate (.ref s.heap.objs.size) (fun _ => #[]); letGo old.toList.reverse; Builtin.List.listExtendWith (.ref s.heap.objs.size) (.ref z) .none) _ _ _
  refine wpAny_bind ?_
  unfold Builtin.List.listItems
  refine wpAny_bind (wpAny_seqItems e0 rfl (wpAny_pure ?_))
  show wpAny _ A.in1.in1 (updateSeq s.heap.objs.size (fun _ => #[]) >>= fun _ => letGo (#[] : Array Value).toList.reverse >>= fun _ => Builtin.List.listExtendWith (.ref s.heap.objs.size) (.ref z) .none) _ _ _
  refine wpAny_bind (wpAny_updateSeq e0 rfl ?_)
  have e1 := Heap.get?_update_self (Obj.mapSeq (fun _ => (#[] : Array Value))) e0 rfl
  have k1 : ∀ b o, b ≠ s.heap.objs.size → s.heap.get? b = some o → ((s.heap.push { cls := .type "list", data := .seq #[] }).update s.heap.objs.size (Obj.mapSeq (fun _ => (#[] : Array Value)))).get? b = some o := fun b o hb e => (Heap.get?_update_other _ _ (Ne.symm hb)).trans (Heap.get?_push_of_some _ e)
  have z1 : ((s.heap.push { cls := .type "list", data := .seq #[] }).update s.heap.objs.size (Obj.mapSeq (fun _ => (#[] : Array Value)))).objs.size = s.heap.objs.size + 1 := by rw [Heap.size_update, Heap.size_push]
  refine wpAny_bind (wpAny_letGo ?_)
  have st1 := st.keep hSf k1
  generalize hg1 : (s.heap.push { cls := .type "list", data := .seq #[] }).update s.heap.objs.size (Obj.mapSeq (fun _ => (#[] : Array Value))) = g1 at e1 k1 z1 st1
  unfold Builtin.List.listExtendWith
  refine wpAny_bind (wpAny_typeOf (ZSt.ty (s := { s with heap := g1 }) st1) ?_)
  have c1 : Builtin.List.listSameRef (.ref s.heap.objs.size) (.ref z) = false := by simp [Builtin.List.listSameRef, Nat.ne_of_gt zlt]
  have c2 : (Value.type "zip" == Value.type "list") = false := by decide
  have c3 : (Value.type "zip" == Value.type "tuple") = false := by decide
  simp only [c1, c2, c3, Bool.or_false, Bool.false_eq_true, if_false]
  refine wpAny_bind (zip_iter (s := { s with heap := g1 }) st1 ?_)
  refine wpAny_bind (wpAny_holding ?_)
  unfold Builtin.List.listLengthHint
  refine wpAny_bind (wpAny_specialOf (ZSt.ty (s := { s with heap := g1 }) st1) zip_nolen ?_)
  show wpAny _ A.in1.in1 (specialOf (Value.ref z) (Str.ofString "__length_hint__") >>= _) _ _ _
  refine wpAny_bind (wpAny_specialOf (ZSt.ty (s := { s with heap := g1 }) st1) zip_nohint ?_)
  refine wpAny_pure ?_
  show wpAny _ A.in1.in1 (rule "list.extend.makes-room" >>= fun _ => Builtin.List.listTouch (.ref s.heap.objs.size) >>= fun _ => again (.builtin "list.extend.loop" ⟨[.ref s.heap.objs.size, .ref z, .none], []⟩)) _ _ _
  refine wpAny_bind (wpAny_rule (wpAny_bind ?_))
  show wpAny _ A.in1.in1 (updateSeq s.heap.objs.size (·.push .none) >>= fun _ => updateSeq s.heap.objs.size (·.pop)) _ _ _
  refine wpAny_bind (wpAny_updateSeq e1 rfl ?_)
  have e2 := Heap.get?_update_self (Obj.mapSeq (·.push Value.none)) e1 rfl
  refine wpAny_updateSeq (hz := by seq_fits) e2 rfl ?_
  have e3 := Heap.get?_update_self (Obj.mapSeq (·.pop)) e2 rfl
  have k3 : ∀ b o, b ≠ s.heap.objs.size → g1.get? b = some o → ((g1.update s.heap.objs.size (Obj.mapSeq (·.push Value.none))).update s.heap.objs.size (Obj.mapSeq (·.pop))).get? b = some o := fun b o hb e => (Heap.get?_update_other _ _ (Ne.symm hb)).trans ((Heap.get?_update_other _ _ (Ne.symm hb)).trans e)
  have z3 : ((g1.update s.heap.objs.size (Obj.mapSeq (·.push Value.none))).update s.heap.objs.size (Obj.mapSeq (·.pop))).objs.size = s.heap.objs.size + 1 := by rw [Heap.size_update, Heap.size_update, z1]
  have st3 := st1.keep hSf k3
  refine wpAny_pure ⟨plainId_quiet PySem.F.plain_extend_loop _, ?_⟩
  have up : ∀ b ∈ [z, TI, TO, i1, i2, l1, l2], b < s.heap.objs.size + 1 := fun b hb => Nat.lt_succ_of_lt (hlt b hb)
  have run := zip_loop (prog := prog) (w := w) (A := A.in1) (s := s) (R := wants (fun r u => r = Value.none ∧ Q (Value.ref s.heap.objs.size) u) E) (lo := s.heap.objs.size + 1) (h₁ := s.heap) hh D hSf ⟨Nat.lt_succ_self _, up z (by simp), up TO (by simp), up i1 (by simp), up i2 (by simp)⟩ hn .none
    (fun h' acc c as kp hl hal G hacc => ⟨rfl, kQ h' as acc c (fun b o b1 b2 b3 b4 e => kp b o (Nat.ne_of_lt (Heap.lt_size e)) b1 b2 b3 b4 e) hl hacc hal G⟩)
  exact run _ 0 _ _ #[] [] rfl (Nat.zero_le _) st3 (fun b o b0 _ _ _ _ e => k3 b o b0 (k1 b o b0 e)) e3 rfl rfl ⟨.nil, fun a ha => absurd ha (by simp), fun j a hj => by simp at hj⟩ (by rw [z3]; exact Nat.le_refl _)
end
theorem call_zip_raw {prog : Program} {w : World} {A : Around} {E : Value → Shared → Prop} {s : Shared} {l1 l2 : Addr} {xs ys : Array Value} {Q : Value → Shared → Prop} (h1 : IsTup s.heap l1 xs) (h2 : IsTup s.heap l2 ys)
    (h : ∀ h', IsZip h' (s.heap.objs.size + 4) (s.heap.objs.size + 2) (s.heap.objs.size + 3) .none → IsPair h' (s.heap.objs.size + 2) (.ref s.heap.objs.size) (.ref (s.heap.objs.size + 1)) →
      IsPair h' (s.heap.objs.size + 3) .none .none → h'.IsTupleIter s.heap.objs.size l1 0 → h'.IsTupleIter (s.heap.objs.size + 1) l2 0 → h'.objs.size = s.heap.objs.size + 5 →
      (∀ c o, s.heap.get? c = some o → h'.get? c = some o) → Q (.ref (s.heap.objs.size + 4)) { s with heap := h' }) : wpAny (model prog w) A (call (.type "zip") [.ref l1, .ref l2]) Q E s :=
  RZ.call_zipT (show s.heap.IsTuple l1 xs from h1) (show s.heap.IsTuple l2 ys from h2) h
def rLZ (K : PySem.W.Frag) : List V → Hp → VK → Prop := fun xs H Q => ∃ (a b : Addr) (us vs : List V), xs = [.ref a, .ref b] ∧ SqT K H a us ∧ SqT K H b vs ∧ ∀ (H' : Hp) (q : Addr) (as : List Addr), (∀ b o, H b = some o → H' b = some o) → H q = none → H' q = some (.lst (as.map V.ref)) →
  as.length = min us.length vs.length → q ∉ as → (∀ (j : Nat) (c : Addr), as[j]? = some c → H c = none ∧ ∃ x y, us[j]? = some x ∧ vs[j]? = some y ∧ H' c = some (.tup [x, y])) → Q (.ref q) H'
theorem pe_listZip {X : Cx} {e e2 : Expr} {ta : TA} {p p2 pos pos2 : Pos} (hc : X.calm = true) (hg : Gl X "list") (hm : X.mg "list" = none) (hg2 : Gl X "zip") (hm2 : X.mg "zip" = none) (ha : PA X [e, e2] ta)
    (hs : starEach [e, e2] X.env = (false, eval e X.env) :: starEach [e2] X.env := by rfl) (hpl : (backTo pos2 (starEach [e2] X.env)).any (·.1) = false := by rfl) (na : starEach [Expr.Call (.Name "zip" p2) [e, e2] [] pos2] X.env = (false, eval (.Call (.Name "zip" p2) [e, e2] [] pos2) X.env) :: starEach [] X.env := by rfl) :
    PE X (.Call (.Name "list" p) [.Call (.Name "zip" p2) [e, e2] [] pos2] [] pos) (tCB (rLZ X.K) ta) := by
  refine ⟨fun pins s σ H Q I h => ?_⟩
  refine Call_ (ld_blt I hg hm boot_list (PyProof.Rows.callWith_type1 (args_cons (Call_ (ld_blt I hg2 hm2 PyProof.Rows.boot_zip (PyProof.Rows.callWith_type1 (thn (ha.run pos2 pins s σ H _ I h) fun us s1 ⟨vs, H1, I1, r1, q1⟩ => ?_) hs hpl))) na) na))
  obtain ⟨a, b, xs, ys, rfl, hqx, hqy, q1⟩ := q1
  cases r1 with
  | cons r rr =>
    cases rr with
    | cons r' rr =>
      cases rr
      cases r
      cases r'
      obtain ⟨its, rv, p1, lz⟩ := I1.tuple hqx
      obtain ⟨its2, rv2, p2', _⟩ := I1.tuple hqy
      have la := p1.lt
      have lb := p2'.lt
      refine call_zip_raw p1 p2' fun h' hz hTI hTO h1 h2 hsz hk => args_nil ?_
      have D := PySem.W.ktu_apart s1.heap.objs.size a b la lb
      have m1 : min its.toArray.size its2.toArray.size = min xs.length ys.length := by rw [List.size_toArray, List.size_toArray, rv.length, rv2.length]
      have zst : ZSt (s1.heap.objs.size + 4) (s1.heap.objs.size + 2) (s1.heap.objs.size + 3) s1.heap.objs.size (s1.heap.objs.size + 1) a b h'.objs.size its.toArray its2.toArray 0 h' :=
        ⟨hTI, h1, h2, (show s1.heap.IsTuple a its.toArray from p1).at fun o e => hk a o e, (show s1.heap.IsTuple b its2.toArray from p2').at fun o e => hk b o e, .inl ⟨hz, _, _, hTO⟩⟩
      refine list_of_zip (s := { s1 with heap := h' }) (A := X.A) (I1.ok.hd hc) D zst (fun c hcm => ?_) (by rw [m1]; omega) fun h'' as acc c k2 hl hacc hlen G => ?_
      · show c < h'.objs.size
        rw [hsz]
        simp only [List.mem_cons, List.not_mem_nil, or_false] at hcm
        rcases hcm with z | z | z | z | z | z | z
        · rw [z]; exact Nat.lt_succ_self _
        · rw [z]; exact Nat.add_lt_add_left (by decide) _
        · rw [z]; exact Nat.add_lt_add_left (by decide) _
        · rw [z]; exact Nat.lt_add_of_pos_right (by decide)
        · rw [z]; exact Nat.add_lt_add_left (by decide) _
        · rw [z]; exact Nat.lt_add_right _ la
        · rw [z]; exact Nat.lt_add_right _ lb
      · have kk : ∀ c o, s1.heap.get? c = some o → h''.get? c = some o := fun c o e => by
          have hlt := Heap.lt_size e
          exact k2 c o (Nat.ne_of_lt (Nat.lt_add_right _ hlt)) (Nat.ne_of_lt (Nat.lt_add_right _ hlt)) (Nat.ne_of_lt hlt) (Nat.ne_of_lt (Nat.lt_add_right _ hlt)) (hk c o e)
        have nd : as.Nodup := G.rise.imp fun h => Nat.ne_of_lt h
        have lo : s1.heap.objs.size ≤ h'.objs.size := by rw [hsz]; exact Nat.le_add_right _ _
        have qa : h'.objs.size ∉ as := fun hm => Nat.lt_irrefl _ (G.above _ hm)
        have I2 : L2.Inv X pins σ H1 { s1 with heap := h'' } := I1.kept (t' := s1.toks) kk
        have hq0 : H1 h'.objs.size = none := I1.hok.fresh lo
        have hl2 : (as.map V.ref).length ≤ sizeLine := by rw [List.length_map, hlen, m1]; omega
        have I3 : L2.Inv X pins σ (upd H1 h'.objs.size (.lst (as.map V.ref))) { s1 with heap := h'' } :=
          I2.take (h' := h'') (t' := s1.toks) (fun b ob _ e => e) (I1.fpOk lo hq0) ⟨hl2, as.map Value.ref, c, vals_refs as, by rw [← hacc, Array.toArray_toList]; exact hl⟩
        have hc1 : ∀ d ∈ as, s1.heap.objs.size ≤ d ∧ H1 d = none := fun d hd => by
          have : s1.heap.objs.size ≤ d := Nat.le_trans lo (Nat.le_of_lt (G.above d hd))
          exact ⟨this, I1.hok.fresh this⟩
        obtain ⟨H2, I4, g, qt⟩ := DX.takeT (P := fun d vs => ∃ (j : Nat) (x y : V), as[j]? = some d ∧ vs = [x, y] ∧ xs[j]? = some x ∧ ys[j]? = some y) I1 as _ I3 nd fun d hd => by
          obtain ⟨j, hj⟩ := List.mem_iff_getElem?.mp hd
          obtain ⟨u, v, e1, e2, e3⟩ := G.pairs j d hj
          obtain ⟨hb, hnone⟩ := hc1 d hd
          have hjl : j < min xs.length ys.length := by rw [← m1, ← hlen]; exact (List.getElem?_eq_some_iff.mp hj).1
          have ex : xs[j]? = some (xs[j]'(by omega)) := by simp
          have ey : ys[j]? = some (ys[j]'(by omega)) := by simp
          obtain ⟨u', f1, f2⟩ := rv.get ex
          obtain ⟨v', f3, f4⟩ := rv2.get ey
          have e1' : its[j]? = some u := by simpa using e1
          have e2' : its2[j]? = some v := by simpa using e2
          rw [e1'] at f1
          rw [e2'] at f3
          cases f1
          cases f3
          refine ⟨hb, ?_, [_, _], ⟨j, _, _, hj, rfl, ex, ey⟩, fun H3 => ⟨by rw [sizeLine_eq]; show 2 ≤ 16777216; omega, [u, v], .cons f2 (.cons f4 .nil), ⟨_, e3, rfl, 0, rfl⟩⟩⟩
          rw [upd_ne (fun z : d = h'.objs.size => qa (by rw [← z]; exact hd))]
          exact hnone
        refine ⟨.ref h'.objs.size, H2, I4, rfl, q1 H2 h'.objs.size as (fun d o e => g d o (by rw [upd_ne (ne_of_none e hq0)]; exact e)) hq0 (g _ _ upd_same) (by rw [hlen, m1]) qa fun j d hj => ?_⟩
        have hd := List.mem_of_getElem? hj
        obtain ⟨vs, ⟨i, x, y, i1, rfl, i2, i3⟩, hH⟩ := qt d hd
        have eij : i = j := (List.getElem?_inj (List.getElem?_eq_some_iff.mp i1).1 nd).mp (i1.trans hj.symm)
        subst eij
        exact ⟨(hc1 d hd).2, x, y, i2, i3, hH⟩
end Mv
set_option Elab.async false
set_option linter.all false
set_option maxRecDepth 100000
namespace Mv
open PySem PySem.Spec PyProof.Rows L2
/-- what is new is frozen -/
def Cf.grow (c : Cf) (H' : Hp) : Cf := { c with F := fun a => match c.H a with | none => H' a | some _ => c.F a, H := H' }
theorem Stt.grow {K : PySem.W.Frag} {c : Cf} {Γ : Env} {H' : Hp} (S : Stt K c Γ) (k : Same c.H H') : Stt K (c.grow H') Γ ∧ ExtE false c (c.grow H') := by
  have hf : Same c.F (c.grow H').F := fun a o e => by
    have := S.sub a o e
    show (match c.H a with | none => H' a | some _ => c.F a) = some o
    rw [this]
    exact e
  refine ⟨⟨fun a o e => ?_, fun a q e => ?_, S.len, fun i t e => ?_⟩, ⟨⟨hf, fun a o e n => ⟨k a o e, n⟩, fun a o e => ?_, fun a e => ?_⟩, rfl, ⟨[], by simp [Cf.grow]⟩, fun _ => k⟩⟩
  · have e : (match c.H a with | none => H' a | some _ => c.F a) = some o := e
    split at e
    · exact e
    · exact k a o (S.sub a o e)
  · obtain ⟨h1, o, h2⟩ := S.own a q e
    refine ⟨?_, o, k a o h2⟩
    show (match c.H a with | none => H' a | some _ => c.F a) = none
    rw [h2]
    exact h1
  · obtain ⟨v, h1, h2⟩ := S.at_ i t e
    exact ⟨v, h1, h2.move hf fun a r o h3 h4 => ⟨k a o h4, h3⟩⟩
  · have e : (match c.H a with | none => H' a | some _ => c.F a) = some o := e
    split at e
    · rename_i h
      exact .inr (.inl h)
    · exact .inl e
  · cases h : c.H a with
    | none => rfl
    | some o =>
      have := k a o h
      rw [show H' a = none from e] at this
      cases this
def tLZ (t : TAD) : TD := fun Γ Ψ => t Γ fun Γ1 rs => match rs with
  | [a, b] => (match vw Γ1 a, vw Γ1 b with
    | some (.tup xs), some (.tup ys) => Ψ (Γ1 ++ [some (.li ((zipD xs ys).map .d))]) (.p [Γ1.length])
    | _, _ => False)
  | _ => False
theorem zip_rds {K : PySem.W.Frag} {F G : Hp} (hs : Same F G) : ∀ {as : List Addr} {us vs : List V} {xs ys : List D}, RDs K F us xs → RDs K F vs ys → as.length = min us.length vs.length →
    (∀ (j : Nat) (c : Addr), as[j]? = some c → ∃ x y, us[j]? = some x ∧ vs[j]? = some y ∧ G c = some (.tup [x, y])) → RDs K G (as.map V.ref) (zipD xs ys)
  | [], _, _, _, _, r1, r2, hl, _ => by
    cases r1 with
    | nil => exact .nil
    | cons _ _ =>
      cases r2 with
      | nil => exact .nil
      | cons _ _ => simp at hl
  | a :: as, _, _, _, _, r1, r2, hl, h => by
    cases r1 with
    | nil => simp at hl
    | cons g1 r1 =>
      cases r2 with
      | nil => simp at hl
      | cons g2 r2 =>
        obtain ⟨x, y, e1, e2, e3⟩ := h 0 a rfl
        cases e1
        cases e2
        refine .cons (.tup (.of e3) (.cons (g1.mono hs) (.cons (g2.mono hs) .nil))) (zip_rds hs r1 r2 (by simp only [List.length_cons] at hl; omega) fun j c hc => h (j + 1) c (by simpa using hc))
section
variable {S : Cs} {m : Bool} {p p2 pos pos2 : Pos} {e e2 : Expr} {t : TAD}
theorem pd_listZip (hm : S.mg ("list" : Str) = none) (hm2 : S.mg ("zip" : Str) = none) (ha : PAD S m [e, e2] t) (hg : S.sc.names.lookup ("list" : Str) = some .globalImplicit := by rfl) (hg2 : S.sc.names.lookup ("zip" : Str) = some .globalImplicit := by rfl)
    (hs : ∀ env, starEach [e, e2] env = (false, eval e env) :: starEach [e2] env := by intro _; rfl) (hpl : ∀ env, (backTo pos2 (starEach [e2] env)).any (·.1) = false := by intro _; rfl)
    (na : ∀ env, starEach [Expr.Call (.Name "zip" p2) [e, e2] [] pos2] env = (false, eval (.Call (.Name "zip" p2) [e, e2] [] pos2) env) :: starEach [] env := by intro _; rfl) :
    PD S m (.Call (.Name "list" p) [.Call (.Name "zip" p2) [e, e2] [] pos2] [] pos) (tLZ t) := by
  obtain ⟨ua, a1, a2⟩ := ha.ex
  refine ⟨tCB (rLZ S.K) ua, fun X hX => by rw [← hX.K]; exact pe_listZip hX.calm (by show X.env.scope.names.lookup _ = _; rw [hX.sc]; exact hg) (by rw [hX.mg]; exact hm) (by show X.env.scope.names.lookup _ = _; rw [hX.sc]; exact hg2) (by rw [hX.mg]; exact hm2) (a1 X hX) (hs _) (hpl _) (na _), fun c Γ Ψ Q hn st h k => ?_⟩
  refine a2 c Γ _ _ hn st h fun vs c1 Γ1 rs e1 st1 v1 q1 => ?_
  split at q1
  · cases v1 with
    | cons v1 vr =>
      cases vr with
      | cons v2 vr =>
        cases vr
        split at q1
        · rename_i xs ys hi hj
          obtain ⟨a, us, rfl, g1, g2⟩ := (st1.vd v1 hi).tup st1
          obtain ⟨b, ws, rfl, g3, g4⟩ := (st1.vd v2 hj).tup st1
          refine ⟨a, b, us, ws, rfl, g1, g3, fun H' q as gr hq hl hlen qa hp => ?_⟩
          -- all but the list itself
          have k1 : Same c1.H (fun d => if d = q then none else H' d) := fun d o e => by
            show (if d = q then none else H' d) = some o
            rw [if_neg (ne_of_none e hq)]
            exact gr d o e
          obtain ⟨st2, e2⟩ := st1.grow k1
          have hq2 : (c1.grow (fun d => if d = q then none else H' d)).H q = none := by
            show (if q = q then none else H' q) = none
            rw [if_pos rfl]
          have r := zip_rds (K := S.K) (G := (c1.grow (fun d => if d = q then none else H' d)).F) e2.f g2 g4 hlen fun j d hd => by
            obtain ⟨n, x, y, i1, i2, i3⟩ := hp j d hd
            refine ⟨x, y, i1, i2, ?_⟩
            show (match c1.H d with | none => (if d = q then none else H' d) | some _ => c1.F d) = _
            rw [n]
            have : d ≠ q := fun z => qa (z ▸ List.mem_of_getElem? hd)
            show (if d = q then none else H' d) = _
            rw [if_neg this]
            exact i3
          obtain ⟨st4, e4, v4⟩ := st2.temp (p := q) hq2 r
          have eH : upd (fun d => if d = q then none else H' d) q (.lst (as.map V.ref)) = H' := by
            funext d
            unfold upd
            by_cases z : d = q
            · subst z
              rw [if_pos rfl, hl]
            · rw [if_neg z]
              show (if d = q then none else H' d) = H' d
              rw [if_neg z]
          have := k _ _ _ _ (((e1.trans e2).trans e4).le fun z => by simpa using z) st4 v4 q1
          have e5 : ((c1.grow (fun d => if d = q then none else H' d)).temp Γ1.length q (.lst (as.map V.ref))).H = H' := eH
          rw [e5] at this
          exact this
        · exact q1.elim
  · exact q1.elim
end
end Mv
set_option Elab.async false
set_option linter.all false
set_option maxRecDepth 100000
namespace Mv
open PySem PySem.Spec PyProof.Rows L2
theorem swp2 {env : PySem.Env} {sc : Scope} {x y : Str} {px py pt pt2 : Pos} {kt k2 : Nat} {a b : Expr} (h : env.scope = sc) (hk : sc.kind = .function) (hx : sc.names.lookup x = some .local) (hy : sc.names.lookup y = some .local) (hn : ([x, y] : List Str).eraseDups.length = 2) (hl : (px.line == px.line && py.line == px.line) = true)
    (hs : ([a, b].any fun | .Starred .. => true | _ => false) = false) (hf : [a, b].all (foldedForSure 8) = false) (hc : [a, b].all (constantsAlone 8) = false) : swappedStores [.Tuple [.Name x px, .Name y py] kt pt] (.Tuple [a, b] k2 pt2) env = pure (some [x, y]) := by
  have kx : env.kindOf x = some .local := by
    unfold PySem.Env.kindOf
    rw [h]
    exact hx
  have ky : env.kindOf y = some .local := by
    unfold PySem.Env.kindOf
    rw [h]
    exact hy
  have kb : env.blockKind = .function := by
    unfold PySem.Env.blockKind
    rw [h, hk]
    rfl
  rw [Bool.and_eq_true] at hl
  unfold swappedStores
  simp only [List.length_cons, List.length_nil, kb, kx, ky, hs, hf, hc, List.head?_cons, Option.map_some, Option.getD_some, Expr.pos, List.filterMap_cons, List.filterMap_nil, beq_self_eq_true, hl.2, Bool.and_self, if_true, hn, Bool.false_eq_true, if_false]
  exact (if_neg (by decide)).trans ((if_neg (fun z => Bool.false_ne_true (hs.symm.trans z))).trans (if_neg (by decide)))
theorem fzs_d : ∀ xs : List D, fzs (xs.map .d) = xs
  | [] => rfl
  | x :: xs => by rw [List.map_cons, fzs, fz, fzs_d xs]
section
variable {S : Cs} {pos : Pos} {m : Bool}
theorem psd_par2 {n : Nat} (i j : Nat) {x y : Str} {a b : Expr} {px py pt : Pos} {kt k2 : Nat} {pt2 : Pos} {t : TAD} (ha : PAD S m [a, b] t) (hi : S.N[i]? = some x := by rfl) (hj : S.N[j]? = some y := by rfl) (hn : S.N.length = n := by rfl) (hij : i ≠ j := by decide)
    (hx : S.sc.names.lookup x = some .local := by rfl) (hy : S.sc.names.lookup y = some .local := by rfl) (hk : S.lk i = false := by rfl) (hk' : S.lk j = false := by rfl) (hkf : S.sc.kind = .function := by rfl) (hd : ([x, y] : List Str).eraseDups.length = 2 := by decide) (hl : (px.line == px.line && py.line == px.line) = true := by rfl)
    (hst : ([a, b].any fun | .Starred .. => true | _ => false) = false := by rfl) (hf : [a, b].all (foldedForSure 8) = false := by rfl) (hc : [a, b].all (constantsAlone 8) = false := by rfl) (hs : ∀ env, swapsWithSole [.Tuple [.Name x px, .Name y py] kt pt] (.Tuple [a, b] k2 pt2) pos.line env = pure false := by intro _; rfl) :
    PSD S (.Assign [.Tuple [.Name x px, .Name y py] kt pt] (.Tuple [a, b] k2 pt2) pos) (tParD n i j t) :=
  psd_par i j ha hi hj hn hij hx hy hk hk' (fun X hX => swp2 hX.sc hkf hx hy hd hl hst hf hc) hs
end
end Mv
set_option Elab.async false
set_option linter.all false
set_option maxRecDepth 100000
namespace Mv
open PySem PySem.Spec PyProof.Rows L2
/-! ### a, b = x, y where one of the names is shared with an inner scope: by a tuple that nobody keeps -/
theorem Stt.junk {K : PySem.W.Frag} {c : Cf} {Γ : Env} {p : Addr} {o : HO} (S : Stt K c Γ) (hp : c.H p = none) : Stt K { c with H := upd c.H p o } Γ ∧ ExtE false c { c with H := upd c.H p o } := by
  have up : Same c.H (upd c.H p o) := same_upd hp
  refine ⟨⟨fun a u e => up a u (S.sub a u e), fun a q e => ?_, S.len, fun i t e => ?_⟩, ⟨⟨Same.refl _, fun a u e n => ⟨up a u e, n⟩, fun a u e => .inl e, fun a e => ?_⟩, rfl, ⟨[], by simp⟩, fun _ => up⟩⟩
  · obtain ⟨h1, u, h2⟩ := S.own a q e
    exact ⟨h1, u, up a u h2⟩
  · obtain ⟨v, h1, h2⟩ := S.at_ i t e
    exact ⟨v, h1, h2.move (Same.refl _) fun a r u h3 h4 => ⟨up a u h4, h3⟩⟩
  · have e : upd c.H p o a = none := e
    by_cases z : a = p
    · rw [z]; exact hp
    · rw [upd_ne z] at e
      exact e
theorem loc_up {H H' : Hp} {vs : List (Option V)} (k : Same H H') {q : List Nat} {v : V} (h : Loc H vs q v) : Loc H' vs q v := by
  induction h with
  | slot e => exact .slot e
  | li _ h2 h3 ih => exact .li ih (k _ _ h2) h3
  | ob _ h2 h3 h4 ih => exact .ob ih (k _ _ h2) h3 h4
theorem VR.junk {K : PySem.W.Frag} {c : Cf} {p : Addr} {o : HO} (hp : c.H p = none) {r : RV} {v : V} (h : VR K c r v) : VR K { c with H := upd c.H p o } r v := by
  cases r with
  | d x => exact h
  | p q => exact loc_up (same_upd hp) h
theorem swpC {env : PySem.Env} {sc : Scope} {x y : Str} {px py pt pt2 : Pos} {kt k2 : Nat} {a b : Expr} (h : env.scope = sc) (hx : ((sc.names.lookup x == some .local) && (sc.names.lookup y == some .local)) = false) (hs : ([a, b].any fun | .Starred .. => true | _ => false) = false) :
    swappedStores [.Tuple [.Name x px, .Name y py] kt pt] (.Tuple [a, b] k2 pt2) env = pure none := by
  have kx : ∀ z, env.kindOf z = sc.names.lookup z := fun z => by
    unfold PySem.Env.kindOf
    rw [h]
  unfold swappedStores
  simp only [List.length_cons, List.length_nil, kx, List.head?_cons, Option.map_some, Option.getD_some, Expr.pos, List.filterMap_cons, List.filterMap_nil, beq_self_eq_true, Bool.and_true]
  split
  · rfl
  split
  · rfl
  generalize (sc.names.lookup x == some NameKind.local) = b1 at hx ⊢
  generalize (sc.names.lookup y == some NameKind.local) = b2 at hx ⊢
  generalize (py.line == px.line) = b3
  cases b1 <;> cases b2 <;> cases b3 <;> first | rfl | cases hx
section
variable {S : Cs} {pos : Pos} {m : Bool}
theorem psd_parC {n : Nat} (i j : Nat) {x y : Str} {a b : Expr} {px py pt : Pos} {kt k2 : Nat} {pt2 : Pos} {t : TAD} (ha : PAD S m [a, b] t) (hi : S.N[i]? = some x := by rfl) (hj : S.N[j]? = some y := by rfl) (hn : S.N.length = n := by rfl)
    (hx : L2.Loc S.sc x := by first | exact Or.inl rfl | exact Or.inr rfl) (hy : L2.Loc S.sc y := by first | exact Or.inl rfl | exact Or.inr rfl) (hfx : S.fn x = true ∨ S.sc.names.lookup x = some .local := by first | exact Or.inl rfl | exact Or.inr rfl) (hfy : S.fn y = true ∨ S.sc.names.lookup y = some .local := by first | exact Or.inl rfl | exact Or.inr rfl)
    (hk : S.lk i = false := by rfl) (hk' : S.lk j = false := by rfl) (hxy : ((S.sc.names.lookup x == some .local) && (S.sc.names.lookup y == some .local)) = false := by rfl)
    (hst : ([a, b].any fun | .Starred .. => true | _ => false) = false := by rfl) (hs : ∀ env, swapsWithSole [.Tuple [.Name x px, .Name y py] kt pt] (.Tuple [a, b] k2 pt2) pos.line env = pure false := by intro _; rfl) :
    PSD S (.Assign [.Tuple [.Name x px, .Name y py] kt pt] (.Tuple [a, b] k2 pt2) pos) (tParD n i j t) := by
  subst hn
  obtain ⟨u, h1, h2⟩ := ha.ex
  have li := (List.getElem?_eq_some_iff.mp hi).1
  have lj := (List.getElem?_eq_some_iff.mp hj).1
  refine ⟨tAsg (tTup u) (gTup S.K 2 (gCons (gName i) (gCons (gName j) gNil))), fun X hX => ?_, fun c Γ DD Dn hn ht st h F => ?_⟩
  · have g1 : PG X (.Name x px) (gName i) := pg_name (i := i) (by rw [hX.N]; exact hX.nd) (by rw [hX.N]; exact hi) (by rw [hX.sc]; exact hx) (hfx.imp (hX.fn x) fun h => by rw [hX.sc]; exact h)
    have g2 : PG X (.Name y py) (gName j) := pg_name (i := j) (by rw [hX.N]; exact hX.nd) (by rw [hX.N]; exact hj) (by rw [hX.sc]; exact hy) (hfy.imp (hX.fn y) fun h => by rw [hX.sc]; exact h)
    rw [← hX.K]
    exact ps_asg (pe_tup (h1 X hX)) (pg_tup hX.calm (pgs_cons g1 (pgs_cons g2 pgs_nil rfl) rfl) rfl rfl) (hs _) (swpC hX.sc hxy hst) rfl
  · refine h2 c Γ _ _ hn st h fun vs c1 Γ1 rs e1 st1 v1 q1 => ?_
    have hn1 : c1.σ.length = S.N.length := by rw [e1.s]; exact hn
    split at q1
    · rename_i r s
      obtain ⟨hp, hr, hs', q1⟩ := q1
      cases v1 with
      | @cons _ v _ _ vr v1 =>
        cases v1 with
        | @cons _ w _ _ vs v1 =>
          cases v1
          refine ⟨by rw [sizeLine_eq]; show 2 ≤ 16777216; omega, fun p hp0 => ?_⟩
          obtain ⟨st0, e0⟩ := st1.junk (o := .tup [v, w]) hp0
          have vr := vr.junk (o := .tup [v, w]) hp0
          have vs := vs.junk (o := .tup [v, w]) hp0
          refine ⟨p, [v, w], rfl, .of upd_same, rfl, v, [w], rfl, w, [], rfl, rfl, ?_⟩
          obtain ⟨c2, Γ2, x2, eh, es, et, st2, q2, kp⟩ := sto_ok (c := { c1 with H := upd c1.H p (.tup [v, w]) }) (n := S.N.length) (i := i) hn1 li st0 vr q1
          have vs2 := kp s w vs (fun qq e => by
            subst e
            cases qq with
            | nil => exact absurd rfl (show Loc _ _ [] w from vs).ne
            | cons a qq =>
              cases qq with
              | nil => exact ⟨a, rfl, hs' a rfl⟩
              | cons b qq =>
                cases r with
                | d _ => exact hp.elim
                | p ww =>
                  cases ww with
                  | nil => exact hp.elim
                  | cons _ ww => cases ww <;> exact hp.elim)
          obtain ⟨c3, Γ3, x3, eh3, es3, et3, st3, q3, _⟩ := sto_ok (by rw [es, List.length_set]; exact hn1) lj st2 vs2 q2
          have y3 : ExtS S.N.length S.lk c c3 := ⟨e1.toExt.trans (e0.toExt.trans (x2.trans x3)), by rw [es3, es, List.length_set, List.length_set]; exact hn1, fun l hl => by
            rw [es3, List.getElem?_set_ne, es, List.getElem?_set_ne]
            · show c1.σ[l]? = _
              rw [e1.s]
            · rintro rfl; rw [hk] at hl; cases hl
            · rintro rfl; rw [hk'] at hl; cases hl⟩
          obtain ⟨x4, t4, st4⟩ := drop_all y3 st3
          have := F.nx c3.drop _ x4 t4 st4 q3
          have ea : c3.drop.H = upd c1.H p (.tup [v, w]) := by
            show c3.H = _
            rw [eh3, eh]
          have eb : c3.drop.σ = (c.σ.set i (some v)).set j (some w) := by
            show c3.σ = _
            rw [es3, es]
            show (c1.σ.set i _).set j _ = _
            rw [e1.s]
          rw [ea, eb] at this
          exact this
    · exact q1.elim
/-- x = [..], x shared with an inner block -/
theorem sw_cell {elt : Expr} {gs : List Comprehension} {scope sc : Scope} {pos py : Pos} {y : Str} {l : Nat} {env : PySem.Env} (h : env.scope = sc) (hy : (sc.names.lookup y == some .local) = false) : swapsWith (.ListComp elt gs scope pos) (some (.Name y py)) l env = pure false := by
  have ky : env.kindOf y = sc.names.lookup y := by
    unfold PySem.Env.kindOf
    rw [h]
  unfold swapsWith
  simp only [ky, hy, Bool.and_false, Bool.false_and]
theorem psd_setLcC {n : Nat} (i : Nat) {x : Str} {pos' cpos : Pos} {t : TD} {elt : Expr} {gs : List Comprehension} {scope : Scope} (h : PD S m (.ListComp elt gs scope cpos) t) (hi : S.N[i]? = some x := by rfl) (hn : S.N.length = n := by rfl) (hx : L2.Loc S.sc x := by first | exact Or.inl rfl | exact Or.inr rfl) (hk : S.lk i = false := by rfl)
    (hc : (S.sc.names.lookup x == some .local) = false := by rfl) (hf : S.fn x = true ∨ S.sc.names.lookup x = some .local := by first | exact Or.inl rfl | exact Or.inr rfl) : PSD S (.Assign [.Name x pos'] (.ListComp elt gs scope cpos) pos) (tSetD n i t) :=
  psd_set i h hi hn hx hk (fun X hX => sw_cell hX.sc hc) hf
end
end Mv
set_option Elab.async false
set_option linter.all false
set_option maxRecDepth 100000
namespace Mv
open PySem PySem.Spec PyProof.Rows L2
/-! ### the head: any facts that a program can look up in the written part, and the defs by name -/
abbrev Chk := PySem.W.Frag → List Bool
def obsC (cs : Chk) (fn : List He.DefD) (K : PySem.W.Frag) : He.AlD := (((cs K).all id) && fn.all fun d => d.ok K, fn.map fun d => He.fnW K d.at_)
def SaysC (cs : Chk) (fn : List He.DefD) (K : PySem.W.Frag) : Prop := obsC cs fn K = He.valD fn
def obsCG (n : Nat) (cs : Chk) (fn : List He.DefD) (g : Addr → Option Obj) : He.AlD := obsC cs fn (He.frG g (He.asD g n))
def hookC (n : Nat) (cs : Chk) (fn : List He.DefD) : PySem.W.Hook where
  α := He.AlD
  obs := fun s => obsCG n cs fn s.heap.get?
  val := fun _ => He.valD fn
  says := fun _ h => ∃ K : PySem.W.Frag, K.In h ∧ SaysC cs fn K
  of := fun _ _ e => ⟨_, He.frG_in, e⟩
  keeps := fun _ _ _ ⟨K, hK, c⟩ k => ⟨K, PySem.W.Frag.In.keeps hK k, c⟩
theorem obsCG_eq {n : Nat} {cs : Chk} {fn : List He.DefD} {g : Addr → Option Obj} {s : Shared} (h : ∀ a, g a = s.heap.get? a) : obsCG n cs fn g = (hookC n cs fn).obs s := by
  have e : g = s.heap.get? := funext h
  rw [e] <;> rfl
section
variable {cs : Chk} {fn : List He.DefD} {K : PySem.W.Frag}
theorem SaysC.fact (c : SaysC cs fn K) (i : Nat) {b : Bool} (h : (cs K)[i]? = some b := by rfl) : b = true := by
  have c1 := (He.ba (show (((cs K).all id) && fn.all fun d => d.ok K) = true from congrArg (fun z : He.AlD => z.1) c)).1
  exact List.all_eq_true.mp c1 b (List.mem_of_getElem? h)
theorem SaysC.def_ (c : SaysC cs fn K) (i : Nat) {d : He.DefD} (h : fn[i]? = some d := by rfl) : ∃ fd, FunD K d.name d.qual d.params d.body d.scope (d.dvs K) (d.kws K) (He.fAd K d.at_) fd := by
  have c2 := (He.ba (show (((cs K).all id) && fn.all fun d => d.ok K) = true from congrArg (fun z : He.AlD => z.1) c)).2
  have e : fn.map (fun d => He.fnW K d.at_) = fn.map He.DefD.val := congrArg (fun z : He.AlD => z.2) c
  have e2 : (fn.map fun d => He.fnW K d.at_)[i]? = (fn.map He.DefD.val)[i]? := by rw [e]
  rw [List.getElem?_map, List.getElem?_map, h] at e2
  exact He.DefD.funD (Option.some.inj e2) (List.all_eq_true.mp c2 d (List.mem_of_getElem? h))
/-- a def without defaults, by its row -/
def dOf (at_ : Str × Option Str) (x qual : Str) (st : Stmt) : He.DefD := ⟨at_, x, qual, defArgs st, defBody st, defScope st, [], []⟩
theorem fun_of {x qual : Str} {st : Stmt} {f : Addr} {fd : FuncData} (F : FunD K x qual (defArgs st) (defBody st) (defScope st) [] [] f fd) : Fun K x qual st f fd := by
  obtain ⟨oc, od, dV, kV, doc, pm, an, cdv, ct, osl, e, lk, hcd, hD, hK⟩ := F.ex
  rcases hD with ⟨_, rfl⟩ | ⟨h, _⟩
  · exact ⟨⟨oc, od, kV, doc, pm, an, cdv, ct, osl, e, lk, hcd⟩, F.kp⟩
  · exact absurd rfl h
theorem SaysC.fun_ (c : SaysC cs fn K) (i : Nat) {at_ : Str × Option Str} {x qual : Str} {st : Stmt} (h : fn[i]? = some (dOf at_ x qual st) := by rfl) : ∃ fd, Fun K x qual st (He.fAd K at_) fd := by
  obtain ⟨fd, F⟩ := c.def_ i h
  exact ⟨fd, fun_of F⟩
end
/-- what isinstance tells -/
def kb (K : PySem.W.Frag) (t u : Value) (b : Bool) : Bool := decide (PySem.W.kitOne K t u = some b)
theorem kb_ok {K : PySem.W.Frag} {t u : Value} {b : Bool} (h : kb K t u b = true) : PySem.W.kitOne K t u = some b := of_decide_eq_true h
section
variable {P : Program} {w : World} {K : PySem.W.Frag} {mg : Str → Option Value} {base : Heap}
/-- a def may be called -/
theorem callee_of {x : Str} {k np : Nat} {spec : SpD} {fd : FuncData} {st : Stmt} {ps : List Str} (F : Fun K x x st (He.fAd K (x, none)) fd) (G : FnOk P w K mg base CX0 k (He.fAd K (x, none)) fd ps (spOf K np spec)) (hm : mg x = some (.ref (He.ga K x)))
    (h : ∀ (kV doc pm : Value) (an : Option Addr) (cdv ct : Value) (us : List Value), us.length = ps.length → bindArgs (PySem.W.fnOf x x (defArgs st) (defBody st) (defScope st) .none kV doc pm an cdv ct) ⟨us, []⟩ = pure (ps.zip us)) : Callee P w K mg base x k np spec :=
  ⟨_, fd, ps, G, hm, F.kp, F.binds h⟩
theorem binds_law {x qual : Str} {st : Stmt} {f : Addr} {fd : FuncData} {ps : List Str} (F : Fun K x qual st f fd)
    (h : ∀ (kV doc pm : Value) (an : Option Addr) (cdv ct : Value) (us : List Value), us.length = ps.length → bindArgs (PySem.W.fnOf x qual (defArgs st) (defBody st) (defScope st) .none kV doc pm an cdv ct) ⟨us, []⟩ = pure (ps.zip us)) : ∀ (s : Shared) (us : List Value), us.length = ps.length → BindsTo s fd ⟨us, []⟩ (ps.zip us) := by
  obtain ⟨oc, od, kV, doc, pm, an, cdv, ct, osl, rfl, lk, hcd⟩ := F.ex
  exact fun s us hl => .of_eq (h kV doc pm an cdv ct us hl)
/-- keywords alone -/
theorem kbinds_of {x qual : Str} {st : Stmt} {f : Addr} {fd : FuncData} {ps ks : List Str} {π : List Nat} (F : Fun K x qual st f fd) (hp : ps.length ≠ 0)
    (h : ∀ (kV doc pm : Value) (an : Option Addr) (cdv ct : Value) (ws : List Value), ws.length = ks.length → bindArgs (PySem.W.fnOf x qual (defArgs st) (defBody st) (defScope st) .none kV doc pm an cdv ct) ⟨[], ks.zip ws⟩ = pure (ps.zip (pick π ws))) : KBinds K fd ps ks (byKw ks.length π) (byKw ks.length π) := by
  obtain ⟨oc, od, kV, doc, pm, an, cdv, ct, osl, rfl, lk, hcd⟩ := F.ex
  refine ⟨fun s us ws _ hl => ?_, fun r r2 => vals_byKw r r2⟩
  unfold byKw at hl ⊢
  split at hl
  · rename_i e
    rw [if_pos e]
    obtain ⟨e1, e2⟩ := e
    cases us with
    | nil => exact .of_eq (h kV doc pm an cdv ct ws e2)
    | cons u us => cases e1
  · exact absurd hl.symm hp
/-- the law's own call -/
theorem spOf_law {spec : SpD} {H : Hp} {a : Addr} {ns : List Int} (hS : SqL K H a (ns.map V.int)) (h : spec [some (.d (.sq (ns.map .int)))] fun _ t => t = .d (.bl true)) : spOf K 1 spec [.ref a] H (fun v _ => v = .bl true) fun _ _ _ => False := by
  refine ⟨rfl, H, fun _ => none, _, _, ⟨Same.refl _, (fun _ _ e => nomatch e), rfl, fun i t e => ?_⟩, h, fun v c' Γ' t _ hs ht st hl e => ?_⟩
  · cases i with
    | zero =>
      cases e
      exact ⟨.ref a, rfl, .d (.sq hS (rds_ints ns))⟩
    | succ i => cases e
  · subst e
    obtain ⟨u, h1, h2⟩ := st.at_ 1 (.d (.bl true)) (by rw [List.getElem?_append_right (by omega), hl]; rfl)
    have : c'.vs[1]? = some (some v) := by
      unfold Cf.vs
      rw [hs, ht]
      rfl
    rw [this] at h1
    cases h1
    cases h2 with
    | d h2 => cases h2; rfl
end
end Mv
set_option Elab.async false
set_option linter.all false
set_option maxRecDepth 100000
namespace K58
open PySem PySem.Spec PyProof.Rows L2 Mv
def topS (i : Nat) : Stmt := PySem.Challenge.pw_maystand_k58_whole_vectors_and_corners.main.body.getD i (.Pass ⟨0, 0, 0, 0⟩)
/-- the built-ins' names are not taken -/
structure Blt (mg : Str → Option Value) : Prop where
  len : mg "len" = none
  abs : mg "abs" = none
  sum : mg "sum" = none
  int : mg "int" = none
  isinstance : mg "isinstance" = none
  tuple : mg "tuple" = none
  list : mg "list" = none
  sorted : mg "sorted" = none
  set : mg "set" = none
  range : mg "range" = none
  zip : mg "zip" = none
  enumerate : mg "enumerate" = none
  str : mg "str" = none
  dict : mg "dict" = none
  bool : mg "bool" = none
abbrev s_is_below : Stmt := topS 5
theorem sc_is_below : FnScope ["one", "other", "small", "great"] ["one", "other"] (defScope s_is_below) := ⟨rfl, rfl, rfl, by decide +kernel, rfl, by decide +kernel, by decide +kernel⟩
abbrev s_least_of : Stmt := topS 6
theorem sc_least_of : FnScope ["vectors", "found", "vector", "other"] ["vectors"] (defScope s_least_of) := ⟨rfl, rfl, rfl, by decide +kernel, rfl, by decide +kernel, by decide +kernel⟩
abbrev s_greatest_of : Stmt := topS 7
theorem sc_greatest_of : FnScope ["vectors", "found", "vector", "other"] ["vectors"] (defScope s_greatest_of) := ⟨rfl, rfl, rfl, by decide +kernel, rfl, by decide +kernel, by decide +kernel⟩
abbrev s_weight_vector : Stmt := topS 8
theorem sc_weight_vector : FnScope ["sorts", "things", "weights", "thing"] ["sorts", "things"] (defScope s_weight_vector) := ⟨rfl, rfl, rfl, by decide +kernel, rfl, by decide +kernel, by decide +kernel⟩
abbrev s_least_vectors : Stmt := topS 10
theorem sc_least_vectors : FnScope ["vectors", "vector"] ["vectors"] (defScope s_least_vectors) := ⟨rfl, rfl, rfl, by decide +kernel, rfl, by decide +kernel, by decide +kernel⟩
abbrev s_free_things : Stmt := topS 12
theorem sc_free_things : FnScope ["web", "stands", "thing"] ["web", "stands"] (defScope s_free_things) := ⟨rfl, rfl, rfl, by decide +kernel, rfl, by decide +kernel, by decide +kernel⟩
abbrev s_cut_at : Stmt := topS 13
theorem sc_cut_at : FnScope ["corner", "vector", "at", "number"] ["corner", "vector"] (defScope s_cut_at) := ⟨rfl, rfl, rfl, by decide +kernel, rfl, by decide +kernel, by decide +kernel⟩
abbrev s_corners : Stmt := topS 14
theorem sc_corners : FnScope ["web", "sorts", "stands", "front", "found", "vector", "late", "corner"] ["web", "sorts", "stands", "front"] (defScope s_corners) := ⟨rfl, rfl, rfl, by decide +kernel, rfl, by decide +kernel, by decide +kernel⟩
abbrev s__law_deal : Stmt := topS 16
theorem sc__law_deal : FnScope ["script", "salt", "most", "cells", "mix", "cell"] ["script", "salt"] (defScope s__law_deal) := ⟨rfl, rfl, rfl, by decide +kernel, rfl, by decide +kernel, by decide +kernel⟩
abbrev s__law_any : Stmt := topS 17
theorem sc__law_any : FnScope ["deal", "bound", "rest"] ["deal", "bound"] (defScope s__law_any) := ⟨rfl, rfl, rfl, by decide +kernel, rfl, by decide +kernel, by decide +kernel⟩
abbrev s__law_mixed : Stmt := topS 18
theorem sc__law_mixed : FnScope ["deal", "some", "left", "found", "turn"] ["deal", "some"] (defScope s__law_mixed) := ⟨rfl, rfl, rfl, by decide +kernel, rfl, by decide +kernel, by decide +kernel⟩
abbrev s__law_is_kind : Stmt := topS 19
theorem sc__law_is_kind : FnScope ["told", "due"] ["told", "due"] (defScope s__law_is_kind) := ⟨rfl, rfl, rfl, by decide +kernel, rfl, by decide +kernel, by decide +kernel⟩
abbrev s__law_same : Stmt := topS 20
theorem sc__law_same : FnScope ["told", "due", "todo", "one", "other"] ["told", "due"] (defScope s__law_same) := ⟨rfl, rfl, rfl, by decide +kernel, rfl, by decide +kernel, by decide +kernel⟩
abbrev s__law_all : Stmt := topS 21
theorem sc__law_all : FnScope ["pairs", "told", "due"] ["pairs"] (defScope s__law_all) := ⟨rfl, rfl, rfl, by decide +kernel, rfl, by decide +kernel, by decide +kernel⟩
abbrev s__law_plain : Stmt := topS 22
theorem sc__law_plain : FnScope ["value"] ["value"] (defScope s__law_plain) := ⟨rfl, rfl, rfl, by decide +kernel, rfl, by decide +kernel, by decide +kernel⟩
abbrev s__law_grove : Stmt := topS 23
theorem sc__law_grove : FnScope ["deal", "least", "bound", "many", "pool", "needs", "thing", "picks", "lot", "pick", "one"] ["deal", "least", "bound"] (defScope s__law_grove) := ⟨rfl, rfl, rfl, by decide +kernel, rfl, by decide +kernel, by decide +kernel⟩
abbrev s__law_fits : Stmt := topS 24
theorem sc__law_fits : FnScope ["part", "whole", "one"] ["part", "whole"] (defScope s__law_fits) := ⟨rfl, rfl, rfl, by decide +kernel, rfl, by decide +kernel, by decide +kernel⟩
abbrev s__law_web_of : Stmt := topS 25
theorem sc__law_web_of : FnScope ["grove", "lots"] ["grove"] (defScope s__law_web_of) := ⟨rfl, rfl, rfl, by decide +kernel, rfl, by decide +kernel, by decide +kernel⟩
abbrev s__law_nowhere_more : Stmt := topS 26
theorem sc__law_nowhere_more : FnScope ["one", "other", "low", "high"] ["one", "other"] (defScope s__law_nowhere_more) := ⟨rfl, rfl, rfl, by decide +kernel, rfl, by decide +kernel, by decide +kernel⟩
abbrev s__law_box : Stmt := topS 27
theorem sc__law_box : FnScope ["tops", "rows", "top", "late", "one", "number"] ["tops"] (defScope s__law_box) := ⟨rfl, rfl, rfl, by decide +kernel, rfl, by decide +kernel, by decide +kernel⟩
abbrev s__law_lightest : Stmt := topS 28
theorem sc__law_lightest : FnScope ["vectors", "some", "one", "other"] ["vectors"] (defScope s__law_lightest) := ⟨rfl, rfl, rfl, by decide +kernel, rfl, by decide +kernel, by decide +kernel⟩
abbrev s__law_tops : Stmt := topS 29
theorem sc__law_tops : FnScope ["sorts", "stands", "many", "weights", "thing"] ["sorts", "stands", "many"] (defScope s__law_tops) := ⟨rfl, rfl, rfl, by decide +kernel, rfl, by decide +kernel, by decide +kernel⟩
abbrev s__law_tried_corners : Stmt := topS 30
theorem sc__law_tried_corners : FnScope ["sorts", "stands", "many", "front", "bare", "box", "vector", "one", "other"] ["sorts", "stands", "many", "front"] (defScope s__law_tried_corners) := ⟨rfl, rfl, rfl, by decide +kernel, rfl, by decide +kernel, by decide +kernel⟩
abbrev s_law : Stmt := topS 31
theorem sc_law : FnScope ["script", "deal", "pairs", "turn", "grove", "many", "web", "things", "sorts", "stands", "tops", "some", "front", "told", "due", "vector", "is_over", "is_under", "either", "sort", "thing", "top", "one"] ["script"] (defScope s_law) := ⟨rfl, rfl, rfl, by decide +kernel, rfl, by decide +kernel, by decide +kernel⟩
end K58
set_option Elab.async false
set_option linter.all false
set_option maxRecDepth 100000
namespace K58
open PySem PySem.Spec PyProof.Rows L2 Mv
/-! ### == by the data -/
theorem toPs_ints : ∀ ns : List Int, toPs (ns.map .int) = some (ns.map .int)
  | [] => rfl
  | n :: ns => by rw [List.map_cons, toPs, toPs_ints ns]; rfl
theorem toPs_tups : ∀ vs : List (List Int), toPs (vs.map iT) = some (vs.map fun v => .tuple (v.map .int))
  | [] => rfl
  | v :: vs => by
    rw [List.map_cons, toPs, toPs_tups vs]
    show (match toP (.tup (v.map .int)), _ with | some p, some ps => some (p :: ps) | _, _ => none) = _
    rw [toP, toPs_ints]
    rfl
theorem lay_ints : ∀ ns : List Int, PyData.canLayAll0 (ns.map .int) = true
  | [] => rfl
  | n :: ns => by rw [List.map_cons, PyData.canLayAll0, lay_ints ns]; rfl
theorem lay_tups : ∀ vs : List (List Int), PyData.canLayAll0 (vs.map fun v => .tuple (v.map .int)) = true
  | [] => rfl
  | v :: vs => by
    rw [List.map_cons, PyData.canLayAll0, lay_tups vs, PyData.canLay0, lay_ints]
    rfl
theorem depth_tups : ∀ vs : List (List Int), PyData.depthAll (vs.map fun v => .tuple (v.map .int)) ≤ 1
  | [] => Nat.zero_le _
  | v :: vs => by
    have ih := depth_tups vs
    rw [List.map_cons, PyData.depthAll, PyData.depth, PySem.W.depth_ints]
    omega
theorem eqD_lst (ns ms : List Int) : eqD (.lst (ns.map .int)) (.lst (ms.map .int)) = some (decide (ns = ms)) := by
  unfold eqD
  simp only [toP, toPs_ints]
  have s : ∀ ks : List Int, SeqAt.shaped (.list (ks.map .int)) = true := fun ks => by
    unfold SeqAt.shaped
    rw [PyData.canLay0, lay_ints, PyData.depth, PySem.W.depth_ints]
    rfl
  rw [s, s, PyData.eqv, PySem.W.ked_eqvAll]
  rfl
theorem eqD_tup (ns ms : List Int) : eqD (iT ns) (iT ms) = some (decide (ns = ms)) := by
  unfold eqD
  simp only [toP, toPs_ints]
  have s : ∀ ks : List Int, SeqAt.shaped (.tuple (ks.map .int)) = true := fun ks => by
    unfold SeqAt.shaped
    rw [PyData.canLay0, lay_ints, PyData.depth, PySem.W.depth_ints]
    rfl
  rw [s, s, PyData.eqv, PySem.W.ked_eqvAll]
  rfl
theorem eqD_ones {α : Type} (l : List α) : eqD (.lst (l.map fun _ => .int 1)) (.lst []) = some l.isEmpty := by
  have := eqD_lst (l.map fun _ => 1) []
  rw [List.map_map] at this
  rw [show (l.map fun _ => D.int 1) = l.map (D.int ∘ fun _ => 1) from rfl, show ([] : List D) = ([] : List Int).map .int from rfl, this]
  cases l <;> rfl
theorem eqD_empty (vs : List (List Int)) : eqD (.lst (vs.map iT)) (.lst []) = some vs.isEmpty := by
  unfold eqD
  simp only [toP, toPs_tups, toPs]
  have s1 : SeqAt.shaped (.list (vs.map fun v => .tuple (v.map .int))) = true := by
    unfold SeqAt.shaped
    rw [PyData.canLay0, lay_tups, PyData.depth]
    have := depth_tups vs
    simp only [Bool.true_and, decide_eq_true_eq]
    omega
  have s2 : SeqAt.shaped (.list []) = true := rfl
  rw [s1, s2]
  cases vs with
  | nil => rfl
  | cons v vs => rw [List.map_cons, PyData.eqv, PyData.eqvAll] <;> first | rfl | (intro _ _ _ _ z; cases z) | simp
theorem zip_ints : ∀ xs ys : List Int, zipD (xs.map .int) (ys.map .int) = (xs.zip ys).map fun p => D.tup [.int p.1, .int p.2]
  | [], _ => rfl
  | _ :: _, [] => rfl
  | x :: xs, y :: ys => by
    rw [List.map_cons, List.map_cons, zipD, zip_ints xs ys]
    rfl
local macro_rules | `(tactic| walk_at "mv") => `(tactic| simp only [tRetD, tRetND, tBin, tUnD, tLcD, tZip, tACons, tANil, tName, Mv.tCon, tTst, tTru, truD, tAndD, tOrD, tNotD, tAndVD, tOrVD, tNotVD, tIfD, tIfSD, tSeqD, tNextD, tSetD, tParD, tAsgD, tDropD, tForD, tSeqF, tSeqB, tRng1, tRng2, tTupD, tLstD, tLstO, tCBD, tCl, tClP, tAppD, tExtD, tPopD, tPopAtD, tSetIxD, tSlD, tPoN, tPoS, tYesD, tBreakD, tContD, tLZ, tEnB, tEnF, tZipF, tMk, tClK, tSrtDc, srtTF, srtIF, srtSTF, srtSIF, repF, pick,
  stoD, asD, asDs, bindP, Mv.bindL, lcStep, callD, argE, places, putBack, resD, unT, endsD, rtD, outE, intF, CT, addF, eqF, neF, inF, isF, isC, Mv.isNon, isBl, negF, ixF, slF, revF, fldF, lenF, lenD, intB, absF, listF, tupF, sumF, isiF, liAt, seqOf, seqIt, rvT, stab, vw, vwT, getT, setT, kid, fz, fzs, fzs_d, flat, flat_map, intsOf_map, tupsOf_map, wipeE, backE,
  List.map_cons, List.map_nil, List.set_cons_zero, List.set_cons_succ, List.length_cons, List.length_nil, List.replicate, List.cons_append, List.nil_append, List.getElem?_cons_zero, List.getElem?_cons_succ, List.getElem?_nil, List.take_succ_cons, List.take_zero, List.length_map, List.length_append, List.getD_cons_zero, List.getD_cons_succ,
  true_and, and_true, Bool.and_false, Bool.false_and, Bool.or_false, Bool.false_or, Bool.true_and, Bool.and_true, Bool.not_true, Bool.not_false, Nat.zero_le, Bool.or_self, Bool.true_or, Bool.or_true, Bool.and_self, Nat.zero_add, Nat.reduceAdd, Nat.reduceSub, Nat.reduceLeDiff, Nat.reduceLT, Nat.reduceEqDiff, Nat.reduceBEq, BEq.rfl, beq_self_eq_true, if_true, if_false, Bool.false_eq_true, reduceIte, reduceCtorEq, List.nodup_cons, List.not_mem_nil, not_false_eq_true, List.nodup_nil, decide_true, decide_false, decide_eq_true_eq])
abbrev vL (vs : List (List Int)) : D := .lst (vs.map iT)
abbrev vT (vs : List (List Int)) : D := .tup (vs.map iT)
section
variable {P : Program} {w : World} {K : PySem.W.Frag} {mg : Str → Option Value} {base : Heap}
/-! ### is_below -/
def isBelow (xs ys : List Int) : Bool := (xs.zip ys).all fun p => decide (p.1 ≤ p.2)
def sp_is_below : SpD := fun Γ Ψ => ∃ xs ys : List Int, xs.length ≤ sizeLine ∧ Γ = [some (.d (iT xs)), some (.d (iT ys))] ∧ Ψ Γ (.d (.bl (isBelow xs ys)))
theorem ok_is_below (bt : Blt mg) {f : Addr} {fd : FuncData} (F : Fun K "is_below" "is_below" s_is_below f fd) : FnOk P w K mg base CX0 1 f fd ["one", "other"] (spOf K 2 sp_is_below) := by
  refine fn_okD (lk := fun i => decide (i < 2)) F sc_is_below rfl (psd_one (psd_ret (pd_c (c_eq (pd_lc [("small", 2), ("great", 3)] (pid_zip rfl bt.zip (pa_consD (pd_name 0) (pa_consD (pd_name 1) pa_nilD))) (pgd_tup (pgsd_cons (pgd_name 2) (pgsd_cons (pgd_name 3) pgsd_nil))) (ptsd_one (pt_c (c_gt (pd_name 2) (pd_name 3)))) (pd_int)) (pd_lst (pa_nilD)))))) fun Γ Ψ h _ => ?_
  obtain ⟨xs, ys, hz, rfl, q⟩ := h
  refine ⟨⟨.inl rfl, .inl rfl, trivial⟩, ?_⟩
  walk_at "mv"
  simp only [iT, vw, zip_ints]
  refine lcD_pure (fun p : Int × Int => D.tup [.int p.1, .int p.2]) (fun p => decide (p.2 < p.1)) (fun _ => .int 1) (fun ts => [some (T.d (iT xs)), some (T.d (iT ys)), none, none, some (T.li ts)]) ?_ (fun p _ ts K hz hk => ?_) ?_
  · simp only [List.length_nil, List.length_zip, Nat.zero_add]
    omega
  · walk_at "mv"
    by_cases h : p.2 < p.1
    · simpa [h, hz] using hk
    · simpa [h, hz] using hk
  · walk_at "mv"
    rw [eqD_ones]
    have e : ((xs.zip ys).filter fun p => decide (p.2 < p.1)).isEmpty = isBelow xs ys := by
      unfold isBelow
      rw [Bool.eq_iff_iff, List.isEmpty_iff, List.filter_eq_nil_iff, List.all_eq_true]
      refine forall_congr' fun p => forall_congr' fun _ => ?_
      simp only [decide_eq_true_eq]
      omega
    rw [e]
    exact q
end
end K58
set_option Elab.async false
set_option linter.all false
set_option maxRecDepth 100000
namespace K58
open PySem PySem.Spec PyProof.Rows L2 Mv
local macro_rules | `(tactic| walk_at "mv") => `(tactic| simp only [tRetD, tRetND, tBin, tUnD, tLcD, tZip, tACons, tANil, tName, Mv.tCon, tTst, tTru, truD, tAndD, tOrD, tNotD, tAndVD, tOrVD, tNotVD, tIfD, tIfSD, tSeqD, tNextD, tSetD, tParD, tAsgD, tDropD, tForD, tSeqF, tSeqB, tRng1, tRng2, tTupD, tLstD, tLstO, tCBD, tCl, tClP, tAppD, tExtD, tPopD, tPopAtD, tSetIxD, tSlD, tPoN, tPoS, tYesD, tBreakD, tContD, tLZ, tEnB, tEnF, tZipF, tMk, tClK, tSrtDc, srtTF, srtIF, srtSTF, srtSIF, repF, pick,
  stoD, asD, asDs, bindP, Mv.bindL, lcStep, callD, argE, places, putBack, resD, unT, endsD, rtD, outE, intF, CT, addF, eqF, neF, inF, isF, isC, Mv.isNon, isBl, negF, ixF, slF, revF, fldF, lenF, lenD, intB, absF, listF, tupF, sumF, isiF, liAt, seqOf, seqIt, rvT, stab, vw, vwT, getT, setT, kid, fz, fzs, fzs_d, flat, flat_map, intsOf_map, tupsOf_map, wipeE, backE,
  List.map_cons, List.map_nil, List.set_cons_zero, List.set_cons_succ, List.length_cons, List.length_nil, List.replicate, List.cons_append, List.nil_append, List.getElem?_cons_zero, List.getElem?_cons_succ, List.getElem?_nil, List.take_succ_cons, List.take_zero, List.length_map, List.length_append, List.getD_cons_zero, List.getD_cons_succ,
  true_and, and_true, Bool.and_false, Bool.false_and, Bool.or_false, Bool.false_or, Bool.true_and, Bool.and_true, Bool.not_true, Bool.not_false, Nat.zero_le, Bool.or_self, Bool.true_or, Bool.or_true, Bool.and_self, Nat.zero_add, Nat.reduceAdd, Nat.reduceSub, Nat.reduceLeDiff, Nat.reduceLT, Nat.reduceEqDiff, Nat.reduceBEq, BEq.rfl, beq_self_eq_true, if_true, if_false, Bool.false_eq_true, reduceIte, reduceCtorEq, List.nodup_cons, List.not_mem_nil, not_false_eq_true, List.nodup_nil, decide_true, decide_false, decide_eq_true_eq])
section
variable {P : Program} {w : World} {K : PySem.W.Frag} {mg : Str → Option Value} {base : Heap}
variable (C_is_below : Callee P w K mg base "is_below" 1 2 sp_is_below)
/-! ### least_of, greatest_of -/
def lstep (found : List (List Int)) (v : List Int) : List (List Int) := if (found.filter fun o => isBelow o v).isEmpty = true then found ++ [v] else found
def leastOf (vs : List (List Int)) : List (List Int) := (sortT (ddp vs)).foldl lstep []
def gstep (found : List (List Int)) (v : List Int) : List (List Int) := if (found.filter fun o => isBelow v o).isEmpty = true then found ++ [v] else found
def greatestOf (vs : List (List Int)) : List (List Int) := ((sortT (ddp vs)).reverse.foldl gstep []).reverse
structure SzT (vs : List (List Int)) : Prop where
  len : vs.length < sizeLine
  each : ∀ v ∈ vs, v.length ≤ sizeLine
  ne : NeT (ddp vs)
theorem lstep_sub {found : List (List Int)} {v o : List Int} (h : o ∈ lstep found v) : o ∈ found ∨ o = v := by
  unfold lstep at h
  split at h
  · simpa using h
  · exact .inl h
theorem gstep_sub {found : List (List Int)} {v o : List Int} (h : o ∈ gstep found v) : o ∈ found ∨ o = v := by
  unfold gstep at h
  split at h
  · simpa using h
  · exact .inl h
theorem step_len {st : List (List Int) → List Int → List (List Int)} (hs : ∀ f v, (st f v).length ≤ f.length + 1) : ∀ (xs f : List (List Int)), (xs.foldl st f).length ≤ f.length + xs.length
  | [], f => Nat.le_refl _
  | x :: xs, f => by
    have := step_len hs xs (st f x)
    have := hs f x
    rw [List.foldl_cons, List.length_cons]
    omega
theorem lstep_len (f : List (List Int)) (v : List Int) : (lstep f v).length ≤ f.length + 1 := by
  unfold lstep
  split
  · simp
  · omega
theorem gstep_len (f : List (List Int)) (v : List Int) : (gstep f v).length ≤ f.length + 1 := by
  unfold gstep
  split
  · simp
  · omega
theorem step_sub {st : List (List Int) → List Int → List (List Int)} (hs : ∀ {f v o}, o ∈ st f v → o ∈ f ∨ o = v) : ∀ {xs f : List (List Int)} {o : List Int}, o ∈ xs.foldl st f → o ∈ f ∨ o ∈ xs
  | [], f, o, h => .inl h
  | x :: xs, f, o, h => by
    rcases step_sub hs (xs := xs) (f := st f x) h with h | h
    · rcases hs h with h | h
      · exact .inl h
      · exact .inr (by simp [h])
    · exact .inr (List.mem_cons_of_mem _ h)
theorem foldl_take {α β : Type} (st : β → α → β) (b : β) {xs : List α} {i : Nat} {x : α} (h : xs[i]? = some x) : (xs.take (i + 1)).foldl st b = st ((xs.take i).foldl st b) x := by
  rw [List.take_add_one, h, List.foldl_append]
  rfl
theorem mem_srt {x : List Int} {vs : List (List Int)} : x ∈ sortT (ddp vs) ↔ x ∈ vs := by
  rw [(sortT_perm _).mem_iff, mem_ddp]
theorem srt_len (vs : List (List Int)) : (sortT (ddp vs)).length ≤ vs.length := by
  rw [(sortT_perm _).length_eq]
  exact ddp_length vs
def sp_least_of : SpD := fun Γ Ψ => ∃ vs : List (List Int), SzT vs ∧ Γ = [some (.d (vL vs))] ∧ Ψ Γ (.d (vT (leastOf vs)))
include C_is_below in
theorem ok_least_of (bt : Blt mg) {f : Addr} {fd : FuncData} (F : Fun K "least_of" "least_of" s_least_of f fd) : FnOk P w K mg base CX0 2 f fd ["vectors"] (spOf K 1 sp_least_of) := by
  refine fn_okD (lk := fun i => decide (i < 1)) F sc_least_of rfl (psd_cons (psd_set 1 (pd_lst (pa_nilD))) (psd_cons (psd_for (pid_seqF (pd_sortDc 2 (pid_seqB (pd_name 0)) bt.sorted)) (pgd_name 2) (psd_one (psd_if (pt_c (c_eq (pd_lc [("other", 3)] (pid_seqB (pd_name 1)) (pgd_name 3) (ptsd_one (pt_tru (pd_clP C_is_below (pa_consD (pd_name 3) (pa_consD (pd_name 2) pa_nilD))))) (pd_name 3)) (pd_lst (pa_nilD)))) (psd_one (psd_expr (pd_append (pd_name 1) (pa_consD (pd_name 2) pa_nilD)))) (psd_nil)))) (psd_one (psd_ret (pd_tupB bt.tuple (pa_consD (pd_name 1) pa_nilD)))))) fun Γ Ψ h _ => ?_
  obtain ⟨vs, hz, rfl, q⟩ := h
  refine ⟨⟨.inl rfl, trivial⟩, ?_⟩
  walk_at "mv"
  refine ⟨⟨hz.ne, hz.len⟩, ?_⟩
  refine forD_inv (fun i Γ => ∃ o, Γ = [some (T.d (vL vs)), some (.li (((((sortT (ddp vs)).take i).foldl lstep []).map iT).map .d)), o, none]) ⟨none, rfl⟩ (fun i x Γ E hx hI h1 h2 h3 h4 => ?_) (fun Γ hI => ?_)
  · obtain ⟨o, rfl⟩ := hI
    rw [List.getElem?_map] at hx
    obtain ⟨v, hv, rfl⟩ := Option.map_eq_some_iff.mp hx
    have fin := foldl_take lstep [] hv
    have vin : v ∈ vs := mem_srt.mp (List.mem_of_getElem? hv)
    generalize ef : ((sortT (ddp vs)).take i).foldl lstep [] = found at fin ⊢
    have fsub : ∀ o ∈ found, o ∈ vs := fun o ho => by
      rw [← ef] at ho
      rcases step_sub lstep_sub ho with h | h
      · cases h
      · exact mem_srt.mp (List.mem_of_mem_take h)
    have flen : found.length ≤ vs.length := by
      have := step_len lstep_len ((sortT (ddp vs)).take i) []
      rw [ef, List.length_take] at this
      have := srt_len vs
      simp only [List.length_nil] at *
      omega
    refine ⟨_, rfl, ?_⟩
    walk_at "mv"
    refine lcD_pure (fun o : List Int => iT o) (fun o => isBelow o v) (fun o => iT o) (fun ts => [some (T.d (vL vs)), some (T.li ((found.map iT).map .d)), some (T.d (iT v)), none, some (T.li ts)]) ?_ (fun o ho ts K hz' hk => ?_) ?_
    · simp only [List.length_nil]
      have := hz.len
      omega
    · walk_at "mv"
      refine ⟨o, v, hz.each o (fsub o ho), rfl, ?_⟩
      walk_at "mv"
      by_cases h : isBelow o v = true
      · simpa [h, hz'] using hk
      · simpa [h, hz'] using hk
    · walk_at "mv"
      rw [show (List.map (fun o => D.tup (List.map D.int o)) (List.filter (fun o => isBelow o v) found)) = (found.filter fun o => isBelow o v).map iT from rfl, eqD_empty]
      show (if (found.filter fun o => isBelow o v).isEmpty = true then _ else _)
      by_cases h : (found.filter fun o => isBelow o v).isEmpty = true
      · rw [if_pos h]
        refine ⟨by have := hz.len; omega, h1 _ ⟨some (T.d (iT v)), ?_⟩⟩
        rw [fin, lstep, if_pos h]
        simp
      · rw [if_neg h]
        refine h1 _ ⟨some (T.d (iT v)), ?_⟩
        rw [fin, lstep, if_neg h]
  · obtain ⟨o, rfl⟩ := hI
    walk_at "mv"
    rw [List.take_length]
    exact q
def sp_greatest_of : SpD := fun Γ Ψ => ∃ vs : List (List Int), SzT vs ∧ Γ = [some (.d (vL vs))] ∧ Ψ Γ (.d (vT (greatestOf vs)))
include C_is_below in
theorem ok_greatest_of (bt : Blt mg) {f : Addr} {fd : FuncData} (F : Fun K "greatest_of" "greatest_of" s_greatest_of f fd) : FnOk P w K mg base CX0 2 f fd ["vectors"] (spOf K 1 sp_greatest_of) := by
  refine fn_okD (lk := fun i => decide (i < 1)) F sc_greatest_of rfl (psd_cons (psd_set 1 (pd_lst (pa_nilD))) (psd_cons (psd_for (pid_seqF (pd_rev (pd_sortDc 2 (pid_seqB (pd_name 0)) bt.sorted))) (pgd_name 2) (psd_one (psd_if (pt_c (c_eq (pd_lc [("other", 3)] (pid_seqB (pd_name 1)) (pgd_name 3) (ptsd_one (pt_tru (pd_clP C_is_below (pa_consD (pd_name 2) (pa_consD (pd_name 3) pa_nilD))))) (pd_name 3)) (pd_lst (pa_nilD)))) (psd_one (psd_expr (pd_append (pd_name 1) (pa_consD (pd_name 2) pa_nilD)))) (psd_nil)))) (psd_one (psd_ret (pd_tupB bt.tuple (pa_consD (pd_rev (pd_name 1)) pa_nilD)))))) fun Γ Ψ h _ => ?_
  obtain ⟨vs, hz, rfl, q⟩ := h
  refine ⟨⟨.inl rfl, trivial⟩, ?_⟩
  walk_at "mv"
  refine ⟨⟨hz.ne, hz.len⟩, ?_⟩
  refine forD_inv (fun i Γ => ∃ o, Γ = [some (T.d (vL vs)), some (.li (((((sortT (ddp vs)).reverse.take i).foldl gstep []).map iT).map .d)), o, none]) ⟨none, rfl⟩ (fun i x Γ E hx hI h1 h2 h3 h4 => ?_) (fun Γ hI => ?_)
  · obtain ⟨o, rfl⟩ := hI
    rw [← List.map_reverse, List.getElem?_map] at hx
    obtain ⟨v, hv, rfl⟩ := Option.map_eq_some_iff.mp hx
    have fin := foldl_take gstep [] hv
    have vin : v ∈ vs := mem_srt.mp (List.mem_reverse.mp (List.mem_of_getElem? hv))
    generalize ef : ((sortT (ddp vs)).reverse.take i).foldl gstep [] = found at fin ⊢
    have fsub : ∀ o ∈ found, o ∈ vs := fun o ho => by
      rw [← ef] at ho
      rcases step_sub gstep_sub ho with h | h
      · cases h
      · exact mem_srt.mp (List.mem_reverse.mp (List.mem_of_mem_take h))
    have flen : found.length ≤ vs.length := by
      have := step_len gstep_len ((sortT (ddp vs)).reverse.take i) []
      rw [ef, List.length_take, List.length_reverse] at this
      have := srt_len vs
      simp only [List.length_nil] at *
      omega
    refine ⟨_, rfl, ?_⟩
    walk_at "mv"
    refine lcD_pure (fun o : List Int => iT o) (fun o => isBelow v o) (fun o => iT o) (fun ts => [some (T.d (vL vs)), some (T.li ((found.map iT).map .d)), some (T.d (iT v)), none, some (T.li ts)]) ?_ (fun o ho ts K hz' hk => ?_) ?_
    · simp only [List.length_nil]
      have := hz.len
      omega
    · walk_at "mv"
      refine ⟨v, o, hz.each v vin, rfl, ?_⟩
      walk_at "mv"
      by_cases h : isBelow v o = true
      · simpa [h, hz'] using hk
      · simpa [h, hz'] using hk
    · walk_at "mv"
      rw [show (List.map (fun o => D.tup (List.map D.int o)) (List.filter (fun o => isBelow v o) found)) = (found.filter fun o => isBelow v o).map iT from rfl, eqD_empty]
      show (if (found.filter fun o => isBelow v o).isEmpty = true then _ else _)
      by_cases h : (found.filter fun o => isBelow v o).isEmpty = true
      · rw [if_pos h]
        refine ⟨by have := hz.len; omega, h1 _ ⟨some (T.d (iT v)), ?_⟩⟩
        rw [fin, gstep, if_pos h]
        simp
      · rw [if_neg h]
        refine h1 _ ⟨some (T.d (iT v)), ?_⟩
        rw [fin, gstep, if_neg h]
  · obtain ⟨o, rfl⟩ := hI
    walk_at "mv"
    rw [List.length_reverse, List.length_map, ← List.length_reverse (as := sortT (ddp vs)), List.take_length, ← List.map_reverse]
    exact q
/-! ### weight_vector: sorts by things -/
theorem ixN_nat {n t : Nat} (h : t < n) : ixN n (t : Int) = some t := by
  unfold ixN
  rw [if_pos (by omega), if_pos (by omega), Int.toNat_natCast]
theorem filt_true {α : Type} (l : List α) : l.filter (fun _ => true) = l := by simp
theorem atI_nat {ws : List Int} {t : Nat} (h : t < ws.length) : atI (ws.map D.int) (t : Int) = some (.int (ws.getD t 0)) := by
  unfold atI
  rw [List.length_map, ixN_nat h]
  simp [h]
def wsum (ws : List Int) (things : List Nat) : Int := (things.map fun t => ws.getD t 0).sum
def weightV (sorts : List (List Int)) (things : List Nat) : List Int := sorts.map fun ws => wsum ws things
abbrev nD (ns : List Nat) : List D := ns.map fun n => .int (n : Nat)
def sp_weight_vector : SpD := fun Γ Ψ => ∃ (sorts : List (List Int)) (things : List Nat), (sorts.length ≤ sizeLine ∧ things.length ≤ sizeLine ∧ ∀ ws ∈ sorts, ∀ t ∈ things, t < ws.length) ∧ Γ = [some (.d (vT sorts)), some (.d (.lst (nD things)))] ∧ Ψ Γ (.d (iT (weightV sorts things)))
theorem ok_weight_vector (bt : Blt mg) {f : Addr} {fd : FuncData} (F : Fun K "weight_vector" "weight_vector" s_weight_vector f fd) : FnOk P w K mg base CX0 1 f fd ["sorts", "things"] (spOf K 2 sp_weight_vector) := by
  refine fn_okD (lk := fun i => decide (i < 2)) F sc_weight_vector rfl (psd_one (psd_ret (pd_tupB bt.tuple (pa_consD (pd_lc [("weights", 2)] (pid_seqB (pd_name 0)) (pgd_name 2) (ptsd_nil) (pd_sum bt.sum (pa_consD (pd_lc [("thing", 3)] (pid_seqB (pd_name 1)) (pgd_name 3) (ptsd_nil) (pd_ix (pd_name 2) (pd_name 3))) pa_nilD))) pa_nilD)))) fun Γ Ψ h _ => ?_
  obtain ⟨sorts, things, ⟨z1, z2, z3⟩, rfl, q⟩ := h
  refine ⟨⟨.inl rfl, .inl rfl, trivial⟩, ?_⟩
  walk_at "mv"
  refine lcD_pure (fun ws : List Int => iT ws) (fun _ => true) (fun ws => .int (wsum ws things)) (fun ts => [some (T.d (vT sorts)), some (T.d (.lst (nD things))), none, none, some (T.li ts)]) (by simpa using z1) (fun ws hws ts K hz hk => ?_) ?_
  · walk_at "mv"
    refine lcD_pure (fun t : Nat => D.int (t : Nat)) (fun _ => true) (fun t => .int (ws.getD t 0)) (fun us => [some (T.d (vT sorts)), some (T.d (.lst (nD things))), some (T.d (iT ws)), none, some (T.li ts), some (T.li us)]) (by simpa using z2) (fun t ht us K2 hz2 hk2 => ?_) ?_
    · have hlt := z3 ws hws t ht
      walk_at "mv"
      rw [atI_nat hlt]
      simpa [hz2] using hk2
    · walk_at "mv"
      rw [filt_true, show (things.map fun t => D.int (ws.getD t 0)) = (things.map fun t => ws.getD t 0).map .int by rw [List.map_map]; rfl, intsOf_map]
      exact ⟨hz, by simpa [wsum] using hk⟩
  · walk_at "mv"
    rw [filt_true, show (sorts.map fun ws => D.int (wsum ws things)) = (weightV sorts things).map .int by unfold weightV; rw [List.map_map]; rfl]
    exact q
/-! ### least_vectors -/
def sp_least_vectors : SpD := fun Γ Ψ => ∃ (vs : List (List Int)) (y : D), SzT vs ∧ (y = vL vs ∨ y = vT vs) ∧ Γ = [some (.d y)] ∧ Ψ Γ (.d (vT (leastOf vs)))
theorem ok_least_vectors (C_least_of : Callee P w K mg base "least_of" 2 1 sp_least_of) (bt : Blt mg) {f : Addr} {fd : FuncData} (F : Fun K "least_vectors" "least_vectors" s_least_vectors f fd) : FnOk P w K mg base CX0 3 f fd ["vectors"] (spOf K 1 sp_least_vectors) := by
  refine fn_okD (lk := fun i => decide (i < 1)) F sc_least_vectors rfl (psd_one (psd_ret (pd_clP C_least_of (pa_consD (pd_lc [("vector", 1)] (pid_seqB (pd_name 0)) (pgd_name 1) (ptsd_nil) (pd_tupB bt.tuple (pa_consD (pd_name 1) pa_nilD))) pa_nilD)))) fun Γ Ψ h _ => ?_
  obtain ⟨vs, y, hz, hy, rfl, q⟩ := h
  refine ⟨⟨.inl rfl, trivial⟩, ?_⟩
  have go : ∀ {k : Mv.Env → Prop}, k [some (.d y), none, some (.li ((vs.map iT).map .d))] → lcD [1] (Pat.nm 1) tYesD (tCBD tupF (tACons false (tName 1) tANil)) 2 (vs.map iT) [some (.d y), none, some (.li [])] k := fun {k} hk => by
    refine lcD_pure (fun v : List Int => iT v) (fun _ => true) (fun v => iT v) (fun ts => [some (T.d y), none, some (T.li ts)]) (by have := hz.len; simp; omega) (fun v hv ts K hz hk => ?_) ?_
    · walk_at "mv"
      simpa [hz] using hk
    · rw [filt_true]
      exact hk
  rcases hy with rfl | rfl
  · walk_at "mv"
    refine go ?_
    walk_at "mv"
    refine ⟨vs, hz, rfl, ?_⟩
    walk_at "mv"
    exact q
  · walk_at "mv"
    refine go ?_
    walk_at "mv"
    refine ⟨vs, hz, rfl, ?_⟩
    walk_at "mv"
    exact q
/-! ### free_things -/
theorem toV_nats : ∀ ns : List Nat, toVs (nD ns) = some (ns.map fun n => V.int (n : Nat))
  | [] => rfl
  | n :: ns => by
    show toVs (.int (n : Nat) :: nD ns) = _
    rw [toVs, toV_nats ns]
    rfl
theorem inD_nat (k : Nat) (ns : List Nat) : inD (.int (k : Nat)) (nD ns) = some (decide (k ∈ ns)) := by
  unfold inD
  rw [toV_nats]
  show some (inV (V.int (k : Nat)) (ns.map fun n => V.int (n : Nat))) = _
  congr 1
  unfold inV
  rw [List.any_map, Bool.eq_iff_iff, List.any_eq_true]
  simp only [Function.comp, decide_eq_true_eq]
  constructor
  · rintro ⟨n, h1, h2⟩
    have : (n : Int) = k := by simpa [eqV] using h2
    have : n = k := by omega
    exact this ▸ h1
  · intro h
    exact ⟨k, h, by simp [eqV]⟩
def freeT (n : Nat) (ss : List Nat) : List Nat := (List.range n).filter fun t => !decide (t ∈ ss)
def webD (CW : Addr) (n : Nat) (y : D) : Prop := ∃ ns wt lt : _, ns.length = n ∧ y = .obj CW ["names", "weights", "lots"] [.tup ns, wt, lt]
section
variable {CW : Addr}
theorem idx_names : idxF ("names" : Str) ["names", "weights", "lots"] = some 0 := by decide
theorem rng0 (n : Nat) : rngD 0 n = (List.range n).map fun i : Nat => D.int (i : Nat) := by
  unfold rngD
  simp only [Int.zero_add]
def sp_free_things (CW : Addr) : SpD := fun Γ Ψ => ∃ (n : Nat) (ss : List Nat) (y : D), (n ≤ sizeLine) ∧ webD CW n y ∧ Γ = [some (.d y), some (.d (.tup (nD ss)))] ∧ Ψ Γ (.li ((nD (freeT n ss)).map .d))
theorem ok_free_things {A_names : Addr → Prop} (h_names : ∀ C, A_names C → Cls K C ∧ NoAttr K C "names") (hA : A_names CW) (bt : Blt mg) {f : Addr} {fd : FuncData} (F : Fun K "free_things" "free_things" s_free_things f fd) : FnOk P w K mg base CX0 1 f fd ["web", "stands"] (spOf K 2 (sp_free_things CW)) := by
  refine fn_okD (lk := fun i => decide (i < 2)) F sc_free_things rfl (psd_one (psd_ret (pd_lc [("thing", 2)] (pid_range1 rfl bt.range (pa_consD (pd_len bt.len (pa_consD (pd_fld A_names h_names (pd_name 0)) pa_nilD)) pa_nilD)) (pgd_name 2) (ptsd_one (pt_c (c_notin (pd_name 2) (pd_name 1)))) (pd_name 2)))) fun Γ Ψ h _ => ?_
  obtain ⟨n, ss, y, hz, ⟨ns, wt, lt, hn, rfl⟩, rfl, q⟩ := h
  refine ⟨⟨.inl rfl, .inl rfl, trivial⟩, ?_⟩
  walk_at "mv"
  rw [idx_names]
  walk_at "mv"
  refine ⟨hA, by omega, by rw [sizeLine_eq] at hz; omega, ?_⟩
  rw [rng0]
  refine lcD_pure (fun i : Nat => D.int (i : Nat)) (fun t => !decide (t ∈ ss)) (fun t => .int (t : Nat)) (fun ts => [some (T.d _), some (T.d (.tup (nD ss))), none, some (T.li ts)]) (by simp; omega) (fun t ht ts K hz' hk => ?_) ?_
  · walk_at "mv"
    rw [inD_nat]
    walk_at "mv"
    by_cases h : t ∈ ss
    · simpa [h, hz'] using hk
    · simpa [h, hz'] using hk
  · walk_at "mv"
    rw [Int.toNat_natCast, hn]
    exact q
/-! ### cut_at -/
theorem enum_ints : ∀ (xs : List Int) (k : Nat), enumD k (xs.map .int) = (xs.zipIdx k).map fun p => D.tup [.int (p.2 : Nat), .int p.1]
  | [], _ => rfl
  | x :: xs, k => by
    rw [List.map_cons, enumD, enum_ints xs (k + 1)]
    rfl
theorem cut_hi (xs : List D) (i : Nat) : Mv.cutD xs none (some (i : Int)) = xs.take i := by
  unfold Mv.cutD
  rw [HT.sIx_none, HT.sIx_nat, List.drop_zero, Nat.sub_zero]
  rcases Nat.le_total i xs.length with h | h
  · rw [Nat.min_eq_left h]
  · rw [Nat.min_eq_right h, List.take_length, List.take_of_length_le h]
theorem cut_lo (xs : List D) (i : Nat) : Mv.cutD xs (some (i : Int)) none = xs.drop i := by
  unfold Mv.cutD
  rw [HT.sIx_none, HT.sIx_nat]
  rcases Nat.le_total i xs.length with h | h
  · rw [Nat.min_eq_left h, List.take_of_length_le (by rw [List.length_drop]; exact Nat.le_refl _)]
  · rw [Nat.min_eq_right h, Nat.sub_self, List.take_zero, List.drop_eq_nil_of_le h]
def lower (c : List Int) (p : Int × Nat) : List Int := c.take p.2 ++ [p.1 - 1] ++ c.drop (p.2 + 1)
def cutAt (c v : List Int) : List (List Int) := (v.zipIdx.filter fun p => decide (0 < p.1)).map (lower c)
def sp_cut_at : SpD := fun Γ Ψ => ∃ c v : List Int, (c.length + 2 ≤ sizeLine ∧ v.length ≤ sizeLine) ∧ Γ = [some (.d (iT c)), some (.d (iT v))] ∧ Ψ Γ (.li (((cutAt c v).map iT).map .d))
theorem ok_cut_at (bt : Blt mg) {f : Addr} {fd : FuncData} (F : Fun K "cut_at" "cut_at" s_cut_at f fd) : FnOk P w K mg base CX0 1 f fd ["corner", "vector"] (spOf K 2 sp_cut_at) := by
  refine fn_okD (lk := fun i => decide (i < 2)) F sc_cut_at rfl (psd_one (psd_ret (pd_lc [("at", 2), ("number", 3)] (pid_enumB bt.enumerate (pa_consD (pd_name 1) pa_nilD)) (pgd_tup (pgsd_cons (pgd_name 2) (pgsd_cons (pgd_name 3) pgsd_nil))) (ptsd_one (pt_c (c_gt (pd_name 3) (pd_int)))) (pd_add (pd_add (pd_slice (pd_name 0) (pod_none) (pod_some (pd_name 2))) (pd_tup (pa_consD (pd_sub (pd_name 3) (pd_int)) pa_nilD))) (pd_slice (pd_name 0) (pod_some (pd_add (pd_name 2) (pd_int))) (pod_none)))))) fun Γ Ψ h _ => ?_
  obtain ⟨c, v, ⟨z1, z2⟩, rfl, q⟩ := h
  refine ⟨⟨.inl rfl, .inl rfl, trivial⟩, ?_⟩
  walk_at "mv"
  rw [enum_ints]
  refine lcD_pure (fun p : Int × Nat => D.tup [.int (p.2 : Nat), .int p.1]) (fun p => decide (0 < p.1)) (fun p => iT (lower c p)) (fun ts => [some (T.d (iT c)), some (T.d (iT v)), none, none, some (T.li ts)]) (by simp; omega) (fun p hp ts K hz' hk => ?_) ?_
  · walk_at "mv"
    rw [show ((p.2 : Int) + 1) = ((p.2 + 1 : Nat) : Int) by omega, cut_hi, cut_lo]
    by_cases h : 0 < p.1
    · rw [if_pos (decide_eq_true h)] at hk
      simp only [h, decide_true, if_true]
      refine ⟨?_, ?_, ?_, hz', ?_⟩
      · omega
      · simp; omega
      · simp; omega
      · rw [show (List.take p.2 (List.map D.int c) ++ [D.int (p.1 - 1)] ++ List.drop (p.2 + 1) (List.map D.int c)) = (lower c p).map .int by simp [lower]]
        exact hk
    · rw [if_neg (by simpa using h)] at hk
      simpa [h] using hk
  · walk_at "mv"
    rw [show ((List.filter (fun p => decide (0 < p.1)) v.zipIdx).map fun p => iT (lower c p)) = (cutAt c v).map iT by unfold cutAt; rw [List.map_map]; rfl]
    exact q
/-! ### corners -/
def cstep (found : List (List Int)) (v : List Int) : List (List Int) := greatestOf (found.flatMap fun c => if isBelow v c = true then cutAt c v else [c])
def cornersOf (top : List Int) (front : List (List Int)) : List (List Int) := front.foldl cstep [top]
theorem lower_length {c : List Int} {p : Int × Nat} (h : p.2 < c.length) : (lower c p).length = c.length := by
  unfold lower
  simp
  omega
theorem cutAt_each {c v : List Int} (h : v.length ≤ c.length) : ∀ o ∈ cutAt c v, o.length = c.length := fun o ho => by
  unfold cutAt at ho
  obtain ⟨p, hp, rfl⟩ := List.mem_map.mp ho
  have := (List.mem_filter.mp hp).1
  obtain ⟨_, h2, _⟩ := List.mem_zipIdx this
  exact lower_length (by omega)
theorem cutAt_len (c v : List Int) : (cutAt c v).length ≤ v.length := by
  unfold cutAt
  rw [List.length_map]
  have := List.length_filter_le (fun p : Int × Nat => decide (0 < p.1)) v.zipIdx
  rw [List.length_zipIdx] at this
  exact this
def cpart (v c : List Int) : List (List Int) := if isBelow v c = true then cutAt c v else [c]
theorem cstep_eq (found : List (List Int)) (v : List Int) : cstep found v = greatestOf (found.flatMap (cpart v)) := rfl
theorem cpart_each {d : Nat} {v c : List Int} (hv : v.length = d) (hc : c.length = d) : ∀ o ∈ cpart v c, o.length = d := fun o ho => by
  unfold cpart at ho
  split at ho
  · rw [cutAt_each (by omega) o ho, hc]
  · rw [List.mem_singleton.mp ho, hc]
theorem cpart_len {d : Nat} {v c : List Int} (hd : 1 ≤ d) (hv : v.length = d) : (cpart v c).length ≤ d := by
  unfold cpart
  split
  · have := cutAt_len c v
    omega
  · simpa using hd
theorem flat_len {f : List Int → List (List Int)} {d : Nat} (h : ∀ c, (f c).length ≤ d) : ∀ xs : List (List Int), (xs.flatMap f).length ≤ xs.length * d
  | [] => by simp
  | x :: xs => by
    have := flat_len h xs
    have := h x
    rw [List.flatMap_cons, List.length_append, List.length_cons, Nat.add_mul, Nat.one_mul]
    omega
theorem greatest_sub {vs : List (List Int)} {o : List Int} (h : o ∈ greatestOf vs) : o ∈ vs := by
  unfold greatestOf at h
  rcases step_sub gstep_sub (List.mem_reverse.mp h) with h | h
  · cases h
  · exact mem_srt.mp (List.mem_reverse.mp h)
theorem greatest_len (vs : List (List Int)) : (greatestOf vs).length ≤ vs.length := by
  unfold greatestOf
  rw [List.length_reverse]
  have := step_len gstep_len (sortT (ddp vs)).reverse []
  rw [List.length_reverse] at this
  have := srt_len vs
  simp only [List.length_nil] at *
  omega
structure FndOk (d i : Nat) (found : List (List Int)) : Prop where
  each : ∀ c ∈ found, c.length = d
  len : found.length ≤ d ^ i
theorem FndOk.next {d i : Nat} {found : List (List Int)} {v : List Int} (h : FndOk d i found) (hd : 1 ≤ d) (hv : v.length = d) : FndOk d (i + 1) (cstep found v) where
  each := fun c hc => by
    rw [cstep_eq] at hc
    obtain ⟨x, hx, hc⟩ := List.mem_flatMap.mp (greatest_sub hc)
    exact cpart_each hv (h.each x hx) c hc
  len := by
    rw [cstep_eq]
    have h1 := greatest_len (found.flatMap (cpart v))
    have h2 := flat_len (f := cpart v) (fun c => cpart_len (c := c) hd hv) found
    have h3 : found.length * d ≤ d ^ i * d := Nat.mul_le_mul_right d h.len
    rw [Nat.pow_succ]
    omega
theorem fnd_ok {d : Nat} (hd : 1 ≤ d) {top : List Int} (ht : top.length = d) {front : List (List Int)} (hf : ∀ v ∈ front, v.length = d) : ∀ i, i ≤ front.length → FndOk d i ((front.take i).foldl cstep [top])
  | 0, _ => ⟨fun c hc => by simp at hc; rw [hc, ht], by simp⟩
  | i + 1, h => by
    have hx : front[i]? = some (front[i]'(by omega)) := by simp
    rw [foldl_take cstep [top] hx]
    exact (fnd_ok hd ht hf i (by omega)).next hd (hf _ (List.getElem_mem _))
theorem ne_of_each {d : Nat} (hd : 1 ≤ d) {vs : List (List Int)} (h : ∀ v ∈ vs, v.length = d) : NeT (ddp vs) := .inl fun x hx e => by
  have := h x (mem_ddp.mp hx)
  rw [e] at this
  simp at this
  omega
structure CrOk (n : Nat) (sorts : List (List Int)) (ss : List Nat) (front : List (List Int)) : Prop where
  d : 1 ≤ sorts.length
  nz : n ≤ sizeLine
  ws : ∀ ws ∈ sorts, n ≤ ws.length
  fr : ∀ v ∈ front, v.length = sorts.length
  z : sorts.length + 2 ≤ sizeLine
  p : sorts.length ^ (front.length + 1) < sizeLine
def sp_corners (CW : Addr) : SpD := fun Γ Ψ => ∃ (n : Nat) (sorts : List (List Int)) (ss : List Nat) (front : List (List Int)) (y : D), CrOk n sorts ss front ∧ webD CW n y ∧ Γ = [some (.d y), some (.d (vT sorts)), some (.d (.tup (nD ss))), some (.d (vT front))] ∧
  Ψ Γ (.d (vT (cornersOf (weightV sorts (freeT n ss)) front)))
theorem getT_top {x : T} (Γ : Mv.Env) (i : Nat) (h : Γ[i]? = some (some x)) : getT Γ [i] = some x := by
  simp only [getT, h]
theorem ok_corners (C_is_below : Callee P w K mg base "is_below" 1 2 sp_is_below) (C_greatest_of : Callee P w K mg base "greatest_of" 2 1 sp_greatest_of) (C_weight_vector : Callee P w K mg base "weight_vector" 1 2 sp_weight_vector) (C_free_things : Callee P w K mg base "free_things" 1 2 (sp_free_things CW))
    (C_cut_at : Callee P w K mg base "cut_at" 1 2 sp_cut_at) (bt : Blt mg) {f : Addr} {fd : FuncData} (F : Fun K "corners" "corners" s_corners f fd) : FnOk P w K mg base CX0 3 f fd ["web", "sorts", "stands", "front"] (spOf K 4 (sp_corners CW)) := by
  refine fn_okD (lk := fun i => decide (i < 4)) F sc_corners rfl (psd_cons (psd_set 4 (pd_tup (pa_consD (pd_clP C_weight_vector (pa_consD (pd_name 1) (pa_consD (pd_clP C_free_things (pa_consD (pd_name 0) (pa_consD (pd_name 2) pa_nilD))) pa_nilD))) pa_nilD))) (psd_cons (psd_for (pid_seqF (pd_name 3)) (pgd_name 5) (psd_cons (psd_set 6 (pd_lst (pa_nilD))) (psd_cons (psd_for (pid_seqF (pd_name 4)) (pgd_name 7) (psd_one (psd_expr (pd_extend (pd_name 6) (pa_consD (pd_ifExp (pt_tru (pd_clP C_is_below (pa_consD (pd_name 5) (pa_consD (pd_name 7) pa_nilD)))) (pd_clP C_cut_at (pa_consD (pd_name 7) (pa_consD (pd_name 5) pa_nilD))) (pd_lst (pa_consD (pd_name 7) pa_nilD))) pa_nilD))))) (psd_one (psd_set 4 (pd_clP C_greatest_of (pa_consD (pd_name 6) pa_nilD))))))) (psd_one (psd_ret (pd_name 4))))) fun Γ Ψ h _ => ?_
  obtain ⟨n, sorts, ss, front, y, ok, hw, rfl, q⟩ := h
  refine ⟨⟨.inl rfl, .inl rfl, .inl rfl, .inl rfl, trivial⟩, ?_⟩
  have tl : (weightV sorts (freeT n ss)).length = sorts.length := by simp [weightV]
  walk_at "mv"
  refine ⟨n, ss, y, ok.nz, hw, rfl, ?_⟩
  walk_at "mv"
  refine ⟨sorts, freeT n ss, ⟨by have := ok.z; omega, ?_, fun ws hws t ht => ?_⟩, rfl, ?_⟩
  · have := List.length_filter_le (fun t => !decide (t ∈ ss)) (List.range n)
    rw [List.length_range] at this
    have := ok.nz
    unfold freeT
    omega
  · have := List.mem_range.mp (List.mem_filter.mp ht).1
    have := ok.ws ws hws
    omega
  walk_at "mv"
  refine ⟨by have := ok.z; omega, ?_⟩
  refine forD_inv (fun i Γ => ∃ o1 o2 o3, Γ = [some (T.d y), some (.d (vT sorts)), some (.d (.tup (nD ss))), some (.d (vT front)), some (.d (vT ((front.take i).foldl cstep [weightV sorts (freeT n ss)]))), o1, o2, o3]) ⟨none, none, none, rfl⟩ (fun i x Γ E hx hI h1 h2 h3 h4 => ?_) (fun Γ hI => ?_)
  · obtain ⟨o1, o2, o3, rfl⟩ := hI
    rw [List.getElem?_map] at hx
    obtain ⟨v, hv, rfl⟩ := Option.map_eq_some_iff.mp hx
    have fin := foldl_take cstep [weightV sorts (freeT n ss)] hv
    have hvd := ok.fr v (List.mem_of_getElem? hv)
    have hif : i < front.length := (List.getElem?_eq_some_iff.mp hv).1
    have fo := fnd_ok ok.d tl ok.fr i (by omega)
    generalize ef : (front.take i).foldl cstep [weightV sorts (freeT n ss)] = found at fin fo ⊢
    have pw : sorts.length ^ (i + 1) ≤ sorts.length ^ (front.length + 1) := Nat.pow_le_pow_right ok.d (by omega)
    have ll : found.length * sorts.length ≤ sorts.length ^ (i + 1) := by rw [Nat.pow_succ]; exact Nat.mul_le_mul_right _ fo.len
    have zz := ok.p
    refine ⟨_, rfl, ?_⟩
    walk_at "mv"
    refine forD_inv (fun j Γ => ∃ o3, Γ = [some (T.d y), some (.d (vT sorts)), some (.d (.tup (nD ss))), some (.d (vT front)), some (.d (vT found)), some (.d (iT v)), some (.li ((((found.take j).flatMap (cpart v)).map iT).map .d)), o3]) ⟨o3, rfl⟩ (fun j x Γ E2 hx hI g1 g2 g3 g4 => ?_) (fun Γ hI => ?_)
    · obtain ⟨o3, rfl⟩ := hI
      rw [List.getElem?_map] at hx
      obtain ⟨c, hc, rfl⟩ := Option.map_eq_some_iff.mp hx
      have hcm := List.mem_of_getElem? hc
      have hcd := fo.each c hcm
      have fin2 : (found.take (j + 1)).flatMap (cpart v) = (found.take j).flatMap (cpart v) ++ cpart v c := by
        rw [List.take_add_one, hc, List.flatMap_append]
        simp
      have jl : j < found.length := (List.getElem?_eq_some_iff.mp hc).1
      have lsz : ((found.take (j + 1)).flatMap (cpart v)).length ≤ found.length * sorts.length := by
        have a1 := flat_len (f := cpart v) (fun c => cpart_len (c := c) ok.d hvd) (found.take (j + 1))
        have a2 : (found.take (j + 1)).length * sorts.length ≤ found.length * sorts.length := Nat.mul_le_mul_right _ (by rw [List.length_take]; omega)
        omega
      refine ⟨_, rfl, ?_⟩
      walk_at "mv"
      refine ⟨v, c, by have := ok.z; omega, rfl, ?_⟩
      walk_at "mv"
      by_cases h : isBelow v c = true
      · rw [if_pos h]
        refine ⟨c, v, ⟨by have := ok.z; omega, by have := ok.z; omega⟩, rfl, ?_⟩
        have ep : cpart v c = cutAt c v := by unfold cpart; rw [if_pos h]
        walk_at "mv"
        refine ⟨?_, g1 _ ⟨some (T.d (iT c)), ?_⟩⟩
        · rw [fin2, ep] at lsz
          simp only [List.length_append] at lsz
          omega
        · rw [fin2, ep]
          simp
      · rw [if_neg h]
        have ep : cpart v c = [c] := by unfold cpart; rw [if_neg h]
        refine ⟨by have := ok.z; omega, ?_, g1 _ ⟨some (T.d (iT c)), ?_⟩⟩
        · rw [fin2, ep] at lsz
          simp only [List.length_append, List.length_cons, List.length_nil] at lsz
          omega
        · rw [fin2, ep]
          simp
    · obtain ⟨o3, rfl⟩ := hI
      rw [List.length_map, List.take_length]
      walk_at "mv"
      have lsz := flat_len (f := cpart v) (fun c => cpart_len (c := c) ok.d hvd) found
      refine ⟨found.flatMap (cpart v), ⟨by omega, fun o ho => ?_, ?_⟩, rfl, ?_⟩
      · obtain ⟨x, hx, ho⟩ := List.mem_flatMap.mp ho
        rw [cpart_each hvd (fo.each x hx) o ho]
        have := ok.z
        omega
      · refine ne_of_each ok.d (fun o ho => ?_)
        obtain ⟨x, hx, ho⟩ := List.mem_flatMap.mp ho
        exact cpart_each hvd (fo.each x hx) o ho
      · walk_at "mv"
        refine h1 _ ⟨some (T.d (iT v)), some (T.d (vL (found.flatMap (cpart v)))), o3, ?_⟩
        rw [fin, cstep_eq]
  · obtain ⟨o1, o2, o3, rfl⟩ := hI
    walk_at "mv"
    rw [List.take_length]
    exact q
end
end
end K58
set_option Elab.async false
set_option linter.all false
set_option maxRecDepth 100000
namespace K58
open PySem PySem.Spec PyProof.Rows L2 Mv
local macro_rules | `(tactic| walk_at "mv") => `(tactic| simp only [tRetD, tRetND, tBin, tUnD, tLcD, tZip, tACons, tANil, tName, Mv.tCon, tTst, tTru, truD, tAndD, tOrD, tNotD, tAndVD, tOrVD, tNotVD, tIfD, tIfSD, tSeqD, tNextD, tSetD, tParD, tAsgD, tDropD, tForD, tSeqF, tSeqB, tRng1, tRng2, tTupD, tLstD, tLstO, tCBD, tCl, tClP, tAppD, tExtD, tPopD, tPopAtD, tSetIxD, tSlD, tPoN, tPoS, tYesD, tBreakD, tContD, tLZ, tEnB, tEnF, tZipF, tMk, tClK, tSrtDc, srtTF, srtIF, srtSTF, srtSIF, repF, pick,
  stoD, asD, asDs, bindP, Mv.bindL, lcStep, callD, argE, places, putBack, resD, unT, endsD, rtD, outE, intF, CT, addF, eqF, neF, inF, isF, isC, Mv.isNon, isBl, negF, ixF, slF, revF, fldF, lenF, lenD, intB, absF, listF, tupF, sumF, isiF, liAt, seqOf, seqIt, rvT, stab, vw, vwT, getT, setT, kid, fz, fzs, fzs_d, flat, flat_map, intsOf_map, tupsOf_map, wipeE, backE,
  List.map_cons, List.map_nil, List.set_cons_zero, List.set_cons_succ, List.length_cons, List.length_nil, List.replicate, List.cons_append, List.nil_append, List.getElem?_cons_zero, List.getElem?_cons_succ, List.getElem?_nil, List.take_succ_cons, List.take_zero, List.length_map, List.length_append, List.getD_cons_zero, List.getD_cons_succ,
  true_and, and_true, Bool.and_false, Bool.false_and, Bool.or_false, Bool.false_or, Bool.true_and, Bool.and_true, Bool.not_true, Bool.not_false, Nat.zero_le, Bool.or_self, Bool.true_or, Bool.or_true, Bool.and_self, Nat.zero_add, Nat.reduceAdd, Nat.reduceSub, Nat.reduceLeDiff, Nat.reduceLT, Nat.reduceEqDiff, Nat.reduceBEq, BEq.rfl, beq_self_eq_true, if_true, if_false, Bool.false_eq_true, reduceIte, reduceCtorEq, List.nodup_cons, List.not_mem_nil, not_false_eq_true, List.nodup_nil, decide_true, decide_false, decide_eq_true_eq])
theorem eqD_int (a b : Int) : eqD (.int a) (.int b) = some (decide (a = b)) := by
  unfold eqD
  simp only [toP]
  rw [show SeqAt.shaped (.int a) = true from rfl, show SeqAt.shaped (.int b) = true from rfl]
  simp only [PyData.eqv]
  rfl
theorem eqD_len {α : Type} (l : List α) : eqD (.int (l.length : Nat)) (.int 0) = some l.isEmpty := by
  rw [eqD_int]
  cases l with
  | nil => rfl
  | cons x l => simp; omega
theorem toV_ints : ∀ ns : List Int, toVs (ns.map .int) = some (ns.map V.int)
  | [] => rfl
  | n :: ns => by
    rw [List.map_cons, toVs, toV_ints ns]
    rfl
theorem inD_int (k : Int) (ns : List Int) : inD (.int k) (ns.map .int) = some (decide (k ∈ ns)) := by
  unfold inD
  rw [toV_ints]
  show some (inV (V.int k) (ns.map V.int)) = _
  congr 1
  unfold inV
  rw [List.any_map, Bool.eq_iff_iff, List.any_eq_true]
  simp only [Function.comp, decide_eq_true_eq]
  constructor
  · rintro ⟨n, h1, h2⟩
    have : n = k := by simpa [eqV] using h2
    exact this ▸ h1
  · intro h
    exact ⟨k, h, by simp [eqV]⟩
theorem toV_bls : ∀ ns : List Bool, toVs (ns.map .bl) = some (ns.map V.bl)
  | [] => rfl
  | n :: ns => by
    rw [List.map_cons, toVs, toV_bls ns]
    rfl
theorem inD_bl (ns : List Bool) : inD (.bl true) (ns.map .bl) = some (ns.any id) := by
  unfold inD
  rw [toV_bls]
  show some (inV (V.bl true) (ns.map V.bl)) = _
  congr 1
  unfold inV
  rw [List.any_map]
  congr 1
  funext b
  cases b <;> rfl
section
variable {P : Program} {w : World} {K : PySem.W.Frag} {mg : Str → Option Value} {base : Heap}
/-! ### the law's own helpers -/
theorem ok_nowhere (bt : Blt mg) {f : Addr} {fd : FuncData} (F : Fun K "_law_nowhere_more" "_law_nowhere_more" s__law_nowhere_more f fd) : FnOk P w K mg base CX0 1 f fd ["one", "other"] (spOf K 2 sp_is_below) := by
  refine fn_okD (lk := fun i => decide (i < 2)) F sc__law_nowhere_more rfl (psd_one (psd_ret (pd_c (c_eq (pd_len bt.len (pa_consD (pd_lc [("low", 2), ("high", 3)] (pid_zip rfl bt.zip (pa_consD (pd_name 0) (pa_consD (pd_name 1) pa_nilD))) (pgd_tup (pgsd_cons (pgd_name 2) (pgsd_cons (pgd_name 3) pgsd_nil))) (ptsd_one (pt_c (c_gt (pd_name 2) (pd_name 3)))) (pd_int)) pa_nilD)) (pd_int))))) fun Γ Ψ h _ => ?_
  obtain ⟨xs, ys, hz, rfl, q⟩ := h
  refine ⟨⟨.inl rfl, .inl rfl, trivial⟩, ?_⟩
  walk_at "mv"
  simp only [iT, vw, zip_ints]
  refine lcD_pure (fun p : Int × Int => D.tup [.int p.1, .int p.2]) (fun p => decide (p.2 < p.1)) (fun _ => .int 1) (fun ts => [some (T.d (iT xs)), some (T.d (iT ys)), none, none, some (T.li ts)]) ?_ (fun p _ ts K hz hk => ?_) ?_
  · simp only [List.length_nil, List.length_zip, Nat.zero_add]
    omega
  · walk_at "mv"
    by_cases h : p.2 < p.1
    · simpa [h, hz] using hk
    · simpa [h, hz] using hk
  · walk_at "mv"
    rw [eqD_len]
    have e : ((xs.zip ys).filter fun p => decide (p.2 < p.1)).isEmpty = isBelow xs ys := by
      unfold isBelow
      rw [Bool.eq_iff_iff, List.isEmpty_iff, List.filter_eq_nil_iff, List.all_eq_true]
      refine forall_congr' fun p => forall_congr' fun _ => ?_
      simp only [decide_eq_true_eq]
      omega
    rw [e]
    exact q
def fitsIn (a b : List Int) : Bool := a.all fun x => decide (x ∈ b)
def sp_fits : SpD := fun Γ Ψ => ∃ xs ys : List Int, xs.length ≤ sizeLine ∧ Γ = [some (.d (iT xs)), some (.d (iT ys))] ∧ Ψ Γ (.d (.bl (fitsIn xs ys)))
theorem ok_fits (bt : Blt mg) {f : Addr} {fd : FuncData} (F : Fun K "_law_fits" "_law_fits" s__law_fits f fd) : FnOk P w K mg base CX0 1 f fd ["part", "whole"] (spOf K 2 sp_fits) := by
  refine fn_okD (lk := fun i => decide (i < 2)) F sc__law_fits rfl (psd_one (psd_ret (pd_c (c_eq (pd_len bt.len (pa_consD (pd_lc [("one", 2)] (pid_seqB (pd_name 0)) (pgd_name 2) (ptsd_one (pt_c (c_notin (pd_name 2) (pd_name 1)))) (pd_name 2)) pa_nilD)) (pd_int))))) fun Γ Ψ h _ => ?_
  obtain ⟨xs, ys, hz, rfl, q⟩ := h
  refine ⟨⟨.inl rfl, .inl rfl, trivial⟩, ?_⟩
  walk_at "mv"
  refine lcD_pure (fun x : Int => D.int x) (fun x => !decide (x ∈ ys)) (fun x => .int x) (fun ts => [some (T.d (iT xs)), some (T.d (iT ys)), none, some (T.li ts)]) (by simpa using hz) (fun x _ ts K hz hk => ?_) ?_
  · walk_at "mv"
    rw [inD_int]
    walk_at "mv"
    by_cases h : x ∈ ys
    · simpa [h, hz] using hk
    · simpa [h, hz] using hk
  · walk_at "mv"
    rw [eqD_len]
    have e : (xs.filter fun x => !decide (x ∈ ys)).isEmpty = fitsIn xs ys := by
      unfold fitsIn
      rw [Bool.eq_iff_iff, List.isEmpty_iff, List.filter_eq_nil_iff, List.all_eq_true]
      refine forall_congr' fun p => forall_congr' fun _ => ?_
      simp
    rw [e]
    exact q
/-! ### the box -/
def bxRow (top : Int) (one : List Int) : List (List Int) := (List.range (top + 1).toNat).map fun n : Nat => one ++ [(n : Int)]
def bxStep (rows : List (List Int)) (top : Int) : List (List Int) := rows.flatMap (bxRow top)
def boxOf (tops : List Int) : List (List Int) := tops.foldl bxStep [[]]
def bxSize : List Int → Nat
  | [] => 1
  | t :: ts => (t + 1).toNat * bxSize ts
theorem bxRow_len (top : Int) (one : List Int) : (bxRow top one).length = (top + 1).toNat := by
  unfold bxRow
  rw [List.length_map, List.length_range]
theorem bxStep_len (rows : List (List Int)) (top : Int) : (bxStep rows top).length = rows.length * (top + 1).toNat := by
  unfold bxStep
  induction rows with
  | nil => simp
  | cons r rows ih => rw [List.flatMap_cons, List.length_append, ih, bxRow_len, List.length_cons, Nat.add_mul, Nat.one_mul, Nat.add_comm]
theorem bx_fold_len : ∀ (tops : List Int) (rows : List (List Int)), (tops.foldl bxStep rows).length = rows.length * bxSize tops
  | [], rows => by simp [bxSize]
  | t :: ts, rows => by rw [List.foldl_cons, bx_fold_len ts, bxStep_len, bxSize, Nat.mul_assoc]
theorem bx_take : ∀ (tops : List Int) (i : Nat), bxSize tops = bxSize (tops.take i) * bxSize (tops.drop i)
  | [], i => by simp [bxSize]
  | t :: ts, 0 => by simp [bxSize]
  | t :: ts, i + 1 => by
    rw [List.take_succ_cons, List.drop_succ_cons, bxSize, bxSize, bx_take ts i, Nat.mul_assoc]
theorem bx_pos : ∀ {tops : List Int}, (∀ t ∈ tops, 0 ≤ t) → 1 ≤ bxSize tops
  | [], _ => Nat.le_refl _
  | t :: ts, h => by
    have h1 := bx_pos (tops := ts) fun x hx => h x (List.mem_cons_of_mem _ hx)
    have h2 := h t List.mem_cons_self
    rw [bxSize]
    exact Nat.mul_le_mul (show 1 ≤ (t + 1).toNat by omega) h1
theorem bx_each : ∀ (tops : List Int) (rows : List (List Int)) (k : Nat), (∀ r ∈ rows, r.length = k) → ∀ r ∈ tops.foldl bxStep rows, r.length = k + tops.length
  | [], rows, k, h, r, hr => by simpa using h r hr
  | t :: ts, rows, k, h, r, hr => by
    rw [List.foldl_cons] at hr
    have := bx_each ts (bxStep rows t) (k + 1) (fun r hr => by
      obtain ⟨o, ho, hr⟩ := List.mem_flatMap.mp hr
      obtain ⟨n, _, rfl⟩ := List.mem_map.mp hr
      rw [List.length_append, h o ho]
      rfl) r hr
    rw [this, List.length_cons]
    omega
structure TopsOk (tops : List Int) : Prop where
  pos : ∀ t ∈ tops, 0 ≤ t ∧ t + 1 < 2 ^ 62
  sz : bxSize tops < sizeLine
  ln : tops.length + 1 ≤ sizeLine
  ne : tops ≠ []
def sp_box : SpD := fun Γ Ψ => ∃ tops : List Int, TopsOk tops ∧ Γ = [some (.d (iT tops))] ∧ Ψ Γ (.d (vL (boxOf tops)))
theorem ok_box (bt : Blt mg) {f : Addr} {fd : FuncData} (F : Fun K "_law_box" "_law_box" s__law_box f fd) : FnOk P w K mg base CX0 1 f fd ["tops"] (spOf K 1 sp_box) := by
  refine fn_okD (lk := fun i => decide (i < 1)) F sc__law_box rfl (psd_cons (psd_set 1 (pd_lst (pa_consD (pd_tup (pa_nilD)) pa_nilD))) (psd_cons (psd_for (pid_seqF (pd_name 0)) (pgd_name 2) (psd_cons (psd_set 3 (pd_lst (pa_nilD))) (psd_cons (psd_for (pid_seqF (pd_name 1)) (pgd_name 4) (psd_one (psd_set 3 (pd_add (pd_name 3) (pd_lc [("number", 5)] (pid_range1 rfl bt.range (pa_consD (pd_add (pd_name 2) (pd_int)) pa_nilD)) (pgd_name 5) (ptsd_nil) (pd_add (pd_name 4) (pd_tup (pa_consD (pd_name 5) pa_nilD)))))))) (psd_one (psd_set 1 (pd_name 3)))))) (psd_one (psd_ret (pd_name 1))))) fun Γ Ψ h _ => ?_
  obtain ⟨tops, ok, rfl, q⟩ := h
  refine ⟨⟨.inl rfl, trivial⟩, ?_⟩
  walk_at "mv"
  refine ⟨by have := ok.ln; omega, ?_⟩
  refine forD_inv (fun i Γ => ∃ t o2 o3 o4 o5, ((i = 0 ∧ t = .li [.d (.tup [])]) ∨ t = .d (vL ((tops.take i).foldl bxStep [[]]))) ∧ Γ = [some (T.d (iT tops)), some t, o2, o3, o4, o5])
    ⟨.li [.d (.tup [])], none, none, none, none, .inl ⟨rfl, rfl⟩, rfl⟩ (fun i x Γ E hx hI h1 h2 h3 h4 => ?_) (fun Γ hI => ?_)
  · obtain ⟨t, o2, o3, o4, o5, ht, rfl⟩ := hI
    rw [List.getElem?_map] at hx
    obtain ⟨top, hv, rfl⟩ := Option.map_eq_some_iff.mp hx
    have fin := foldl_take bxStep [[]] hv
    have hif : i < tops.length := (List.getElem?_eq_some_iff.mp hv).1
    have htp := ok.pos top (List.mem_of_getElem? hv)
    have hlen : ((tops.take (i + 1)).foldl bxStep [[]]).length < sizeLine := by
      rw [bx_fold_len]
      have a1 := bx_take tops (i + 1)
      have a2 : 1 ≤ bxSize (tops.drop (i + 1)) := bx_pos fun x hx => (ok.pos x (List.mem_of_mem_drop hx)).1
      have a3 := ok.sz
      have a4 : bxSize (tops.take (i + 1)) * 1 ≤ bxSize (tops.take (i + 1)) * bxSize (tops.drop (i + 1)) := Nat.mul_le_mul_left _ a2
      simp only [List.length_cons, List.length_nil]
      omega
    have heach := bx_each (tops.take i) [[]] 0 (by simp)
    have h0 : i = 0 → (tops.take i).foldl bxStep [[]] = [[]] := fun e => by rw [e]; rfl
    generalize ef : (tops.take i).foldl bxStep [[]] = rows at fin ht heach h0 ⊢
    rw [fin] at hlen
    refine ⟨_, rfl, ?_⟩
    have ht' : (t = .li [.d (.tup [])] ∧ rows = [[]]) ∨ t = .d (vL rows) := ht.imp (fun z => ⟨z.2, h0 z.1⟩) id
    rcases ht' with ⟨et, er⟩ | et
    all_goals
      subst et
      walk_at "mv"
      try rw [show ([D.tup []] : List D) = rows.map iT by rw [er]; rfl]
      refine forD_inv (fun j Γ => ∃ o4 o5, Γ = [some (T.d (iT tops)), some (.d (vL rows)), some (.d (.int top)), some (.li ((((rows.take j).flatMap (bxRow top)).map iT).map .d)), o4, o5]) ⟨_, _, rfl⟩ (fun j x Γ E2 hx hI g1 g2 g3 g4 => ?_) (fun Γ hI => ?_)
      · obtain ⟨o4, o5, rfl⟩ := hI
        rw [List.getElem?_map] at hx
        obtain ⟨one, hc, rfl⟩ := Option.map_eq_some_iff.mp hx
        have hol := heach one (List.mem_of_getElem? hc)
        have fin2 : (rows.take (j + 1)).flatMap (bxRow top) = (rows.take j).flatMap (bxRow top) ++ bxRow top one := by
          rw [List.take_add_one, hc, List.flatMap_append]
          simp
        have lsz : ((rows.take (j + 1)).flatMap (bxRow top)).length ≤ (bxStep rows top).length := by
          have a1 := bxStep_len (rows.take (j + 1)) top
          have a2 := bxStep_len rows top
          unfold bxStep at a1 a2 ⊢
          rw [a1, a2]
          exact Nat.mul_le_mul_right _ (by rw [List.length_take]; omega)
        refine ⟨_, rfl, ?_⟩
        walk_at "mv"
        refine ⟨by omega, by omega, ?_⟩
        rw [rng0]
        refine lcD_pure (fun n : Nat => D.int (n : Nat)) (fun _ => true) (fun n => iT (one ++ [(n : Int)])) (fun ts => [some (T.d (iT tops)), some (.d (vL rows)), some (.d (.int top)), some (.li ((((rows.take j).flatMap (bxRow top)).map iT).map .d)), some (.d (iT one)), none, some (T.li ts)]) ?_ (fun n _ ts K hz hk => ?_) ?_
        · simp only [List.length_nil, List.length_range]
          rw [fin2, List.length_append, bxRow_len] at lsz
          omega
        · walk_at "mv"
          refine ⟨by have := ok.ln; omega, ?_, hz, ?_⟩
          · rw [hol, List.length_take]
            have := ok.ln
            omega
          · rw [show (List.map D.int one ++ [D.int (n : Nat)]) = (one ++ [(n : Int)]).map .int by simp]
            exact hk
        · rw [filt_true, show ((List.range (top + 1).toNat).map fun n : Nat => iT (one ++ [(n : Int)])) = (bxRow top one).map iT by unfold bxRow; rw [List.map_map]; rfl]
          walk_at "mv"
          rw [show List.map T.d (List.map iT ((rows.take j).flatMap (bxRow top)) ++ List.map iT (bxRow top one)) = (((rows.take (j + 1)).flatMap (bxRow top)).map iT).map .d by rw [fin2]; simp]
          refine ⟨?_, g1 _ ⟨_, _, rfl⟩⟩
          rw [fin2, List.length_append] at lsz
          omega
      · obtain ⟨o4, o5, rfl⟩ := hI
        rw [List.length_map, List.take_length]
        walk_at "mv"
        rw [show rows.flatMap (bxRow top) = (tops.take (i + 1)).foldl bxStep [[]] from fin.symm]
        exact h1 _ ⟨_, _, _, _, _, .inr rfl, rfl⟩
  · obtain ⟨t, o2, o3, o4, o5, ht, rfl⟩ := hI
    rcases ht with ⟨e, _⟩ | rfl
    · rw [List.length_map] at e
      exact absurd (List.eq_nil_of_length_eq_zero e) ok.ne
    · rw [List.length_map, List.take_length]
      walk_at "mv"
      exact q
end
end K58
set_option Elab.async false
set_option linter.all false
set_option maxRecDepth 100000
namespace K58
open PySem PySem.Spec PyProof.Rows L2 Mv
local macro_rules | `(tactic| walk_at "mv") => `(tactic| simp only [tRetD, tRetND, tBin, tUnD, tLcD, tZip, tACons, tANil, tName, Mv.tCon, tTst, tTru, truD, tAndD, tOrD, tNotD, tAndVD, tOrVD, tNotVD, tIfD, tIfSD, tSeqD, tNextD, tSetD, tParD, tAsgD, tDropD, tForD, tSeqF, tSeqB, tRng1, tRng2, tTupD, tLstD, tLstO, tCBD, tCl, tClP, tAppD, tExtD, tPopD, tPopAtD, tSetIxD, tSlD, tPoN, tPoS, tYesD, tBreakD, tContD, tLZ, tEnB, tEnF, tZipF, tMk, tClK, tSrtDc, srtTF, srtIF, srtSTF, srtSIF, repF, pick,
  stoD, asD, asDs, bindP, Mv.bindL, lcStep, callD, argE, places, putBack, resD, unT, endsD, rtD, outE, intF, CT, addF, eqF, neF, inF, isF, isC, Mv.isNon, isBl, negF, ixF, slF, revF, fldF, lenF, lenD, intB, absF, listF, tupF, sumF, isiF, liAt, seqOf, seqIt, rvT, stab, vw, vwT, getT, setT, kid, fz, fzs, fzs_d, flat, flat_map, intsOf_map, tupsOf_map, wipeE, backE,
  List.map_cons, List.map_nil, List.set_cons_zero, List.set_cons_succ, List.length_cons, List.length_nil, List.replicate, List.cons_append, List.nil_append, List.getElem?_cons_zero, List.getElem?_cons_succ, List.getElem?_nil, List.take_succ_cons, List.take_zero, List.length_map, List.length_append, List.getD_cons_zero, List.getD_cons_succ,
  true_and, and_true, Bool.and_false, Bool.false_and, Bool.or_false, Bool.false_or, Bool.true_and, Bool.and_true, Bool.not_true, Bool.not_false, Nat.zero_le, Bool.or_self, Bool.true_or, Bool.or_true, Bool.and_self, Nat.zero_add, Nat.reduceAdd, Nat.reduceSub, Nat.reduceLeDiff, Nat.reduceLT, Nat.reduceEqDiff, Nat.reduceBEq, BEq.rfl, beq_self_eq_true, if_true, if_false, Bool.false_eq_true, reduceIte, reduceCtorEq, List.nodup_cons, List.not_mem_nil, not_false_eq_true, List.nodup_nil, decide_true, decide_false, decide_eq_true_eq])
section
variable {P : Program} {w : World} {K : PySem.W.Frag} {mg : Str → Option Value} {base : Heap}
/-! ### _law_lightest -/
def lighter (some : List (List Int)) (one : List Int) : List (List Int) := some.filter fun other => (!decide (other = one)) && isBelow other one
def lightestOf (vs : List (List Int)) : List (List Int) := (sortT (ddp vs)).filter fun one => (lighter (sortT (ddp vs)) one).isEmpty
structure SzS (vs : List (List Int)) : Prop where
  len : vs.length < 64
  each : ∀ v ∈ vs, v.length ≤ sizeLine
  ne : NeT (ddp vs)
def sp_lightest : SpD := fun Γ Ψ => ∃ vs : List (List Int), SzS vs ∧ Γ = [some (.d (vL vs))] ∧ Ψ Γ (.d (vT (lightestOf vs)))
theorem ok_lightest (C__law_nowhere_more : Callee P w K mg base "_law_nowhere_more" 1 2 sp_is_below) (bt : Blt mg) {f : Addr} {fd : FuncData} (F : Fun K "_law_lightest" "_law_lightest" s__law_lightest f fd) : FnOk P w K mg base CX0 2 f fd ["vectors"] (spOf K 1 sp_lightest) := by
  refine fn_okD (lk := fun i => decide (i < 1)) F sc__law_lightest rfl (psd_cons (psd_set 1 (pd_sortST bt.sorted bt.set (pa_consD (pd_name 0) pa_nilD))) (psd_one (psd_ret (pd_tupB bt.tuple (pa_consD (pd_lc [("one", 2)] (pid_seqB (pd_name 1)) (pgd_name 2) (ptsd_one (pt_c (c_eq (pd_len bt.len (pa_consD (pd_lc [("other", 3)] (pid_seqB (pd_name 1)) (pgd_name 3) (ptsd_one (PWD.pt (pw_andD (pt_c (c_ne (pd_name 3) (pd_name 2))) (pw_andD1 (pt_tru (pd_clP C__law_nowhere_more (pa_consD (pd_name 3) (pa_consD (pd_name 2) pa_nilD)))))))) (pd_name 3)) pa_nilD)) (pd_int)))) (pd_name 2)) pa_nilD))))) fun Γ Ψ h _ => ?_
  obtain ⟨vs, hz, rfl, q⟩ := h
  refine ⟨⟨.inl rfl, trivial⟩, ?_⟩
  walk_at "mv"
  refine ⟨⟨hz.len, hz.ne⟩, ?_⟩
  have hl := srt_len vs
  have h64 := hz.len
  have hin : ∀ x ∈ sortT (ddp vs), x.length ≤ sizeLine := fun x hx => hz.each x (mem_srt.mp hx)
  have ef : lightestOf vs = (sortT (ddp vs)).filter fun one => (lighter (sortT (ddp vs)) one).isEmpty := rfl
  generalize sortT (ddp vs) = so at hl hin ef ⊢
  refine lcD_pure (fun o : List Int => iT o) (fun one => (lighter so one).isEmpty) (fun o => iT o) (fun ts => [some (T.d (vL vs)), some (.li ((so.map iT).map .d)), none, none, some (T.li ts)]) (by rw [sizeLine_eq]; simp; omega) (fun one ho ts K hz' hk => ?_) ?_
  · walk_at "mv"
    refine lcD_pure (fun o : List Int => iT o) (fun other => (!decide (other = one)) && isBelow other one) (fun o => iT o) (fun us => [some (T.d (vL vs)), some (.li ((so.map iT).map .d)), some (.d (iT one)), none, some (.li ts), some (T.li us)]) (by rw [sizeLine_eq]; simp; omega) (fun other ho2 us K2 hz2 hk2 => ?_) ?_
    · walk_at "mv"
      rw [eqD_tup]
      walk_at "mv"
      by_cases e : other = one
      · simp only [e, decide_true, Bool.not_true, Bool.false_and, Bool.false_eq_true, if_false] at hk2 ⊢
        exact hk2
      · simp only [e, decide_false, Bool.not_false, Bool.true_and, if_true] at hk2 ⊢
        refine ⟨other, one, hin other ho2, rfl, ?_⟩
        walk_at "mv"
        by_cases b : isBelow other one = true
        · simpa [b, hz2] using hk2
        · simpa [b, hz2] using hk2
    · walk_at "mv"
      rw [eqD_len, show (so.filter fun other => (!decide (other = one)) && isBelow other one) = lighter so one from rfl]
      walk_at "mv"
      by_cases b : (lighter so one).isEmpty = true
      · simpa [b, hz'] using hk
      · simpa [b, hz'] using hk
  · walk_at "mv"
    rw [← ef]
    exact q
/-! ### _law_tops -/
def sp_tops : SpD := fun Γ Ψ => ∃ (n : Nat) (sorts : List (List Int)) (ss : List Nat), (n ≤ sizeLine ∧ sorts.length ≤ sizeLine ∧ ∀ ws ∈ sorts, n ≤ ws.length) ∧ Γ = [some (.d (vT sorts)), some (.d (.tup (nD ss))), some (.d (.int (n : Nat)))] ∧ Ψ Γ (.d (iT (weightV sorts (freeT n ss))))
theorem ok_tops (bt : Blt mg) {f : Addr} {fd : FuncData} (F : Fun K "_law_tops" "_law_tops" s__law_tops f fd) : FnOk P w K mg base CX0 1 f fd ["sorts", "stands", "many"] (spOf K 3 sp_tops) := by
  refine fn_okD (lk := fun i => decide (i < 3)) F sc__law_tops rfl (psd_one (psd_ret (pd_tupB bt.tuple (pa_consD (pd_lc [("weights", 3)] (pid_seqB (pd_name 0)) (pgd_name 3) (ptsd_nil) (pd_sum bt.sum (pa_consD (pd_lc [("thing", 4)] (pid_range1 rfl bt.range (pa_consD (pd_name 2) pa_nilD)) (pgd_name 4) (ptsd_one (pt_c (c_notin (pd_name 4) (pd_name 1)))) (pd_ix (pd_name 3) (pd_name 4))) pa_nilD))) pa_nilD)))) fun Γ Ψ h _ => ?_
  obtain ⟨n, sorts, ss, ⟨z1, z2, z3⟩, rfl, q⟩ := h
  refine ⟨⟨.inl rfl, .inl rfl, .inl rfl, trivial⟩, ?_⟩
  walk_at "mv"
  refine lcD_pure (fun ws : List Int => iT ws) (fun _ => true) (fun ws => .int (wsum ws (freeT n ss))) (fun ts => [some (T.d (vT sorts)), some (T.d (.tup (nD ss))), some (.d (.int (n : Nat))), none, none, some (T.li ts)]) (by simpa using z2) (fun ws hws ts K hz hk => ?_) ?_
  · walk_at "mv"
    refine ⟨by omega, by rw [sizeLine_eq] at z1; omega, ?_⟩
    rw [rng0, Int.toNat_natCast]
    refine lcD_pure (fun t : Nat => D.int (t : Nat)) (fun t => !decide (t ∈ ss)) (fun t => .int (ws.getD t 0)) (fun us => [some (T.d (vT sorts)), some (T.d (.tup (nD ss))), some (.d (.int (n : Nat))), some (T.d (iT ws)), none, some (T.li ts), some (T.li us)]) (by simpa using z1) (fun t ht us K2 hz2 hk2 => ?_) ?_
    · have hlt : t < ws.length := Nat.lt_of_lt_of_le (List.mem_range.mp ht) (z3 ws hws)
      walk_at "mv"
      rw [inD_nat]
      walk_at "mv"
      rw [atI_nat hlt]
      by_cases h : t ∈ ss
      · simpa [h, hz2] using hk2
      · simpa [h, hz2] using hk2
    · walk_at "mv"
      rw [show (((List.range n).filter fun t => !decide (t ∈ ss)).map fun t => D.int (ws.getD t 0)) = ((freeT n ss).map fun t => ws.getD t 0).map .int by rw [List.map_map]; rfl, intsOf_map]
      exact ⟨hz, by simpa [wsum] using hk⟩
  · walk_at "mv"
    rw [filt_true, show (sorts.map fun ws => D.int (wsum ws (freeT n ss))) = (weightV sorts (freeT n ss)).map .int by unfold weightV; rw [List.map_map]; rfl]
    exact q
/-! ### _law_tried_corners -/
def bareOf (tops : List Int) (front : List (List Int)) : List (List Int) := (boxOf tops).filter fun v => !(front.any fun o => isBelow o v)
def above (some : List (List Int)) (one : List Int) : List (List Int) := some.filter fun other => (!decide (other = one)) && isBelow one other
def triedOf (tops : List Int) (front : List (List Int)) : List (List Int) := (sortT (bareOf tops front)).filter fun one => (above (bareOf tops front) one).isEmpty
def sp_tried : SpD := fun Γ Ψ => ∃ (n : Nat) (sorts : List (List Int)) (ss : List Nat) (front : List (List Int)), ((n ≤ sizeLine ∧ ∀ ws ∈ sorts, n ≤ ws.length) ∧ TopsOk (weightV sorts (freeT n ss)) ∧ front.length ≤ sizeLine ∧ ∀ v ∈ front, v.length ≤ sizeLine) ∧
  Γ = [some (.d (vT sorts)), some (.d (.tup (nD ss))), some (.d (.int (n : Nat))), some (.d (vT front))] ∧ Ψ Γ (.d (vT (triedOf (weightV sorts (freeT n ss)) front)))
theorem ok_tried (C__law_nowhere_more : Callee P w K mg base "_law_nowhere_more" 1 2 sp_is_below) (C__law_box : Callee P w K mg base "_law_box" 1 1 sp_box) (C__law_tops : Callee P w K mg base "_law_tops" 1 3 sp_tops) (bt : Blt mg) {f : Addr} {fd : FuncData}
    (F : Fun K "_law_tried_corners" "_law_tried_corners" s__law_tried_corners f fd) : FnOk P w K mg base CX0 2 f fd ["sorts", "stands", "many", "front"] (spOf K 4 sp_tried) := by
  refine fn_okD (lk := fun i => decide (i < 4)) F sc__law_tried_corners rfl (psd_cons (psd_parC 4 5 (pa_consD (pd_lst (pa_nilD)) (pa_consD (pd_clP C__law_box (pa_consD (pd_clP C__law_tops (pa_consD (pd_name 0) (pa_consD (pd_name 1) (pa_consD (pd_name 2) pa_nilD)))) pa_nilD)) pa_nilD))) (psd_cons (psd_for (pid_seqF (pd_name 5)) (pgd_name 6) (psd_one (psd_if (pt_c (c_notin (pd_bl) (pd_lc [("one", 7)] (pid_seqB (pd_name 3)) (pgd_name 7) (ptsd_nil) (pd_clP C__law_nowhere_more (pa_consD (pd_name 7) (pa_consD (pd_name 6) pa_nilD)))))) (psd_one (psd_expr (pd_append (pd_name 4) (pa_consD (pd_name 6) pa_nilD)))) (psd_nil)))) (psd_one (psd_ret (pd_tupB bt.tuple (pa_consD (pd_lc [("one", 7)] (pid_seqB (pd_sortT bt.sorted (pa_consD (pd_name 4) pa_nilD))) (pgd_name 7) (ptsd_one (pt_c (c_eq (pd_len bt.len (pa_consD (pd_lc [("other", 8)] (pid_seqB (pd_name 4)) (pgd_name 8) (ptsd_one (PWD.pt (pw_andD (pt_c (c_ne (pd_name 8) (pd_name 7))) (pw_andD1 (pt_tru (pd_clP C__law_nowhere_more (pa_consD (pd_name 7) (pa_consD (pd_name 8) pa_nilD)))))))) (pd_name 8)) pa_nilD)) (pd_int)))) (pd_name 7)) pa_nilD)))))) fun Γ Ψ h _ => ?_
  obtain ⟨n, sorts, ss, front, ⟨⟨z1, z2⟩, tk, z3, z4⟩, rfl, q⟩ := h
  refine ⟨⟨.inl rfl, .inl rfl, .inl rfl, .inl rfl, trivial⟩, ?_⟩
  walk_at "mv"
  refine ⟨n, sorts, ss, ⟨z1, by have := tk.ln; simp [weightV] at this; omega, z2⟩, rfl, ?_⟩
  walk_at "mv"
  refine ⟨_, tk, rfl, ?_⟩
  walk_at "mv"
  refine ⟨fun a e => by cases e; exact Nat.le_refl _, fun a e => e.elim, ?_⟩
  have et : triedOf (weightV sorts (freeT n ss)) front = (sortT ((boxOf (weightV sorts (freeT n ss))).filter fun v => !(front.any fun o => isBelow o v))).filter fun one => (above ((boxOf (weightV sorts (freeT n ss))).filter fun v => !(front.any fun o => isBelow o v)) one).isEmpty := rfl
  have bl : (boxOf (weightV sorts (freeT n ss))).length < sizeLine := by
    have := bx_fold_len (weightV sorts (freeT n ss)) [[]]
    have := tk.sz
    unfold boxOf
    simp only [List.length_cons, List.length_nil] at *
    omega
  have be : ∀ v ∈ boxOf (weightV sorts (freeT n ss)), v.length = (weightV sorts (freeT n ss)).length := fun v hv => by
    have := bx_each (weightV sorts (freeT n ss)) [[]] 0 (by simp) v hv
    omega
  have tn : (weightV sorts (freeT n ss)).length ≠ 0 := fun e => tk.ne (List.eq_nil_of_length_eq_zero e)
  have tl := tk.ln
  generalize boxOf (weightV sorts (freeT n ss)) = box at et bl be ⊢
  refine forD_inv (fun i Γ => ∃ o6 : Option T, Γ = [some (T.d (vT sorts)), some (T.d (.tup (nD ss))), some (T.d (.int (n : Nat))), some (T.d (vT front)), some (.li ((((box.take i).filter fun v => !(front.any fun o => isBelow o v)).map iT).map .d)), some (.d (vL box)), o6, none, none]) ⟨none, rfl⟩ (fun i x Γ E hx hI h1 h2 h3 h4 => ?_) (fun Γ hI => ?_)
  · obtain ⟨o6, rfl⟩ := hI
    rw [List.getElem?_map] at hx
    obtain ⟨v, hv, rfl⟩ := Option.map_eq_some_iff.mp hx
    have fin : (box.take (i + 1)).filter (fun v => !(front.any fun o => isBelow o v)) = (box.take i).filter (fun v => !(front.any fun o => isBelow o v)) ++ (if (front.any fun o => isBelow o v) = true then [] else [v]) := by
      rw [List.take_add_one, hv, List.filter_append]
      congr 1
      by_cases b : (front.any fun o => isBelow o v) = true
      · simp [b]
      · simp only [Bool.not_eq_true] at b
        simp [b]
    have lb : ((box.take i).filter (fun v => !(front.any fun o => isBelow o v))).length ≤ box.length := Nat.le_trans (List.length_filter_le _ _) (by rw [List.length_take]; omega)
    generalize (box.take i).filter (fun v => !(front.any fun o => isBelow o v)) = bare at fin lb ⊢
    refine ⟨_, rfl, ?_⟩
    walk_at "mv"
    refine lcD_pure (fun o : List Int => iT o) (fun _ => true) (fun o => .bl (isBelow o v)) (fun ts => [some (T.d (vT sorts)), some (T.d (.tup (nD ss))), some (T.d (.int (n : Nat))), some (T.d (vT front)), some (.li ((bare.map iT).map .d)), some (.d (vL box)), some (.d (iT v)), none, none, some (T.li ts)]) (by simpa using z3) (fun o ho ts K hz' hk => ?_) ?_
    · walk_at "mv"
      refine ⟨o, v, z4 o ho, rfl, ?_⟩
      walk_at "mv"
      simpa [hz'] using hk
    · walk_at "mv"
      rw [filt_true, show (front.map fun o => D.bl (isBelow o v)) = (front.map fun o => isBelow o v).map .bl by rw [List.map_map]; rfl, inD_bl]
      walk_at "mv"
      rw [show (front.map fun o => isBelow o v).any id = front.any fun o => isBelow o v by rw [List.any_map]; rfl]
      by_cases b : (front.any fun o => isBelow o v) = true
      · rw [if_pos b, List.append_nil] at fin
        simp only [b, Bool.not_true, Bool.false_eq_true, if_false]
        rw [show bare = _ from fin.symm]
        exact h1 _ ⟨_, rfl⟩
      · rw [if_neg b] at fin
        simp only [b, Bool.not_false, if_true]
        refine ⟨by omega, ?_⟩
        rw [show List.map T.d (List.map iT bare) ++ [T.d (iT v)] = ((bare ++ [v]).map iT).map .d by simp, ← fin]
        exact h1 _ ⟨_, rfl⟩
  · obtain ⟨o6, rfl⟩ := hI
    rw [List.length_map, List.take_length]
    have lb : (box.filter (fun v => !(front.any fun o => isBelow o v))).length ≤ box.length := List.length_filter_le _ _
    have eb : ∀ v ∈ box.filter (fun v => !(front.any fun o => isBelow o v)), v.length = (weightV sorts (freeT n ss)).length := fun v hv => be v (List.mem_filter.mp hv).1
    generalize box.filter (fun v => !(front.any fun o => isBelow o v)) = bare at et lb eb ⊢
    have sl : (sortT bare).length = bare.length := (sortT_perm bare).length_eq
    have sm : ∀ v ∈ sortT bare, v ∈ bare := fun v hv => (sortT_perm bare).mem_iff.mp hv
    walk_at "mv"
    refine ⟨.inl fun x hx e => tn (by rw [← eb x hx, e]; rfl), ?_⟩
    refine lcD_pure (fun o : List Int => iT o) (fun one => (above bare one).isEmpty) (fun o => iT o) (fun ts => [some (T.d (vT sorts)), some (T.d (.tup (nD ss))), some (T.d (.int (n : Nat))), some (T.d (vT front)), some (.li ((bare.map iT).map .d)), some (.d (vL box)), o6, none, none, some (.li (((sortT bare).map iT).map .d)), some (T.li ts)]) (by simp; omega) (fun one ho ts K hz' hk => ?_) ?_
    · walk_at "mv"
      refine lcD_pure (fun o : List Int => iT o) (fun other => (!decide (other = one)) && isBelow one other) (fun o => iT o) (fun us => [some (T.d (vT sorts)), some (T.d (.tup (nD ss))), some (T.d (.int (n : Nat))), some (T.d (vT front)), some (.li ((bare.map iT).map .d)), some (.d (vL box)), o6, some (.d (iT one)), none, some (.li (((sortT bare).map iT).map .d)), some (.li ts), some (T.li us)]) (by simp; omega) (fun other ho2 us K2 hz2 hk2 => ?_) ?_
      · walk_at "mv"
        rw [eqD_tup]
        walk_at "mv"
        by_cases e : other = one
        · simp only [e, decide_true, Bool.not_true, Bool.false_and, Bool.false_eq_true, if_false] at hk2 ⊢
          exact hk2
        · simp only [e, decide_false, Bool.not_false, Bool.true_and, if_true] at hk2 ⊢
          refine ⟨one, other, by rw [eb one (sm one ho)]; omega, rfl, ?_⟩
          walk_at "mv"
          by_cases b : isBelow one other = true
          · simpa [b, hz2] using hk2
          · simpa [b, hz2] using hk2
      · walk_at "mv"
        rw [eqD_len, show (bare.filter fun other => (!decide (other = one)) && isBelow one other) = above bare one from rfl]
        walk_at "mv"
        by_cases b : (above bare one).isEmpty = true
        · simpa [b, hz'] using hk
        · simpa [b, hz'] using hk
    · walk_at "mv"
      rw [← et]
      exact q
end
end K58
set_option Elab.async false
set_option linter.all false
set_option maxRecDepth 100000
namespace K58
open PySem PySem.Spec PyProof.Rows L2 Mv
local macro_rules | `(tactic| walk_at "mv") => `(tactic| simp only [tRetD, tRetND, tBin, tUnD, tLcD, tZip, tACons, tANil, tName, Mv.tCon, tTst, tTru, truD, tAndD, tOrD, tNotD, tAndVD, tOrVD, tNotVD, tIfD, tIfSD, tSeqD, tNextD, tSetD, tParD, tAsgD, tDropD, tForD, tSeqF, tSeqB, tRng1, tRng2, tTupD, tLstD, tLstO, tCBD, tCl, tClP, tAppD, tExtD, tPopD, tPopAtD, tSetIxD, tSlD, tPoN, tPoS, tYesD, tBreakD, tContD, tLZ, tEnB, tEnF, tZipF, tMk, tClK, tSrtDc, srtTF, srtIF, srtSTF, srtSIF, repF, pick,
  stoD, asD, asDs, bindP, Mv.bindL, lcStep, callD, argE, places, putBack, resD, unT, endsD, rtD, outE, intF, CT, addF, eqF, neF, inF, isF, isC, Mv.isNon, isBl, negF, ixF, slF, revF, fldF, lenF, lenD, intB, absF, listF, tupF, sumF, isiF, tyD, clsD, clsDs, anyI, liAt, seqOf, seqIt, rvT, stab, vw, vwT, getT, setT, kid, fz, fzs, fzs_d, flat, flat_map, intsOf_map, tupsOf_map, wipeE, backE,
  List.map_cons, List.map_nil, List.set_cons_zero, List.set_cons_succ, List.length_cons, List.length_nil, List.replicate, List.cons_append, List.nil_append, List.getElem?_cons_zero, List.getElem?_cons_succ, List.getElem?_nil, List.take_succ_cons, List.take_zero, List.length_map, List.length_append, List.getD_cons_zero, List.getD_cons_succ,
  true_and, and_true, Bool.and_false, Bool.false_and, Bool.or_false, Bool.false_or, Bool.true_and, Bool.and_true, Bool.not_true, Bool.not_false, Nat.zero_le, Bool.or_self, Bool.true_or, Bool.or_true, Bool.and_self, Nat.zero_add, Nat.reduceAdd, Nat.reduceSub, Nat.reduceLeDiff, Nat.reduceLT, Nat.reduceEqDiff, Nat.reduceBEq, BEq.rfl, beq_self_eq_true, if_true, if_false, Bool.false_eq_true, reduceIte, reduceCtorEq, List.nodup_cons, List.not_mem_nil, not_false_eq_true, List.nodup_nil, decide_true, decide_false, decide_eq_true_eq])
/-- what isinstance tells of plain things -/
structure Tys (I : Value → Value → Option Bool) (CR CW : Addr) : Prop where
  tt : I (.type "tuple") (.type "tuple") = some true
  it : I (.type "int") (.type "tuple") = some false
  bt : I (.type "bool") (.type "tuple") = some false
  st : I (.type "str") (.type "tuple") = some false
  nt : I (.type "NoneType") (.type "tuple") = some false
  il : I (.type "int") (.type "list") = some false
  bl : I (.type "bool") (.type "list") = some false
  sl : I (.type "str") (.type "list") = some false
  nl : I (.type "NoneType") (.type "list") = some false
  id : I (.type "int") (.type "dict") = some false
  bd : I (.type "bool") (.type "dict") = some false
  sd : I (.type "str") (.type "dict") = some false
  nd : I (.type "NoneType") (.type "dict") = some false
  ss : I (.type "str") (.type "str") = some true
  is : I (.type "int") (.type "str") = some false
  ii : I (.type "int") (.type "int") = some true
  ib : I (.type "int") (.type "bool") = some false
  rr : ∀ t, t = "int" ∨ t = "bool" ∨ t = "str" ∨ t = "NoneType" ∨ t = "tuple" → I (.type t) (.ref CR) = some false
  rw : ∀ t, t = "int" ∨ t = "bool" ∨ t = "str" ∨ t = "NoneType" ∨ t = "tuple" → I (.type t) (.ref CW) = some false
inductive Pl : D → Prop
  | non : Pl .non
  | bl (b : Bool) : Pl (.bl b)
  | int (i : Int) : Pl (.int i)
  | str (x : Str) (h : PyData.strOk x = true) : Pl (.str x)
  | tup (xs : List D) : (∀ x ∈ xs, Pl x) → Pl (.tup xs)
def flatPl : D → Bool
  | .tup _ => false
  | _ => true
theorem eqD_str (x : Str) (h : PyData.strOk x = true) : eqD (.str x) (.str x) = some true := by
  unfold eqD
  simp only [toP]
  rw [show SeqAt.shaped (.str x) = true by simp [SeqAt.shaped, PyData.canLay0, PyData.depth, h]]
  simp [PyData.eqv]
section
variable {P : Program} {w : World} {K : PySem.W.Frag} {mg : Str → Option Value} {base : Heap}
variable {isI : Value → Value → Option Bool} {isO : Addr → Prop} {CR CW : Addr}
def sp_is_kind : SpD := fun Γ Ψ => ∃ x : D, Pl x ∧ flatPl x = true ∧ Γ = [some (.d x), some (.d x)] ∧ Ψ Γ (.d (.bl true))
theorem ok_is_kind (ty : Tys isI CR CW) (isIok : ∀ t u b, isI t u = some b → PySem.W.kitOne K t u = some b) (isOok : ∀ C, isO C → OwnCls K C) (bt : Blt mg) {f : Addr} {fd : FuncData} (F : Fun K "_law_is_kind" "_law_is_kind" s__law_is_kind f fd) : FnOk P w K mg base CX0 1 f fd ["told", "due"] (spOf K 2 sp_is_kind) := by
  refine fn_okD (lk := fun i => decide (i < 2)) F sc__law_is_kind rfl (psd_cons (psd_if (pt_c (c_is (pd_name 1) (pd_non))) (psd_one (psd_ret (pd_c (c_is (pd_name 0) (pd_non))))) (psd_nil)) (psd_cons (psd_if (PWD.pt (pw_orD (pt_c (c_is (pd_name 1) (pd_bl))) (pw_orD1 (pt_c (c_is (pd_name 1) (pd_bl)))))) (psd_one (psd_ret (pd_ifExp (pt_tru (pd_name 1)) (pd_c (c_is (pd_name 0) (pd_bl))) (pd_c (c_is (pd_name 0) (pd_bl)))))) (psd_nil)) (psd_cons (psd_if (pt_tru (pd_isi isI isO isIok isOok bt.isinstance (pa_consD (pd_name 1) (pa_consD (pd_ty (n := "str") bt.str (by decide +kernel)) pa_nilD)))) (psd_one (psd_ret (pd_and (pd_isi isI isO isIok isOok bt.isinstance (pa_consD (pd_name 0) (pa_consD (pd_ty (n := "str") bt.str (by decide +kernel)) pa_nilD))) (pd_one (pd_c (c_eq (pd_name 0) (pd_name 1))))))) (psd_nil)) (psd_one (psd_ret (pd_and (pd_isi isI isO isIok isOok bt.isinstance (pa_consD (pd_name 0) (pa_consD (pd_ty (n := "int") bt.int (by decide +kernel)) pa_nilD))) (pd_and (pd_not (pd_isi isI isO isIok isOok bt.isinstance (pa_consD (pd_name 0) (pa_consD (pd_ty (n := "bool") bt.bool (by decide +kernel)) pa_nilD)))) (pd_one (pd_c (c_eq (pd_name 0) (pd_name 1))))))))))) fun Γ Ψ h _ => ?_
  obtain ⟨x, hp, hf, rfl, q⟩ := h
  refine ⟨⟨.inl rfl, .inl rfl, trivial⟩, ?_⟩
  cases hp with
  | non =>
    walk_at "mv"
    exact q
  | bl b =>
    cases b
    · walk_at "mv"
      exact q
    · walk_at "mv"
      exact q
  | int i =>
    walk_at "mv"
    simp only [ty.is, ty.ii, ty.ib]
    walk_at "mv"
    rw [eqD_int]
    walk_at "mv"
    exact q
  | str z hz =>
    walk_at "mv"
    simp only [ty.ss]
    walk_at "mv"
    rw [eqD_str z hz]
    exact q
  | tup xs h => cases hf
def sp_plain : SpD := fun Γ Ψ => ∃ x : D, Pl x ∧ Γ = [some (.d x)] ∧ Ψ Γ (.d x)
theorem ok_plain {A_parts A_names A_weights A_lots : Addr → Prop} (h_parts : ∀ C, A_parts C → Cls K C ∧ NoAttr K C "parts") (h_names : ∀ C, A_names C → Cls K C ∧ NoAttr K C "names") (h_weights : ∀ C, A_weights C → Cls K C ∧ NoAttr K C "weights") (h_lots : ∀ C, A_lots C → Cls K C ∧ NoAttr K C "lots")
    (M_Rule : mg "Rule" = some (.ref CR)) (M_Web : mg "Web" = some (.ref CW)) (ty : Tys isI CR CW) (isIok : ∀ t u b, isI t u = some b → PySem.W.kitOne K t u = some b) (isOok : ∀ C, isO C → OwnCls K C) (bt : Blt mg) {f : Addr} {fd : FuncData} (F : Fun K "_law_plain" "_law_plain" s__law_plain f fd) : FnOk P w K mg base CX0 1 f fd ["value"] (spOf K 1 sp_plain) := by
  refine fn_okD (lk := fun i => decide (i < 1)) F sc__law_plain rfl (psd_cons (psd_if (pt_tru (pd_isi isI isO isIok isOok bt.isinstance (pa_consD (pd_name 0) (pa_consD (pd_cls M_Rule) pa_nilD)))) (psd_one (psd_ret (pd_tup (pa_consD (pd_str) (pa_consD (pd_fld A_parts h_parts (pd_name 0)) pa_nilD))))) (psd_nil)) (psd_one (psd_ret (pd_ifExp (pt_tru (pd_isi isI isO isIok isOok bt.isinstance (pa_consD (pd_name 0) (pa_consD (pd_cls M_Web) pa_nilD)))) (pd_tup (pa_consD (pd_str) (pa_consD (pd_fld A_names h_names (pd_name 0)) (pa_consD (pd_fld A_weights h_weights (pd_name 0)) (pa_consD (pd_fld A_lots h_lots (pd_name 0)) pa_nilD))))) (pd_name 0))))) fun Γ Ψ h _ => ?_
  obtain ⟨x, hp, rfl, q⟩ := h
  refine ⟨⟨.inl rfl, trivial⟩, ?_⟩
  cases hp with
  | non =>
    walk_at "mv"
    simp only [ty.rr "NoneType" (by simp), ty.rw "NoneType" (by simp)]
    exact q
  | bl b =>
    walk_at "mv"
    simp only [ty.rr "bool" (by simp), ty.rw "bool" (by simp)]
    exact q
  | int i =>
    walk_at "mv"
    simp only [ty.rr "int" (by simp), ty.rw "int" (by simp)]
    exact q
  | str z hz =>
    walk_at "mv"
    simp only [ty.rr "str" (by simp), ty.rw "str" (by simp)]
    exact q
  | tup xs h =>
    walk_at "mv"
    simp only [ty.rr "tuple" (by simp), ty.rw "tuple" (by simp)]
    exact q
/-! ### _law_same -/
mutual
def wt : D → Nat
  | .tup xs => 1 + wts xs
  | _ => 1
def wts : List D → Nat
  | [] => 0
  | x :: xs => wt x + wts xs
end
theorem wt_pos (x : D) : 1 ≤ wt x := by
  cases x <;> simp [wt]
theorem wts_len : ∀ xs : List D, xs.length ≤ wts xs
  | [] => Nat.le_refl _
  | x :: xs => by
    have := wts_len xs
    have := wt_pos x
    rw [wts, List.length_cons]
    omega
theorem wts_append : ∀ xs ys : List D, wts (xs ++ ys) = wts xs + wts ys
  | [], ys => by simp [wts]
  | x :: xs, ys => by rw [List.cons_append, wts, wts, wts_append xs ys, Nat.add_assoc]
abbrev twin (x : D) : D := .tup [x, x]
theorem zip_twin : ∀ xs : List D, zipD xs xs = xs.map twin
  | [] => rfl
  | x :: xs => by rw [zipD, zip_twin xs]; rfl
def sp_same : SpD := fun Γ Ψ => ∃ x : D, Pl x ∧ wt x < sizeLine ∧ Γ = [some (.d x), some (.d x)] ∧ Ψ Γ (.d (.bl true))
theorem ok_same (C__law_plain : Callee P w K mg base "_law_plain" 1 1 sp_plain) (C__law_is_kind : Callee P w K mg base "_law_is_kind" 1 2 sp_is_kind) (ty : Tys isI CR CW) (isIok : ∀ t u b, isI t u = some b → PySem.W.kitOne K t u = some b) (isOok : ∀ C, isO C → OwnCls K C) (bt : Blt mg) {f : Addr} {fd : FuncData}
    (F : Fun K "_law_same" "_law_same" s__law_same f fd) : FnOk P w K mg base CX0 2 f fd ["told", "due"] (spOf K 2 sp_same) := by
  refine fn_okD (lk := fun i => decide (i < 2)) F sc__law_same rfl (psd_cons (psd_set 2 (pd_lst (pa_consD (pd_tup (pa_consD (pd_name 0) (pa_consD (pd_name 1) pa_nilD))) pa_nilD))) (psd_cons (psd_while (pt_c (c_gt (pd_len bt.len (pa_consD (pd_name 2) pa_nilD)) (pd_int))) (psd_cons (psd_asg (pd_pop (pd_name 2)) (pgd_tup (pgsd_cons (pgd_name 3) (pgsd_cons (pgd_name 4) pgsd_nil)))) (psd_cons (psd_set 3 (pd_clP C__law_plain (pa_consD (pd_name 3) pa_nilD))) (psd_one (psd_if (pt_tru (pd_isi isI isO isIok isOok bt.isinstance (pa_consD (pd_name 4) (pa_consD (pd_ty (n := "tuple") bt.tuple (by decide +kernel)) pa_nilD)))) (psd_cons (psd_if (PWD.pt (pw_orD (pt_notD (pt_tru (pd_isi isI isO isIok isOok bt.isinstance (pa_consD (pd_name 3) (pa_consD (pd_ty (n := "tuple") bt.tuple (by decide +kernel)) pa_nilD))))) (pw_orD1 (pt_c (c_ne (pd_len bt.len (pa_consD (pd_name 3) pa_nilD)) (pd_len bt.len (pa_consD (pd_name 4) pa_nilD))))))) (psd_one (psd_ret (pd_bl))) (psd_nil)) (psd_one (psd_set 2 (pd_add (pd_name 2) (pd_listZip bt.list bt.zip (pa_consD (pd_name 3) (pa_consD (pd_name 4) pa_nilD))))))) (psd_one (psd_if (PWD.pt (pw_orD (pt_tru (pd_isi isI isO isIok isOok bt.isinstance (pa_consD (pd_name 3) (pa_consD (pd_tup (pa_consD (pd_ty (n := "tuple") bt.tuple (by decide +kernel)) (pa_consD (pd_ty (n := "list") bt.list (by decide +kernel)) (pa_consD (pd_ty (n := "dict") bt.dict (by decide +kernel)) pa_nilD)))) pa_nilD)))) (pw_orD1 (pt_notD (pt_tru (pd_clP C__law_is_kind (pa_consD (pd_name 3) (pa_consD (pd_name 4) pa_nilD)))))))) (psd_one (psd_ret (pd_bl))) (psd_nil)))))))) (psd_one (psd_ret (pd_bl))))) fun Γ Ψ h _ => ?_
  obtain ⟨x0, hp, hw, rfl, q⟩ := h
  refine ⟨⟨.inl rfl, .inl rfl, trivial⟩, ?_⟩
  walk_at "mv"
  refine ⟨by rw [sizeLine_eq]; decide, by rw [sizeLine_eq]; decide, ?_⟩
  refine ⟨fun m Γ => ∃ (ps : List D) (o3 o4 : Option T), (∀ x ∈ ps, Pl x) ∧ m = wts ps ∧ m < sizeLine ∧ Γ = [some (.d x0), some (.d x0), some (.li ((ps.map twin).map .d)), o3, o4], ⟨wts [x0], [x0], none, none, by simpa using hp, rfl, by simpa [wts] using hw, rfl⟩, ?_⟩
  rintro m Γ ⟨ps, o3, o4, hps, rfl, hm, rfl⟩
  walk_at "mv"
  rcases List.eq_nil_or_concat ps with rfl | ⟨qs, x, rfl⟩
  · walk_at "mv"
    rw [if_neg (by simp)]
    exact q
  · rw [List.concat_eq_append] at *
    have hx : Pl x := hps x (by simp)
    have hq : ∀ y ∈ qs, Pl y := fun y hy => hps y (by simp [hy])
    have hz : wts (qs ++ [x]) = wts qs + wt x := by rw [wts_append]; simp [wts]
    have hl := wts_len qs
    have hxp := wt_pos x
    rw [if_pos (by simp <;> omega)]
    rw [show (List.map T.d (List.map twin (qs ++ [x])))[(qs ++ [x]).length - 1]? = some (T.d (twin x)) by simp, show (List.map T.d (List.map twin (qs ++ [x]))).dropLast = (qs.map twin).map .d by simp]
    walk_at "mv"
    refine ⟨x, hx, rfl, ?_⟩
    cases hx with
    | tup xs h =>
      walk_at "mv"
      simp only [ty.tt]
      walk_at "mv"
      rw [eqD_int, zip_twin]
      have hx2 := wts_len xs
      simp only [wt] at hz
      simp only [decide_true, Bool.not_true, Bool.false_eq_true, if_false]
      rw [← List.map_append]
      refine ⟨by rw [List.length_map]; omega, wts (qs ++ xs), by rw [wts_append]; omega, qs ++ xs, _, _, fun y hy => ?_, rfl, by rw [wts_append]; omega, rfl⟩
      rcases List.mem_append.mp hy with hy | hy
      · exact hq y hy
      · exact h y hy
    | int k =>
      walk_at "mv"
      simp only [ty.it, ty.il, ty.id]
      walk_at "mv"
      refine ⟨by rw [sizeLine_eq]; decide, .int k, .int k, rfl, rfl, ?_⟩
      walk_at "mv"
      exact ⟨wts qs, by omega, qs, _, _, hq, rfl, by omega, rfl⟩
    | bl k =>
      walk_at "mv"
      simp only [ty.bt, ty.bl, ty.bd]
      walk_at "mv"
      refine ⟨by rw [sizeLine_eq]; decide, .bl k, .bl k, rfl, rfl, ?_⟩
      walk_at "mv"
      exact ⟨wts qs, by omega, qs, _, _, hq, rfl, by omega, rfl⟩
    | str k hk =>
      walk_at "mv"
      simp only [ty.st, ty.sl, ty.sd]
      walk_at "mv"
      refine ⟨by rw [sizeLine_eq]; decide, .str k, .str k hk, rfl, rfl, ?_⟩
      walk_at "mv"
      exact ⟨wts qs, by omega, qs, _, _, hq, rfl, by omega, rfl⟩
    | non =>
      walk_at "mv"
      simp only [ty.nt, ty.nl, ty.nd]
      walk_at "mv"
      refine ⟨by rw [sizeLine_eq]; decide, .non, .non, rfl, rfl, ?_⟩
      walk_at "mv"
      exact ⟨wts qs, by omega, qs, _, _, hq, rfl, by omega, rfl⟩
/-! ### _law_all -/
def sp_all : SpD := fun Γ Ψ => ∃ ps : List D, ps.length ≤ sizeLine ∧ (∀ x ∈ ps, Pl x ∧ wt x < sizeLine) ∧ Γ = [some (.d (.lst (ps.map twin)))] ∧ Ψ Γ (.d (.bl true))
theorem ok_all (C__law_same : Callee P w K mg base "_law_same" 2 2 sp_same) (bt : Blt mg) {f : Addr} {fd : FuncData} (F : Fun K "_law_all" "_law_all" s__law_all f fd) : FnOk P w K mg base CX0 3 f fd ["pairs"] (spOf K 1 sp_all) := by
  refine fn_okD (lk := fun i => decide (i < 1)) F sc__law_all rfl (psd_one (psd_ret (pd_c (c_eq (pd_len bt.len (pa_consD (pd_lc [("told", 1), ("due", 2)] (pid_seqB (pd_name 0)) (pgd_tup (pgsd_cons (pgd_name 1) (pgsd_cons (pgd_name 2) pgsd_nil))) (ptsd_one (pt_notD (pt_tru (pd_clP C__law_same (pa_consD (pd_name 1) (pa_consD (pd_name 2) pa_nilD)))))) (pd_name 1)) pa_nilD)) (pd_int))))) fun Γ Ψ h _ => ?_
  obtain ⟨ps, hz, hp, rfl, q⟩ := h
  refine ⟨⟨.inl rfl, trivial⟩, ?_⟩
  walk_at "mv"
  refine lcD_pure (fun x : D => twin x) (fun _ => false) (fun x => x) (fun ts => [some (T.d (.lst (ps.map twin))), none, none, some (T.li ts)]) (by simpa using hz) (fun x hx ts K hz hk => ?_) ?_
  · walk_at "mv"
    refine ⟨x, (hp x hx).1, (hp x hx).2, rfl, ?_⟩
    walk_at "mv"
    simpa using hk
  · walk_at "mv"
    rw [eqD_len, show (ps.filter fun _ => false).isEmpty = true by simp]
    exact q
end
end K58
set_option Elab.async false
set_option linter.all false
set_option maxRecDepth 100000
namespace K58
open PySem PySem.Spec PyProof.Rows L2 Mv
theorem ix20 : ixN 2 0 = some 0 := rfl
theorem ix21 : ixN 2 1 = some 1 := rfl
local macro_rules | `(tactic| walk_at "mv") => `(tactic| simp only [tRetD, tRetND, tBin, tUnD, tLcD, tZip, tACons, tANil, tName, Mv.tCon, tTst, tTru, truD, tAndD, tOrD, tNotD, tAndVD, tOrVD, tNotVD, tIfD, tIfSD, tSeqD, tNextD, tSetD, tParD, tAsgD, tDropD, tForD, tSeqF, tSeqB, tRng1, tRng2, tTupD, tLstD, tLstO, tCBD, tCl, tClP, tAppD, tExtD, tPopD, tPopAtD, tSetIxD, tSlD, tPoN, tPoS, tYesD, tBreakD, tContD, tLZ, tEnB, tEnF, tZipF, tMk, tClK, tSrtDc, srtTF, srtIF, srtSTF, srtSIF, repF, pick,
  stoD, asD, asDs, bindP, Mv.bindL, lcStep, callD, argE, places, putBack, resD, unT, endsD, rtD, outE, intF, CT, addF, eqF, neF, inF, isF, isC, Mv.isNon, isBl, negF, ixF, slF, revF, fldF, lenF, lenD, intB, absF, listF, tupF, sumF, isiF, tyD, clsD, clsDs, anyI, liAt, seqOf, seqIt, rvT, stab, vw, vwT, getT, setT, setKid, kid, ix20, ix21, fz, fzs, fzs_d, flat, flat_map, intsOf_map, tupsOf_map, wipeE, backE,
  List.map_cons, List.map_nil, List.set_cons_zero, List.set_cons_succ, List.length_cons, List.length_nil, List.replicate, List.cons_append, List.nil_append, List.getElem?_cons_zero, List.getElem?_cons_succ, List.getElem?_nil, List.take_succ_cons, List.take_zero, List.length_map, List.length_append, List.getD_cons_zero, List.getD_cons_succ,
  true_and, and_true, Bool.and_false, Bool.false_and, Bool.or_false, Bool.false_or, Bool.true_and, Bool.and_true, Bool.not_true, Bool.not_false, Nat.zero_le, Bool.or_self, Bool.true_or, Bool.or_true, Bool.and_self, Nat.zero_add, Nat.reduceAdd, Nat.reduceSub, Nat.reduceLeDiff, Nat.reduceLT, Nat.reduceEqDiff, Nat.reduceBEq, BEq.rfl, beq_self_eq_true, if_true, if_false, Bool.false_eq_true, reduceIte, reduceCtorEq, List.nodup_cons, List.not_mem_nil, not_false_eq_true, List.nodup_nil, decide_true, decide_false, decide_eq_true_eq])
theorem ix_last (n : Nat) : ixN (n + 1) (-1) = some n := by
  unfold ixN
  rw [if_neg (by omega), if_pos (by omega)]
  congr 1
  omega
abbrev dealT (cs : List Int) (m : Int) : T := .li [.li ((cs.map .int).map .d), .d (.int m)]
structure DealOk (cs : List Int) (m : Int) : Prop where
  pos : ∀ c ∈ cs, 0 ≤ c
  len : cs.length ≤ 63
  lo : 0 ≤ m
  hi : m < 2147483647
section
variable {P : Program} {w : World} {K : PySem.W.Frag} {mg : Str → Option Value} {base : Heap}
def sp_any : SpD := fun Γ Ψ => ∃ (cs : List Int) (m b : Int), DealOk cs m ∧ (0 < b ∧ b < 1073741824) ∧ Γ = [some (dealT cs m), some (.d (.int b))] ∧ ∀ cs' m' r, DealOk cs' m' → 0 ≤ r → r < b → Ψ [some (dealT cs' m'), some (.d (.int b))] (.d (.int r))
theorem ok_any (bt : Blt mg) {f : Addr} {fd : FuncData} (F : Fun K "_law_any" "_law_any" s__law_any f fd) : FnOk P w K mg base CX0 1 f fd ["deal", "bound"] (spOf K 2 sp_any) := by
  refine fn_okD (lk := fun i => decide (i < 2)) F sc__law_any rfl (psd_cons (psd_while (PWD.pt (pw_andD (pt_c (c_gt (pd_len bt.len (pa_consD (pd_ix (pd_name 0) (pd_int)) pa_nilD)) (pd_int))) (pw_andD1 (pt_c (c_eq (pd_ix (pd_ix (pd_name 0) (pd_int)) (pd_neg (pd_int))) (pd_int)))))) (psd_one (psd_expr (pd_pop (pd_ix (pd_name 0) (pd_int)))))) (psd_cons (psd_if (pt_c (c_gt (pd_len bt.len (pa_consD (pd_ix (pd_name 0) (pd_int)) pa_nilD)) (pd_int))) (psd_cons (psd_set 2 (pd_intB bt.int (pa_consD (pd_pop (pd_ix (pd_name 0) (pd_int))) pa_nilD))) (psd_cons (psd_expr (pd_append (pd_ix (pd_name 0) (pd_int)) (pa_consD (pd_fdiv (pd_name 2) (pd_name 1)) pa_nilD))) (psd_one (psd_ret (pd_mod (pd_name 2) (pd_name 1)))))) (psd_nil)) (psd_cons (psd_setIx (pd_mod (pd_intB bt.int (pa_consD (pd_add (pd_mul (pd_ix (pd_name 0) (pd_int)) (pd_int)) (pd_int)) pa_nilD)) (pd_int)) (pd_name 0) (pd_int)) (psd_one (psd_ret (pd_mod (pd_intB bt.int (pa_consD (pd_fdiv (pd_ix (pd_name 0) (pd_int)) (pd_int)) pa_nilD)) (pd_name 1))))))) fun Γ Ψ h _ => ?_
  obtain ⟨cs, m, b, ok, ⟨b0, b1⟩, rfl, q⟩ := h
  refine ⟨⟨.inl rfl, .inl rfl, trivial⟩, ?_⟩
  walk_at "mv"
  refine ⟨fun k Γ => ∃ cs, DealOk cs m ∧ k = cs.length ∧ Γ = [some (dealT cs m), some (.d (.int b)), none], ⟨cs.length, cs, ok, rfl, rfl⟩, ?_⟩
  rintro k Γ ⟨cs, ok, rfl, rfl⟩
  walk_at "mv"
  rcases List.eq_nil_or_concat cs with rfl | ⟨qs, c, rfl⟩
  · walk_at "mv"
    rw [if_neg (by simp), if_neg (by simp)]
    have r1 := Int.emod_nonneg (m * 48271 + 31) (show (2147483647 : Int) ≠ 0 by decide)
    have r2 := Int.emod_lt_of_pos (m * 48271 + 31) (show (0 : Int) < 2147483647 by decide)
    exact ⟨.inr ⟨by decide, by decide⟩, by decide, ⟨by decide, by decide⟩, b0, q [] _ _ ⟨fun c hc => absurd hc (by simp), by decide, r1, r2⟩ (Int.emod_nonneg _ (by omega)) (Int.emod_lt_of_pos _ b0)⟩
  · rw [List.concat_eq_append] at *
    have hc := ok.pos c (by simp)
    have hq : ∀ x ∈ qs, 0 ≤ x := fun x hx => ok.pos x (by simp [hx])
    have hl : qs.length + 1 ≤ 63 := by simpa using ok.len
    rw [if_pos (by simp <;> omega)]
    walk_at "mv"
    rw [ix_last, show (List.map T.d (List.map D.int (qs ++ [c])))[qs.length + 1 - 1]? = some (T.d (.int c)) by simp, show (List.map T.d (List.map D.int (qs ++ [c]))).dropLast = (qs.map D.int).map T.d by simp]
    dsimp only
    rw [show (List.map T.d (List.map D.int (qs ++ [c])))[qs.length]? = some (T.d (.int c)) by simp]
    walk_at "mv"
    rw [eqD_int]
    walk_at "mv"
    by_cases h0 : c = 0
    · rw [if_pos h0]
      exact ⟨qs.length, by omega, qs, ⟨hq, by omega, ok.lo, ok.hi⟩, rfl, rfl⟩
    · rw [if_neg h0, if_pos (by simp <;> omega)]
      refine ⟨⟨b0, b1⟩, by rw [sizeLine_eq]; omega, b0, ?_⟩
      rw [show List.map T.d (List.map D.int qs) ++ [T.d (D.int (c / b))] = ((qs ++ [c / b]).map D.int).map T.d by simp]
      refine q (qs ++ [c / b]) m _ ⟨fun x hx => ?_, by simp; omega, ok.lo, ok.hi⟩ (Int.emod_nonneg _ (by omega)) (Int.emod_lt_of_pos _ b0)
      rcases List.mem_append.mp hx with hx | hx
      · exact hq x hx
      · rw [List.mem_singleton.mp hx]
        exact Int.ediv_nonneg hc (by omega)
/-! ### _law_deal -/
def sp_deal : SpD := fun Γ Ψ => ∃ (xs : List Int) (b : Int), (0 ≤ b ∧ b < 200000) ∧ Γ = [some (.d (.sq (xs.map .int))), some (.d (.int b))] ∧ ∀ cs m, DealOk cs m → Ψ Γ (dealT cs m)
theorem ok_deal (bt : Blt mg) {f : Addr} {fd : FuncData} (F : Fun K "_law_deal" "_law_deal" s__law_deal f fd) : FnOk P w K mg base CX0 1 f fd ["script", "salt"] (spOf K 2 sp_deal) := by
  refine fn_okD (lk := fun i => decide (i < 2)) F sc__law_deal rfl (psd_cons (psd_set 2 (pd_mulW (pd_mulW (pd_mulW (pd_mulW (pd_mulW (pd_pow (pd_int) (pd_int)) (pd_pow (pd_int) (pd_int))) (pd_pow (pd_int) (pd_int))) (pd_pow (pd_int) (pd_int))) (pd_pow (pd_int) (pd_int))) (pd_pow (pd_int) (pd_int)))) (psd_cons (psd_par2 3 4 (pa_consD (pd_lc [("cell", 5)] (pid_seqB (pd_slice (pd_name 0) (pod_none) (pod_some (pd_int)))) (pgd_name 5) (ptsd_nil) (pd_mod (pd_intB bt.int (pa_consD (pd_abs bt.abs (pa_consD (pd_intB bt.int (pa_consD (pd_name 5) pa_nilD)) pa_nilD)) pa_nilD)) (pd_name 2))) (pa_consD (pd_add (pd_int) (pd_mul (pd_int) (pd_name 1))) pa_nilD))) (psd_cons (psd_for (pid_seqF (pd_name 3)) (pgd_name 5) (psd_one (psd_set 4 (pd_mod (pd_intB bt.int (pa_consD (pd_add (pd_add (pd_mul (pd_name 4) (pd_int)) (pd_mod (pd_intB bt.int (pa_consD (pd_name 5) pa_nilD)) (pd_int))) (pd_int)) pa_nilD)) (pd_int))))) (psd_one (psd_ret (pd_lstO (pa_consD (pd_rev (pd_lc [("cell", 5)] (pid_seqB (pd_name 3)) (pgd_name 5) (ptsd_one (pt_c (c_ge (pd_name 5) (pd_pow (pd_int) (pd_int))))) (pd_name 5))) (pa_consD (pd_name 4) pa_nilD)))))))) fun Γ Ψ h _ => ?_
  obtain ⟨xs, b, ⟨b0, b1⟩, rfl, q⟩ := h
  refine ⟨⟨.inl rfl, .inl rfl, trivial⟩, ?_⟩
  walk_at "mv"
  have cp : CPow 10 64 := ⟨by decide, by decide, by decide +kernel⟩
  have c1 : CMulW (10 ^ Int.toNat 64) (10 ^ Int.toNat 64) := by unfold CMulW; decide +kernel
  have c2 : CMulW (10 ^ Int.toNat 64 * 10 ^ Int.toNat 64) (10 ^ Int.toNat 64) := by unfold CMulW; decide +kernel
  have c3 : CMulW (10 ^ Int.toNat 64 * 10 ^ Int.toNat 64 * 10 ^ Int.toNat 64) (10 ^ Int.toNat 64) := by unfold CMulW; decide +kernel
  have c4 : CMulW (10 ^ Int.toNat 64 * 10 ^ Int.toNat 64 * 10 ^ Int.toNat 64 * 10 ^ Int.toNat 64) (10 ^ Int.toNat 64) := by unfold CMulW; decide +kernel
  have c5 : CMulW (10 ^ Int.toNat 64 * 10 ^ Int.toNat 64 * 10 ^ Int.toNat 64 * 10 ^ Int.toNat 64 * 10 ^ Int.toNat 64) (10 ^ Int.toNat 64) := by unfold CMulW; decide +kernel
  refine ⟨cp, cp, c1, cp, c2, cp, c3, cp, c4, cp, c5, ?_⟩
  have hM : (0 : Int) < 10 ^ Int.toNat 64 * 10 ^ Int.toNat 64 * 10 ^ Int.toNat 64 * 10 ^ Int.toNat 64 * 10 ^ Int.toNat 64 * 10 ^ Int.toNat 64 := by decide +kernel
  generalize (10 ^ Int.toNat 64 * 10 ^ Int.toNat 64 * 10 ^ Int.toNat 64 * 10 ^ Int.toNat 64 * 10 ^ Int.toNat 64 * 10 ^ Int.toNat 64 : Int) = M at hM ⊢
  rw [show (63 : Int) = ((63 : Nat) : Int) from rfl, cut_hi, ← List.map_take]
  have h63 : (xs.take 63).length ≤ 63 := by rw [List.length_take]; omega
  generalize xs.take 63 = ys at h63 ⊢
  refine lcD_pure (fun x : Int => D.int x) (fun _ => true) (fun x => .int ((if x < 0 then -x else x) % M)) (fun ts => [some (T.d (.sq (xs.map .int))), some (.d (.int b)), some (.d (.int M)), none, none, none, some (.li ((ys.map .int).map .d)), some (T.li ts)]) ?_ (fun x hx ts K hz hk => ?_) ?_
  · rw [sizeLine_eq]
    show 0 + ys.length ≤ 16777216
    omega
  · walk_at "mv"
    exact ⟨hM, hz, by simpa using hk⟩
  · walk_at "mv"
    rw [filt_true, show (ys.map fun x => D.int ((if x < 0 then -x else x) % M)) = (ys.map fun x => (if x < 0 then -x else x) % M).map .int by rw [List.map_map]; rfl]
    have hpos : ∀ x ∈ ys.map (fun x => (if x < 0 then -x else x) % M), 0 ≤ x := fun x hx => by
      obtain ⟨y, _, rfl⟩ := List.mem_map.mp hx
      exact Int.emod_nonneg _ (by omega)
    have hln : (ys.map fun x => (if x < 0 then -x else x) % M).length ≤ 63 := by rw [List.length_map]; exact h63
    generalize (ys.map fun x => (if x < 0 then -x else x) % M) = zs at hpos hln ⊢
    refine ⟨.inl ⟨by decide, by decide⟩, fun a e => by cases e; decide, fun a e => e.elim, ?_⟩
    refine forD_inv (fun i Γ => ∃ (m : Int) (o5 : Option T), 0 ≤ m ∧ m < 2147483647 ∧ Γ = [some (T.d (.sq (xs.map .int))), some (.d (.int b)), some (.d (.int M)), some (.d (.lst (zs.map .int))), some (.d (.int m)), o5]) ⟨70001 + 7919 * b, none, by omega, by omega, rfl⟩ (fun i x Γ E hx hI h1 h2 h3 h4 => ?_) (fun Γ hI => ?_)
    · obtain ⟨m, o5, m0, m1, rfl⟩ := hI
      rw [List.getElem?_map] at hx
      obtain ⟨z, hz, rfl⟩ := Option.map_eq_some_iff.mp hx
      refine ⟨_, rfl, ?_⟩
      walk_at "mv"
      refine ⟨.inr ⟨by decide, by decide⟩, by decide, by decide, h1 _ ⟨_, _, Int.emod_nonneg _ (by decide), Int.emod_lt_of_pos _ (by decide), rfl⟩⟩
    · obtain ⟨m, o5, m0, m1, rfl⟩ := hI
      walk_at "mv"
      refine lcD_pure (fun x : Int => D.int x) (fun x => decide (10 ^ Int.toNat 18 ≤ x)) (fun x => .int x) (fun ts => [some (T.d (.sq (xs.map .int))), some (.d (.int b)), some (.d (.int M)), some (.d (.lst (zs.map .int))), some (.d (.int m)), none, some (T.li ts)]) ?_ (fun x hx ts K hz hk => ?_) ?_
      · rw [sizeLine_eq]
        show 0 + zs.length ≤ 16777216
        omega
      · walk_at "mv"
        refine ⟨⟨by decide, by decide, by decide +kernel⟩, ?_⟩
        by_cases h : 10 ^ Int.toNat 18 ≤ x
        · rw [if_pos (decide_eq_true h)] at hk
          rw [if_pos h]
          exact ⟨hz, hk⟩
        · rw [if_neg (by simpa using h)] at hk
          rw [if_neg h]
          exact hk
      · walk_at "mv"
        refine ⟨by rw [sizeLine_eq]; decide, ?_⟩
        rw [show (List.map (fun x => D.int x) (List.filter (fun x => decide (10 ^ Int.toNat 18 ≤ x)) zs)).reverse = ((List.filter (fun x => decide (10 ^ Int.toNat 18 ≤ x)) zs).reverse).map .int by rw [List.map_reverse]]
        refine q _ m ⟨fun c hc => hpos c (List.mem_filter.mp (List.mem_reverse.mp hc)).1, ?_, m0, m1⟩
        rw [List.length_reverse]
        exact Nat.le_trans (List.length_filter_le _ _) hln
/-! ### _law_mixed -/
theorem erase_perm {α : Type} : ∀ {l : List α} {k : Nat} (h : k < l.length), (l[k] :: l.eraseIdx k).Perm l
  | x :: l, 0, h => List.Perm.refl _
  | x :: l, k + 1, h => by
    have ih := erase_perm (l := l) (k := k) (by simpa using h)
    exact (List.Perm.swap _ _ _).trans (ih.cons x)
def sp_mixed : SpD := fun Γ Ψ => ∃ (cs : List Int) (m : Int) (xs : List D) (t : T), DealOk cs m ∧ xs.length < 1073741824 ∧ xs.length ≤ sizeLine ∧ (t = .d (.lst xs) ∨ t = .li (xs.map .d)) ∧ Γ = [some (dealT cs m), some t] ∧ ∀ cs' m' (ys : List D), DealOk cs' m' → ys.Perm xs → Ψ [some (dealT cs' m'), some t] (.li (ys.map .d))
theorem ok_mixed (C__law_any : Callee P w K mg base "_law_any" 1 2 sp_any) (bt : Blt mg) {f : Addr} {fd : FuncData} (F : Fun K "_law_mixed" "_law_mixed" s__law_mixed f fd) : FnOk P w K mg base CX0 2 f fd ["deal", "some"] (spOf K 2 sp_mixed) := by
  refine fn_okD (lk := fun i => decide (i < 2)) F sc__law_mixed rfl (psd_cons (psd_par2 2 3 (pa_consD (pd_listB bt.list (pa_consD (pd_name 1) pa_nilD)) (pa_consD (pd_lst (pa_nilD)) pa_nilD))) (psd_cons (psd_for (pid_range1 rfl bt.range (pa_consD (pd_len bt.len (pa_consD (pd_name 1) pa_nilD)) pa_nilD)) (pgd_name 4) (psd_one (psd_expr (pd_append (pd_name 3) (pa_consD (pd_popAt (pd_name 2) (pa_consD (pd_cl C__law_any (pa_consD (pd_name 0) (pa_consD (pd_len bt.len (pa_consD (pd_name 2) pa_nilD)) pa_nilD))) pa_nilD)) pa_nilD))))) (psd_one (psd_ret (pd_name 3))))) fun Γ Ψ h _ => ?_
  obtain ⟨cs, m, xs, t, ok, hz, hz2, ht, rfl, q⟩ := h
  refine ⟨⟨.inl rfl, .inl rfl, trivial⟩, ?_⟩
  rcases ht with rfl | rfl
  · skip
    walk_at "mv"
    refine ⟨fun a e => by cases e; exact Nat.le_refl _, fun a e => by cases e; decide, by omega, by omega, ?_⟩
    rw [rng0, Int.toNat_natCast]
    refine forD_inv (fun i Γ => ∃ (cs : List Int) (m : Int) (left found : List D) (o4 : Option T), DealOk cs m ∧ (left ++ found).Perm xs ∧ left.length + i = xs.length ∧ Γ = [some (dealT cs m), some (T.d (.lst xs)), some (.li (left.map .d)), some (.li (found.map .d)), o4]) ⟨cs, m, xs, [], none, ok, by simp, by omega, rfl⟩ (fun i x Γ E hx hI h1 h2 h3 h4 => ?_) (fun Γ hI => ?_)
    · obtain ⟨cs, m, left, found, o4, ok, hp, hl, rfl⟩ := hI
      have hi : i < xs.length := by
        have := (List.getElem?_eq_some_iff.mp hx).1
        simpa using this
      have hfl : left.length + found.length = xs.length := by rw [← List.length_append]; exact hp.length_eq
      refine ⟨_, rfl, ?_⟩
      walk_at "mv"
      refine ⟨cs, m, (left.length : Nat), ok, ⟨by omega, by omega⟩, rfl, fun cs' m' r ok' r0 r1 => ?_⟩
      obtain ⟨k, rfl⟩ := Int.eq_ofNat_of_zero_le r0
      have hk : k < left.length := by omega
      walk_at "mv"
      rw [ixN_nat hk]
      walk_at "mv"
      rw [List.getElem?_eq_getElem hk]
      walk_at "mv"
      have pm := erase_perm hk
      have pf : (left.eraseIdx k ++ (found ++ [left[k]])).Perm xs := by
        rw [← List.append_assoc]
        exact (List.perm_append_singleton _ _).trans ((pm.append_right found).trans hp)
      have el := List.length_eraseIdx_of_lt hk
      rw [show List.map T.d found ++ [T.d left[k]] = (found ++ [left[k]]).map T.d by simp]
      exact ⟨⟨by omega, by omega⟩, by omega, h1 _ ⟨cs', m', left.eraseIdx k, found ++ [left[k]], _, ok', pf, by omega, rfl⟩⟩
    · obtain ⟨cs, m, left, found, o4, ok, hp, hl, rfl⟩ := hI
      walk_at "mv"
      rw [List.length_map, List.length_range] at hl
      have : left = [] := List.eq_nil_of_length_eq_zero (by omega)
      subst this
      exact q cs m found ok (by simpa using hp)
  · skip
    walk_at "mv"
    refine ⟨fun a e => by cases e; exact Nat.le_refl _, fun a e => by cases e; decide, by omega, by omega, ?_⟩
    rw [rng0, Int.toNat_natCast]
    refine forD_inv (fun i Γ => ∃ (cs : List Int) (m : Int) (left found : List D) (o4 : Option T), DealOk cs m ∧ (left ++ found).Perm xs ∧ left.length + i = xs.length ∧ Γ = [some (dealT cs m), some (T.li (xs.map .d)), some (.li (left.map .d)), some (.li (found.map .d)), o4]) ⟨cs, m, xs, [], none, ok, by simp, by omega, rfl⟩ (fun i x Γ E hx hI h1 h2 h3 h4 => ?_) (fun Γ hI => ?_)
    · obtain ⟨cs, m, left, found, o4, ok, hp, hl, rfl⟩ := hI
      have hi : i < xs.length := by
        have := (List.getElem?_eq_some_iff.mp hx).1
        simpa using this
      have hfl : left.length + found.length = xs.length := by rw [← List.length_append]; exact hp.length_eq
      refine ⟨_, rfl, ?_⟩
      walk_at "mv"
      refine ⟨cs, m, (left.length : Nat), ok, ⟨by omega, by omega⟩, rfl, fun cs' m' r ok' r0 r1 => ?_⟩
      obtain ⟨k, rfl⟩ := Int.eq_ofNat_of_zero_le r0
      have hk : k < left.length := by omega
      walk_at "mv"
      rw [ixN_nat hk]
      walk_at "mv"
      rw [List.getElem?_eq_getElem hk]
      walk_at "mv"
      have pm := erase_perm hk
      have pf : (left.eraseIdx k ++ (found ++ [left[k]])).Perm xs := by
        rw [← List.append_assoc]
        exact (List.perm_append_singleton _ _).trans ((pm.append_right found).trans hp)
      have el := List.length_eraseIdx_of_lt hk
      rw [show List.map T.d found ++ [T.d left[k]] = (found ++ [left[k]]).map T.d by simp]
      exact ⟨⟨by omega, by omega⟩, by omega, h1 _ ⟨cs', m', left.eraseIdx k, found ++ [left[k]], _, ok', pf, by omega, rfl⟩⟩
    · obtain ⟨cs, m, left, found, o4, ok, hp, hl, rfl⟩ := hI
      walk_at "mv"
      rw [List.length_map, List.length_range] at hl
      have : left = [] := List.eq_nil_of_length_eq_zero (by omega)
      subst this
      exact q cs m found ok (by simpa using hp)
end
end K58
set_option Elab.async false
set_option linter.all false
set_option maxRecDepth 100000
namespace K58
open PySem PySem.Spec PyProof.Rows L2 Mv
local macro_rules | `(tactic| walk_at "mv") => `(tactic| simp only [tRetD, tRetND, tBin, tUnD, tLcD, tZip, tACons, tANil, tName, Mv.tCon, tTst, tTru, truD, tAndD, tOrD, tNotD, tAndVD, tOrVD, tNotVD, tIfD, tIfSD, tSeqD, tNextD, tSetD, tParD, tAsgD, tDropD, tForD, tSeqF, tSeqB, tRng1, tRng2, tTupD, tLstD, tLstO, tCBD, tCl, tClP, tAppD, tExtD, tPopD, tPopAtD, tSetIxD, tSlD, tPoN, tPoS, tYesD, tBreakD, tContD, tLZ, tEnB, tEnF, tZipF, tMk, tClK, tSrtDc, srtTF, srtIF, srtSTF, srtSIF, repF, pick,
  stoD, asD, asDs, bindP, Mv.bindL, lcStep, callD, argE, places, putBack, resD, unT, endsD, rtD, outE, intF, CT, addF, eqF, neF, inF, isF, isC, Mv.isNon, isBl, negF, ixF, slF, revF, fldF, lenF, lenD, intB, absF, listF, tupF, sumF, isiF, tyD, clsD, clsDs, anyI, liAt, seqOf, seqIt, rvT, stab, vw, vwT, getT, setT, setKid, kid, ix20, ix21, fz, fzs, fzs_d, flat, flat_map, intsOf_map, tupsOf_map, wipeE, backE,
  List.map_cons, List.map_nil, List.set_cons_zero, List.set_cons_succ, List.length_cons, List.length_nil, List.replicate, List.cons_append, List.nil_append, List.getElem?_cons_zero, List.getElem?_cons_succ, List.getElem?_nil, List.take_succ_cons, List.take_zero, List.length_map, List.length_append, List.getD_cons_zero, List.getD_cons_succ,
  true_and, and_true, Bool.and_false, Bool.false_and, Bool.or_false, Bool.false_or, Bool.true_and, Bool.and_true, Bool.not_true, Bool.not_false, Nat.zero_le, Bool.or_self, Bool.true_or, Bool.or_true, Bool.and_self, Nat.zero_add, Nat.reduceAdd, Nat.reduceSub, Nat.reduceLeDiff, Nat.reduceLT, Nat.reduceEqDiff, Nat.reduceBEq, BEq.rfl, beq_self_eq_true, if_true, if_false, Bool.false_eq_true, reduceIte, reduceCtorEq, List.nodup_cons, List.not_mem_nil, not_false_eq_true, List.nodup_nil, decide_true, decide_false, decide_eq_true_eq])
section
variable {P : Program} {w : World} {K : PySem.W.Frag} {mg : Str → Option Value} {base : Heap} {CW : Addr}
abbrev groveD (ns : List D) (needs : List (List (List Int))) : D := .tup [.tup ns, .lst (needs.map vL)]
abbrev wNames : List Str := ["names", "weights", "lots"]
theorem at2_0 (x y : D) : atI [x, y] 0 = some x := rfl
theorem at2_1 (x y : D) : atI [x, y] 1 = some y := rfl
def sp_web_of (CW : Addr) : SpD := fun Γ Ψ => ∃ (ns : List D) (needs : List (List (List Int))), (ns ≠ [] ∧ ns.length ≤ 1000 ∧ needs.length ≤ sizeLine) ∧ Γ = [some (.d (groveD ns needs))] ∧ Ψ Γ (.d (.obj CW wNames [.tup ns, .tup (List.replicate ns.length [D.int 1]).flatten, .tup (needs.map vT)]))
theorem ok_web_of (k_Web : Maker P w K mg base "Web" 1 CW wNames) (bt : Blt mg) {f : Addr} {fd : FuncData} (F : Fun K "_law_web_of" "_law_web_of" s__law_web_of f fd) : FnOk P w K mg base CX0 3 f fd ["grove"] (spOf K 1 (sp_web_of CW)) := by
  refine fn_okD (lk := fun i => decide (i < 1)) F sc__law_web_of rfl (psd_one (psd_ret (pd_mk k_Web (pa_consD (pd_ix (pd_name 0) (pd_int)) (pa_consD (pd_rep (pd_tup (pa_consD (pd_int) pa_nilD)) (pd_len bt.len (pa_consD (pd_ix (pd_name 0) (pd_int)) pa_nilD))) (pa_consD (pd_tupB bt.tuple (pa_consD (pd_lc [("lots", 1)] (pid_seqB (pd_ix (pd_name 0) (pd_int))) (pgd_name 1) (ptsd_nil) (pd_tupB bt.tuple (pa_consD (pd_name 1) pa_nilD))) pa_nilD)) pa_nilD)))))) fun Γ Ψ h _ => ?_
  obtain ⟨ns, needs, ⟨n0, n1, n2⟩, rfl, q⟩ := h
  refine ⟨⟨.inl rfl, trivial⟩, ?_⟩
  walk_at "mv"
  simp only [at2_0, at2_1]
  have h1 : 1 ≤ sizeLine := by decide
  have hl : 1 ≤ ns.length := by cases ns with | nil => exact absurd rfl n0 | cons => simp
  refine ⟨h1, ⟨by simp, by omega, by omega⟩, ?_⟩
  refine lcD_pure vL (fun _ => true) vT (fun ts => [some (.d (groveD ns needs)), none, some (.li ts)]) (by simpa using n2) (fun x hx ts K lt h => ?_) ?_
  · walk_at "mv"
    simp only [if_true] at h
    exact ⟨lt, h⟩
  · walk_at "mv"
    rw [filt_true, Int.toNat_natCast]
    exact q
theorem seq_inv {t1 t2 : TSD} {D : EndsD} {Γ : Mv.Env} (I : Mv.Env → Prop) (h1 : ∀ E : EndsD, (∀ Γ, I Γ → E.nx Γ) → E.rt = D.rt → E.bk = D.bk → E.ct = D.ct → t1 E Γ) (h2 : ∀ Γ, I Γ → t2 D Γ) : tSeqD t1 t2 D Γ :=
  h1 { D with nx := t2 D } h2 rfl rfl rfl
/-! ### _law_grove -/
def covers (picks : List (List Int)) (l : List Int) : List (List Int) := picks.filter fun o => (!decide (o = l)) && fitsIn o l
def bareLots (picks : List (List Int)) : List (List Int) := picks.filter fun l => (covers picks l).isEmpty
structure PkOk (picks : List (List Int)) : Prop where
  each : ∀ p ∈ picks, p.length ≤ 2
theorem bare_ne (picks : List (List Int)) : NeT (ddp (bareLots picks)) := by
  by_cases h : ([] : List Int) ∈ bareLots picks
  · right
    have all : ∀ l ∈ ddp (bareLots picks), l = [] := fun l hl => by
      rw [mem_ddp] at hl
      obtain ⟨h1, h2⟩ := List.mem_filter.mp hl
      by_cases e : l = []
      · exact e
      · have : ([] : List Int) ∈ covers picks l := List.mem_filter.mpr ⟨(List.mem_filter.mp h).1, by simpa [fitsIn] using Ne.symm e⟩
        rw [List.isEmpty_iff] at h2
        rw [h2] at this
        cases this
    have nd := ddp_nodup (bareLots picks)
    generalize ddp (bareLots picks) = xs at all nd
    match xs, all, nd with
    | [], _, _ => simp
    | [_], _, _ => simp
    | a :: b :: r, all, nd =>
      have h1 := all a (by simp)
      have h2 := all b (by simp)
      subst h1
      subst h2
      simp at nd
  · left
    intro x hx e
    rw [mem_ddp] at hx
    exact h (e ▸ hx)
structure GroveOk (lo hi : Int) (ns : List D) (needs : List (List (List Int))) : Prop where
  l0 : lo ≤ (ns.length : Nat)
  l1 : (ns.length : Nat) ≤ hi
  nl : needs.length = ns.length
def sp_grove : SpD := fun Γ Ψ => ∃ (cs : List Int) (m lo hi : Int), DealOk cs m ∧ (1 ≤ lo ∧ lo ≤ hi ∧ hi ≤ 10) ∧ Γ = [some (dealT cs m), some (.d (.int lo)), some (.d (.int hi))] ∧
  ∀ cs' m' ns needs, DealOk cs' m' → GroveOk lo hi ns needs → Ψ [some (dealT cs' m'), some (.d (.int lo)), some (.d (.int hi))] (.d (groveD ns needs))
theorem ok_grove (C__law_any : Callee P w K mg base "_law_any" 1 2 sp_any) (C__law_mixed : Callee P w K mg base "_law_mixed" 2 2 sp_mixed) (C__law_fits : Callee P w K mg base "_law_fits" 1 2 sp_fits) (bt : Blt mg) {f : Addr} {fd : FuncData} (F : Fun K "_law_grove" "_law_grove" s__law_grove f fd) : FnOk P w K mg base CX0 3 f fd ["deal", "least", "bound"] (spOf K 3 sp_grove) := by
  refine fn_okD (lk := fun i => decide (i < 3)) F sc__law_grove rfl (psd_cons (psd_par2 3 4 (pa_consD (pd_add (pd_name 1) (pd_cl C__law_any (pa_consD (pd_name 0) (pa_consD (pd_add (pd_sub (pd_name 2) (pd_name 1)) (pd_int)) pa_nilD)))) (pa_consD (pd_cl C__law_mixed (pa_consD (pd_name 0) (pa_consD (pd_lst (pa_consD (pd_str) (pa_consD (pd_str) (pa_consD (pd_str) (pa_consD (pd_str) (pa_consD (pd_str) (pa_consD (pd_str) (pa_consD (pd_str) (pa_consD (pd_str) (pa_consD (pd_str) (pa_consD (pd_str) pa_nilD))))))))))) pa_nilD))) pa_nilD))) (psd_cons (psd_set 5 (pd_lst (pa_consD (pd_lst (pa_consD (pd_tup (pa_nilD)) pa_nilD)) pa_nilD))) (psd_cons (psd_for (pid_range2 rfl bt.range (pa_consD (pd_int) (pa_consD (pd_name 3) pa_nilD))) (pgd_name 6) (psd_cons (psd_setLcC 7 (pd_lc [("lot", 8)] (pid_range1 rfl bt.range (pa_consD (pd_add (pd_int) (pd_cl C__law_any (pa_consD (pd_name 0) (pa_consD (pd_int) pa_nilD)))) pa_nilD)) (pgd_name 8) (ptsd_nil) (pd_tupB bt.tuple (pa_consD (pd_sortSI bt.sorted bt.set (pa_consD (pd_lc [("pick", 9)] (pid_range1 rfl bt.range (pa_consD (pd_add (pd_int) (pd_cl C__law_any (pa_consD (pd_name 0) (pa_consD (pd_int) pa_nilD)))) pa_nilD)) (pgd_name 9) (ptsd_nil) (pd_cl C__law_any (pa_consD (pd_name 0) (pa_consD (pd_name 6) pa_nilD)))) pa_nilD)) pa_nilD)))) (psd_cons (psd_if (pt_c (c_eq (pd_cl C__law_any (pa_consD (pd_name 0) (pa_consD (pd_int) pa_nilD))) (pd_int))) (psd_one (psd_set 7 (pd_lst (pa_consD (pd_tup (pa_nilD)) pa_nilD)))) (psd_nil)) (psd_one (psd_expr (pd_append (pd_name 5) (pa_consD (pd_sortST bt.sorted bt.set (pa_consD (pd_lc [("lot", 8)] (pid_seqB (pd_name 7)) (pgd_name 8) (ptsd_one (pt_c (c_eq (pd_len bt.len (pa_consD (pd_lc [("one", 10)] (pid_seqB (pd_name 7)) (pgd_name 10) (ptsd_one (PWD.pt (pw_andD (pt_c (c_ne (pd_name 10) (pd_name 8))) (pw_andD1 (pt_tru (pd_clP C__law_fits (pa_consD (pd_name 10) (pa_consD (pd_name 8) pa_nilD)))))))) (pd_name 10)) pa_nilD)) (pd_int)))) (pd_name 8)) pa_nilD)) pa_nilD))))))) (psd_one (psd_ret (pd_tup (pa_consD (pd_tupB bt.tuple (pa_consD (pd_slice (pd_name 4) (pod_none) (pod_some (pd_name 3))) pa_nilD)) (pa_consD (pd_name 5) pa_nilD)))))))) fun Γ Ψ h _ => ?_
  obtain ⟨cs, m, lo, hi, ok, ⟨l0, l1, l2⟩, rfl, q⟩ := h
  refine ⟨⟨.inl rfl, .inl rfl, .inl rfl, trivial⟩, ?_⟩
  refine seq_inv (fun Γ => ∃ (cs : List Int) (m many : Int) (pool : List D), DealOk cs m ∧ (lo ≤ many ∧ many ≤ hi) ∧ pool.length = 10 ∧ Γ = [some (dealT cs m), some (T.d (D.int lo)), some (T.d (D.int hi)), some (.d (.int many)), some (.li (pool.map .d)), none, none, none, none, none, none]) (fun E h1 h2 h3 h4 => ?_) (fun Γ hI => ?_)
  · walk_at "mv"
    refine ⟨cs, m, hi - lo + 1, ok, ⟨by omega, by omega⟩, rfl, fun cs' m' r ok' r0 r1 => ?_⟩
    walk_at "mv"
    refine ⟨by decide, by decide, cs', m', [.str "bo", .str "du", .str "fe", .str "gi", .str "ha", .str "ju", .str "ky", .str "lo", .str "mu", .str "ny"], _, ok', by decide, by decide, .inr rfl, rfl, fun cs' m' ys ok' hp => ?_⟩
    walk_at "mv"
    exact ⟨fun a e => e.elim, fun a e => by cases e; decide, h1 _ ⟨cs', m', lo + r, ys, ok', ⟨by omega, by omega⟩, hp.length_eq, rfl⟩⟩
  · obtain ⟨cs, m, many, pool, ok, ⟨m0, m1⟩, hp, rfl⟩ := hI
    refine seq_inv (fun Γ => Γ = [some (dealT cs m), some (T.d (D.int lo)), some (T.d (D.int hi)), some (.d (.int many)), some (.li (pool.map .d)), some (.li (([[[]]].map vL).map .d)), none, none, none, none, none]) (fun E h1 h2 h3 h4 => ?_) (fun Γ hI => ?_)
    · walk_at "mv"
      exact ⟨by decide, by decide, h1 _ rfl⟩
    · subst hI
      refine seq_inv (fun Γ => ∃ (cs : List Int) (m : Int) (needs : List (List (List Int))) (o6 o7 : Option T), DealOk cs m ∧ needs.length = many.toNat ∧ Γ = [some (dealT cs m), some (T.d (D.int lo)), some (T.d (D.int hi)), some (.d (.int many)), some (.li (pool.map .d)), some (.li ((needs.map vL).map .d)), o6, o7, none, none, none]) (fun E h1 h2 h3 h4 => ?_) (fun Γ hI => ?_)
      · refine ⟨rfl, rfl, ?_⟩
        refine ⟨⟨by decide, by decide, by omega, by omega⟩, rfl, ?_⟩
        refine forD_inv (fun i Γ => ∃ (cs : List Int) (m : Int) (needs : List (List (List Int))) (o6 o7 : Option T), DealOk cs m ∧ needs.length = i + 1 ∧ Γ = [some (dealT cs m), some (T.d (D.int lo)), some (T.d (D.int hi)), some (.d (.int many)), some (.li (pool.map .d)), some (.li ((needs.map vL).map .d)), o6, o7, none, none, none]) ⟨cs, m, [[[]]], none, none, ok, rfl, rfl⟩ (fun i x Γ E hx hI e1 e2 e3 e4 => ?_) (fun Γ hI => ?_)
        · obtain ⟨cs, m, needs, o6, o7, ok, hn, rfl⟩ := hI
          have hm : 1 + i < many.toNat ∧ x = .int (1 + (i : Nat)) := by
            rw [rngD, List.getElem?_map] at hx
            obtain ⟨y, hy, rfl⟩ := Option.map_eq_some_iff.mp hx
            obtain ⟨h1, h2⟩ := List.getElem?_eq_some_iff.mp hy
            rw [List.length_range] at h1
            rw [List.getElem_range] at h2
            subst h2
            exact ⟨by omega, rfl⟩
          obtain ⟨hm, rfl⟩ := hm
          refine ⟨_, rfl, ?_⟩
          refine seq_inv (fun Γ => ∃ (cs : List Int) (m : Int) (picks : List (List Int)), DealOk cs m ∧ (picks.length ≤ 2 ∧ PkOk picks) ∧ Γ = [some (dealT cs m), some (T.d (D.int lo)), some (T.d (D.int hi)), some (.d (.int many)), some (.li (pool.map .d)), some (.li ((needs.map vL).map .d)), some (.d (.int (1 + (i : Nat)))), some (.li ((picks.map iT).map .d)), none, none, none]) (fun E h1 h2 h3 h4 => ?_) (fun Γ hI => ?_)
          · walk_at "mv"
            refine ⟨cs, m, 2, ok, ⟨by decide, by decide⟩, rfl, fun cs m r ok r0 r1 => ?_⟩
            walk_at "mv"
            refine ⟨by omega, by omega, ?_⟩
            refine lcD_inv (fun j Γ => ∃ (cs : List Int) (m : Int) (picks : List (List Int)), DealOk cs m ∧ (picks.length = j ∧ PkOk picks) ∧ Γ = [some (dealT cs m), some (T.d (D.int lo)), some (T.d (D.int hi)), some (.d (.int many)), some (.li (pool.map .d)), some (.li ((needs.map vL).map .d)), some (.d (.int (1 + (i : Nat)))), o7, none, none, none, some (.li ((picks.map iT).map .d))]) ⟨cs, m, [], ok, ⟨rfl, ⟨fun p hp => by cases hp⟩⟩, rfl⟩ (fun j x Γ E hx hI h => ?_) (fun Γ hI => ?_)
            · obtain ⟨cs, m, picks, ok, hpk, rfl⟩ := hI
              walk_at "mv"
              refine ⟨cs, m, 2, ok, ⟨by decide, by decide⟩, rfl, fun cs m r' ok r0' r1' => ?_⟩
              walk_at "mv"
              refine ⟨by omega, by omega, ?_⟩
              refine lcD_inv (fun j Γ => ∃ (cs : List Int) (m : Int) (vs : List Int), DealOk cs m ∧ vs.length = j ∧ Γ = [some (dealT cs m), some (T.d (D.int lo)), some (T.d (D.int hi)), some (.d (.int many)), some (.li (pool.map .d)), some (.li ((needs.map vL).map .d)), some (.d (.int (1 + (i : Nat)))), o7, some (.d x), none, none, some (.li ((picks.map iT).map .d)), some (.li ((vs.map .int).map .d))]) ⟨cs, m, [], ok, rfl, rfl⟩ (fun j' x' Γ E' hx' hI h' => ?_) (fun Γ hI => ?_)
              · obtain ⟨cs, m, vs, ok, hv, rfl⟩ := hI
                have hj := (List.getElem?_eq_some_iff.mp hx').1
                rw [rngD, List.length_map, List.length_range] at hj
                walk_at "mv"
                refine ⟨cs, m, 1 + (i : Nat), ok, ⟨by omega, by omega⟩, rfl, fun cs m r'' ok r0'' r1'' => ?_⟩
                walk_at "mv"
                refine ⟨by rw [sizeLine_eq]; omega, h' _ ⟨cs, m, vs ++ [r''], ok, by simp [hv], ?_⟩⟩
                simp only [List.map_append, List.map_cons, List.map_nil]
              · obtain ⟨cs, m, vs, ok, hv, rfl⟩ := hI
                have hj := (List.getElem?_eq_some_iff.mp hx).1
                rw [rngD, List.length_map, List.length_range] at hj hv
                walk_at "mv"
                have hs : (sortI (ddp vs)).length ≤ vs.length := by rw [(sortI_perm _).length_eq]; exact ddp_length vs
                refine ⟨by omega, by rw [sizeLine_eq]; omega, h _ ⟨cs, m, picks ++ [sortI (ddp vs)], ok, ⟨by simp [hpk.1], ⟨fun p hp => ?_⟩⟩, ?_⟩⟩
                · rcases List.mem_append.mp hp with hp | hp
                  · exact hpk.2.each p hp
                  · cases List.mem_singleton.mp hp
                    omega
                · simp only [List.map_append, List.map_cons, List.map_nil]
            · obtain ⟨cs, m, picks, ok, hpk, rfl⟩ := hI
              rw [rngD, List.length_map, List.length_range] at hpk
              exact h1 _ ⟨cs, m, picks, ok, ⟨by omega, hpk.2⟩, rfl⟩
          · obtain ⟨cs, m, picks, ok, hpk, rfl⟩ := hI
            refine seq_inv (fun Γ => ∃ (cs : List Int) (m : Int) (picks : List (List Int)), DealOk cs m ∧ (picks.length ≤ 2 ∧ PkOk picks) ∧ Γ = [some (dealT cs m), some (T.d (D.int lo)), some (T.d (D.int hi)), some (.d (.int many)), some (.li (pool.map .d)), some (.li ((needs.map vL).map .d)), some (.d (.int (1 + (i : Nat)))), some (.li ((picks.map iT).map .d)), none, none, none]) (fun E h1 h2 h3 h4 => ?_) (fun Γ hI => ?_)
            · walk_at "mv"
              refine ⟨cs, m, 5, ok, ⟨by decide, by decide⟩, rfl, fun cs m r ok r0 r1 => ?_⟩
              walk_at "mv"
              rw [eqD_int]
              walk_at "mv"
              by_cases h0 : r = 0
              · rw [if_pos (by simpa using h0)]
                exact ⟨by decide, h1 _ ⟨cs, m, [[]], ok, ⟨by decide, ⟨fun p hp => by simp at hp; subst hp; decide⟩⟩, rfl⟩⟩
              · rw [if_neg (by simpa using h0)]
                exact h1 _ ⟨cs, m, picks, ok, hpk, rfl⟩
            · obtain ⟨cs, m, picks, ok, hpk, rfl⟩ := hI
              walk_at "mv"
              refine lcD_pure iT (fun l => (covers picks l).isEmpty) iT (fun ts => [some (dealT cs m), some (T.d (D.int lo)), some (T.d (D.int hi)), some (.d (.int many)), some (.li (pool.map .d)), some (.li ((needs.map vL).map .d)), some (.d (.int (1 + (i : Nat)))), some (.li ((picks.map iT).map .d)), none, none, none, some (.li ts)]) (by rw [sizeLine_eq]; show 0 + picks.length ≤ 16777216; omega) (fun x hx ts K hz hk => ?_) ?_
              · walk_at "mv"
                refine lcD_pure iT (fun o => (!decide (o = x)) && fitsIn o x) iT (fun us => [some (dealT cs m), some (T.d (D.int lo)), some (T.d (D.int hi)), some (.d (.int many)), some (.li (pool.map .d)), some (.li ((needs.map vL).map .d)), some (.d (.int (1 + (i : Nat)))), some (.li ((picks.map iT).map .d)), some (.d (iT x)), none, none, some (.li ts), some (.li us)]) (by rw [sizeLine_eq]; show 0 + picks.length ≤ 16777216; omega) (fun o ho us K2 hz2 hk2 => ?_) ?_
                · walk_at "mv"
                  rw [eqD_tup]
                  walk_at "mv"
                  by_cases e : o = x
                  · simp only [e, decide_true, Bool.not_true, Bool.false_and, Bool.false_eq_true, if_false] at hk2 ⊢
                    exact hk2
                  · simp only [e, decide_false, Bool.not_false, Bool.true_and, if_true] at hk2 ⊢
                    refine ⟨o, x, by have := hpk.2.each o ho; rw [sizeLine_eq]; omega, rfl, ?_⟩
                    walk_at "mv"
                    by_cases b : fitsIn o x = true
                    · simpa [b, hz2] using hk2
                    · simpa [b, hz2] using hk2
                · walk_at "mv"
                  rw [eqD_len, show (picks.filter fun o => (!decide (o = x)) && fitsIn o x) = covers picks x from rfl]
                  walk_at "mv"
                  by_cases b : (covers picks x).isEmpty = true
                  · simpa [b, hz] using hk
                  · simpa [b, hz] using hk
              · walk_at "mv"
                rw [show (picks.filter fun l => (covers picks l).isEmpty) = bareLots picks from rfl]
                have hb : (bareLots picks).length ≤ picks.length := List.length_filter_le _ _
                refine ⟨⟨by omega, bare_ne picks⟩, by rw [sizeLine_eq]; omega, e1 _ ⟨cs, m, needs ++ [sortT (ddp (bareLots picks))], some (.d (.int (1 + (i : Nat)))), some (.li ((picks.map iT).map .d)), ok, by simp [hn], ?_⟩⟩
                simp only [List.map_append, List.map_cons, List.map_nil]
        · obtain ⟨cs, m, needs, o6, o7, ok, hn, rfl⟩ := hI
          rw [rngD, List.length_map, List.length_range] at hn
          exact h1 _ ⟨cs, m, needs, o6, o7, ok, by omega, rfl⟩
      · obtain ⟨cs, m, needs, o6, o7, ok, hn, rfl⟩ := hI
        walk_at "mv"
        obtain ⟨k, rfl⟩ := Int.eq_ofNat_of_zero_le (show 0 ≤ many by omega)
        rw [cut_hi]
        have hk : (pool.take k).length = k := by rw [List.length_take]; omega
        have hn' : needs.length = k := by rw [hn]; rfl
        exact ⟨by decide, q cs m (pool.take k) needs ok ⟨by rw [hk]; exact m0, by rw [hk]; exact m1, by rw [hk, hn']⟩⟩
end
end K58
set_option Elab.async false
set_option linter.all false
namespace K58
open PySem PySem.Spec PyProof.Rows L2 Mv
/-! ### plain mathematics: the least ones of a sorted row -/
section
variable {α : Type} [DecidableEq α] (b : α → α → Bool)
def mstep (found : List α) (v : α) : List α := if (found.filter fun o => b o v).isEmpty = true then found ++ [v] else found
def minOf (so : List α) : List α := so.filter fun one => (so.filter fun other => (!decide (other = one)) && b other one).isEmpty
theorem mstep_min : ∀ l : List α, (∀ x ∈ l, b x x = true) → (∀ x ∈ l, ∀ y ∈ l, ∀ z ∈ l, b x y = true → b y z = true → b x z = true) → l.Pairwise (fun x y => b x y = false) →
    (∀ p ∈ l, ∃ m ∈ l.reverse.foldl (mstep b) [], b m p = true) ∧ l.reverse.foldl (mstep b) [] = minOf b l.reverse
  | [], _, _, _ => ⟨(fun p hp => absurd hp List.not_mem_nil), rfl⟩
  | v :: l, hr, ht, hp => by
    rw [List.pairwise_cons] at hp
    obtain ⟨i1, i2⟩ := mstep_min l (fun x hx => hr x (List.mem_cons_of_mem _ hx)) (fun x hx y hy z hz => ht x (List.mem_cons_of_mem _ hx) y (List.mem_cons_of_mem _ hy) z (List.mem_cons_of_mem _ hz)) hp.2
    rw [List.reverse_cons, List.foldl_append, List.foldl_cons, List.foldl_nil]
    have sub : ∀ m ∈ l.reverse.foldl (mstep b) [], m ∈ l := fun m hm => by
      rw [i2] at hm
      exact List.mem_reverse.mp (List.mem_filter.mp hm).1
    have vn : v ∉ l := fun h => by
      have := hp.1 v h
      rw [hr v List.mem_cons_self] at this
      cases this
    have key : ((l.reverse.foldl (mstep b) []).filter fun o => b o v).isEmpty = true ↔ ∀ o ∈ l, b o v = false := by
      rw [List.isEmpty_iff, List.filter_eq_nil_iff]
      constructor
      · intro h o ho
        cases e : b o v with
        | false => rfl
        | true =>
          obtain ⟨m, hm, h2⟩ := i1 o ho
          exact absurd (ht m (List.mem_cons_of_mem _ (sub m hm)) o (List.mem_cons_of_mem _ ho) v List.mem_cons_self h2 e) (h m hm)
      · intro h o ho e
        rw [h o (sub o ho)] at e
        cases e
    have old : (l.reverse.filter fun one => ((l.reverse ++ [v]).filter fun other => (!decide (other = one)) && b other one).isEmpty) = minOf b l.reverse := by
      unfold minOf
      refine List.filter_congr fun x hx => ?_
      rw [List.filter_append]
      have : b v x = false := hp.1 x (List.mem_reverse.mp hx)
      simp [this]
    have new : ((l.reverse ++ [v]).filter fun other => (!decide (other = v)) && b other v).isEmpty = true ↔ ∀ o ∈ l, b o v = false := by
      rw [List.isEmpty_iff, List.filter_eq_nil_iff]
      constructor
      · intro h o ho
        have := h o (by simp [ho])
        have ne : o ≠ v := fun e => vn (e ▸ ho)
        simpa [ne] using this
      · intro h o ho
        rcases List.mem_append.mp ho with ho | ho
        · simp [h o (List.mem_reverse.mp ho)]
        · simp at ho
          simp [ho]
    have spl : minOf b (l.reverse ++ [v]) = minOf b l.reverse ++ (if ((l.reverse ++ [v]).filter fun other => (!decide (other = v)) && b other v).isEmpty = true then [v] else []) := by
      rw [← old]
      unfold minOf
      rw [List.filter_append (p := _) l.reverse [v]]
      congr 1
      rw [List.filter_cons, List.filter_nil]
    rw [spl]
    by_cases h : ∀ o ∈ l, b o v = false
    · rw [if_pos (new.mpr h), mstep, if_pos (key.mpr h), i2]
      refine ⟨fun p hp' => ?_, rfl⟩
      rcases List.mem_cons.mp hp' with rfl | hp'
      · exact ⟨_, by simp, hr _ List.mem_cons_self⟩
      · obtain ⟨m, hm, h2⟩ := i1 p hp'
        rw [i2] at hm
        exact ⟨m, List.mem_append_left _ hm, h2⟩
    · rw [if_neg (fun e => h (new.mp e)), mstep, if_neg (fun e => h (key.mp e)), i2, List.append_nil]
      refine ⟨fun p hp' => ?_, rfl⟩
      rcases List.mem_cons.mp hp' with rfl | hp'
      · have : ∃ o ∈ l, b o p = true := by
          simpa using h
        obtain ⟨o, ho, e⟩ := this
        obtain ⟨m, hm, h2⟩ := i1 o ho
        refine ⟨m, i2 ▸ hm, ht m (List.mem_cons_of_mem _ (sub m hm)) o (List.mem_cons_of_mem _ ho) _ List.mem_cons_self h2 e⟩
      · obtain ⟨m, hm, h2⟩ := i1 p hp'
        exact ⟨m, i2 ▸ hm, h2⟩
end
end K58
set_option Elab.async false
set_option linter.all false
namespace K58
open PySem PySem.Spec PyProof.Rows L2 Mv
theorem below_refl : ∀ xs : List Int, isBelow xs xs = true
  | [] => rfl
  | x :: xs => by
    have := below_refl xs
    unfold isBelow at this ⊢
    simpa using this
theorem below_cons {x y : Int} {xs ys : List Int} : isBelow (x :: xs) (y :: ys) = (decide (x ≤ y) && isBelow xs ys) := by
  simp [isBelow]
theorem below_trans : ∀ {xs ys zs : List Int}, xs.length = ys.length → ys.length = zs.length → isBelow xs ys = true → isBelow ys zs = true → isBelow xs zs = true
  | [], _, _, _, _, _, _ => by simp [isBelow]
  | x :: xs, y :: ys, z :: zs, h1, h2, h3, h4 => by
    rw [below_cons, Bool.and_eq_true, decide_eq_true_eq] at h3 h4 ⊢
    exact ⟨Int.le_trans h3.1 h4.1, below_trans (by simpa using h1) (by simpa using h2) h3.2 h4.2⟩
theorem below_le : ∀ {xs ys : List Int}, xs.length = ys.length → isBelow xs ys = true → xs ≤ ys
  | [], [], _, _ => List.le_refl _
  | x :: xs, y :: ys, h, e => by
    rw [below_cons, Bool.and_eq_true, decide_eq_true_eq] at e
    rw [List.cons_le_cons_iff]
    rcases Int.lt_or_eq_of_le e.1 with h1 | h1
    · exact .inl h1
    · exact .inr ⟨h1, below_le (by simpa using h) e.2⟩
theorem sorted_below {n : Nat} {so : List (List Int)} (hn : so.Nodup) (hl : ∀ v ∈ so, v.length = n) (hs : so.Pairwise (· ≤ ·)) : so.Pairwise fun x y => isBelow y x = false := by
  refine (List.Pairwise.and hn hs).imp_of_mem fun {x y} hx hy h => ?_
  cases e : isBelow y x with
  | false => rfl
  | true => exact absurd (List.le_antisymm h.2 (below_le ((hl y hy).trans (hl x hx).symm) e)) h.1
theorem least_lightest {n : Nat} {vs : List (List Int)} (hl : ∀ v ∈ vs, v.length = n) : leastOf vs = lightestOf vs := by
  have hl' : ∀ v ∈ sortT (ddp vs), v.length = n := fun v hv => hl v (mem_srt.mp hv)
  have hs := sorted_below ((sortT_perm (ddp vs)).nodup_iff.mpr (ddp_nodup vs)) hl' (sortT_le _)
  have := (mstep_min isBelow (sortT (ddp vs)).reverse (fun x _ => below_refl x)
    (fun x hx y hy z hz => below_trans ((hl' x (List.mem_reverse.mp hx)).trans (hl' y (List.mem_reverse.mp hy)).symm) ((hl' y (List.mem_reverse.mp hy)).trans (hl' z (List.mem_reverse.mp hz)).symm))
    (List.pairwise_reverse.mpr hs)).2
  rw [List.reverse_reverse] at this
  exact this
end K58
set_option Elab.async false
set_option linter.all false
namespace K58
open PySem PySem.Spec PyProof.Rows L2 Mv
/-- greatestOf keeps, in order, the ones that no other one lies over -/
theorem greatest_max {n : Nat} {vs : List (List Int)} (hl : ∀ v ∈ vs, v.length = n) : greatestOf vs = (sortT (ddp vs)).filter fun one => (above (sortT (ddp vs)) one).isEmpty := by
  have hl' : ∀ v ∈ sortT (ddp vs), v.length = n := fun v hv => hl v (mem_srt.mp hv)
  have hs := sorted_below ((sortT_perm (ddp vs)).nodup_iff.mpr (ddp_nodup vs)) hl' (sortT_le _)
  have h := (mstep_min (fun x y => isBelow y x) (sortT (ddp vs)) (fun x _ => below_refl x)
    (fun x hx y hy z hz h1 h2 => below_trans ((hl' z hz).trans (hl' y hy).symm) ((hl' y hy).trans (hl' x hx).symm) h2 h1)
    hs).2
  have h2 : greatestOf vs = (minOf (fun x y => isBelow y x) (sortT (ddp vs)).reverse).reverse := congrArg List.reverse h
  rw [h2, minOf, ← List.filter_reverse, List.reverse_reverse]
  refine List.filter_congr fun x _ => ?_
  rw [Bool.eq_iff_iff, List.isEmpty_iff, List.isEmpty_iff, above, List.filter_eq_nil_iff, List.filter_eq_nil_iff]
  simp only [List.mem_reverse]
end K58
set_option Elab.async false
set_option linter.all false
namespace K58
open PySem PySem.Spec PyProof.Rows L2 Mv
inductive InBox : List Int → List Int → Prop
  | nil : InBox [] []
  | cons {x t : Int} {v ts : List Int} : 0 ≤ x → x ≤ t → InBox v ts → InBox (x :: v) (t :: ts)
theorem mem_bxRow {t : Int} {o v : List Int} : v ∈ bxRow t o ↔ ∃ x : Int, 0 ≤ x ∧ x ≤ t ∧ v = o ++ [x] := by
  unfold bxRow
  rw [List.mem_map]
  constructor
  · rintro ⟨k, hk, rfl⟩
    rw [List.mem_range] at hk
    exact ⟨k, by omega, by omega, rfl⟩
  · rintro ⟨x, h0, h1, rfl⟩
    obtain ⟨k, rfl⟩ := Int.eq_ofNat_of_zero_le h0
    exact ⟨k, List.mem_range.mpr (by omega), rfl⟩
theorem mem_fold : ∀ {ts : List Int} {rows : List (List Int)} {v : List Int}, v ∈ ts.foldl bxStep rows ↔ ∃ o ∈ rows, ∃ u, InBox u ts ∧ v = o ++ u
  | [], rows, v => by
    constructor
    · intro h
      exact ⟨v, h, [], .nil, by simp⟩
    · rintro ⟨o, ho, u, hu, rfl⟩
      cases hu
      simpa using ho
  | t :: ts, rows, v => by
    rw [List.foldl_cons, mem_fold]
    unfold bxStep
    constructor
    · rintro ⟨o, ho, u, hu, rfl⟩
      obtain ⟨p, hp, h⟩ := List.mem_flatMap.mp ho
      obtain ⟨x, h0, h1, rfl⟩ := mem_bxRow.mp h
      exact ⟨p, hp, x :: u, .cons h0 h1 hu, by simp⟩
    · rintro ⟨o, ho, u, hu, rfl⟩
      cases hu with
      | @cons x _ u _ h0 h1 hu => exact ⟨o ++ [x], List.mem_flatMap.mpr ⟨o, ho, mem_bxRow.mpr ⟨x, h0, h1, rfl⟩⟩, u, hu, by simp⟩
theorem mem_box {ts v : List Int} : v ∈ boxOf ts ↔ InBox v ts := by
  unfold boxOf
  rw [mem_fold]
  constructor
  · rintro ⟨o, ho, u, hu, rfl⟩
    cases List.mem_singleton.mp ho
    exact hu
  · intro h
    exact ⟨[], by simp, v, h, rfl⟩
end K58
set_option Elab.async false
set_option linter.all false
namespace K58
open PySem PySem.Spec PyProof.Rows L2 Mv
theorem InBox.len : ∀ {v ts : List Int}, InBox v ts → v.length = ts.length
  | _, _, .nil => rfl
  | _, _, .cons _ _ h => by simp [h.len]
theorem InBox.top : ∀ {v ts : List Int}, InBox v ts → isBelow v ts = true
  | _, _, .nil => rfl
  | _, _, .cons _ h1 h => by rw [below_cons, h.top]; simpa using h1
theorem InBox.down : ∀ {v u ts : List Int}, InBox u ts → v.length = u.length → (∀ x ∈ v, 0 ≤ x) → isBelow v u = true → InBox v ts
  | [], _, _, .nil, _, _, _ => .nil
  | x :: v, _, _, .cons h0 h1 h, hl, hp, hb => by
    rw [below_cons, Bool.and_eq_true, decide_eq_true_eq] at hb
    exact .cons (hp x (by simp)) (by omega) (h.down (by simpa using hl) (fun y hy => hp y (by simp [hy])) hb.2)
theorem InBox.pos : ∀ {v ts : List Int}, InBox v ts → ∀ x ∈ v, 0 ≤ x
  | _, _, .nil, x, hx => by cases hx
  | _, _, .cons h0 _ h, x, hx => by
    rcases List.mem_cons.mp hx with rfl | hx
    · exact h0
    · exact h.pos x hx
end K58
set_option Elab.async false
set_option linter.all false
namespace K58
open PySem PySem.Spec PyProof.Rows L2 Mv
theorem below_iff : ∀ {xs ys : List Int}, xs.length = ys.length → (isBelow xs ys = true ↔ ∀ i (h1 : i < xs.length) (h2 : i < ys.length), xs[i] ≤ ys[i])
  | [], [], _ => by simp [isBelow]
  | x :: xs, y :: ys, h => by
    rw [below_cons, Bool.and_eq_true, decide_eq_true_eq, below_iff (by simpa using h)]
    constructor
    · rintro ⟨h1, h2⟩ i a b
      cases i with
      | zero => exact h1
      | succ i => exact h2 i (by simpa using a) (by simpa using b)
    · intro g
      exact ⟨g 0 (by simp) (by simp), fun i a b => g (i + 1) (by simpa using a) (by simpa using b)⟩
theorem not_below {xs ys : List Int} (hl : xs.length = ys.length) (h : isBelow xs ys = false) : ∃ i, ∃ (h1 : i < xs.length) (h2 : i < ys.length), ys[i] < xs[i] := by
  apply Classical.byContradiction
  intro hn
  have : isBelow xs ys = true := (below_iff hl).mpr fun i a b => by
    apply Classical.byContradiction
    intro c
    exact hn ⟨i, a, b, by omega⟩
  rw [this] at h
  cases h
end K58
set_option Elab.async false
set_option linter.all false
namespace K58
open PySem PySem.Spec PyProof.Rows L2 Mv
theorem lower_set {c : List Int} {p : Int × Nat} (h : p.2 < c.length) : lower c p = c.set p.2 (p.1 - 1) := by
  unfold lower
  rw [List.set_eq_take_append_cons_drop, if_pos h]
  simp
theorem mem_cutAt {c v o : List Int} (hl : v.length = c.length) : o ∈ cutAt c v ↔ ∃ i, ∃ h : i < v.length, 0 < v[i] ∧ o = c.set i (v[i] - 1) := by
  unfold cutAt
  rw [List.mem_map]
  constructor
  · rintro ⟨⟨x, i⟩, hp, rfl⟩
    obtain ⟨h1, h2⟩ := List.mem_filter.mp hp
    have h3 := List.mem_zipIdx' h1
    obtain ⟨h4, h5⟩ : ∃ h : i < v.length, x = v[i] := ⟨h3.1, h3.2⟩
    refine ⟨i, h4, by rw [← h5]; exact of_decide_eq_true h2, ?_⟩
    rw [lower_set (show i < c.length by omega), ← h5]
  · rintro ⟨i, h, h0, rfl⟩
    refine ⟨(v[i], i), List.mem_filter.mpr ⟨?_, by simpa using h0⟩, lower_set (by simpa using hl ▸ h)⟩
    rw [List.mem_zipIdx_iff_getElem?]
    simp [h]
end K58
set_option Elab.async false
set_option linter.all false
namespace K58
open PySem PySem.Spec PyProof.Rows L2 Mv
theorem cut_over {c v u : List Int} (h1 : v.length = c.length) (h2 : u.length = c.length) (hp : ∀ x ∈ u, 0 ≤ x) (hb : isBelow u c = true) (hn : isBelow v u = false) : ∃ o ∈ cutAt c v, isBelow u o = true := by
  obtain ⟨i, a, b, lt⟩ := not_below (h1.trans h2.symm) hn
  have := hp u[i] (List.getElem_mem b)
  refine ⟨c.set i (v[i] - 1), (mem_cutAt h1).mpr ⟨i, a, by omega, rfl⟩, ?_⟩
  rw [below_iff (by simpa using h2)]
  intro j ja jb
  rw [List.getElem_set]
  split
  · rename_i e
    subst e
    omega
  · exact (below_iff h2).mp hb j ja (by simpa using jb)
theorem cut_bare {c v o : List Int} (h1 : v.length = c.length) (ho : o ∈ cutAt c v) : isBelow v o = false := by
  obtain ⟨i, a, p, rfl⟩ := (mem_cutAt h1).mp ho
  cases e : isBelow v (c.set i (v[i] - 1)) with
  | false => rfl
  | true =>
    have := (below_iff (by simpa using h1)).mp e i a (by simpa using h1 ▸ a)
    rw [List.getElem_set_self] at this
    omega
end K58
set_option Elab.async false
set_option linter.all false
namespace K58
open PySem PySem.Spec PyProof.Rows L2 Mv
theorem cut_under {c v o : List Int} (h1 : v.length = c.length) (hb : isBelow v c = true) (ho : o ∈ cutAt c v) : o.length = c.length ∧ isBelow o c = true ∧ ((∀ x ∈ c, 0 ≤ x) → ∀ x ∈ o, 0 ≤ x) := by
  obtain ⟨i, a, p, rfl⟩ := (mem_cutAt h1).mp ho
  have lt := (below_iff h1).mp hb i a (by omega)
  refine ⟨by simp, ?_, fun hp x hx => ?_⟩
  · rw [below_iff (by simp)]
    intro j ja jb
    rw [List.getElem_set]
    split
    · rename_i e
      subst e
      omega
    · exact Int.le_refl _
  · rcases List.mem_or_eq_of_mem_set hx with h | rfl
    · exact hp x h
    · omega
end K58
set_option Elab.async false
set_option linter.all false
namespace K58
open PySem PySem.Spec PyProof.Rows L2 Mv
theorem greatest_over {n : Nat} {vs : List (List Int)} (hl : ∀ v ∈ vs, v.length = n) : ∀ p ∈ vs, ∃ m ∈ greatestOf vs, isBelow p m = true := fun p hp => by
  have hl' : ∀ v ∈ sortT (ddp vs), v.length = n := fun v hv => hl v (mem_srt.mp hv)
  have hs := sorted_below ((sortT_perm (ddp vs)).nodup_iff.mpr (ddp_nodup vs)) hl' (sortT_le _)
  obtain ⟨m, hm, h⟩ := (mstep_min (fun x y => isBelow y x) (sortT (ddp vs)) (fun x _ => below_refl x)
    (fun x hx y hy z hz h1 h2 => below_trans ((hl' z hz).trans (hl' y hy).symm) ((hl' y hy).trans (hl' x hx).symm) h2 h1)
    hs).1 p (mem_srt.mpr hp)
  exact ⟨m, List.mem_reverse.mpr hm, h⟩
/-- in the box and over none of the front -/
structure Bare (top : List Int) (front : List (List Int)) (u : List Int) : Prop where
  box : InBox u top
  no : ∀ v ∈ front, isBelow v u = false
/-- the greatest ones, in order -/
structure Tops (top : List Int) (front found : List (List Int)) : Prop where
  mem : ∀ c ∈ found, Bare top front c
  all : ∀ u, Bare top front u → ∃ c ∈ found, isBelow u c = true
  anti : ∀ c ∈ found, ∀ d ∈ found, isBelow c d = true → c = d
  nd : found.Nodup
  le : found.Pairwise (· ≤ ·)
theorem mem_bareOf {top : List Int} {front : List (List Int)} {u : List Int} : u ∈ bareOf top front ↔ Bare top front u := by
  unfold bareOf
  rw [List.mem_filter, mem_box]
  constructor
  · rintro ⟨h1, h2⟩
    exact ⟨h1, by simpa using h2⟩
  · rintro ⟨h1, h2⟩
    exact ⟨h1, by simpa using h2⟩
theorem greatest_tops {n : Nat} {vs : List (List Int)} (hl : ∀ v ∈ vs, v.length = n) : (∀ c ∈ greatestOf vs, c ∈ vs) ∧ (∀ c ∈ greatestOf vs, ∀ d ∈ greatestOf vs, isBelow c d = true → c = d) ∧ (greatestOf vs).Nodup ∧ (greatestOf vs).Pairwise (· ≤ ·) := by
  rw [greatest_max hl]
  refine ⟨fun c hc => mem_srt.mp (List.mem_filter.mp hc).1, fun c hc d hd h => ?_, List.Pairwise.filter _ ((sortT_perm (ddp vs)).nodup_iff.mpr (ddp_nodup vs)), List.Pairwise.filter _ (sortT_le _)⟩
  obtain ⟨c1, c2⟩ := List.mem_filter.mp hc
  apply Classical.byContradiction
  intro ne
  rw [List.isEmpty_iff, above, List.filter_eq_nil_iff] at c2
  exact c2 d (List.mem_filter.mp hd).1 (by simp [h, Ne.symm ne])
theorem tops_step {top v : List Int} {front found : List (List Int)} (hf : ∀ w ∈ front, w.length = top.length) (hv : v.length = top.length) (T : Tops top front found) : Tops top (front ++ [v]) (cstep found v) := by
  unfold cstep
  have hB : ∀ o ∈ (found.flatMap fun c => if isBelow v c = true then cutAt c v else [c]), Bare top (front ++ [v]) o := fun o ho => by
    obtain ⟨c, hc, h⟩ := List.mem_flatMap.mp ho
    have bc := T.mem c hc
    have lc := bc.box.len
    split at h
    · rename_i vb
      have hvc : v.length = c.length := by omega
      obtain ⟨u1, u2, u3⟩ := cut_under hvc vb h
      refine ⟨bc.box.down u1 (u3 bc.box.pos) u2, fun w hw => ?_⟩
      rcases List.mem_append.mp hw with hw | hw
      · cases e : isBelow w o with
        | false => rfl
        | true =>
          have := bc.no w hw
          rw [below_trans (by rw [hf w hw, u1, lc]) u1 e u2] at this
          cases this
      · cases List.mem_singleton.mp hw
        exact cut_bare hvc h
    · rename_i vb
      cases List.mem_singleton.mp h
      refine ⟨bc.box, fun w hw => ?_⟩
      rcases List.mem_append.mp hw with hw | hw
      · exact bc.no w hw
      · cases List.mem_singleton.mp hw
        simpa using vb
  have hlen : ∀ o ∈ (found.flatMap fun c => if isBelow v c = true then cutAt c v else [c]), o.length = top.length := fun o ho => (hB o ho).box.len
  have hA : ∀ u, Bare top (front ++ [v]) u → ∃ o ∈ (found.flatMap fun c => if isBelow v c = true then cutAt c v else [c]), isBelow u o = true := fun u hu => by
    obtain ⟨c, hc, h⟩ := T.all u ⟨hu.box, fun w hw => hu.no w (List.mem_append_left _ hw)⟩
    have lc := (T.mem c hc).box.len
    by_cases vb : isBelow v c = true
    · obtain ⟨o, ho, h2⟩ := cut_over (v := v) (by omega) (by rw [hu.box.len, lc]) hu.box.pos h (hu.no v (by simp))
      exact ⟨o, List.mem_flatMap.mpr ⟨c, hc, by rw [if_pos vb]; exact ho⟩, h2⟩
    · exact ⟨c, List.mem_flatMap.mpr ⟨c, hc, by rw [if_neg vb]; simp⟩, h⟩
  generalize (found.flatMap fun c => if isBelow v c = true then cutAt c v else [c]) = L at hB hlen hA ⊢
  obtain ⟨g1, g2, g3, g4⟩ := greatest_tops hlen
  refine ⟨fun c hc => hB c (g1 c hc), fun u hu => ?_, g2, g3, g4⟩
  obtain ⟨o, ho, h⟩ := hA u hu
  obtain ⟨m, hm, h2⟩ := greatest_over hlen o ho
  exact ⟨m, hm, below_trans (by rw [hu.box.len, hlen o ho]) (by rw [hlen o ho, hlen m (g1 m hm)]) h h2⟩
theorem tops_fold {top : List Int} : ∀ {front done found : List (List Int)}, (∀ w ∈ done, w.length = top.length) → (∀ w ∈ front, w.length = top.length) → Tops top done found → Tops top (done ++ front) (front.foldl cstep found)
  | [], done, found, _, _, T => by simpa using T
  | v :: front, done, found, hd, hf, T => by
    have := tops_fold (front := front) (done := done ++ [v]) (fun w hw => by
      rcases List.mem_append.mp hw with h | h
      · exact hd w h
      · cases List.mem_singleton.mp h
        exact hf _ (by simp)) (fun w hw => hf w (by simp [hw])) (tops_step hd (hf v (by simp)) T)
    simpa using this
theorem tops_nil {top : List Int} (hp : ∀ x ∈ top, 0 ≤ x) : Tops top [] [top] := by
  have self : ∀ ts : List Int, (∀ x ∈ ts, 0 ≤ x) → InBox ts ts := fun ts => by
    induction ts with
    | nil => exact fun _ => .nil
    | cons t ts ih => exact fun h => .cons (h t (by simp)) (Int.le_refl _) (ih fun x hx => h x (by simp [hx]))
  refine ⟨fun c hc => ?_, fun u hu => ⟨top, by simp, hu.box.top⟩, fun c hc d hd _ => ?_, by simp, by simp⟩
  · cases List.mem_singleton.mp hc
    exact ⟨self top hp, fun v hv => by cases hv⟩
  · rw [List.mem_singleton.mp hc, List.mem_singleton.mp hd]
theorem corners_tops {top : List Int} {front : List (List Int)} (hp : ∀ x ∈ top, 0 ≤ x) (hf : ∀ w ∈ front, w.length = top.length) : Tops top front (cornersOf top front) := by
  have := tops_fold (front := front) (done := []) (fun w hw => by cases hw) hf (tops_nil hp)
  rw [List.nil_append] at this
  exact this
end K58
set_option Elab.async false
set_option linter.all false
namespace K58
open PySem PySem.Spec PyProof.Rows L2 Mv
theorem bxRow_nodup (t : Int) (o : List Int) : (bxRow t o).Nodup := by
  unfold bxRow List.Nodup
  rw [List.pairwise_map]
  refine List.nodup_range.imp fun {a b} h e => h ?_
  have := List.append_cancel_left e
  simp only [List.cons.injEq, and_true] at this
  omega
theorem bxStep_nodup {t : Int} {rows : List (List Int)} (h : rows.Nodup) : (bxStep rows t).Nodup := by
  unfold bxStep List.Nodup
  rw [List.pairwise_flatMap]
  refine ⟨fun o _ => bxRow_nodup t o, h.imp fun {a b} ne x hx y hy e => ne ?_⟩
  obtain ⟨k, _, _, rfl⟩ := mem_bxRow.mp hx
  obtain ⟨l, _, _, rfl⟩ := mem_bxRow.mp hy
  exact (List.append_inj' e rfl).1
theorem box_fold_nodup : ∀ {ts : List Int} {rows : List (List Int)}, rows.Nodup → (ts.foldl bxStep rows).Nodup
  | [], _, h => h
  | t :: ts, _, h => box_fold_nodup (ts := ts) (bxStep_nodup h)
theorem bare_nodup (top : List Int) (front : List (List Int)) : (bareOf top front).Nodup := List.Pairwise.filter _ (box_fold_nodup (by simp))
theorem tops_tried {top : List Int} {front found : List (List Int)} (T : Tops top front found) : found = triedOf top front := by
  have hs : ∀ u, u ∈ sortT (bareOf top front) ↔ Bare top front u := fun u => by rw [(sortT_perm _).mem_iff, mem_bareOf]
  have nd : (triedOf top front).Nodup := List.Pairwise.filter _ ((sortT_perm _).nodup_iff.mpr (bare_nodup top front))
  have le : (triedOf top front).Pairwise (· ≤ ·) := List.Pairwise.filter _ (sortT_le _)
  have mem : ∀ u, u ∈ found ↔ u ∈ triedOf top front := fun u => by
    unfold triedOf
    rw [List.mem_filter, hs, List.isEmpty_iff, above, List.filter_eq_nil_iff]
    constructor
    · intro hu
      refine ⟨T.mem u hu, fun o ho => ?_⟩
      have bo := mem_bareOf.mp ho
      by_cases e : isBelow u o = true
      · obtain ⟨c, hc, h⟩ := T.all o bo
        have lu := (T.mem u hu).box.len
        have lo := bo.box.len
        have lc := (T.mem c hc).box.len
        have uc := T.anti u hu c hc (below_trans (by omega) (by omega) e h)
        subst uc
        have : o = u := List.le_antisymm (below_le (by omega) h) (below_le (by omega) e)
        simp [this]
      · simp [e]
    · rintro ⟨bu, h⟩
      obtain ⟨c, hc, h2⟩ := T.all u bu
      have := h c (mem_bareOf.mpr (T.mem c hc))
      have cu : c = u := by simpa [h2] using this
      exact cu ▸ hc
  exact List.Perm.eq_of_pairwise (le := (· ≤ ·)) (fun a b _ _ h1 h2 => List.le_antisymm h1 h2) T.le le ((List.perm_ext_iff_of_nodup T.nd nd).mpr mem)
theorem corners_tried {top : List Int} {front : List (List Int)} (hp : ∀ x ∈ top, 0 ≤ x) (hf : ∀ w ∈ front, w.length = top.length) : cornersOf top front = triedOf top front := tops_tried (corners_tops hp hf)
/-- each vector of the box is over one of the front or under a corner, not both -/
theorem over_xor {top u : List Int} {front : List (List Int)} (hf : ∀ w ∈ front, w.length = top.length) (T : Tops top front (triedOf top front)) (hu : u ∈ boxOf top) :
    ((front.any fun one => isBelow one u) != ((triedOf top front).any fun one => isBelow u one)) = true := by
  have bu := mem_box.mp hu
  have lu := bu.len
  cases e : front.any fun one => isBelow one u with
  | false =>
    obtain ⟨c, hc, h⟩ := T.all u ⟨bu, fun v hv => by
      rw [List.any_eq_false] at e
      simpa using e v hv⟩
    have : ((triedOf top front).any fun one => isBelow u one) = true := List.any_eq_true.mpr ⟨c, hc, h⟩
    rw [this]
    rfl
  | true =>
    obtain ⟨v, hv, h⟩ := List.any_eq_true.mp e
    have : ((triedOf top front).any fun one => isBelow u one) = false := by
      rw [List.any_eq_false]
      intro c hc h2
      have bc := T.mem c hc
      have lc := bc.box.len
      have := bc.no v hv
      rw [below_trans (by rw [hf v hv, lu]) (by omega) h h2] at this
      cases this
    rw [this]
    rfl
end K58
set_option Elab.async false
set_option linter.all false
namespace K58
open PySem PySem.Spec PyProof.Rows L2 Mv
theorem ddp_congr {xs ys : List (List Int)} (h : ∀ x, x ∈ xs ↔ x ∈ ys) : sortT (ddp xs) = sortT (ddp ys) :=
  sortT_congr ((List.perm_ext_iff_of_nodup (ddp_nodup xs) (ddp_nodup ys)).mpr fun x => by rw [mem_ddp, mem_ddp, h])
theorem lightest_congr {xs ys : List (List Int)} (h : ∀ x, x ∈ xs ↔ x ∈ ys) : lightestOf xs = lightestOf ys := by
  unfold lightestOf
  rw [ddp_congr h]
theorem mem_twice {xs : List (List Int)} {k : Nat} (x : List Int) : x ∈ xs ++ xs.take k ↔ x ∈ xs := by
  rw [List.mem_append]
  exact ⟨fun h => h.elim id List.mem_of_mem_take, .inl⟩
/-- least_vectors(some) and least_vectors(some + some[:2]) are the law's own lightest ones -/
theorem least_some {n : Nat} {vs : List (List Int)} (hl : ∀ v ∈ vs, v.length = n) : leastOf vs = lightestOf vs ∧ leastOf (vs ++ vs.take 2) = lightestOf vs :=
  ⟨least_lightest hl, by rw [least_lightest (n := n) fun v hv => hl v ((mem_twice v).mp hv), lightest_congr fun x => mem_twice x]⟩
theorem corners_none (top : List Int) : cornersOf top [] = [top] := rfl
theorem cut_zeros (c : List Int) (n : Nat) : cutAt c (List.replicate n 0) = [] := by
  unfold cutAt
  rw [List.map_eq_nil_iff, List.filter_eq_nil_iff]
  rintro ⟨x, i⟩ h
  have := List.eq_of_mem_replicate (List.fst_mem_of_mem_zipIdx h)
  simp only at this
  rw [this]
  exact fun h => absurd (of_decide_eq_true h) (Int.lt_irrefl 0)
theorem below_zeros : ∀ {c : List Int}, (∀ x ∈ c, 0 ≤ x) → isBelow (List.replicate c.length 0) c = true
  | [], _ => rfl
  | x :: c, h => by
    rw [List.length_cons, List.replicate_succ, below_cons, below_zeros fun y hy => h y (by simp [hy])]
    simpa using h x (by simp)
theorem srt_of {xs ys : List (List Int)} (hp : (ddp xs).Perm ys) (hs : ys.Pairwise (· ≤ ·)) : sortT (ddp xs) = ys := (sortT_uniq hp.symm hs).symm
theorem greatest_of {xs ys zs : List (List Int)} (hp : (ddp xs).Perm ys) (hs : ys.Pairwise (· ≤ ·)) (e : (ys.reverse.foldl gstep []).reverse = zs) : greatestOf xs = zs := by
  unfold greatestOf
  rw [srt_of hp hs, e]
theorem least_of' {xs ys zs : List (List Int)} (hp : (ddp xs).Perm ys) (hs : ys.Pairwise (· ≤ ·)) (e : ys.foldl lstep [] = zs) : leastOf xs = zs := by
  unfold leastOf
  rw [srt_of hp hs, e]
theorem corners_zeros {top : List Int} (hp : ∀ x ∈ top, 0 ≤ x) : cornersOf top [List.replicate top.length 0] = [] := by
  show greatestOf ([top].flatMap fun c => if isBelow (List.replicate top.length 0) c = true then cutAt c (List.replicate top.length 0) else [c]) = []
  rw [List.flatMap_cons, if_pos (below_zeros hp), cut_zeros]
  exact greatest_of (ys := []) (.refl _) .nil rfl
/-! the closing constants -/
theorem const1 : cornersOf [4, 3] [[1, 3], [4, 1]] = [[0, 3], [3, 2], [4, 0]] := by
  show cstep (cstep [[4, 3]] [1, 3]) [4, 1] = _
  rw [show cstep [[4, 3]] [1, 3] = [[0, 3], [4, 2]] from greatest_of (ys := [[0, 3], [4, 2]]) (by decide) (by decide) (by decide)]
  exact greatest_of (ys := [[0, 3], [3, 2], [4, 0]]) (by decide) (by decide) (by decide)
theorem const2 : leastOf [[1, 3], [4, 1], [4, 3], [1, 3]] = [[1, 3], [4, 1]] := least_of' (ys := [[1, 3], [4, 1], [4, 3]]) (by decide) (by decide) (by decide)
theorem const3 : leastOf [] = [] := least_of' (ys := []) (.refl _) .nil rfl
theorem const4 : leastOf [[2, 2], [0, 5], [5, 0], [2, 3]] = [[0, 5], [2, 2], [5, 0]] := least_of' (ys := [[0, 5], [2, 2], [2, 3], [5, 0]]) (by decide) (by decide) (by decide)
theorem const5 : cornersOf [0, 1] [[0, 1]] = [[0, 0]] := greatest_of (ys := [[0, 0]]) (by decide) (by decide) (by decide)
end K58
set_option Elab.async false
set_option linter.all false
set_option maxRecDepth 100000
namespace K58
open PySem PySem.Spec PyProof.Rows L2 Mv
/-! ### sizes of what is drawn -/
def bdK : Nat → Int
  | 1 => 9
  | 2 => 4
  | _ => 2
structure SortsOk (n k : Nat) (sorts : List (List Int)) : Prop where
  n0 : 1 ≤ n
  n1 : n ≤ 5
  k0 : 1 ≤ k
  k1 : k ≤ 3
  len : sorts.length = k
  row : ∀ ws ∈ sorts, ws.length = n
  ent : ∀ ws ∈ sorts, ∀ w ∈ ws, 0 ≤ w ∧ w < bdK k
theorem bdK_pos (k : Nat) : 1 ≤ bdK k := by
  unfold bdK
  split <;> decide
theorem bdK_le (k : Nat) : bdK k ≤ 9 := by
  unfold bdK
  split <;> decide
theorem getD_bd {ws : List Int} {B : Int} (hB : 0 < B) (h : ∀ w ∈ ws, 0 ≤ w ∧ w < B) (i : Nat) : 0 ≤ ws.getD i 0 ∧ ws.getD i 0 < B := by
  rw [List.getD_eq_getElem?_getD]
  cases e : ws[i]? with
  | none => exact ⟨Int.le_refl _, hB⟩
  | some x => exact h x (List.mem_of_getElem? e)
theorem wsum_bd {ws : List Int} {B : Int} (hB : 0 < B) (h : ∀ w ∈ ws, 0 ≤ w ∧ w < B) : ∀ ts : List Nat, 0 ≤ wsum ws ts ∧ wsum ws ts ≤ (ts.length : Int) * (B - 1)
  | [] => by simp [wsum]
  | t :: ts => by
    have ih := wsum_bd hB h ts
    have g := getD_bd hB h t
    have e : wsum ws (t :: ts) = ws.getD t 0 + wsum ws ts := by simp [wsum]
    rw [e, List.length_cons, Int.natCast_add, Int.add_mul]
    omega
theorem free_len (n : Nat) (ss : List Nat) : (freeT n ss).length ≤ n := by
  unfold freeT
  exact Nat.le_trans (List.length_filter_le _ _) (by rw [List.length_range]; exact Nat.le_refl _)
theorem free_lt {n : Nat} {ss : List Nat} : ∀ t ∈ freeT n ss, t < n := fun t ht => List.mem_range.mp (List.mem_filter.mp ht).1
theorem bx_le {T : Nat} : ∀ {ts : List Int}, (∀ t ∈ ts, 0 ≤ t ∧ t ≤ (T : Int)) → bxSize ts ≤ (T + 1) ^ ts.length
  | [], _ => Nat.le_refl _
  | t :: ts, h => by
    have ih := bx_le (T := T) (ts := ts) fun x hx => h x (List.mem_cons_of_mem _ hx)
    have g := h t List.mem_cons_self
    rw [bxSize, List.length_cons, Nat.pow_succ, Nat.mul_comm]
    exact Nat.mul_le_mul ih (by omega)
structure TopsSz (k : Nat) (tops : List Int) : Prop extends TopsOk tops where
  len : tops.length = k
  sz2 : bxSize tops ≤ 256
  le : ∀ t ∈ tops, 0 ≤ t ∧ t ≤ 40
theorem tops_sz {n k : Nat} {sorts : List (List Int)} (h : SortsOk n k sorts) (ss : List Nat) : TopsSz k (weightV sorts (freeT n ss)) := by
  have hl : (weightV sorts (freeT n ss)).length = k := by unfold weightV; rw [List.length_map, h.len]
  have hk0 := h.k0
  have hk1 := h.k1
  have hn1 := h.n1
  have e : ∀ t ∈ weightV sorts (freeT n ss), 0 ≤ t ∧ t ≤ 5 * (bdK k - 1) := fun t ht => by
    obtain ⟨ws, hws, rfl⟩ := List.mem_map.mp ht
    have b1 := bdK_pos k
    obtain ⟨g1, g2⟩ := wsum_bd (by omega) (h.ent ws hws) (freeT n ss)
    refine ⟨g1, Int.le_trans g2 ?_⟩
    have f := free_len n ss
    exact Int.mul_le_mul_of_nonneg_right (by omega) (by omega)
  have sz : bxSize (weightV sorts (freeT n ss)) ≤ 256 := by
    have : k = 1 ∨ k = 2 ∨ k = 3 := by omega
    rcases this with rfl | rfl | rfl
    · have := bx_le (T := 40) (ts := weightV sorts (freeT n ss)) e
      rw [hl] at this
      exact Nat.le_trans this (by decide)
    · have := bx_le (T := 15) (ts := weightV sorts (freeT n ss)) e
      rw [hl] at this
      exact Nat.le_trans this (by decide)
    · have := bx_le (T := 5) (ts := weightV sorts (freeT n ss)) e
      rw [hl] at this
      exact Nat.le_trans this (by decide)
  have le : ∀ t ∈ weightV sorts (freeT n ss), 0 ≤ t ∧ t ≤ 40 := fun t ht => by
    have := e t ht
    have := bdK_le k
    omega
  refine ⟨⟨fun t ht => ?_, ?_, ?_, ?_⟩, hl, sz, le⟩
  · have := le t ht
    omega
  · rw [sizeLine_eq]; omega
  · rw [sizeLine_eq]; omega
  · intro e
    rw [e] at hl
    simp at hl
    omega
/-! ### what the law compares -/
theorem pl_iT (v : List Int) : Pl (iT v) := .tup _ fun x hx => by
  obtain ⟨i, _, rfl⟩ := List.mem_map.mp hx
  exact .int i
theorem pl_vT (vs : List (List Int)) : Pl (vT vs) := .tup _ fun x hx => by
  obtain ⟨i, _, rfl⟩ := List.mem_map.mp hx
  exact pl_iT i
theorem wts_ints : ∀ v : List Int, wts (v.map .int) = v.length
  | [] => rfl
  | x :: v => by rw [List.map_cons, wts, wts_ints v, wt, List.length_cons, Nat.add_comm]; intro _ h; cases h
theorem wt_iT (v : List Int) : wt (iT v) = 1 + v.length := by rw [wt, wts_ints]
theorem wts_iTs {n : Nat} : ∀ {vs : List (List Int)}, (∀ v ∈ vs, v.length ≤ n) → wts (vs.map iT) ≤ (1 + n) * vs.length
  | [], _ => Nat.le_refl _
  | v :: vs, h => by
    have ih := wts_iTs (n := n) (vs := vs) fun x hx => h x (List.mem_cons_of_mem _ hx)
    have g := h v List.mem_cons_self
    rw [List.map_cons, wts, wt_iT, List.length_cons, Nat.mul_add, Nat.mul_one]
    omega
theorem wt_vT {n : Nat} {vs : List (List Int)} (h : ∀ v ∈ vs, v.length ≤ n) : wt (vT vs) ≤ 1 + (1 + n) * vs.length := by
  have := wts_iTs h
  rw [wt]
  omega
/-- a value that the law may compare -/
structure Cp (x : D) : Prop where
  pl : Pl x
  wt : wt x < sizeLine
theorem cp_vT {vs : List (List Int)} (h : ∀ v ∈ vs, v.length ≤ 3) (hl : vs.length ≤ 300) : Cp (vT vs) := ⟨pl_vT vs, by
  have := wt_vT h
  rw [sizeLine_eq]
  omega⟩
theorem cp_true : Cp (.bl true) := ⟨.bl _, by rw [sizeLine_eq]; decide⟩
/-! ### fronts, corners of what is drawn -/
structure VsOk (k : Nat) (vs : List (List Int)) : Prop where
  n : vs.length ≤ 6
  each : ∀ v ∈ vs, v.length = k
  k0 : 1 ≤ k
  k1 : k ≤ 3
theorem ne_of_len {k : Nat} (hk : 1 ≤ k) {vs : List (List Int)} (h : ∀ v ∈ vs, v.length = k) : NeT (ddp vs) := .inl fun x hx e => by
  have := h x (mem_ddp.mp hx)
  rw [e] at this
  simp at this
  omega
theorem VsOk.szT {k : Nat} {vs : List (List Int)} (h : VsOk k vs) : SzT vs := ⟨by have := h.n; rw [sizeLine_eq]; omega, fun v hv => by have := h.each v hv; have := h.k1; rw [sizeLine_eq]; omega, ne_of_len h.k0 h.each⟩
theorem VsOk.szS {k : Nat} {vs : List (List Int)} (h : VsOk k vs) : SzS vs := ⟨by have := h.n; omega, fun v hv => by have := h.each v hv; have := h.k1; rw [sizeLine_eq]; omega, ne_of_len h.k0 h.each⟩
theorem VsOk.szT2 {k : Nat} {vs : List (List Int)} (h : VsOk k vs) : SzT (vs ++ vs.take 2) := by
  have hm : ∀ v ∈ vs ++ vs.take 2, v.length = k := fun v hv => h.each v ((mem_twice v).mp hv)
  refine ⟨?_, fun v hv => by have := hm v hv; have := h.k1; rw [sizeLine_eq]; omega, ne_of_len h.k0 hm⟩
  rw [List.length_append, List.length_take, sizeLine_eq]
  have := h.n
  omega
theorem light_sub {vs : List (List Int)} {v : List Int} (h : v ∈ lightestOf vs) : v ∈ vs := mem_srt.mp (List.mem_filter.mp h).1
theorem light_len (vs : List (List Int)) : (lightestOf vs).length ≤ vs.length := Nat.le_trans (List.length_filter_le _ _) (srt_len vs)
theorem VsOk.front {k : Nat} {vs : List (List Int)} (h : VsOk k vs) : VsOk k (lightestOf vs) := ⟨Nat.le_trans (light_len vs) h.n, fun v hv => h.each v (light_sub hv), h.k0, h.k1⟩
theorem VsOk.cp {k : Nat} {vs : List (List Int)} (h : VsOk k vs) : Cp (vT vs) := cp_vT (fun v hv => by have := h.each v hv; have := h.k1; omega) (by have := h.n; omega)
theorem cr_ok {n k : Nat} {sorts : List (List Int)} (h : SortsOk n k sorts) (ss : List Nat) {front : List (List Int)} (hf : VsOk k front) : CrOk n sorts ss front := by
  have k0 := h.k0
  have k1 := h.k1
  have n1 := h.n1
  have hn := hf.n
  refine ⟨by rw [h.len]; exact k0, by rw [sizeLine_eq]; omega, fun ws hws => by rw [h.row ws hws]; exact Nat.le_refl _, fun v hv => by rw [hf.each v hv, h.len], by rw [h.len, sizeLine_eq]; omega, ?_⟩
  rw [h.len, sizeLine_eq]
  have a1 : k ^ (front.length + 1) ≤ 3 ^ (front.length + 1) := Nat.pow_le_pow_left k1 _
  have a2 : 3 ^ (front.length + 1) ≤ 3 ^ 7 := Nat.pow_le_pow_right (by decide) (by omega)
  have a3 : 3 ^ 7 < 16777216 := by decide
  omega
theorem box_mem_len {tops v : List Int} (h : v ∈ boxOf tops) : v.length = tops.length := by
  have := bx_each tops [[]] 0 (by simp) v h
  omega
theorem box_len (tops : List Int) : (boxOf tops).length = bxSize tops := by
  unfold boxOf
  rw [bx_fold_len]
  simp
theorem tried_sub {tops v : List Int} {front : List (List Int)} (h : v ∈ triedOf tops front) : v ∈ boxOf tops := by
  have := (List.mem_filter.mp h).1
  rw [(sortT_perm _).mem_iff] at this
  exact (List.mem_filter.mp this).1
theorem tried_len (tops : List Int) (front : List (List Int)) : (triedOf tops front).length ≤ bxSize tops := by
  refine Nat.le_trans (List.length_filter_le _ _) ?_
  rw [(sortT_perm _).length_eq, ← box_len]
  exact List.length_filter_le _ _
theorem tried_cp {k : Nat} {tops : List Int} (h : TopsSz k tops) (k1 : k ≤ 3) (front : List (List Int)) : Cp (vT (triedOf tops front)) :=
  cp_vT (fun v hv => by rw [box_mem_len (tried_sub hv), h.len]; exact k1) (by have := tried_len tops front; have := h.sz2; omega)
/-- a row of pairs: each answer is what is due -/
structure Prs (ps : List D) (n : Nat) : Prop where
  len : ps.length ≤ n
  each : ∀ x ∈ ps, Cp x
theorem Prs.append {ps qs : List D} {n m : Nat} (h : Prs ps n) (hq : ∀ x ∈ qs, Cp x) (hm : n + qs.length ≤ m) : Prs (ps ++ qs) m := ⟨by rw [List.length_append]; have := h.len; omega, fun x hx => (List.mem_append.mp hx).elim (h.each x) (hq x)⟩
end K58
set_option Elab.async false
set_option linter.all false
set_option maxRecDepth 100000
namespace K58
open PySem PySem.Spec PyProof.Rows L2 Mv
local macro_rules | `(tactic| walk_at "mv") => `(tactic| simp (maxSteps := 3000000) only [tRetD, tRetND, tBin, tUnD, tLcD, tZip, tACons, tANil, tName, Mv.tCon, tTst, tTru, truD, tAndD, tOrD, tNotD, tAndVD, tOrVD, tNotVD, tIfD, tIfSD, tSeqD, tNextD, tSetD, tParD, tAsgD, tDropD, tForD, tSeqF, tSeqB, tRng1, tRng2, tTupD, tLstD, tLstO, tCBD, tCl, tClP, tAppD, tExtD, tPopD, tPopAtD, tSetIxD, tSlD, tPoN, tPoS, tYesD, tBreakD, tContD, tLZ, tEnB, tEnF, tZipF, tMk, tClK, tSrtDc, srtTF, srtIF, srtSTF, srtSIF, repF, pick,
  stoD, asD, asDs, bindP, Mv.bindL, lcStep, callD, argE, places, putBack, resD, unT, endsD, rtD, outE, intF, CT, addF, eqF, neF, inF, isF, isC, Mv.isNon, isBl, negF, ixF, slF, revF, fldF, lenF, lenD, intB, absF, listF, tupF, sumF, isiF, tyD, clsD, clsDs, anyI, liAt, seqOf, seqIt, rvT, stab, vw, vwT, getT, setT, setKid, kid, ix20, ix21, fz, fzs, fzs_d, flat, flat_map, intsOf_map, tupsOf_map, wipeE, backE,
  List.map_cons, List.map_nil, List.set_cons_zero, List.set_cons_succ, List.length_cons, List.length_nil, List.replicate, List.cons_append, List.nil_append, List.getElem?_cons_zero, List.getElem?_cons_succ, List.getElem?_nil, List.take_succ_cons, List.take_zero, List.length_map, List.length_append, List.getD_cons_zero, List.getD_cons_succ,
  true_and, and_true, Bool.and_false, Bool.false_and, Bool.or_false, Bool.false_or, Bool.true_and, Bool.and_true, Bool.not_true, Bool.not_false, Nat.zero_le, Bool.or_self, Bool.true_or, Bool.or_true, Bool.and_self, Nat.zero_add, Nat.reduceAdd, Nat.reduceSub, Nat.reduceLeDiff, Nat.reduceLT, Nat.reduceEqDiff, Nat.reduceBEq, BEq.rfl, beq_self_eq_true, if_true, if_false, Bool.false_eq_true, reduceIte, reduceCtorEq, List.nodup_cons, List.not_mem_nil, not_false_eq_true, List.nodup_nil, decide_true, decide_false, decide_eq_true_eq])
section
variable {P : Program} {w : World} {K : PySem.W.Frag} {mg : Str → Option Value} {base : Heap} {CW : Addr}
abbrev webV (CW : Addr) (ns : List D) (needs : List (List (List Int))) : D := .obj CW wNames [.tup ns, .tup (List.replicate ns.length [D.int 1]).flatten, .tup (needs.map vT)]
theorem webV_ok (CW : Addr) (ns : List D) (needs : List (List (List Int))) : webD CW ns.length (webV CW ns needs) := ⟨ns, _, _, rfl, rfl⟩
theorem pick3 {k : Nat} (h : 1 ≤ k ∧ k ≤ 3) : ∃ i, ixN 3 ((k : Int) - 1) = some i ∧ [T.d (D.int 9), T.d (D.int 4), T.d (D.int 2)][i]? = some (T.d (.int (bdK k))) := by
  have : k = 1 ∨ k = 2 ∨ k = 3 := by omega
  rcases this with rfl | rfl | rfl
  · exact ⟨0, by decide, rfl⟩
  · exact ⟨1, by decide, rfl⟩
  · exact ⟨2, by decide, rfl⟩
theorem eqD_bl (a b : Bool) : eqD (.bl a) (.bl b) = some (decide (a = b)) := by cases a <;> cases b <;> rfl
theorem gt_len {α : Type} (p : α → Bool) (l : List α) : decide ((0 : Int) < ((l.filter p).length : Nat)) = l.any p := by
  induction l with
  | nil => rfl
  | cons x l ih =>
    rw [List.filter_cons, List.any_cons]
    cases h : p x
    · simpa using ih
    · simp
theorem rep0 (k : Nat) : (List.replicate k [D.int 0]).flatten = (List.replicate k (0 : Int)).map .int := by
  induction k with
  | zero => rfl
  | succ k ih => rw [List.replicate_succ, List.flatten_cons, ih]; rfl
abbrev eitherV (CW : Addr) : D := .obj CW wNames [.tup [.str "a", .str "b", .str "c"], .tup [.int 1, .int 1, .int 1], .tup [vT [[]], vT [[]], vT [[0], [1]]]]
theorem eitherV_ok (CW : Addr) : webD CW 3 (eitherV CW) := ⟨_, _, _, rfl, rfl⟩
theorem sz100 {n : Nat} (h : n ≤ 100 := by decide) : n ≤ sizeLine := by rw [sizeLine_eq]; omega
theorem sz100' {n : Nat} (h : n ≤ 100 := by decide) : n < sizeLine := by rw [sizeLine_eq]; omega
theorem crEx : CrOk 3 [[3, 0, 1], [0, 2, 1]] [] [[1, 3], [4, 1]] := ⟨by decide, sz100, by decide, by decide, sz100, sz100'⟩
theorem crEx2 : CrOk 3 [[0, 0, 0], [1, 0, 0]] [] [[0, 1]] := ⟨by decide, sz100, by decide, by decide, sz100, sz100'⟩
def DO (o : Option T) : Prop := o = none ∨ ∃ y, o = some (.d y)
def sp_law : SpD := fun Γ Ψ => ∃ s : List Int, Γ = [some (.d (.sq (s.map .int)))] ∧ Ψ Γ (.d (.bl true))
set_option maxHeartbeats 8000000 in
theorem ok_law (k_Web : Maker P w K mg base "Web" 1 CW wNames) (C__law_deal : Callee P w K mg base "_law_deal" 1 2 sp_deal) (C__law_grove : Callee P w K mg base "_law_grove" 3 3 sp_grove) (C__law_any : Callee P w K mg base "_law_any" 1 2 sp_any)
    (C__law_web_of : Callee P w K mg base "_law_web_of" 3 1 (sp_web_of CW)) (C__law_tops : Callee P w K mg base "_law_tops" 1 3 sp_tops) (C__law_lightest : Callee P w K mg base "_law_lightest" 2 1 sp_lightest) (C_least_vectors : Callee P w K mg base "least_vectors" 3 1 sp_least_vectors)
    (C_corners : Callee P w K mg base "corners" 3 4 (sp_corners CW)) (C__law_tried_corners : Callee P w K mg base "_law_tried_corners" 2 4 sp_tried) (C__law_mixed : Callee P w K mg base "_law_mixed" 2 2 sp_mixed) (C__law_box : Callee P w K mg base "_law_box" 1 1 sp_box)
    (C__law_nowhere_more : Callee P w K mg base "_law_nowhere_more" 1 2 sp_is_below) (K_corners : CalleeK P w K mg base "corners" 3 4 (sp_corners CW) ["stands", "web", "front", "sorts"] [1, 3, 0, 2]) (C__law_all : Callee P w K mg base "_law_all" 3 1 sp_all)
    (bt : Blt mg) {f : Addr} {fd : FuncData} (F : Fun K "law" "law" s_law f fd) : FnOk P w K mg base CX0 6 f fd ["script"] (spOf K 1 sp_law) := by
  refine fn_okD (lk := fun i => decide (i < 1)) F sc_law rfl (psd_cons (psd_parC 1 2 (pa_consD (pd_clP C__law_deal (pa_consD (pd_name 0) (pa_consD (pd_int) pa_nilD))) (pa_consD (pd_lst (pa_nilD)) pa_nilD))) (psd_cons (psd_for (pid_range1 rfl bt.range (pa_consD (pd_int) pa_nilD)) (pgd_name 3) (psd_cons (psd_parC 4 5 (pa_consD (pd_cl C__law_grove (pa_consD (pd_name 1) (pa_consD (pd_int) (pa_consD (pd_int) pa_nilD)))) (pa_consD (pd_add (pd_int) (pd_cl C__law_any (pa_consD (pd_name 1) (pa_consD (pd_int) pa_nilD)))) pa_nilD))) (psd_cons (psd_parC 6 7 (pa_consD (pd_clP C__law_web_of (pa_consD (pd_name 4) pa_nilD)) (pa_consD (pd_len bt.len (pa_consD (pd_ix (pd_name 4) (pd_int)) pa_nilD)) pa_nilD))) (psd_cons (psd_set 8 (pd_tupB bt.tuple (pa_consD (pd_lc [("sort", 19)] (pid_range1 rfl bt.range (pa_consD (pd_name 5) pa_nilD)) (pgd_name 19) (ptsd_nil) (pd_tupB bt.tuple (pa_consD (pd_lc [("thing", 20)] (pid_range1 rfl bt.range (pa_consD (pd_name 7) pa_nilD)) (pgd_name 20) (ptsd_nil) (pd_cl C__law_any (pa_consD (pd_name 1) (pa_consD (pd_ix (pd_lst (pa_consD (pd_int) (pa_consD (pd_int) (pa_consD (pd_int) pa_nilD)))) (pd_sub (pd_name 5) (pd_int))) pa_nilD)))) pa_nilD))) pa_nilD))) (psd_cons (psd_set 9 (pd_tupB bt.tuple (pa_consD (pd_lc [("thing", 20)] (pid_range1 rfl bt.range (pa_consD (pd_name 7) pa_nilD)) (pgd_name 20) (ptsd_one (pt_c (c_eq (pd_cl C__law_any (pa_consD (pd_name 1) (pa_consD (pd_int) pa_nilD))) (pd_int)))) (pd_name 20)) pa_nilD))) (psd_cons (psd_set 10 (pd_clP C__law_tops (pa_consD (pd_name 8) (pa_consD (pd_name 9) (pa_consD (pd_name 7) pa_nilD))))) (psd_cons (psd_setLc 11 [("vector", 15)] (pid_range1 rfl bt.range (pa_consD (pd_cl C__law_any (pa_consD (pd_name 1) (pa_consD (pd_int) pa_nilD))) pa_nilD)) (pgd_name 15) (ptsd_nil) (pd_tupB bt.tuple (pa_consD (pd_lc [("top", 21)] (pid_seqF (pd_name 10)) (pgd_name 21) (ptsd_nil) (pd_cl C__law_any (pa_consD (pd_name 1) (pa_consD (pd_add (pd_name 21) (pd_int)) pa_nilD)))) pa_nilD))) (psd_cons (psd_set 12 (pd_clP C__law_lightest (pa_consD (pd_name 11) pa_nilD))) (psd_cons (psd_set 2 (pd_add (pd_name 2) (pd_lst (pa_consD (pd_tup (pa_consD (pd_clP C_least_vectors (pa_consD (pd_name 11) pa_nilD)) (pa_consD (pd_name 12) pa_nilD))) (pa_consD (pd_tup (pa_consD (pd_clP C_least_vectors (pa_consD (pd_tupB bt.tuple (pa_consD (pd_add (pd_name 11) (pd_slice (pd_name 11) (pod_none) (pod_some (pd_int)))) pa_nilD)) pa_nilD)) (pa_consD (pd_name 12) pa_nilD))) pa_nilD))))) (psd_cons (psd_par2 13 14 (pa_consD (pd_clP C_corners (pa_consD (pd_name 6) (pa_consD (pd_name 8) (pa_consD (pd_name 9) (pa_consD (pd_name 12) pa_nilD))))) (pa_consD (pd_clP C__law_tried_corners (pa_consD (pd_name 8) (pa_consD (pd_name 9) (pa_consD (pd_name 7) (pa_consD (pd_name 12) pa_nilD))))) pa_nilD))) (psd_cons (psd_expr (pd_append (pd_name 2) (pa_consD (pd_tup (pa_consD (pd_name 13) (pa_consD (pd_name 14) pa_nilD))) pa_nilD))) (psd_cons (psd_for (pid_seqF (pd_slice (pd_cl C__law_mixed (pa_consD (pd_name 1) (pa_consD (pd_clP C__law_box (pa_consD (pd_name 10) pa_nilD)) pa_nilD))) (pod_none) (pod_some (pd_int)))) (pgd_name 15) (psd_cons (psd_set 16 (pd_c (c_gt (pd_len bt.len (pa_consD (pd_lc [("one", 22)] (pid_seqB (pd_name 12)) (pgd_name 22) (ptsd_one (pt_tru (pd_clP C__law_nowhere_more (pa_consD (pd_name 22) (pa_consD (pd_name 15) pa_nilD))))) (pd_name 22)) pa_nilD)) (pd_int)))) (psd_cons (psd_set 17 (pd_c (c_gt (pd_len bt.len (pa_consD (pd_lc [("one", 22)] (pid_seqB (pd_name 14)) (pgd_name 22) (ptsd_one (pt_tru (pd_clP C__law_nowhere_more (pa_consD (pd_name 15) (pa_consD (pd_name 22) pa_nilD))))) (pd_name 22)) pa_nilD)) (pd_int)))) (psd_one (psd_expr (pd_append (pd_name 2) (pa_consD (pd_tup (pa_consD (pd_c (c_ne (pd_name 16) (pd_name 17))) (pa_consD (pd_bl) pa_nilD))) pa_nilD))))))) (psd_one (psd_set 2 (pd_add (pd_name 2) (pd_lst (pa_consD (pd_tup (pa_consD (pd_clP C_corners (pa_consD (pd_name 6) (pa_consD (pd_name 8) (pa_consD (pd_name 9) (pa_consD (pd_tup (pa_nilD)) pa_nilD))))) (pa_consD (pd_tup (pa_consD (pd_name 10) pa_nilD)) pa_nilD))) (pa_consD (pd_tup (pa_consD (pd_clP C_corners (pa_consD (pd_name 6) (pa_consD (pd_name 8) (pa_consD (pd_name 9) (pa_consD (pd_tup (pa_consD (pd_rep (pd_tup (pa_consD (pd_int) pa_nilD)) (pd_name 5)) pa_nilD)) pa_nilD))))) (pa_consD (pd_tup (pa_nilD)) pa_nilD))) (pa_consD (pd_tup (pa_consD (pd_clK K_corners (pkd_cons (pd_name 9) (pkd_cons (pd_name 6) (pkd_cons (pd_name 12) (pkd_cons (pd_name 8) pkd_nil))))) (pa_consD (pd_name 14) pa_nilD))) pa_nilD))))))))))))))))))) (psd_cons (psd_set 18 (pd_mk k_Web (pa_consD (pd_tup (pa_consD (pd_str) (pa_consD (pd_str) (pa_consD (pd_str) pa_nilD)))) (pa_consD (pd_tup (pa_consD (pd_int) (pa_consD (pd_int) (pa_consD (pd_int) pa_nilD)))) (pa_consD (pd_tup (pa_consD (pd_tup (pa_consD (pd_tup (pa_nilD)) pa_nilD)) (pa_consD (pd_tup (pa_consD (pd_tup (pa_nilD)) pa_nilD)) (pa_consD (pd_tup (pa_consD (pd_tup (pa_consD (pd_int) pa_nilD)) (pa_consD (pd_tup (pa_consD (pd_int) pa_nilD)) pa_nilD))) pa_nilD)))) pa_nilD))))) (psd_cons (psd_set 8 (pd_tup (pa_consD (pd_tup (pa_consD (pd_int) (pa_consD (pd_int) (pa_consD (pd_int) pa_nilD)))) (pa_consD (pd_tup (pa_consD (pd_int) (pa_consD (pd_int) (pa_consD (pd_int) pa_nilD)))) pa_nilD)))) (psd_cons (psd_set 2 (pd_add (pd_name 2) (pd_lst (pa_consD (pd_tup (pa_consD (pd_clP C_corners (pa_consD (pd_name 18) (pa_consD (pd_name 8) (pa_consD (pd_tup (pa_nilD)) (pa_consD (pd_tup (pa_consD (pd_tup (pa_consD (pd_int) (pa_consD (pd_int) pa_nilD))) (pa_consD (pd_tup (pa_consD (pd_int) (pa_consD (pd_int) pa_nilD))) pa_nilD))) pa_nilD))))) (pa_consD (pd_tup (pa_consD (pd_tup (pa_consD (pd_int) (pa_consD (pd_int) pa_nilD))) (pa_consD (pd_tup (pa_consD (pd_int) (pa_consD (pd_int) pa_nilD))) (pa_consD (pd_tup (pa_consD (pd_int) (pa_consD (pd_int) pa_nilD))) pa_nilD)))) pa_nilD))) (pa_consD (pd_tup (pa_consD (pd_clP C_least_vectors (pa_consD (pd_lst (pa_consD (pd_tup (pa_consD (pd_int) (pa_consD (pd_int) pa_nilD))) (pa_consD (pd_tup (pa_consD (pd_int) (pa_consD (pd_int) pa_nilD))) (pa_consD (pd_tup (pa_consD (pd_int) (pa_consD (pd_int) pa_nilD))) (pa_consD (pd_tup (pa_consD (pd_int) (pa_consD (pd_int) pa_nilD))) pa_nilD))))) pa_nilD)) (pa_consD (pd_tup (pa_consD (pd_tup (pa_consD (pd_int) (pa_consD (pd_int) pa_nilD))) (pa_consD (pd_tup (pa_consD (pd_int) (pa_consD (pd_int) pa_nilD))) pa_nilD))) pa_nilD))) (pa_consD (pd_tup (pa_consD (pd_clP C_least_vectors (pa_consD (pd_lst (pa_nilD)) pa_nilD)) (pa_consD (pd_tup (pa_nilD)) pa_nilD))) (pa_consD (pd_tup (pa_consD (pd_clP C_least_vectors (pa_consD (pd_lst (pa_consD (pd_tup (pa_consD (pd_int) (pa_consD (pd_int) pa_nilD))) (pa_consD (pd_tup (pa_consD (pd_int) (pa_consD (pd_int) pa_nilD))) (pa_consD (pd_tup (pa_consD (pd_int) (pa_consD (pd_int) pa_nilD))) (pa_consD (pd_tup (pa_consD (pd_int) (pa_consD (pd_int) pa_nilD))) pa_nilD))))) pa_nilD)) (pa_consD (pd_tup (pa_consD (pd_tup (pa_consD (pd_int) (pa_consD (pd_int) pa_nilD))) (pa_consD (pd_tup (pa_consD (pd_int) (pa_consD (pd_int) pa_nilD))) (pa_consD (pd_tup (pa_consD (pd_int) (pa_consD (pd_int) pa_nilD))) pa_nilD)))) pa_nilD))) pa_nilD))))))) (psd_one (psd_ret (pd_clP C__law_all (pa_consD (pd_add (pd_name 2) (pd_lst (pa_consD (pd_tup (pa_consD (pd_clP C_corners (pa_consD (pd_name 18) (pa_consD (pd_tup (pa_consD (pd_tup (pa_consD (pd_int) (pa_consD (pd_int) (pa_consD (pd_int) pa_nilD)))) (pa_consD (pd_tup (pa_consD (pd_int) (pa_consD (pd_int) (pa_consD (pd_int) pa_nilD)))) pa_nilD))) (pa_consD (pd_tup (pa_nilD)) (pa_consD (pd_tup (pa_consD (pd_tup (pa_consD (pd_int) (pa_consD (pd_int) pa_nilD))) pa_nilD)) pa_nilD))))) (pa_consD (pd_tup (pa_consD (pd_tup (pa_consD (pd_int) (pa_consD (pd_int) pa_nilD))) pa_nilD)) pa_nilD))) pa_nilD))) pa_nilD))))))))) fun Γ Ψ h _ => ?_
  obtain ⟨s, rfl, q⟩ := h
  refine ⟨⟨.inl rfl, trivial⟩, ?_⟩
  refine seq_inv (fun Γ => ∃ cs m, DealOk cs m ∧ Γ = [some (.d (.sq (s.map .int))), some (dealT cs m), some (.li ((([] : List D).map twin).map .d)), none, none, none, none, none, none, none, none, none, none, none, none, none, none, none, none, none, none, none, none]) (fun E h1 h2 h3 h4 => ?_) (fun Γ hI => ?_)
  · walk_at "mv"
    refine ⟨s, 58, ⟨by decide, by decide⟩, rfl, fun cs m ok => ?_⟩
    walk_at "mv"
    exact ⟨fun a e => by cases e; decide, fun a e => by cases e; decide, h1 _ ⟨cs, m, ok, rfl⟩⟩
  · obtain ⟨cs, m, ok, rfl⟩ := hI
    refine seq_inv (fun Γ => ∃ cs m ps o3 o4 o5 o6 o7 o8 o9 o10 o11 o12 o13 o14 o15 o16 o17 o18, DealOk cs m ∧ Prs ps 108 ∧ Γ = [some (.d (.sq (s.map .int))), some (dealT cs m), some (.li ((ps.map twin).map .d)), o3, o4, o5, o6, o7, o8, o9, o10, o11, o12, o13, o14, o15, o16, o17, o18, none, none, none, none]) (fun E h1 h2 h3 h4 => ?_) (fun Γ hI => ?_)
    · refine ⟨rfl, by decide, by decide, rfl, ?_⟩
      refine forD_inv (fun i Γ => ∃ cs m ps o3 o4 o5 o6 o7 o8 o9 o10 o11 o12 o13 o14 o15 o16 o17 o18, DealOk cs m ∧ Prs ps (18 * i) ∧ DO o15 ∧ Γ = [some (.d (.sq (s.map .int))), some (dealT cs m), some (.li ((ps.map twin).map .d)), o3, o4, o5, o6, o7, o8, o9, o10, o11, o12, o13, o14, o15, o16, o17, o18, none, none, none, none]) ⟨cs, m, [], none, none, none, none, none, none, none, none, none, none, none, none, none, none, none, none, ok, ⟨Nat.zero_le _, fun x hx => by cases hx⟩, .inl rfl, rfl⟩ (fun i x Γ E hx hI e1 e2 e3 e4 => ?_) (fun Γ hI => ?_)
      · obtain ⟨cs, m, ps, o3, o4, o5, o6, o7, o8, o9, o10, o11, o12, o13, o14, o15, o16, o17, o18, ok, hps, ho15, rfl⟩ := hI
        have hi6 : i < 6 := by
          have := (List.getElem?_eq_some_iff.mp hx).1
          rw [rngD, List.length_map, List.length_range] at this
          exact this
        refine ⟨_, rfl, ?_⟩
        generalize (some (T.d x)) = o3
        refine seq_inv (fun Γ => ∃ cs m ns needs k, DealOk cs m ∧ GroveOk 3 5 ns needs ∧ (1 ≤ k ∧ k ≤ 3) ∧ Γ = [some (.d (.sq (s.map .int))), some (dealT cs m), some (.li ((ps.map twin).map .d)), o3, some (.d (groveD ns needs)), some (.d (.int (k : Nat))), o6, o7, o8, o9, o10, o11, o12, o13, o14, o15, o16, o17, o18, none, none, none, none]) (fun E h1 h2 h3 h4 => ?_) (fun Γ hI => ?_)
        · walk_at "mv"
          refine ⟨cs, m, 3, 5, ok, ⟨by decide, by decide, by decide⟩, rfl, fun cs m ns needs ok gok => ?_⟩
          walk_at "mv"
          refine ⟨cs, m, 3, ok, ⟨by decide, by decide⟩, rfl, fun cs m r ok r0 r1 => ?_⟩
          obtain ⟨k, rfl⟩ := Int.eq_ofNat_of_zero_le r0
          walk_at "mv"
          exact ⟨fun a e => e.elim, fun a e => e.elim, h1 _ ⟨cs, m, ns, needs, 1 + k, ok, gok, by omega, by rw [Int.natCast_add]; rfl⟩⟩
        · obtain ⟨cs, m, ns, needs, k, ok, gok, hk, rfl⟩ := hI
          have n0 := gok.l0
          have n1 := gok.l1
          have nl := gok.nl
          refine seq_inv (fun Γ => Γ = [some (.d (.sq (s.map .int))), some (dealT cs m), some (.li ((ps.map twin).map .d)), o3, some (.d (groveD ns needs)), some (.d (.int (k : Nat))), some (.d (webV CW ns needs)), some (.d (.int (ns.length : Nat))), o8, o9, o10, o11, o12, o13, o14, o15, o16, o17, o18, none, none, none, none]) (fun E h1 h2 h3 h4 => ?_) (fun Γ hI => ?_)
          · walk_at "mv"
            refine ⟨ns, needs, ⟨by intro e; rw [e] at n0; simp at n0, by omega, by rw [sizeLine_eq]; omega⟩, rfl, ?_⟩
            walk_at "mv"
            simp only [at2_0]
            exact ⟨fun a e => e.elim, fun a e => e.elim, h1 _ rfl⟩
          · subst hI
            refine seq_inv (fun Γ => ∃ cs m sorts, DealOk cs m ∧ SortsOk ns.length k sorts ∧ Γ = [some (.d (.sq (s.map .int))), some (dealT cs m), some (.li ((ps.map twin).map .d)), o3, some (.d (groveD ns needs)), some (.d (.int (k : Nat))), some (.d (webV CW ns needs)), some (.d (.int (ns.length : Nat))), some (.d (vT sorts)), o9, o10, o11, o12, o13, o14, o15, o16, o17, o18, none, none, none, none]) (fun E h1 h2 h3 h4 => ?_) (fun Γ hI => ?_)
            · walk_at "mv"
              refine ⟨by omega, by omega, ?_⟩
              refine lcD_inv (fun j Γ => ∃ cs m rows, DealOk cs m ∧ (rows.length = j ∧ (∀ ws ∈ rows, ws.length = ns.length) ∧ ∀ ws ∈ rows, ∀ w ∈ ws, 0 ≤ w ∧ w < bdK k) ∧ Γ = [some (.d (.sq (s.map .int))), some (dealT cs m), some (.li ((ps.map twin).map .d)), o3, some (.d (groveD ns needs)), some (.d (.int (k : Nat))), some (.d (webV CW ns needs)), some (.d (.int (ns.length : Nat))), o8, o9, o10, o11, o12, o13, o14, o15, o16, o17, o18, none, none, none, none, some (.li ((rows.map iT).map .d))]) ⟨cs, m, [], ok, ⟨rfl, by simp, by simp⟩, rfl⟩ (fun j x Γ E hx hI h => ?_) (fun Γ hI => ?_)
              · obtain ⟨cs, m, rows, ok, ⟨r1, r2, r3⟩, rfl⟩ := hI
                have hj := (List.getElem?_eq_some_iff.mp hx).1
                rw [rngD, List.length_map, List.length_range] at hj
                walk_at "mv"
                refine ⟨by omega, by omega, ?_⟩
                refine lcD_inv (fun j Γ => ∃ cs m vs, DealOk cs m ∧ (vs.length = j ∧ ∀ w ∈ vs, 0 ≤ w ∧ w < bdK k) ∧ Γ = [some (.d (.sq (s.map .int))), some (dealT cs m), some (.li ((ps.map twin).map .d)), o3, some (.d (groveD ns needs)), some (.d (.int (k : Nat))), some (.d (webV CW ns needs)), some (.d (.int (ns.length : Nat))), o8, o9, o10, o11, o12, o13, o14, o15, o16, o17, o18, some (.d x), none, none, none, some (.li ((rows.map iT).map .d)), some (.li ((vs.map .int).map .d))]) ⟨cs, m, [], ok, ⟨rfl, by simp⟩, rfl⟩ (fun j' x' Γ E' hx' hI h' => ?_) (fun Γ hI => ?_)
                · obtain ⟨cs, m, vs, ok, ⟨v1, v2⟩, rfl⟩ := hI
                  have hj' := (List.getElem?_eq_some_iff.mp hx').1
                  rw [rngD, List.length_map, List.length_range] at hj'
                  walk_at "mv"
                  obtain ⟨i3, a1, a2⟩ := pick3 hk
                  rw [a1]
                  dsimp only
                  rw [a2]
                  have b0 := bdK_pos k
                  have b1 := bdK_le k
                  walk_at "mv"
                  refine ⟨by rw [sizeLine_eq]; decide, cs, m, bdK k, ok, ⟨by omega, by omega⟩, rfl, fun cs m r ok r0 r1 => ?_⟩
                  walk_at "mv"
                  refine ⟨by rw [sizeLine_eq]; omega, ?_⟩
                  rw [show List.map T.d (List.map D.int vs) ++ [T.d (D.int r)] = ((vs ++ [r]).map .int).map T.d by simp]
                  refine h' _ ⟨cs, m, vs ++ [r], ok, ⟨by simp [v1], fun w hw => ?_⟩, rfl⟩
                  rcases List.mem_append.mp hw with hw | hw
                  · exact v2 w hw
                  · rw [List.mem_singleton.mp hw]; exact ⟨r0, r1⟩
                · obtain ⟨cs, m, vs, ok, ⟨v1, v2⟩, rfl⟩ := hI
                  rw [rngD, List.length_map, List.length_range, Int.toNat_natCast] at v1
                  walk_at "mv"
                  refine ⟨by rw [sizeLine_eq]; omega, ?_⟩
                  rw [show List.map T.d (List.map iT rows) ++ [T.d (D.tup (List.map D.int vs))] = ((rows ++ [vs]).map iT).map T.d by simp]
                  refine h _ ⟨cs, m, rows ++ [vs], ok, ⟨by simp [r1], fun ws hw => ?_, fun ws hw => ?_⟩, rfl⟩
                  · rcases List.mem_append.mp hw with hw | hw
                    · exact r2 ws hw
                    · rw [List.mem_singleton.mp hw]; exact v1
                  · rcases List.mem_append.mp hw with hw | hw
                    · exact r3 ws hw
                    · rw [List.mem_singleton.mp hw]; exact v2
              · obtain ⟨cs, m, rows, ok, ⟨r1, r2, r3⟩, rfl⟩ := hI
                rw [rngD, List.length_map, List.length_range, Int.toNat_natCast] at r1
                walk_at "mv"
                exact h1 _ ⟨cs, m, rows, ok, ⟨by omega, by omega, hk.1, hk.2, r1, r2, r3⟩, rfl⟩
            · obtain ⟨cs, m, sorts, ok, sok, rfl⟩ := hI
              refine seq_inv (fun Γ => ∃ cs m ss, DealOk cs m ∧ Γ = [some (.d (.sq (s.map .int))), some (dealT cs m), some (.li ((ps.map twin).map .d)), o3, some (.d (groveD ns needs)), some (.d (.int (k : Nat))), some (.d (webV CW ns needs)), some (.d (.int (ns.length : Nat))), some (.d (vT sorts)), some (.d (.tup (nD ss))), o10, o11, o12, o13, o14, o15, o16, o17, o18, none, none, none, none]) (fun E h1 h2 h3 h4 => ?_) (fun Γ hI => ?_)
              · walk_at "mv"
                refine ⟨by omega, by omega, ?_⟩
                refine lcD_inv (fun j Γ => ∃ cs m, ∃ ss : List Nat, DealOk cs m ∧ ss.length ≤ j ∧ Γ = [some (.d (.sq (s.map .int))), some (dealT cs m), some (.li ((ps.map twin).map .d)), o3, some (.d (groveD ns needs)), some (.d (.int (k : Nat))), some (.d (webV CW ns needs)), some (.d (.int (ns.length : Nat))), some (.d (vT sorts)), o9, o10, o11, o12, o13, o14, o15, o16, o17, o18, none, none, none, none, some (.li ((nD ss).map .d))]) ⟨cs, m, [], ok, Nat.le_refl _, rfl⟩ (fun j x Γ E hx hI h => ?_) (fun Γ hI => ?_)
                · obtain ⟨cs, m, ss, ok, hs, rfl⟩ := hI
                  rw [rng0, List.getElem?_map] at hx
                  obtain ⟨t, ht, rfl⟩ := Option.map_eq_some_iff.mp hx
                  have hj := (List.getElem?_eq_some_iff.mp ht).1
                  rw [List.length_range] at hj
                  walk_at "mv"
                  refine ⟨cs, m, 4, ok, ⟨by decide, by decide⟩, rfl, fun cs m r ok r0 r1 => ?_⟩
                  walk_at "mv"
                  rw [eqD_int]
                  walk_at "mv"
                  by_cases h0 : r = 0
                  · rw [if_pos h0]
                    refine ⟨by rw [sizeLine_eq]; omega, ?_⟩
                    rw [show List.map T.d (nD ss) ++ [T.d (D.int (t : Nat))] = (nD (ss ++ [t])).map T.d by simp [nD]]
                    exact h _ ⟨cs, m, ss ++ [t], ok, by simp; omega, rfl⟩
                  · rw [if_neg h0]
                    exact h _ ⟨cs, m, ss, ok, by omega, rfl⟩
                · obtain ⟨cs, m, ss, ok, hs, rfl⟩ := hI
                  walk_at "mv"
                  exact h1 _ ⟨cs, m, ss, ok, rfl⟩
              · obtain ⟨cs, m, ss, ok, rfl⟩ := hI
                have tz := tops_sz sok ss
                have hrow : ∀ ws ∈ sorts, ns.length ≤ ws.length := fun ws hws => by rw [sok.row ws hws]; exact Nat.le_refl _
                have hsl : sorts.length ≤ sizeLine := by rw [sok.len, sizeLine_eq]; omega
                have hnl : ns.length ≤ sizeLine := by rw [sizeLine_eq]; omega
                refine seq_inv (fun Γ => Γ = [some (.d (.sq (s.map .int))), some (dealT cs m), some (.li ((ps.map twin).map .d)), o3, some (.d (groveD ns needs)), some (.d (.int (k : Nat))), some (.d (webV CW ns needs)), some (.d (.int (ns.length : Nat))), some (.d (vT sorts)), some (.d (.tup (nD ss))), some (.d (iT (weightV sorts (freeT ns.length ss)))), o11, o12, o13, o14, o15, o16, o17, o18, none, none, none, none]) (fun E h1 h2 h3 h4 => ?_) (fun Γ hI => ?_)
                · walk_at "mv"
                  refine ⟨ns.length, sorts, ss, ⟨hnl, hsl, hrow⟩, rfl, ?_⟩
                  walk_at "mv"
                  exact h1 _ rfl
                · subst hI
                  refine seq_inv (fun Γ => ∃ cs m vs o15, DealOk cs m ∧ VsOk k vs ∧ DO o15 ∧ Γ = [some (.d (.sq (s.map .int))), some (dealT cs m), some (.li ((ps.map twin).map .d)), o3, some (.d (groveD ns needs)), some (.d (.int (k : Nat))), some (.d (webV CW ns needs)), some (.d (.int (ns.length : Nat))), some (.d (vT sorts)), some (.d (.tup (nD ss))), some (.d (iT (weightV sorts (freeT ns.length ss)))), some (.li ((vs.map iT).map .d)), o12, o13, o14, o15, o16, o17, o18, none, none, none, none]) (fun E h1 h2 h3 h4 => ?_) (fun Γ hI => ?_)
                  · walk_at "mv"
                    refine ⟨cs, m, 7, ok, ⟨by decide, by decide⟩, rfl, fun cs m r ok r0 r1 => ?_⟩
                    walk_at "mv"
                    refine ⟨by omega, by omega, ?_⟩
                    refine lcD_inv (fun j Γ => ∃ cs m rows, DealOk cs m ∧ (rows.length = j ∧ (∀ ws ∈ rows, ws.length = k)) ∧ Γ = [some (.d (.sq (s.map .int))), some (dealT cs m), some (.li ((ps.map twin).map .d)), o3, some (.d (groveD ns needs)), some (.d (.int (k : Nat))), some (.d (webV CW ns needs)), some (.d (.int (ns.length : Nat))), some (.d (vT sorts)), some (.d (.tup (nD ss))), some (.d (iT (weightV sorts (freeT ns.length ss)))), o11, o12, o13, o14, none, o16, o17, o18, none, none, none, none, some (.li ((rows.map iT).map .d))]) ⟨cs, m, [], ok, ⟨rfl, by simp⟩, rfl⟩ (fun j x Γ E hx hI h => ?_) (fun Γ hI => ?_)
                    · obtain ⟨cs, m, rows, ok, ⟨r1, r2⟩, rfl⟩ := hI
                      have hj := (List.getElem?_eq_some_iff.mp hx).1
                      rw [rngD, List.length_map, List.length_range] at hj
                      walk_at "mv"
                      refine lcD_inv (fun j Γ => ∃ cs m vs, DealOk cs m ∧ (vs.length = j) ∧ Γ = [some (.d (.sq (s.map .int))), some (dealT cs m), some (.li ((ps.map twin).map .d)), o3, some (.d (groveD ns needs)), some (.d (.int (k : Nat))), some (.d (webV CW ns needs)), some (.d (.int (ns.length : Nat))), some (.d (vT sorts)), some (.d (.tup (nD ss))), some (.d (iT (weightV sorts (freeT ns.length ss)))), o11, o12, o13, o14, some (.d x), o16, o17, o18, none, none, none, none, some (.li ((rows.map iT).map .d)), some (.li ((vs.map .int).map .d))]) ⟨cs, m, [], ok, rfl, rfl⟩ (fun j' x' Γ E' hx' hI h' => ?_) (fun Γ hI => ?_)
                      · obtain ⟨cs, m, vs, ok, v1, rfl⟩ := hI
                        rw [List.getElem?_map] at hx'
                        obtain ⟨t, ht, rfl⟩ := Option.map_eq_some_iff.mp hx'
                        have ht' := tz.le t (List.mem_of_getElem? ht)
                        have hj' := (List.getElem?_eq_some_iff.mp ht).1
                        rw [tz.len] at hj'
                        walk_at "mv"
                        refine ⟨cs, m, t + 3, ok, ⟨by omega, by omega⟩, rfl, fun cs m r ok r0 r1 => ?_⟩
                        walk_at "mv"
                        refine ⟨by rw [sizeLine_eq]; omega, ?_⟩
                        rw [show List.map T.d (List.map D.int vs) ++ [T.d (D.int r)] = ((vs ++ [r]).map .int).map T.d by simp]
                        exact h' _ ⟨cs, m, vs ++ [r], ok, by simp [v1], rfl⟩
                      · obtain ⟨cs, m, vs, ok, v1, rfl⟩ := hI
                        rw [List.length_map, tz.len] at v1
                        walk_at "mv"
                        refine ⟨by rw [sizeLine_eq]; omega, ?_⟩
                        rw [show List.map T.d (List.map iT rows) ++ [T.d (D.tup (List.map D.int vs))] = ((rows ++ [vs]).map iT).map T.d by simp]
                        refine h _ ⟨cs, m, rows ++ [vs], ok, ⟨by simp [r1], fun ws hw => ?_⟩, rfl⟩
                        rcases List.mem_append.mp hw with hw | hw
                        · exact r2 ws hw
                        · rw [List.mem_singleton.mp hw]; exact v1
                    · obtain ⟨cs, m, rows, ok, ⟨r1, r2⟩, rfl⟩ := hI
                      rw [rngD, List.length_map, List.length_range] at r1
                      rcases ho15 with rfl | ⟨y, rfl⟩
                      · walk_at "mv"
                        exact h1 _ ⟨cs, m, rows, _, ok, ⟨by omega, r2, hk.1, hk.2⟩, .inl rfl, rfl⟩
                      · walk_at "mv"
                        exact h1 _ ⟨cs, m, rows, _, ok, ⟨by omega, r2, hk.1, hk.2⟩, .inr ⟨y, rfl⟩, rfl⟩
                  · obtain ⟨cs, m, vs, o15, ok, vok, ho15, rfl⟩ := hI
                    have tok := tz.toTopsOk
                    generalize ht : weightV sorts (freeT ns.length ss) = tops at tz tok ⊢
                    refine seq_inv (fun Γ => Γ = [some (.d (.sq (s.map .int))), some (dealT cs m), some (.li ((ps.map twin).map .d)), o3, some (.d (groveD ns needs)), some (.d (.int (k : Nat))), some (.d (webV CW ns needs)), some (.d (.int (ns.length : Nat))), some (.d (vT sorts)), some (.d (.tup (nD ss))), some (.d (iT tops)), some (.d (vL vs)), some (.d (vT (lightestOf vs))), o13, o14, o15, o16, o17, o18, none, none, none, none]) (fun E h1 h2 h3 h4 => ?_) (fun Γ hI => ?_)
                    · walk_at "mv"
                      refine ⟨vs, vok.szS, rfl, ?_⟩
                      walk_at "mv"
                      exact h1 _ rfl
                    · subst hI
                      have fok := vok.front
                      have lss := least_some vok.each
                      refine seq_inv (fun Γ => Γ = [some (.d (.sq (s.map .int))), some (dealT cs m), some (.li (((ps ++ [vT (lightestOf vs), vT (lightestOf vs)]).map twin).map .d)), o3, some (.d (groveD ns needs)), some (.d (.int (k : Nat))), some (.d (webV CW ns needs)), some (.d (.int (ns.length : Nat))), some (.d (vT sorts)), some (.d (.tup (nD ss))), some (.d (iT tops)), some (.d (vL vs)), some (.d (vT (lightestOf vs))), o13, o14, o15, o16, o17, o18, none, none, none, none]) (fun E h1 h2 h3 h4 => ?_) (fun Γ hI => ?_)
                      · walk_at "mv"
                        refine ⟨vs, vL vs, vok.szT, .inl rfl, rfl, ?_⟩
                        walk_at "mv"
                        have hv6 := vok.n
                        rw [show (2 : Int) = ((2 : Nat) : Int) from rfl, cut_hi, ← List.map_take, ← List.map_append]
                        refine ⟨by rw [sizeLine_eq]; decide, by rw [List.length_map, List.length_take, sizeLine_eq]; omega, vs ++ vs.take 2, vT (vs ++ vs.take 2), vok.szT2, .inr rfl, rfl, ?_⟩
                        walk_at "mv"
                        refine ⟨by rw [sizeLine_eq]; decide, by rw [sizeLine_eq]; decide, by have := hps.len; rw [sizeLine_eq]; simp; omega, ?_⟩
                        rw [lss.1, lss.2]
                        refine h1 _ ?_
                        simp
                      · subst hI
                        generalize lightestOf vs = front at fok ⊢
                        have tp : ∀ x ∈ tops, 0 ≤ x := fun x hx => (tz.le x hx).1
                        have fl : ∀ v ∈ front, v.length = tops.length := fun v hv => by rw [fok.each v hv, tz.len]
                        have crt := corners_tried tp fl
                        have ctop := corners_tops tp fl
                        refine seq_inv (fun Γ => Γ = [some (.d (.sq (s.map .int))), some (dealT cs m), some (.li (((ps ++ [vT front, vT front]).map twin).map .d)), o3, some (.d (groveD ns needs)), some (.d (.int (k : Nat))), some (.d (webV CW ns needs)), some (.d (.int (ns.length : Nat))), some (.d (vT sorts)), some (.d (.tup (nD ss))), some (.d (iT tops)), some (.d (vL vs)), some (.d (vT front)), some (.d (vT (triedOf tops front))), some (.d (vT (triedOf tops front))), o15, o16, o17, o18, none, none, none, none]) (fun E h1 h2 h3 h4 => ?_) (fun Γ hI => ?_)
                        · walk_at "mv"
                          refine ⟨ns.length, sorts, ss, front, _, cr_ok sok ss fok, webV_ok CW ns needs, rfl, ?_⟩
                          rw [ht]
                          walk_at "mv"
                          refine ⟨ns.length, sorts, ss, front, ⟨⟨hnl, hrow⟩, by rw [ht]; exact tok, by have := fok.n; rw [sizeLine_eq]; omega, fun v hv => by rw [fok.each v hv, sizeLine_eq]; omega⟩, rfl, ?_⟩
                          rw [ht, crt]
                          walk_at "mv"
                          exact ⟨fun a e => e.elim, fun a e => e.elim, h1 _ rfl⟩
                        · subst hI
                          refine seq_inv (fun Γ => Γ = [some (.d (.sq (s.map .int))), some (dealT cs m), some (.li (((ps ++ [vT front, vT front, vT (triedOf tops front)]).map twin).map .d)), o3, some (.d (groveD ns needs)), some (.d (.int (k : Nat))), some (.d (webV CW ns needs)), some (.d (.int (ns.length : Nat))), some (.d (vT sorts)), some (.d (.tup (nD ss))), some (.d (iT tops)), some (.d (vL vs)), some (.d (vT front)), some (.d (vT (triedOf tops front))), some (.d (vT (triedOf tops front))), o15, o16, o17, o18, none, none, none, none]) (fun E h1 h2 h3 h4 => ?_) (fun Γ hI => ?_)
                          · walk_at "mv"
                            refine ⟨by rw [sizeLine_eq]; decide, by have := hps.len; rw [sizeLine_eq]; omega, h1 _ ?_⟩
                            simp
                          · subst hI
                            have cpf : Cp (vT front) := fok.cp
                            have cpt : Cp (vT (triedOf tops front)) := tried_cp tz hk.2 front
                            have hps2 : Prs (ps ++ [vT front, vT front, vT (triedOf tops front)]) (18 * i + 3) := hps.append (fun x hx => by
                              simp only [List.mem_cons, List.not_mem_nil, or_false] at hx
                              rcases hx with rfl | rfl | rfl
                              · exact cpf
                              · exact cpf
                              · exact cpt) (Nat.le_refl _)
                            generalize (ps ++ [vT front, vT front, vT (triedOf tops front)]) = ps at hps2 ⊢
                            refine seq_inv (fun Γ => ∃ cs m ps o15 o16 o17, DealOk cs m ∧ Prs ps (18 * i + 15) ∧ DO o15 ∧ Γ = [some (.d (.sq (s.map .int))), some (dealT cs m), some (.li ((ps.map twin).map .d)), o3, some (.d (groveD ns needs)), some (.d (.int (k : Nat))), some (.d (webV CW ns needs)), some (.d (.int (ns.length : Nat))), some (.d (vT sorts)), some (.d (.tup (nD ss))), some (.d (iT tops)), some (.d (vL vs)), some (.d (vT front)), some (.d (vT (triedOf tops front))), some (.d (vT (triedOf tops front))), o15, o16, o17, o18, none, none, none, none]) (fun E h1 h2 h3 h4 => ?_) (fun Γ hI => ?_)
                            · walk_at "mv"
                              refine ⟨tops, tok, rfl, ?_⟩
                              walk_at "mv"
                              refine ⟨cs, m, (boxOf tops).map iT, _, ok, by rw [List.length_map, box_len]; have := tz.sz2; omega, by rw [List.length_map, box_len, sizeLine_eq]; have := tz.sz2; omega, .inl rfl, rfl, fun cs m ys ok hp => ?_⟩
                              walk_at "mv"
                              rw [show (12 : Int) = ((12 : Nat) : Int) from rfl, cut_hi]
                              refine forD_inv (fun j Γ => ∃ ps o15 o16 o17, Prs ps (18 * i + 3 + j) ∧ DO o15 ∧ Γ = [some (.d (.sq (s.map .int))), some (dealT cs m), some (.li ((ps.map twin).map .d)), o3, some (.d (groveD ns needs)), some (.d (.int (k : Nat))), some (.d (webV CW ns needs)), some (.d (.int (ns.length : Nat))), some (.d (vT sorts)), some (.d (.tup (nD ss))), some (.d (iT tops)), some (.d (vL vs)), some (.d (vT front)), some (.d (vT (triedOf tops front))), some (.d (vT (triedOf tops front))), o15, o16, o17, o18, none, none, none, none]) ⟨ps, o15, o16, o17, hps2, ho15, rfl⟩ (fun j x Γ E hx hI e1 e2 e3 e4 => ?_) (fun Γ hI => ?_)
                              · obtain ⟨ps, o15, o16, o17, hps, ho15, rfl⟩ := hI
                                have hj := (List.getElem?_eq_some_iff.mp hx).1
                                rw [List.length_take] at hj
                                obtain ⟨u, hu, rfl⟩ := List.mem_map.mp (hp.mem_iff.mp (List.mem_of_mem_take (List.mem_of_getElem? hx)))
                                have hul := box_mem_len hu
                                have xr := over_xor fl (crt ▸ ctop) hu
                                have hk3 : u.length ≤ sizeLine := by rw [hul, tz.len, sizeLine_eq]; omega
                                refine ⟨_, rfl, ?_⟩
                                refine seq_inv (fun Γ => Γ = [some (.d (.sq (s.map .int))), some (dealT cs m), some (.li ((ps.map twin).map .d)), o3, some (.d (groveD ns needs)), some (.d (.int (k : Nat))), some (.d (webV CW ns needs)), some (.d (.int (ns.length : Nat))), some (.d (vT sorts)), some (.d (.tup (nD ss))), some (.d (iT tops)), some (.d (vL vs)), some (.d (vT front)), some (.d (vT (triedOf tops front))), some (.d (vT (triedOf tops front))), some (.d (iT u)), some (.d (.bl (front.any fun one => isBelow one u))), o17, o18, none, none, none, none]) (fun E h1 h2 h3 h4 => ?_) (fun Γ hI => ?_)
                                · walk_at "mv"
                                  refine lcD_pure iT (fun one => isBelow one u) iT (fun ts => [some (.d (.sq (s.map .int))), some (dealT cs m), some (.li ((ps.map twin).map .d)), o3, some (.d (groveD ns needs)), some (.d (.int (k : Nat))), some (.d (webV CW ns needs)), some (.d (.int (ns.length : Nat))), some (.d (vT sorts)), some (.d (.tup (nD ss))), some (.d (iT tops)), some (.d (vL vs)), some (.d (vT front)), some (.d (vT (triedOf tops front))), some (.d (vT (triedOf tops front))), some (.d (iT u)), o16, o17, o18, none, none, none, none, some (.li ts)]) (by have := fok.n; rw [sizeLine_eq]; show 0 + front.length ≤ 16777216; omega) (fun v hv ts K hz hk => ?_) ?_
                                  · walk_at "mv"
                                    refine ⟨v, u, by rw [fl v hv, tz.len, sizeLine_eq]; omega, rfl, ?_⟩
                                    walk_at "mv"
                                    by_cases h : isBelow v u = true
                                    · simpa [h, hz] using hk
                                    · simpa [h, hz] using hk
                                  · walk_at "mv"
                                    rw [gt_len]
                                    exact h1 _ rfl
                                · subst hI
                                  refine seq_inv (fun Γ => Γ = [some (.d (.sq (s.map .int))), some (dealT cs m), some (.li ((ps.map twin).map .d)), o3, some (.d (groveD ns needs)), some (.d (.int (k : Nat))), some (.d (webV CW ns needs)), some (.d (.int (ns.length : Nat))), some (.d (vT sorts)), some (.d (.tup (nD ss))), some (.d (iT tops)), some (.d (vL vs)), some (.d (vT front)), some (.d (vT (triedOf tops front))), some (.d (vT (triedOf tops front))), some (.d (iT u)), some (.d (.bl (front.any fun one => isBelow one u))), some (.d (.bl ((triedOf tops front).any fun one => isBelow u one))), o18, none, none, none, none]) (fun E h1 h2 h3 h4 => ?_) (fun Γ hI => ?_)
                                  · walk_at "mv"
                                    refine lcD_pure iT (fun one => isBelow u one) iT (fun ts => [some (.d (.sq (s.map .int))), some (dealT cs m), some (.li ((ps.map twin).map .d)), o3, some (.d (groveD ns needs)), some (.d (.int (k : Nat))), some (.d (webV CW ns needs)), some (.d (.int (ns.length : Nat))), some (.d (vT sorts)), some (.d (.tup (nD ss))), some (.d (iT tops)), some (.d (vL vs)), some (.d (vT front)), some (.d (vT (triedOf tops front))), some (.d (vT (triedOf tops front))), some (.d (iT u)), some (.d (.bl (front.any fun one => isBelow one u))), o17, o18, none, none, none, none, some (.li ts)]) (by have := tried_len tops front; have := tz.sz2; rw [sizeLine_eq]; show 0 + (triedOf tops front).length ≤ 16777216; omega) (fun v hv ts K hz hk => ?_) ?_
                                    · walk_at "mv"
                                      refine ⟨u, v, hk3, rfl, ?_⟩
                                      walk_at "mv"
                                      by_cases h : isBelow u v = true
                                      · simpa [h, hz] using hk
                                      · simpa [h, hz] using hk
                                    · walk_at "mv"
                                      rw [gt_len]
                                      exact h1 _ rfl
                                  · subst hI
                                    walk_at "mv"
                                    rw [eqD_bl]
                                    have e : (!decide ((front.any fun one => isBelow one u) = ((triedOf tops front).any fun one => isBelow u one))) = true := by
                                      simpa [bne] using xr
                                    dsimp only
                                    rw [e]
                                    refine ⟨by rw [sizeLine_eq]; decide, by have := hps.len; rw [sizeLine_eq]; omega, ?_⟩
                                    rw [show List.map T.d (List.map twin ps) ++ [T.d (D.tup [D.bl true, D.bl true])] = ((ps ++ [D.bl true]).map twin).map T.d by simp]
                                    exact e1 _ ⟨ps ++ [.bl true], _, _, _, hps.append (by simpa using cp_true) (Nat.le_refl _), .inr ⟨_, rfl⟩, rfl⟩
                              · obtain ⟨ps, o15, o16, o17, hps, ho15, rfl⟩ := hI
                                rw [List.length_take] at hps
                                exact h1 _ ⟨cs, m, ps, o15, o16, o17, ok, ⟨by have := hps.len; omega, hps.each⟩, ho15, rfl⟩
                            · obtain ⟨cs, m, ps, o15, o16, o17, ok, hps, ho15, rfl⟩ := hI
                              walk_at "mv"
                              refine ⟨ns.length, sorts, ss, [], _, cr_ok sok ss ⟨by decide, by simp, hk.1, hk.2⟩, webV_ok CW ns needs, rfl, ?_⟩
                              rw [ht, corners_none]
                              walk_at "mv"
                              rw [Int.toNat_natCast, rep0]
                              refine ⟨by rw [sizeLine_eq]; decide, by rw [sizeLine_eq]; decide, by rw [sizeLine_eq]; decide, ⟨by simp, by omega, by omega⟩, by rw [sizeLine_eq]; decide, ns.length, sorts, ss, [List.replicate k 0], _, cr_ok sok ss ⟨by simp, by simp, hk.1, hk.2⟩, webV_ok CW ns needs, rfl, ?_⟩
                              rw [ht, show cornersOf tops [List.replicate k 0] = [] by rw [← tz.len]; exact corners_zeros tp]
                              walk_at "mv"
                              rw [show (List.filterMap (fun i => [D.tup (nD ss), webV CW ns needs, vT front, vT sorts][i]?) [1, 3, 0, 2]) = [webV CW ns needs, vT sorts, D.tup (nD ss), vT front] from rfl]
                              walk_at "mv"
                              refine ⟨by rw [sizeLine_eq]; decide, ns.length, sorts, ss, front, _, cr_ok sok ss fok, webV_ok CW ns needs, rfl, ?_⟩
                              rw [ht, crt]
                              walk_at "mv"
                              refine ⟨by rw [sizeLine_eq]; decide, by rw [sizeLine_eq]; decide, by have := hps.len; rw [sizeLine_eq]; omega, ?_⟩
                              rw [show List.map T.d (List.map twin ps ++ [D.tup [vT [tops], D.tup [iT tops]], D.tup [vT [], D.tup []], D.tup [vT (triedOf tops front), vT (triedOf tops front)]]) = ((ps ++ [vT [tops], vT [], vT (triedOf tops front)]).map twin).map T.d by simp]
                              exact e1 _ ⟨cs, m, _, _, _, _, _, _, _, _, _, _, _, _, _, _, _, _, _, ok, hps.append (fun x hx => by
                                simp only [List.mem_cons, List.not_mem_nil, or_false] at hx
                                rcases hx with rfl | rfl | rfl
                                · exact cp_vT (fun v hv => by rw [List.mem_singleton.mp hv, tz.len]; exact hk.2) (by simp)
                                · exact cp_vT (by simp) (by simp)
                                · exact cpt) (by simp; omega), ho15, rfl⟩
      · obtain ⟨cs, m, ps, o3, o4, o5, o6, o7, o8, o9, o10, o11, o12, o13, o14, o15, o16, o17, o18, ok, hps, ho15, rfl⟩ := hI
        exact h1 _ ⟨cs, m, ps, o3, o4, o5, o6, o7, o8, o9, o10, o11, o12, o13, o14, o15, o16, o17, o18, ok, hps, rfl⟩
    · obtain ⟨cs, m, ps, o3, o4, o5, o6, o7, o8, o9, o10, o11, o12, o13, o14, o15, o16, o17, o18, ok, hps, rfl⟩ := hI
      refine seq_inv (fun Γ => Γ = [some (.d (.sq (s.map .int))), some (dealT cs m), some (.li ((ps.map twin).map .d)), o3, o4, o5, o6, o7, o8, o9, o10, o11, o12, o13, o14, o15, o16, o17, some (.d (eitherV CW)), none, none, none, none]) (fun E h1 h2 h3 h4 => ?_) (fun Γ hI => ?_)
      · walk_at "mv"
        exact ⟨sz100, sz100, sz100, sz100, sz100, sz100, sz100, sz100, h1 _ rfl⟩
      · subst hI
        refine seq_inv (fun Γ => Γ = [some (.d (.sq (s.map .int))), some (dealT cs m), some (.li ((ps.map twin).map .d)), o3, o4, o5, o6, o7, some (.d (vT [[3, 0, 1], [0, 2, 1]])), o9, o10, o11, o12, o13, o14, o15, o16, o17, some (.d (eitherV CW)), none, none, none, none]) (fun E h1 h2 h3 h4 => ?_) (fun Γ hI => ?_)
        · walk_at "mv"
          exact ⟨sz100, sz100, sz100, h1 _ rfl⟩
        · subst hI
          refine seq_inv (fun Γ => ∃ ps, Prs ps 112 ∧ Γ = [some (.d (.sq (s.map .int))), some (dealT cs m), some (.li ((ps.map twin).map .d)), o3, o4, o5, o6, o7, some (.d (vT [[3, 0, 1], [0, 2, 1]])), o9, o10, o11, o12, o13, o14, o15, o16, o17, some (.d (eitherV CW)), none, none, none, none]) (fun E h1 h2 h3 h4 => ?_) (fun Γ hI => ?_)
          · walk_at "mv"
            refine ⟨sz100, sz100, sz100, 3, [[3, 0, 1], [0, 2, 1]], [], [[1, 3], [4, 1]], _, crEx, eitherV_ok CW, rfl, ?_⟩
            rw [show weightV [[3, 0, 1], [0, 2, 1]] (freeT 3 []) = [4, 3] from rfl, const1]
            walk_at "mv"
            refine ⟨sz100, sz100, sz100, sz100, sz100, sz100, sz100, sz100, sz100, sz100, [[1, 3], [4, 1], [4, 3], [1, 3]], vL [[1, 3], [4, 1], [4, 3], [1, 3]], ⟨sz100', by decide, .inl (by decide)⟩, .inl rfl, rfl, ?_⟩
            rw [const2]
            walk_at "mv"
            refine ⟨sz100, sz100, sz100, sz100, [], vL [], ⟨sz100', by decide, .inl (by decide)⟩, .inl rfl, rfl, ?_⟩
            rw [const3]
            walk_at "mv"
            refine ⟨sz100, sz100, sz100, sz100, sz100, sz100, [[2, 2], [0, 5], [5, 0], [2, 3]], vL [[2, 2], [0, 5], [5, 0], [2, 3]], ⟨sz100', by decide, .inl (by decide)⟩, .inl rfl, rfl, ?_⟩
            rw [const4]
            walk_at "mv"
            refine ⟨sz100, sz100, sz100, sz100, sz100, sz100, by have := hps.len; rw [sizeLine_eq]; omega, ?_⟩
            refine h1 _ ⟨ps ++ [vT [[0, 3], [3, 2], [4, 0]], vT [[1, 3], [4, 1]], vT [], vT [[0, 5], [2, 2], [5, 0]]], hps.append (fun x hx => ?_) (by simp), ?_⟩
            · simp only [List.mem_cons, List.not_mem_nil, or_false] at hx
              rcases hx with rfl | rfl | rfl | rfl
              · exact cp_vT (by decide) (by decide)
              · exact cp_vT (by decide) (by decide)
              · exact cp_vT (by decide) (by decide)
              · exact cp_vT (by decide) (by decide)
            · simp only [List.map_append]
              rfl
          · obtain ⟨ps, hps, rfl⟩ := hI
            walk_at "mv"
            refine ⟨sz100, sz100, sz100, sz100, sz100, 3, [[0, 0, 0], [1, 0, 0]], [], [[0, 1]], _, crEx2, eitherV_ok CW, rfl, ?_⟩
            rw [show weightV [[0, 0, 0], [1, 0, 0]] (freeT 3 []) = [0, 1] from rfl, const5]
            walk_at "mv"
            have e1 : (List.map twin ps ++ [D.tup [vT [[0, 0]], D.tup [D.tup [D.int 0, D.int 0]]]]) = (ps ++ [vT [[0, 0]]]).map twin := by rw [List.map_append]; rfl
            refine ⟨sz100, sz100, sz100, sz100, by have := hps.len; rw [sizeLine_eq]; omega, ps ++ [vT [[0, 0]]], by have := hps.len; rw [List.length_append, sizeLine_eq]; simp; omega, fun x hx => ?_, by rw [e1], ?_⟩
            · rcases List.mem_append.mp hx with hx | hx
              · exact ⟨(hps.each x hx).pl, (hps.each x hx).wt⟩
              · rw [List.mem_singleton.mp hx]
                exact ⟨(cp_vT (by decide) (by decide)).pl, (cp_vT (by decide) (by decide)).wt⟩
            · walk_at "mv"
              exact q
end
end K58
set_option Elab.async false
set_option linter.all false
set_option maxRecDepth 100000
namespace K58
open PySem PySem.Spec PyProof.Rows L2 Mv
def clsBody (s : Stmt) : List Stmt := match s with
  | .ClassDef (body := b) .. => b
  | _ => []
def mthS (i j : Nat) : Stmt := (clsBody (topS i)).getD j (.Pass ⟨0, 0, 0, 0⟩)
abbrev i_Rule : Stmt := mthS 1 0
abbrev i_Web : Stmt := mthS 3 0
section
variable {P : Program} {w : World} {K : PySem.W.Frag} {mg : Str → Option Value} {base : Heap} {CW CR : Addr}
theorem sc_iWeb : FnScope ["self", "names", "weights", "lots"] ["self", "names", "weights", "lots"] (defScope i_Web) := ⟨rfl, rfl, rfl, by decide +kernel, rfl, by decide +kernel, by decide +kernel⟩
theorem ok_iWeb (c : Cls K CW) (n1 : NoAttr K CW "names") (n2 : NoAttr K CW "weights") (n3 : NoAttr K CW "lots") {f : Addr} {fd : FuncData} (F : Fun K "__init__" "Web.__init__" i_Web f fd) : FnOk P w K mg base CX0 1 f fd ["self", "names", "weights", "lots"] (spMk CW wNames) := by
  refine F.ok sc_iWeb (fun vs H Q E h => ?_) (fun cdv A outer s H vs Q E hr h => ?_)
  · obtain ⟨a, dx, us, rfl, hl, _⟩ := h
    rw [List.length_cons, hl]
    rfl
  · obtain ⟨a, dx, us, rfl, hl, ha, q⟩ := h
    match us, hl with
    | [u1, u2, u3], _ =>
      refine ⟨_, pss_cons (ps_fld (pv 0) (pv 1) rfl) (pss_cons (ps_fld (pv 0) (pv 2) rfl) (pss_one (ps_fld (pv 0) (pv 3) rfl))), ?_⟩
      refine ⟨_, rfl, _, rfl, a, CW, dx, [], rfl, ha, c, n1, (by show 0 < 1000; decide), ?_⟩
      refine ⟨_, rfl, _, rfl, a, CW, dx, _, rfl, upd_same, c, n2, (by show 1 < 1000; decide), ?_⟩
      refine ⟨_, rfl, _, rfl, a, CW, dx, _, rfl, upd_same, c, n3, (by show 2 < 1000; decide), ?_⟩
      rw [upd_upd, upd_upd]
      exact q
end
end K58
set_option Elab.async false
set_option linter.all false
set_option maxRecDepth 100000
set_option maxHeartbeats 0
namespace K58
open PySem PySem.Spec PyProof.Rows L2 Mv
abbrev m_Web___init__ : Stmt := i_Web
abbrev R : PySem.W.OpenRow := PySem.W.OpenLaw.row PySem.Challenge.rw_maystand_k58_whole_vectors_and_corners
def fns : List He.DefD := [dOf ("is_below", none) "is_below" "is_below" s_is_below, dOf ("least_of", none) "least_of" "least_of" s_least_of, dOf ("greatest_of", none) "greatest_of" "greatest_of" s_greatest_of, dOf ("weight_vector", none) "weight_vector" "weight_vector" s_weight_vector, dOf ("least_vectors", none) "least_vectors" "least_vectors" s_least_vectors, dOf ("free_things", none) "free_things" "free_things" s_free_things, dOf ("cut_at", none) "cut_at" "cut_at" s_cut_at, dOf ("corners", none) "corners" "corners" s_corners, dOf ("_law_deal", none) "_law_deal" "_law_deal" s__law_deal, dOf ("_law_any", none) "_law_any" "_law_any" s__law_any, dOf ("_law_mixed", none) "_law_mixed" "_law_mixed" s__law_mixed, dOf ("_law_is_kind", none) "_law_is_kind" "_law_is_kind" s__law_is_kind, dOf ("_law_same", none) "_law_same" "_law_same" s__law_same, dOf ("_law_all", none) "_law_all" "_law_all" s__law_all, dOf ("_law_plain", none) "_law_plain" "_law_plain" s__law_plain, dOf ("_law_grove", none) "_law_grove" "_law_grove" s__law_grove, dOf ("_law_fits", none) "_law_fits" "_law_fits" s__law_fits, dOf ("_law_web_of", none) "_law_web_of" "_law_web_of" s__law_web_of, dOf ("_law_nowhere_more", none) "_law_nowhere_more" "_law_nowhere_more" s__law_nowhere_more, dOf ("_law_box", none) "_law_box" "_law_box" s__law_box, dOf ("_law_lightest", none) "_law_lightest" "_law_lightest" s__law_lightest, dOf ("_law_tops", none) "_law_tops" "_law_tops" s__law_tops, dOf ("_law_tried_corners", none) "_law_tried_corners" "_law_tried_corners" s__law_tried_corners, dOf ("law", none) "law" "law" s_law, dOf ("Web", some "__init__") "__init__" "Web.__init__" m_Web___init__]
def chks : Chk := fun K => [(He.Fa.glo "is_below").ok K, (He.Fa.glo "least_of").ok K, (He.Fa.glo "greatest_of").ok K, (He.Fa.glo "weight_vector").ok K, (He.Fa.glo "least_vectors").ok K, (He.Fa.glo "free_things").ok K, (He.Fa.glo "cut_at").ok K, (He.Fa.glo "corners").ok K, (He.Fa.glo "_law_deal").ok K, (He.Fa.glo "_law_any").ok K, (He.Fa.glo "_law_mixed").ok K, (He.Fa.glo "_law_is_kind").ok K, (He.Fa.glo "_law_same").ok K, (He.Fa.glo "_law_all").ok K, (He.Fa.glo "_law_plain").ok K, (He.Fa.glo "_law_grove").ok K, (He.Fa.glo "_law_fits").ok K, (He.Fa.glo "_law_web_of").ok K, (He.Fa.glo "_law_nowhere_more").ok K, (He.Fa.glo "_law_box").ok K, (He.Fa.glo "_law_lightest").ok K, (He.Fa.glo "_law_tops").ok K, (He.Fa.glo "_law_tried_corners").ok K, (He.Fa.glo "law").ok K, (He.Fa.glo "Rule").ok K, (He.Fa.glo "Web").ok K, (He.Fa.free "len").ok K, (He.Fa.free "abs").ok K, (He.Fa.free "sum").ok K, (He.Fa.free "int").ok K, (He.Fa.free "isinstance").ok K, (He.Fa.free "tuple").ok K, (He.Fa.free "list").ok K, (He.Fa.free "sorted").ok K, (He.Fa.free "set").ok K, (He.Fa.free "range").ok K, (He.Fa.free "zip").ok K, (He.Fa.free "enumerate").ok K, (He.Fa.free "str").ok K, (He.Fa.free "dict").ok K, (He.Fa.free "bool").ok K, kb K (.type "int") (.ref (He.ga K "Rule")) false, kb K (.type "bool") (.ref (He.ga K "Rule")) false, kb K (.type "str") (.ref (He.ga K "Rule")) false, kb K (.type "NoneType") (.ref (He.ga K "Rule")) false, kb K (.type "tuple") (.ref (He.ga K "Rule")) false, kb K (.type "int") (.ref (He.ga K "Web")) false, kb K (.type "bool") (.ref (He.ga K "Web")) false, kb K (.type "str") (.ref (He.ga K "Web")) false, kb K (.type "NoneType") (.ref (He.ga K "Web")) false, kb K (.type "tuple") (.ref (He.ga K "Web")) false, kb K (.type "tuple") (.type "tuple") true, kb K (.type "int") (.type "tuple") false, kb K (.type "bool") (.type "tuple") false, kb K (.type "str") (.type "tuple") false, kb K (.type "NoneType") (.type "tuple") false, kb K (.type "int") (.type "list") false, kb K (.type "bool") (.type "list") false, kb K (.type "str") (.type "list") false, kb K (.type "NoneType") (.type "list") false, kb K (.type "int") (.type "dict") false, kb K (.type "bool") (.type "dict") false, kb K (.type "str") (.type "dict") false, kb K (.type "NoneType") (.type "dict") false, kb K (.type "str") (.type "str") true, kb K (.type "int") (.type "str") false, kb K (.type "int") (.type "int") true, kb K (.type "int") (.type "bool") false, (He.Fa.cls "Web").ok K, (He.Fa.cls "Rule").ok K, (He.Fa.noat "Web" "names").ok K, (He.Fa.noat "Web" "weights").ok K, (He.Fa.noat "Web" "lots").ok K, (He.Fa.noat "Rule" "parts").ok K, (He.Fa.mkr "Web").ok K]
def loose : List PySem.Str := (["Rule", "Web", "is_below", "least_of", "greatest_of", "weight_vector", "least_vectors", "free_things", "cut_at", "corners", "_law_deal", "_law_any", "_law_mixed", "_law_is_kind", "_law_same", "_law_all", "_law_plain", "_law_grove", "_law_fits", "_law_web_of", "_law_nowhere_more", "_law_box", "_law_lightest", "_law_tops", "_law_tried_corners"] : List PySem.Str)
abbrev hk : PySem.W.Hook := hookC 4 chks fns
def ob (s : PySem.W.SharedT) : He.AlD := obsCG 4 chks fns (HandSHeadRun.getT s)
theorem ob_eq (s : PySem.W.SharedT) : ob s = hk.obs s.abs := obsCG_eq (HandSHeadRun.getT_eq s)
theorem run (w : World) : HandSHeadRun.RunEq R (PySem.W.view R.prog [31]) hk ob 2500 loose w := by
  intro os
  kernel_rfl
theorem facts {P : Program} {w : World} {K : PySem.W.Frag} {h : Heap} {mg : Str → Option Value} {f : Addr} (X : K.In h) (G : h.Ns mainGlobals mg) (hfa : mg ("law" : Str) = some (.ref f)) (c : SaysC chks fns K) :
    ∃ fd : FuncData, (∀ (s : Shared) (v : Value), BindsTo s fd ⟨[v], []⟩ [("script", v)]) ∧ ∀ base : Heap, K.In base → base.Ns mainGlobals mg → FnOk P w K mg base CX0 6 f fd ["script"] (spOf K 1 sp_law) := by
  obtain ⟨fd_is_below, F_is_below⟩ := c.fun_ (at_ := ("is_below", none)) (x := "is_below") (qual := "is_below") (st := s_is_below) 0
  obtain ⟨fd_least_of, F_least_of⟩ := c.fun_ (at_ := ("least_of", none)) (x := "least_of") (qual := "least_of") (st := s_least_of) 1
  obtain ⟨fd_greatest_of, F_greatest_of⟩ := c.fun_ (at_ := ("greatest_of", none)) (x := "greatest_of") (qual := "greatest_of") (st := s_greatest_of) 2
  obtain ⟨fd_weight_vector, F_weight_vector⟩ := c.fun_ (at_ := ("weight_vector", none)) (x := "weight_vector") (qual := "weight_vector") (st := s_weight_vector) 3
  obtain ⟨fd_least_vectors, F_least_vectors⟩ := c.fun_ (at_ := ("least_vectors", none)) (x := "least_vectors") (qual := "least_vectors") (st := s_least_vectors) 4
  obtain ⟨fd_free_things, F_free_things⟩ := c.fun_ (at_ := ("free_things", none)) (x := "free_things") (qual := "free_things") (st := s_free_things) 5
  obtain ⟨fd_cut_at, F_cut_at⟩ := c.fun_ (at_ := ("cut_at", none)) (x := "cut_at") (qual := "cut_at") (st := s_cut_at) 6
  obtain ⟨fd_corners, F_corners⟩ := c.fun_ (at_ := ("corners", none)) (x := "corners") (qual := "corners") (st := s_corners) 7
  obtain ⟨fd__law_deal, F__law_deal⟩ := c.fun_ (at_ := ("_law_deal", none)) (x := "_law_deal") (qual := "_law_deal") (st := s__law_deal) 8
  obtain ⟨fd__law_any, F__law_any⟩ := c.fun_ (at_ := ("_law_any", none)) (x := "_law_any") (qual := "_law_any") (st := s__law_any) 9
  obtain ⟨fd__law_mixed, F__law_mixed⟩ := c.fun_ (at_ := ("_law_mixed", none)) (x := "_law_mixed") (qual := "_law_mixed") (st := s__law_mixed) 10
  obtain ⟨fd__law_is_kind, F__law_is_kind⟩ := c.fun_ (at_ := ("_law_is_kind", none)) (x := "_law_is_kind") (qual := "_law_is_kind") (st := s__law_is_kind) 11
  obtain ⟨fd__law_same, F__law_same⟩ := c.fun_ (at_ := ("_law_same", none)) (x := "_law_same") (qual := "_law_same") (st := s__law_same) 12
  obtain ⟨fd__law_all, F__law_all⟩ := c.fun_ (at_ := ("_law_all", none)) (x := "_law_all") (qual := "_law_all") (st := s__law_all) 13
  obtain ⟨fd__law_plain, F__law_plain⟩ := c.fun_ (at_ := ("_law_plain", none)) (x := "_law_plain") (qual := "_law_plain") (st := s__law_plain) 14
  obtain ⟨fd__law_grove, F__law_grove⟩ := c.fun_ (at_ := ("_law_grove", none)) (x := "_law_grove") (qual := "_law_grove") (st := s__law_grove) 15
  obtain ⟨fd__law_fits, F__law_fits⟩ := c.fun_ (at_ := ("_law_fits", none)) (x := "_law_fits") (qual := "_law_fits") (st := s__law_fits) 16
  obtain ⟨fd__law_web_of, F__law_web_of⟩ := c.fun_ (at_ := ("_law_web_of", none)) (x := "_law_web_of") (qual := "_law_web_of") (st := s__law_web_of) 17
  obtain ⟨fd__law_nowhere_more, F__law_nowhere_more⟩ := c.fun_ (at_ := ("_law_nowhere_more", none)) (x := "_law_nowhere_more") (qual := "_law_nowhere_more") (st := s__law_nowhere_more) 18
  obtain ⟨fd__law_box, F__law_box⟩ := c.fun_ (at_ := ("_law_box", none)) (x := "_law_box") (qual := "_law_box") (st := s__law_box) 19
  obtain ⟨fd__law_lightest, F__law_lightest⟩ := c.fun_ (at_ := ("_law_lightest", none)) (x := "_law_lightest") (qual := "_law_lightest") (st := s__law_lightest) 20
  obtain ⟨fd__law_tops, F__law_tops⟩ := c.fun_ (at_ := ("_law_tops", none)) (x := "_law_tops") (qual := "_law_tops") (st := s__law_tops) 21
  obtain ⟨fd__law_tried_corners, F__law_tried_corners⟩ := c.fun_ (at_ := ("_law_tried_corners", none)) (x := "_law_tried_corners") (qual := "_law_tried_corners") (st := s__law_tried_corners) 22
  obtain ⟨fd_law, F_law⟩ := c.fun_ (at_ := ("law", none)) (x := "law") (qual := "law") (st := s_law) 23
  obtain ⟨fd_Web___init__, F_Web___init__⟩ := c.fun_ (at_ := ("Web", some "__init__")) (x := "__init__") (qual := "Web.__init__") (st := m_Web___init__) 24
  have e := hfa.symm.trans (He.glo_ok X G (c.fact 23 (b := (He.Fa.glo "law").ok K)))
  cases e
  have bt : Blt mg := ⟨He.free_ok X G (c.fact 26 (b := (He.Fa.free "len").ok K)), He.free_ok X G (c.fact 27 (b := (He.Fa.free "abs").ok K)), He.free_ok X G (c.fact 28 (b := (He.Fa.free "sum").ok K)), He.free_ok X G (c.fact 29 (b := (He.Fa.free "int").ok K)), He.free_ok X G (c.fact 30 (b := (He.Fa.free "isinstance").ok K)), He.free_ok X G (c.fact 31 (b := (He.Fa.free "tuple").ok K)), He.free_ok X G (c.fact 32 (b := (He.Fa.free "list").ok K)), He.free_ok X G (c.fact 33 (b := (He.Fa.free "sorted").ok K)), He.free_ok X G (c.fact 34 (b := (He.Fa.free "set").ok K)), He.free_ok X G (c.fact 35 (b := (He.Fa.free "range").ok K)), He.free_ok X G (c.fact 36 (b := (He.Fa.free "zip").ok K)), He.free_ok X G (c.fact 37 (b := (He.Fa.free "enumerate").ok K)), He.free_ok X G (c.fact 38 (b := (He.Fa.free "str").ok K)), He.free_ok X G (c.fact 39 (b := (He.Fa.free "dict").ok K)), He.free_ok X G (c.fact 40 (b := (He.Fa.free "bool").ok K))⟩
  have M_Rule : mg ("Rule" : Str) = some (.ref (He.ga K "Rule")) := He.glo_ok X G (c.fact 24 (b := (He.Fa.glo "Rule").ok K))
  have M_Web : mg ("Web" : Str) = some (.ref (He.ga K "Web")) := He.glo_ok X G (c.fact 25 (b := (He.Fa.glo "Web").ok K))
  have M_is_below : mg ("is_below" : Str) = some (.ref (He.ga K "is_below")) := He.glo_ok X G (c.fact 0 (b := (He.Fa.glo "is_below").ok K))
  have M_least_of : mg ("least_of" : Str) = some (.ref (He.ga K "least_of")) := He.glo_ok X G (c.fact 1 (b := (He.Fa.glo "least_of").ok K))
  have M_greatest_of : mg ("greatest_of" : Str) = some (.ref (He.ga K "greatest_of")) := He.glo_ok X G (c.fact 2 (b := (He.Fa.glo "greatest_of").ok K))
  have M_weight_vector : mg ("weight_vector" : Str) = some (.ref (He.ga K "weight_vector")) := He.glo_ok X G (c.fact 3 (b := (He.Fa.glo "weight_vector").ok K))
  have M_least_vectors : mg ("least_vectors" : Str) = some (.ref (He.ga K "least_vectors")) := He.glo_ok X G (c.fact 4 (b := (He.Fa.glo "least_vectors").ok K))
  have M_free_things : mg ("free_things" : Str) = some (.ref (He.ga K "free_things")) := He.glo_ok X G (c.fact 5 (b := (He.Fa.glo "free_things").ok K))
  have M_cut_at : mg ("cut_at" : Str) = some (.ref (He.ga K "cut_at")) := He.glo_ok X G (c.fact 6 (b := (He.Fa.glo "cut_at").ok K))
  have M_corners : mg ("corners" : Str) = some (.ref (He.ga K "corners")) := He.glo_ok X G (c.fact 7 (b := (He.Fa.glo "corners").ok K))
  have M__law_deal : mg ("_law_deal" : Str) = some (.ref (He.ga K "_law_deal")) := He.glo_ok X G (c.fact 8 (b := (He.Fa.glo "_law_deal").ok K))
  have M__law_any : mg ("_law_any" : Str) = some (.ref (He.ga K "_law_any")) := He.glo_ok X G (c.fact 9 (b := (He.Fa.glo "_law_any").ok K))
  have M__law_mixed : mg ("_law_mixed" : Str) = some (.ref (He.ga K "_law_mixed")) := He.glo_ok X G (c.fact 10 (b := (He.Fa.glo "_law_mixed").ok K))
  have M__law_is_kind : mg ("_law_is_kind" : Str) = some (.ref (He.ga K "_law_is_kind")) := He.glo_ok X G (c.fact 11 (b := (He.Fa.glo "_law_is_kind").ok K))
  have M__law_same : mg ("_law_same" : Str) = some (.ref (He.ga K "_law_same")) := He.glo_ok X G (c.fact 12 (b := (He.Fa.glo "_law_same").ok K))
  have M__law_all : mg ("_law_all" : Str) = some (.ref (He.ga K "_law_all")) := He.glo_ok X G (c.fact 13 (b := (He.Fa.glo "_law_all").ok K))
  have M__law_plain : mg ("_law_plain" : Str) = some (.ref (He.ga K "_law_plain")) := He.glo_ok X G (c.fact 14 (b := (He.Fa.glo "_law_plain").ok K))
  have M__law_grove : mg ("_law_grove" : Str) = some (.ref (He.ga K "_law_grove")) := He.glo_ok X G (c.fact 15 (b := (He.Fa.glo "_law_grove").ok K))
  have M__law_fits : mg ("_law_fits" : Str) = some (.ref (He.ga K "_law_fits")) := He.glo_ok X G (c.fact 16 (b := (He.Fa.glo "_law_fits").ok K))
  have M__law_web_of : mg ("_law_web_of" : Str) = some (.ref (He.ga K "_law_web_of")) := He.glo_ok X G (c.fact 17 (b := (He.Fa.glo "_law_web_of").ok K))
  have M__law_nowhere_more : mg ("_law_nowhere_more" : Str) = some (.ref (He.ga K "_law_nowhere_more")) := He.glo_ok X G (c.fact 18 (b := (He.Fa.glo "_law_nowhere_more").ok K))
  have M__law_box : mg ("_law_box" : Str) = some (.ref (He.ga K "_law_box")) := He.glo_ok X G (c.fact 19 (b := (He.Fa.glo "_law_box").ok K))
  have M__law_lightest : mg ("_law_lightest" : Str) = some (.ref (He.ga K "_law_lightest")) := He.glo_ok X G (c.fact 20 (b := (He.Fa.glo "_law_lightest").ok K))
  have M__law_tops : mg ("_law_tops" : Str) = some (.ref (He.ga K "_law_tops")) := He.glo_ok X G (c.fact 21 (b := (He.Fa.glo "_law_tops").ok K))
  have M__law_tried_corners : mg ("_law_tried_corners" : Str) = some (.ref (He.ga K "_law_tried_corners")) := He.glo_ok X G (c.fact 22 (b := (He.Fa.glo "_law_tried_corners").ok K))
  have M_law : mg ("law" : Str) = some (.ref (He.ga K "law")) := He.glo_ok X G (c.fact 23 (b := (He.Fa.glo "law").ok K))
  have rrR : ∀ t, t = "int" ∨ t = "bool" ∨ t = "str" ∨ t = "NoneType" ∨ t = "tuple" → PySem.W.kitOne K (.type t) (.ref (He.ga K "Rule")) = some false := by
    rintro t (rfl | rfl | rfl | rfl | rfl)
    · exact kb_ok (c.fact 41 (b := kb K (.type "int") (.ref (He.ga K "Rule")) false))
    · exact kb_ok (c.fact 42 (b := kb K (.type "bool") (.ref (He.ga K "Rule")) false))
    · exact kb_ok (c.fact 43 (b := kb K (.type "str") (.ref (He.ga K "Rule")) false))
    · exact kb_ok (c.fact 44 (b := kb K (.type "NoneType") (.ref (He.ga K "Rule")) false))
    · exact kb_ok (c.fact 45 (b := kb K (.type "tuple") (.ref (He.ga K "Rule")) false))
  have rrW : ∀ t, t = "int" ∨ t = "bool" ∨ t = "str" ∨ t = "NoneType" ∨ t = "tuple" → PySem.W.kitOne K (.type t) (.ref (He.ga K "Web")) = some false := by
    rintro t (rfl | rfl | rfl | rfl | rfl)
    · exact kb_ok (c.fact 46 (b := kb K (.type "int") (.ref (He.ga K "Web")) false))
    · exact kb_ok (c.fact 47 (b := kb K (.type "bool") (.ref (He.ga K "Web")) false))
    · exact kb_ok (c.fact 48 (b := kb K (.type "str") (.ref (He.ga K "Web")) false))
    · exact kb_ok (c.fact 49 (b := kb K (.type "NoneType") (.ref (He.ga K "Web")) false))
    · exact kb_ok (c.fact 50 (b := kb K (.type "tuple") (.ref (He.ga K "Web")) false))
  have ty : Tys (fun t u => PySem.W.kitOne K t u) (He.ga K "Rule") (He.ga K "Web") := ⟨kb_ok (c.fact 51 (b := kb K (.type "tuple") (.type "tuple") true)), kb_ok (c.fact 52 (b := kb K (.type "int") (.type "tuple") false)), kb_ok (c.fact 53 (b := kb K (.type "bool") (.type "tuple") false)), kb_ok (c.fact 54 (b := kb K (.type "str") (.type "tuple") false)), kb_ok (c.fact 55 (b := kb K (.type "NoneType") (.type "tuple") false)), kb_ok (c.fact 56 (b := kb K (.type "int") (.type "list") false)), kb_ok (c.fact 57 (b := kb K (.type "bool") (.type "list") false)), kb_ok (c.fact 58 (b := kb K (.type "str") (.type "list") false)), kb_ok (c.fact 59 (b := kb K (.type "NoneType") (.type "list") false)), kb_ok (c.fact 60 (b := kb K (.type "int") (.type "dict") false)), kb_ok (c.fact 61 (b := kb K (.type "bool") (.type "dict") false)), kb_ok (c.fact 62 (b := kb K (.type "str") (.type "dict") false)), kb_ok (c.fact 63 (b := kb K (.type "NoneType") (.type "dict") false)), kb_ok (c.fact 64 (b := kb K (.type "str") (.type "str") true)), kb_ok (c.fact 65 (b := kb K (.type "int") (.type "str") false)), kb_ok (c.fact 66 (b := kb K (.type "int") (.type "int") true)), kb_ok (c.fact 67 (b := kb K (.type "int") (.type "bool") false)), rrR, rrW⟩
  have isIok : ∀ t u b, (fun t u => PySem.W.kitOne K t u) t u = some b → PySem.W.kitOne K t u = some b := fun _ _ _ h => h
  have isOok : ∀ C, (fun _ : Addr => False) C → OwnCls K C := fun _ h => h.elim
  have cW : Cls K (He.ga K "Web") := He.cls_ok (c.fact 68 (b := (He.Fa.cls "Web").ok K))
  have cR : Cls K (He.ga K "Rule") := He.cls_ok (c.fact 69 (b := (He.Fa.cls "Rule").ok K))
  have nW1 : NoAttr K (He.ga K "Web") "names" := He.noat_ok (c.fact 70 (b := (He.Fa.noat "Web" "names").ok K))
  have nW2 : NoAttr K (He.ga K "Web") "weights" := He.noat_ok (c.fact 71 (b := (He.Fa.noat "Web" "weights").ok K))
  have nW3 : NoAttr K (He.ga K "Web") "lots" := He.noat_ok (c.fact 72 (b := (He.Fa.noat "Web" "lots").ok K))
  have nR : NoAttr K (He.ga K "Rule") "parts" := He.noat_ok (c.fact 73 (b := (He.Fa.noat "Rule" "parts").ok K))
  have mW := He.mkr_ok (c.fact 74 (b := (He.Fa.mkr "Web").ok K))
  have h_names : ∀ C, (fun C => C = He.ga K "Web") C → Cls K C ∧ NoAttr K C "names" := fun C e => e ▸ ⟨cW, nW1⟩
  have h_weights : ∀ C, (fun C => C = He.ga K "Web") C → Cls K C ∧ NoAttr K C "weights" := fun C e => e ▸ ⟨cW, nW2⟩
  have h_lots : ∀ C, (fun C => C = He.ga K "Web") C → Cls K C ∧ NoAttr K C "lots" := fun C e => e ▸ ⟨cW, nW3⟩
  have h_parts : ∀ C, (fun C => C = He.ga K "Rule") C → Cls K C ∧ NoAttr K C "parts" := fun C e => e ▸ ⟨cR, nR⟩
  refine ⟨fd_law, fun s v => binds_law (ps := ["script"]) F_law (fun _ _ _ _ _ _ us hl => match us, hl with | [_], _ => rfl) s [v] rfl, fun base _ _ => ?_⟩
  have C_is_below : Callee P w K mg base "is_below" 1 2 sp_is_below := callee_of F_is_below (ok_is_below bt F_is_below) M_is_below fun _ _ _ _ _ _ us hl => match us, hl with | [_, _], _ => rfl
  have k_Web : Maker P w K mg base "Web" 1 (He.ga K "Web") wNames := ⟨_, fd_Web___init__, ["self", "names", "weights", "lots"], mW, ok_iWeb cW nW1 nW2 nW3 F_Web___init__, M_Web, F_Web___init__.binds fun _ _ _ _ _ _ us hl => match us, hl with | [_, _, _, _], _ => rfl⟩
  have C_least_of : Callee P w K mg base "least_of" 2 1 sp_least_of := callee_of F_least_of (ok_least_of C_is_below bt F_least_of) M_least_of fun _ _ _ _ _ _ us hl => match us, hl with | [_], _ => rfl
  have C_greatest_of : Callee P w K mg base "greatest_of" 2 1 sp_greatest_of := callee_of F_greatest_of (ok_greatest_of C_is_below bt F_greatest_of) M_greatest_of fun _ _ _ _ _ _ us hl => match us, hl with | [_], _ => rfl
  have C_weight_vector : Callee P w K mg base "weight_vector" 1 2 sp_weight_vector := callee_of F_weight_vector (ok_weight_vector bt F_weight_vector) M_weight_vector fun _ _ _ _ _ _ us hl => match us, hl with | [_, _], _ => rfl
  have C_least_vectors : Callee P w K mg base "least_vectors" 3 1 sp_least_vectors := callee_of F_least_vectors (ok_least_vectors C_least_of bt F_least_vectors) M_least_vectors fun _ _ _ _ _ _ us hl => match us, hl with | [_], _ => rfl
  have C_free_things : Callee P w K mg base "free_things" 1 2 (sp_free_things (He.ga K "Web")) := callee_of F_free_things (ok_free_things h_names rfl bt F_free_things) M_free_things fun _ _ _ _ _ _ us hl => match us, hl with | [_, _], _ => rfl
  have C_cut_at : Callee P w K mg base "cut_at" 1 2 sp_cut_at := callee_of F_cut_at (ok_cut_at bt F_cut_at) M_cut_at fun _ _ _ _ _ _ us hl => match us, hl with | [_, _], _ => rfl
  have C_corners : Callee P w K mg base "corners" 3 4 (sp_corners (He.ga K "Web")) := callee_of F_corners (ok_corners C_is_below C_greatest_of C_weight_vector C_free_things C_cut_at bt F_corners) M_corners fun _ _ _ _ _ _ us hl => match us, hl with | [_, _, _, _], _ => rfl
  have K_corners : CalleeK P w K mg base "corners" 3 4 (sp_corners (He.ga K "Web")) ["stands", "web", "front", "sorts"] [1, 3, 0, 2] := ⟨_, fd_corners, _, ok_corners C_is_below C_greatest_of C_weight_vector C_free_things C_cut_at bt F_corners, M_corners, F_corners.kp, kbinds_of (ks := ["stands", "web", "front", "sorts"]) F_corners (by decide) fun _ _ _ _ _ _ ws hl => match ws, hl with | [_, _, _, _], _ => rfl⟩
  have C__law_deal : Callee P w K mg base "_law_deal" 1 2 sp_deal := callee_of F__law_deal (ok_deal bt F__law_deal) M__law_deal fun _ _ _ _ _ _ us hl => match us, hl with | [_, _], _ => rfl
  have C__law_any : Callee P w K mg base "_law_any" 1 2 sp_any := callee_of F__law_any (ok_any bt F__law_any) M__law_any fun _ _ _ _ _ _ us hl => match us, hl with | [_, _], _ => rfl
  have C__law_mixed : Callee P w K mg base "_law_mixed" 2 2 sp_mixed := callee_of F__law_mixed (ok_mixed C__law_any bt F__law_mixed) M__law_mixed fun _ _ _ _ _ _ us hl => match us, hl with | [_, _], _ => rfl
  have C__law_is_kind : Callee P w K mg base "_law_is_kind" 1 2 sp_is_kind := callee_of F__law_is_kind (ok_is_kind ty isIok isOok bt F__law_is_kind) M__law_is_kind fun _ _ _ _ _ _ us hl => match us, hl with | [_, _], _ => rfl
  have C__law_plain : Callee P w K mg base "_law_plain" 1 1 sp_plain := callee_of F__law_plain (ok_plain h_parts h_names h_weights h_lots M_Rule M_Web ty isIok isOok bt F__law_plain) M__law_plain fun _ _ _ _ _ _ us hl => match us, hl with | [_], _ => rfl
  have C__law_same : Callee P w K mg base "_law_same" 2 2 sp_same := callee_of F__law_same (ok_same C__law_plain C__law_is_kind ty isIok isOok bt F__law_same) M__law_same fun _ _ _ _ _ _ us hl => match us, hl with | [_, _], _ => rfl
  have C__law_all : Callee P w K mg base "_law_all" 3 1 sp_all := callee_of F__law_all (ok_all C__law_same bt F__law_all) M__law_all fun _ _ _ _ _ _ us hl => match us, hl with | [_], _ => rfl
  have C__law_fits : Callee P w K mg base "_law_fits" 1 2 sp_fits := callee_of F__law_fits (ok_fits bt F__law_fits) M__law_fits fun _ _ _ _ _ _ us hl => match us, hl with | [_, _], _ => rfl
  have C__law_grove : Callee P w K mg base "_law_grove" 3 3 sp_grove := callee_of F__law_grove (ok_grove C__law_any C__law_mixed C__law_fits bt F__law_grove) M__law_grove fun _ _ _ _ _ _ us hl => match us, hl with | [_, _, _], _ => rfl
  have C__law_web_of : Callee P w K mg base "_law_web_of" 3 1 (sp_web_of (He.ga K "Web")) := callee_of F__law_web_of (ok_web_of k_Web bt F__law_web_of) M__law_web_of fun _ _ _ _ _ _ us hl => match us, hl with | [_], _ => rfl
  have C__law_nowhere_more : Callee P w K mg base "_law_nowhere_more" 1 2 sp_is_below := callee_of F__law_nowhere_more (ok_nowhere bt F__law_nowhere_more) M__law_nowhere_more fun _ _ _ _ _ _ us hl => match us, hl with | [_, _], _ => rfl
  have C__law_box : Callee P w K mg base "_law_box" 1 1 sp_box := callee_of F__law_box (ok_box bt F__law_box) M__law_box fun _ _ _ _ _ _ us hl => match us, hl with | [_], _ => rfl
  have C__law_lightest : Callee P w K mg base "_law_lightest" 2 1 sp_lightest := callee_of F__law_lightest (ok_lightest C__law_nowhere_more bt F__law_lightest) M__law_lightest fun _ _ _ _ _ _ us hl => match us, hl with | [_], _ => rfl
  have C__law_tops : Callee P w K mg base "_law_tops" 1 3 sp_tops := callee_of F__law_tops (ok_tops bt F__law_tops) M__law_tops fun _ _ _ _ _ _ us hl => match us, hl with | [_, _, _], _ => rfl
  have C__law_tried_corners : Callee P w K mg base "_law_tried_corners" 2 4 sp_tried := callee_of F__law_tried_corners (ok_tried C__law_nowhere_more C__law_box C__law_tops bt F__law_tried_corners) M__law_tried_corners fun _ _ _ _ _ _ us hl => match us, hl with | [_, _, _, _], _ => rfl
  exact ok_law k_Web C__law_deal C__law_grove C__law_any C__law_web_of C__law_tops C__law_lightest C_least_vectors C_corners C__law_tried_corners C__law_mixed C__law_box C__law_nowhere_more K_corners C__law_all bt F_law
end K58
open PySem PySem.W PySem.Calls PyProof.Rows
theorem PySem.Challenge.cw_maystand_k58_whole_vectors_and_corners_holds : PySem.Challenge.rw_maystand_k58_whole_vectors_and_corners.Holds := by
  w_on; o_law
  refine HandSHeadRun.head_any (r := OpenLaw.row PySem.Challenge.rw_maystand_k58_whole_vectors_and_corners) (q := view (OpenLaw.row PySem.Challenge.rw_maystand_k58_whole_vectors_and_corners).prog [31]) (H := K58.hk) (ob := K58.ob) (M := 2500) (loose := K58.loose) (d := HandSHeadRun.topDef (OpenLaw.row PySem.Challenge.rw_maystand_k58_whole_vectors_and_corners).prog 31) (kwd := []) K58.ob_eq
    (by kernel_rfl) (fun s => by kernel_rfl) K58.run (by kernel_rfl) (by kernel_rfl) (by kernel_rfl) (by rfl) (by first | assumption | decide +kernel) (by decide +kernel) ⟨rfl, rfl, rfl, rfl, rfl, by decide +kernel⟩ ?hw ?hc
  case hw => w_witness2
  case hc =>
    refine L2.walk_ofE (l := PySem.Challenge.rw_maystand_k58_whole_vectors_and_corners) (n := 63) (k := 6) (x := "script") (CX := L2.CX0) rfl (by decide) (by kernel_rfl) ⟨rfl, by decide, by decide⟩ ?F (fun _ _ _ _ z => z)
    intro w mg fa h Y G hmg0
    obtain ⟨K, KX, c⟩ := Y
    have hmg : mg ("law" : PySem.Str) = some (.ref fa) := by
      have e : (HandSHeadRun.topDef (OpenLaw.row PySem.Challenge.rw_maystand_k58_whole_vectors_and_corners).prog 31).name = ("law" : PySem.Str) := by kernel_rfl
      rw [← e]
      exact hmg0
    obtain ⟨fd, hb, hF⟩ := K58.facts (P := (PySem.Challenge.rw_maystand_k58_whole_vectors_and_corners).prog) (w := w) KX G hmg c
    exact ⟨K, fd, _, KX, hb, fun H a ns hl _ hS => Mv.spOf_law hS ⟨ns, rfl, rfl⟩, hF⟩
