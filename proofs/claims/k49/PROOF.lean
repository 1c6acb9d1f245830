import PyProof.Rows.All
import Wide.All
import OpenK.AllK
import Wide.FinOn
import PyProof.EqAt
import PyProof.EqKinds
import PyProof.TupleCall
import HandS.ForMost
import HandS.ForExc
import HandS.IsInst
import HandS.Property
import HandS.Wide
import HandS.NoneIn
import HandS.Style
import HandS.MakeKw
import HandS.EndBits
import PySem.Challenge.RW_rulesquares_k49_small_rules_for_seen_cel
set_option Elab.async false
set_option linter.all false
set_option maxRecDepth 100000
set_option maxHeartbeats 1000000
namespace J
open PySem PySem.Spec PyProof.Rows L2

/-! ### data trees, cells, operands -/
inductive D where
  | non | bl (b : Bool) | int (i : Int) | str (x : PySem.Str)
  | lst (xs : List D) | tup (xs : List D) | dic (kvs : List (Key × D)) | ins (c : String) (fs : List (String × D))
inductive Cell where
  | sh (d : D) | ow (d : D)
abbrev Tau := List (Option Cell)
inductive Op where
  | val (d : D) | tmp (d : D) | slot (i : Nat)

abbrev os (s : String) : PySem.Str := PySem.Str.ofString s
theorem os_inj {s t : String} (h : os s = os t) : s = t := by
  have h' : PySem.Str.ofString s = PySem.Str.ofString t := h
  rw [PySem.Str.ofString_eq_toList, PySem.Str.ofString_eq_toList] at h'
  injection h' with h'
  have h2 : s.toList.map Char.toNat = t.toList.map Char.toNat := by simpa using h'
  have h3 : s.toList = t.toList := by
    refine List.map_inj_right (f := Char.toNat) ?_ |>.mp h2
    intro a b e
    exact Char.toNat_inj.mp e
  exact String.ext h3

section
variable (K : PySem.W.Frag) (mg : PySem.Str → Option Value) (G : Hp)
mutual
inductive Rp : V → D → Prop
  | non : Rp .non .non
  | bl (b : Bool) : Rp (.bl b) (.bl b)
  | int (i : Int) : Rp (.int i) (.int i)
  | str (x : PySem.Str) : Rp (.str x) (.str x)
  | lst {a : Addr} {vs : List V} {ds : List D} : SqL K G a vs → RpL vs ds → Rp (.ref a) (.lst ds)
  | tup {a : Addr} {vs : List V} {ds : List D} : SqT K G a vs → RpL vs ds → Rp (.ref a) (.tup ds)
  | dic {a : Addr} {vs : List (Key × V)} {ds : List (Key × D)} : G a = some (.dK vs) → RpK vs ds → Rp (.ref a) (.dic ds)
  | ins {a C dx : Addr} {c : String} {fs : List (PySem.Str × V)} {ds : List (String × D)} : mg (os c) = some (.ref C) → G a = some (.ins C dx fs) → RpF fs ds → Rp (.ref a) (.ins c ds)
inductive RpL : List V → List D → Prop
  | nil : RpL [] []
  | cons {v : V} {d : D} {vs : List V} {ds : List D} : Rp v d → RpL vs ds → RpL (v :: vs) (d :: ds)
inductive RpK : List (Key × V) → List (Key × D) → Prop
  | nil : RpK [] []
  | cons {k : Key} {v : V} {d : D} {vs : List (Key × V)} {ds : List (Key × D)} : Rp v d → RpK vs ds → RpK ((k, v) :: vs) ((k, d) :: ds)
inductive RpF : List (PySem.Str × V) → List (String × D) → Prop
  | nil : RpF [] []
  | cons {k : String} {v : V} {d : D} {vs : List (PySem.Str × V)} {ds : List (String × D)} : Rp v d → RpF vs ds → RpF ((os k, v) :: vs) ((k, d) :: ds)
end
/-- what stands at an owned root -/
inductive Rt : HO → D → Prop
  | lst {vs : List V} {ds : List D} : RpL K mg G vs ds → Rt (.lst vs) (.lst ds)
  | dic {vs : List (Key × V)} {ds : List (Key × D)} : RpK K mg G vs ds → Rt (.dK vs) (.dic ds)
  | ins {C dx : Addr} {c : String} {fs : List (PySem.Str × V)} {ds : List (String × D)} : mg (os c) = some (.ref C) → RpF K mg G fs ds → Rt (.ins C dx fs) (.ins c ds)
end

section
variable {K : PySem.W.Frag} {mg : PySem.Str → Option Value} {G G' H H' H0 G0 : Hp}
theorem same_rd {a : Addr} {u : HO} (s : Same G G') (h : Rd G a u) : Rd G' a u := by
  rcases h with h | ⟨o, h⟩
  · exact .inl (s _ _ h)
  · exact .inr ⟨o, s _ _ h⟩
theorem same_sql {a : Addr} {xs : List V} (s : Same G G') (h : SqL K G a xs) : SqL K G' a xs := by
  rcases h with h | h
  · exact .inl (same_rd s h)
  · exact .inr h
theorem same_sqt {a : Addr} {xs : List V} (s : Same G G') (h : SqT K G a xs) : SqT K G' a xs := by
  rcases h with h | h
  · exact .inl (same_rd s h)
  · exact .inr h
mutual
theorem Rp.mono (s : Same G G') : ∀ {v : V} {d : D}, Rp K mg G v d → Rp K mg G' v d
  | _, _, .non => .non
  | _, _, .bl b => .bl b
  | _, _, .int i => .int i
  | _, _, .str x => .str x
  | _, _, .lst h r => .lst (same_sql s h) (RpL.mono s r)
  | _, _, .tup h r => .tup (same_sqt s h) (RpL.mono s r)
  | _, _, .dic h r => .dic (s _ _ h) (RpK.mono s r)
  | _, _, .ins m h r => .ins m (s _ _ h) (RpF.mono s r)
theorem RpL.mono (s : Same G G') : ∀ {v : List V} {d : List D}, RpL K mg G v d → RpL K mg G' v d
  | _, _, .nil => .nil
  | _, _, .cons h r => .cons (Rp.mono s h) (RpL.mono s r)
theorem RpK.mono (s : Same G G') : ∀ {v : List (Key × V)} {d : List (Key × D)}, RpK K mg G v d → RpK K mg G' v d
  | _, _, .nil => .nil
  | _, _, .cons h r => .cons (Rp.mono s h) (RpK.mono s r)
theorem RpF.mono (s : Same G G') : ∀ {v : List (PySem.Str × V)} {d : List (String × D)}, RpF K mg G v d → RpF K mg G' v d
  | _, _, .nil => .nil
  | _, _, .cons h r => .cons (Rp.mono s h) (RpF.mono s r)
end
theorem Rt.mono {o : HO} {d : D} (s : Same G G') (h : Rt K mg G o d) : Rt K mg G' o d := by
  cases h with
  | lst r => exact .lst (r.mono s)
  | dic r => exact .dic (r.mono s)
  | ins m r => exact .ins m (r.mono s)
theorem Rt.frz {o : HO} {d : D} {p : Addr} (h : Rt K mg G o d) (s : Same G G') (e : G' p = some o) : Rp K mg G' (.ref p) d := by
  cases h with
  | lst r => exact .lst (SqL.of e) (r.mono s)
  | dic r => exact .dic e (r.mono s)
  | ins m r => exact .ins m e (r.mono s)
theorem RpL.length : ∀ {vs : List V} {ds : List D}, RpL K mg G vs ds → vs.length = ds.length
  | _, _, .nil => rfl
  | _, _, .cons _ r => congrArg (· + 1) (RpL.length r)
theorem RpL.get : ∀ {vs : List V} {ds : List D} {i : Nat} {d : D}, RpL K mg G vs ds → ds[i]? = some d → ∃ v, vs[i]? = some v ∧ Rp K mg G v d
  | _, _, _, _, .nil, e => by simp at e
  | _, _, 0, _, .cons h _, e => by simp at e; subst e; exact ⟨_, rfl, h⟩
  | _, _, i + 1, d, .cons _ r, e => by
    obtain ⟨v, h1, h2⟩ := RpL.get (i := i) (d := d) r (by simpa using e)
    exact ⟨v, by simpa using h1, h2⟩
theorem RpL.get' : ∀ {vs : List V} {ds : List D} {i : Nat} {v : V}, RpL K mg G vs ds → vs[i]? = some v → ∃ d, ds[i]? = some d ∧ Rp K mg G v d
  | _, _, _, _, .nil, e => by simp at e
  | _, _, 0, _, .cons h _, e => by simp at e; subst e; exact ⟨_, rfl, h⟩
  | _, _, i + 1, d, .cons _ r, e => by
    obtain ⟨v, h1, h2⟩ := RpL.get' (i := i) r (by simpa using e)
    exact ⟨v, by simpa using h1, h2⟩
theorem RpL.append : ∀ {vs : List V} {ds : List D} {ws : List V} {es : List D}, RpL K mg G vs ds → RpL K mg G ws es → RpL K mg G (vs ++ ws) (ds ++ es)
  | _, _, _, _, .nil, s => s
  | _, _, _, _, .cons h r, s => .cons h (RpL.append r s)
theorem RpL.set {v : V} {d : D} (h : Rp K mg G v d) : ∀ {vs : List V} {ds : List D} (i : Nat), RpL K mg G vs ds → RpL K mg G (vs.set i v) (ds.set i d)
  | _, _, _, .nil => .nil
  | _, _, 0, .cons _ r => .cons h r
  | _, _, i + 1, .cons g r => .cons g (RpL.set h i r)
theorem RpL.drop : ∀ {vs : List V} {ds : List D} (i : Nat), RpL K mg G vs ds → RpL K mg G (vs.drop i) (ds.drop i)
  | _, _, 0, r => r
  | _, _, _ + 1, .nil => .nil
  | _, _, i + 1, .cons _ r => RpL.drop i r
theorem RpL.take : ∀ {vs : List V} {ds : List D} (i : Nat), RpL K mg G vs ds → RpL K mg G (vs.take i) (ds.take i)
  | _, _, 0, _ => .nil
  | _, _, _ + 1, .nil => .nil
  | _, _, i + 1, .cons h r => .cons h (RpL.take i r)
theorem RpF.look : ∀ {fs : List (PySem.Str × V)} {ds : List (String × D)} {n : String} {d : D}, RpF K mg G fs ds → ds.lookup n = some d → ∃ v, fs.lookup (os n) = some v ∧ Rp K mg G v d
  | _, _, _, _, .nil, e => by simp at e
  | _, _, n, d, .cons (k := k) h r, e => by
    rw [List.lookup_cons] at e ⊢
    by_cases hk : n = k
    · subst hk
      simp at e
      subst e
      exact ⟨_, by simp, h⟩
    · have h1 : (n == k) = false := by simpa using hk
      have h2 : (os n == os k) = false := by simpa using fun z => hk (os_inj z)
      rw [h1] at e
      rw [h2]
      exact RpF.look r e
theorem RpF.look0 : ∀ {fs : List (PySem.Str × V)} {ds : List (String × D)} {n : String}, RpF K mg G fs ds → ds.lookup n = none → fs.lookup (os n) = none
  | _, _, _, .nil, e => rfl
  | _, _, n, .cons (k := k) h r, e => by
    rw [List.lookup_cons] at e ⊢
    by_cases hk : n = k
    · subst hk
      simp at e
    · have h1 : (n == k) = false := by simpa using hk
      have h2 : (os n == os k) = false := by simpa using fun z => hk (os_inj z)
      rw [h1] at e
      rw [h2]
      exact RpF.look0 r e
theorem RpF.length : ∀ {fs : List (PySem.Str × V)} {ds : List (String × D)}, RpF K mg G fs ds → fs.length = ds.length
  | _, _, .nil => rfl
  | _, _, .cons _ r => congrArg (· + 1) (RpF.length r)
end

/-- an attribute stored -/
def putD (f : String) (v : D) : List (String × D) → List (String × D)
  | [] => [(f, v)]
  | (g, x) :: r => if g = f then (g, v) :: r else (g, x) :: putD f v r
theorem RpF.put {K : PySem.W.Frag} {mg : PySem.Str → Option Value} {G : Hp} {f : String} {v : V} {d : D} (h : Rp K mg G v d) : ∀ {fs : List (PySem.Str × V)} {ds : List (String × D)}, RpF K mg G fs ds → RpF K mg G (putF (os f) v fs) (putD f d ds)
  | _, _, .nil => .cons h .nil
  | _, _, .cons (k := k) g r => by
    unfold putF putD
    by_cases hk : k = f
    · subst hk
      rw [if_pos rfl, if_pos rfl]
      exact .cons h r
    · rw [if_neg hk, if_neg (fun z => hk (os_inj z))]
      exact .cons g (RpF.put h r)

/-! ### the state -/
def Ro (σ : L2.St) (τ : Tau) (p : Addr) : Prop := ∃ (i : Nat) (d : D), τ[i]? = some (some (Cell.ow d)) ∧ σ[i]? = some (some (V.ref p))
structure At (K : PySem.W.Frag) (mg : PySem.Str → Option Value) (G H : Hp) (σ : L2.St) (τ : Tau) : Prop where
  gh : Same G H
  sh : ∀ (i : Nat) (d : D), τ[i]? = some (some (Cell.sh d)) → ∃ v, σ[i]? = some (some v) ∧ Rp K mg G v d
  ow : ∀ (i : Nat) (d : D), τ[i]? = some (some (Cell.ow d)) → ∃ p o, σ[i]? = some (some (V.ref p)) ∧ G p = none ∧ H p = some o ∧ Rt K mg G o d
  ap : ∀ (i j : Nat) (p : Addr) (d e : D), τ[i]? = some (some (Cell.ow d)) → τ[j]? = some (some (Cell.ow e)) → σ[i]? = some (some (V.ref p)) → σ[j]? = some (some (V.ref p)) → i = j
  ll : τ.length ≤ σ.length
structure Go (K : PySem.W.Frag) (mg : PySem.Str → Option Value) (σ : L2.St) (τ : Tau) (G H : Hp) (τ' : Tau) (G' H' : Hp) : Prop where
  at' : At K mg G' H' σ τ'
  gg : Same G G'
  kp : ∀ b, H' b = none → H b = none
  hh : ∀ b o, ¬ Ro σ τ b → H b = some o → H' b = some o
  gf : ∀ b o, ¬ Ro σ τ b → H b = some o → G b = none → G' b = none
  ri : ∀ (j : Nat) (d : D), τ'[j]? = some (some (Cell.ow d)) → ∃ d', τ[j]? = some (some (Cell.ow d'))
  tl : τ'.length = τ.length
section
variable {K : PySem.W.Frag} {mg : PySem.Str → Option Value} {G G' G1 G2 H H' H0 H1 H2 G0 : Hp} {σ : L2.St} {τ τ' τ1 τ2 : Tau}
theorem Go.rr {K : PySem.W.Frag} {mg : PySem.Str → Option Value} {σ : L2.St} {τ τ' : Tau} {G H G' H' : Hp} (g : Go K mg σ τ G H τ' G' H') : ∀ b, Ro σ τ' b → Ro σ τ b := fun b ⟨j, d, h, p⟩ => let ⟨d', h'⟩ := g.ri j d h; ⟨j, d', h', p⟩
theorem Go.refl (A : At K mg G H σ τ) : Go K mg σ τ G H τ G H := ⟨A, Same.refl G, fun _ h => h, fun _ _ _ h => h, fun _ _ _ _ h => h, fun _ d h => ⟨d, h⟩, rfl⟩
theorem Go.trans (a : Go K mg σ τ G H τ1 G1 H1) (b : Go K mg σ τ1 G1 H1 τ2 G2 H2) : Go K mg σ τ G H τ2 G2 H2 where
  at' := b.at'
  gg := a.gg.trans b.gg
  kp := fun p h => a.kp p (b.kp p h)
  hh := fun p o n h => b.hh p o (fun z => n (a.rr p z)) (a.hh p o n h)
  gf := fun p o n h g => b.gf p o (fun z => n (a.rr p z)) (a.hh p o n h) (a.gf p o n h g)
  ri := fun j d h => let ⟨d', h'⟩ := b.ri j d h; a.ri j d' h'
  tl := b.tl.trans a.tl
theorem At.root (A : At K mg G H σ τ) {p : Addr} (h : Ro σ τ p) : G p = none ∧ ∃ o, H p = some o := by
  obtain ⟨i, d, h1, h2⟩ := h
  obtain ⟨q, o, e, g, hq, _⟩ := A.ow i d h1
  rw [h2] at e
  cases e
  exact ⟨g, o, hq⟩
/-- nothing but new objects -/
theorem At.grow (A : At K mg G H σ τ) (s : Same H H') : At K mg G H' σ τ :=
  ⟨A.gh.trans s, A.sh, fun i d h => let ⟨p, o, a, b, c, e⟩ := A.ow i d h; ⟨p, o, a, b, s _ _ c, e⟩, A.ap, A.ll⟩
theorem Go.new (A : At K mg G H σ τ) {p : Addr} {o : HO} (h : H p = none) : Go K mg σ τ G H τ G (upd H p o) := by
  have s : Same H (upd H p o) := fun b x e => by rw [upd_ne (ne_of_none e h)]; exact e
  exact ⟨A.grow s, Same.refl G, fun b hb => s.free hb, fun b x _ e => s b x e, fun _ _ _ _ g => g, fun _ d h => ⟨d, h⟩, rfl⟩
/-- a new object, frozen at once -/
theorem Go.newF (A : At K mg G H σ τ) {p : Addr} {o : HO} (h : H p = none) : Go K mg σ τ G H τ (upd G p o) (upd H p o) := by
  have s : Same H (upd H p o) := fun b x e => by rw [upd_ne (ne_of_none e h)]; exact e
  have g0 : G p = none := A.gh.free h
  have s2 : Same G (upd G p o) := fun b x e => by rw [upd_ne (ne_of_none e g0)]; exact e
  refine ⟨⟨fun b x e => ?_, fun i d q => ?_, fun i d q => ?_, A.ap, A.ll⟩, s2, fun b hb => s.free hb, fun b x _ e => s b x e, fun b x _ e g => ?_, fun _ d h => ⟨d, h⟩, rfl⟩
  · by_cases hb : b = p
    · subst hb; rw [upd_same] at e ⊢; exact e
    · rw [upd_ne hb] at e ⊢; exact A.gh _ _ e
  · obtain ⟨v, a, r⟩ := A.sh i d q
    exact ⟨v, a, r.mono s2⟩
  · obtain ⟨r, x, a, b, c, e⟩ := A.ow i d q
    exact ⟨r, x, a, by rw [upd_ne (ne_of_none c h)]; exact b, s _ _ c, e.mono s2⟩
  · rw [upd_ne (ne_of_none e h)]; exact g

/-- an operand's value -/
inductive Or (K : PySem.W.Frag) (mg : PySem.Str → Option Value) (H0 G H : Hp) (σ : L2.St) (τ : Tau) : V → Op → Prop
  | val {v : V} {d : D} : Rp K mg G v d → Or K mg H0 G H σ τ v (.val d)
  | tmp {p : Addr} {o : HO} {d : D} : H0 p = none → G p = none → H p = some o → Rt K mg G o d → ¬ Ro σ τ p → Or K mg H0 G H σ τ (.ref p) (.tmp d)
  | slot {v : V} {i : Nat} : σ[i]? = some (some v) → Or K mg H0 G H σ τ v (.slot i)
theorem Or.step {v : V} {op : Op} (h : Or K mg H0 G H σ τ v op) (g : Go K mg σ τ G H τ' G' H') : Or K mg H0 G' H' σ τ' v op := by
  cases h with
  | val r => exact .val (r.mono g.gg)
  | tmp a b c d n => exact .tmp a (g.gf _ _ n c b) (g.hh _ _ n c) (d.mono g.gg) fun z => n (g.rr _ z)
  | slot h => exact .slot h
theorem Or.weak {v : V} {op : Op} (h : Or K mg H1 G H σ τ v op) (k : ∀ b, H1 b = none → H0 b = none) : Or K mg H0 G H σ τ v op := by
  cases h with
  | val r => exact .val r
  | tmp a b c d n => exact .tmp (k _ a) b c d n
  | slot h => exact .slot h
/-- what may be read now -/
inductive Pk (K : PySem.W.Frag) (mg : PySem.Str → Option Value) (G H : Hp) : V → D → Prop
  | frz {v : V} {d : D} : Rp K mg G v d → Pk K mg G H v d
  | root {p : Addr} {o : HO} {d : D} : H p = some o → Rt K mg G o d → Pk K mg G H (.ref p) d
def deref (τ : Tau) : Op → Option D
  | .val d => some d
  | .tmp d => some d
  | .slot i => match τ[i]? with
    | some (some (.sh d)) => some d
    | some (some (.ow d)) => some d
    | _ => none
theorem Or.pk {v : V} {op : Op} {d : D} (A : At K mg G H σ τ) (h : Or K mg H0 G H σ τ v op) (e : deref τ op = some d) : Pk K mg G H v d := by
  cases h with
  | val r => cases e; exact .frz r
  | tmp a b c r n => cases e; exact .root c r
  | slot h =>
    unfold deref at e
    dsimp only at e
    split at e
    · rename_i q
      cases e
      obtain ⟨v', a, r⟩ := A.sh _ _ q
      rw [h] at a
      cases a
      exact .frz r
    · rename_i q
      cases e
      obtain ⟨p, o, a, _, c, r⟩ := A.ow _ _ q
      rw [h] at a
      cases a
      exact .root c r
    · cases e
/-- an operand is put away: it is frozen -/
def fz (τ : Tau) : Op → Option (D × Tau)
  | .val d => some (d, τ)
  | .tmp d => some (d, τ)
  | .slot i => match τ[i]? with
    | some (some (.sh d)) => some (d, τ)
    | some (some (.ow d)) => some (d, τ.set i (some (.sh d)))
    | _ => none
theorem get_set {α : Type} {l : List α} {i j : Nat} {x y : α} (h : (l.set i x)[j]? = some y) : (j = i ∧ y = x) ∨ (j ≠ i ∧ l[j]? = some y) := by
  by_cases hj : i = j
  · subst hj
    by_cases hl : i < l.length
    · rw [List.getElem?_set_self hl] at h
      cases h
      exact .inl ⟨rfl, rfl⟩
    · rw [List.getElem?_eq_none (by simpa using hl)] at h
      cases h
  · rw [List.getElem?_set_ne hj] at h
    exact .inr ⟨fun z => hj z.symm, h⟩
theorem Or.fz {v : V} {op : Op} {d : D} (g : Go K mg σ τ G H τ1 G1 H1) (h : Or K mg H G1 H1 σ τ1 v op) (e : fz τ1 op = some (d, τ2)) : ∃ G2, Go K mg σ τ G H τ2 G2 H1 ∧ Same G1 G2 ∧ Rp K mg G2 v d := by
  have A := g.at'
  have key : ∀ {p : Addr} {o : HO}, G1 p = none → H1 p = some o → Rt K mg G1 o d → Same G1 (upd G1 p o) ∧ Rp K mg (upd G1 p o) (.ref p) d ∧ Same (upd G1 p o) H1 := fun {p o} b c r => by
    have s : Same G1 (upd G1 p o) := fun b' x e' => by rw [upd_ne (ne_of_none e' b)]; exact e'
    refine ⟨s, r.frz s upd_same, fun b' x e' => ?_⟩
    by_cases hb : b' = p
    · subst hb; rw [upd_same] at e'; cases e'; exact c
    · rw [upd_ne hb] at e'; exact A.gh _ _ e'
  cases h with
  | val r =>
    cases e
    exact ⟨G1, g, Same.refl _, r⟩
  | @tmp p o d' a b c r n =>
    cases e
    obtain ⟨s, rp, s2⟩ := key b c r
    refine ⟨upd G1 p o, ⟨⟨s2, fun i x q => ?_, fun i x q => ?_, A.ap, A.ll⟩, g.gg.trans s, g.kp, g.hh, fun b' x n' e' g' => ?_, g.ri, g.tl⟩, s, rp⟩
    · obtain ⟨v, a', r'⟩ := A.sh i x q
      exact ⟨v, a', r'.mono s⟩
    · obtain ⟨q', o', a', b', c', e'⟩ := A.ow i x q
      refine ⟨q', o', a', ?_, c', e'.mono s⟩
      rw [upd_ne (fun z => n ⟨i, x, q, by rw [← z]; exact a'⟩)]
      exact b'
    · rw [upd_ne (ne_of_none e' a)]
      exact g.gf _ _ n' e' g'
  | @slot _ i h =>
    unfold J.fz at e
    dsimp only at e
    split at e
    · rename_i q
      cases e
      obtain ⟨v', a, r⟩ := A.sh _ _ q
      rw [h] at a
      cases a
      exact ⟨G1, g, Same.refl _, r⟩
    · rename_i d' q
      cases e
      obtain ⟨p, o, a, b, c, r⟩ := A.ow _ _ q
      rw [h] at a
      cases a
      obtain ⟨s, rp, s2⟩ := key b c r
      have sub : ∀ b', Ro σ (τ1.set i (some (.sh d))) b' → Ro σ τ1 b' ∧ b' ≠ p := fun b' ⟨j, x, hj, hσ⟩ => by
        rcases get_set hj with ⟨_, z⟩ | ⟨nj, z⟩
        · cases z
        · exact ⟨⟨j, x, z, hσ⟩, fun zz => nj (A.ap j i p x d z q (by rw [← zz]; exact hσ) h)⟩
      refine ⟨upd G1 p o, ⟨⟨s2, fun j x hj => ?_, fun j x hj => ?_, fun j k p' x y hj hk => ?_, by rw [List.length_set]; exact A.ll⟩, g.gg.trans s, g.kp, g.hh, fun b' x n' e' g' => ?_, fun j x hj => ?_, by rw [List.length_set]; exact g.tl⟩, s, rp⟩
      · rcases get_set hj with ⟨z1, z⟩ | ⟨_, z⟩
        · cases z
          subst z1
          exact ⟨_, h, rp⟩
        · obtain ⟨v, a', r'⟩ := A.sh j x z
          exact ⟨v, a', r'.mono s⟩
      · rcases get_set hj with ⟨_, z⟩ | ⟨nj, z⟩
        · cases z
        · obtain ⟨q', o', a', b', c', e'⟩ := A.ow j x z
          refine ⟨q', o', a', ?_, c', e'.mono s⟩
          rw [upd_ne (fun zz => nj (A.ap j i p x d z q (by rw [← zz]; exact a') h))]
          exact b'
      · rcases get_set hj with ⟨_, z⟩ | ⟨_, z⟩
        · cases z
        · rcases get_set hk with ⟨_, z'⟩ | ⟨_, z'⟩
          · cases z'
          · exact A.ap j k p' x y z z'
      · have nb : b' ≠ p := fun z => n' (g.rr p ⟨i, d, q, h⟩ |> fun w => by rw [z]; exact w)
        rw [upd_ne nb]
        exact g.gf _ _ n' e' g'
      · rcases get_set hj with ⟨_, z⟩ | ⟨_, z⟩
        · cases z
        · exact g.ri j x z
    · cases e
end
end J
namespace J
open PySem PySem.Spec PyProof.Rows L2

abbrev FE := Tau → Option (Op × Tau)
abbrev FT := Tau → Option (Bool × Tau)
abbrev FA := Tau → Option (List D × Tau)
abbrev FP := Tau → Option (List Op × Tau)
abbrev Mg := PySem.Str → Option Value

section
variable (K : PySem.W.Frag) (mg : Mg)
/-- a reading carries out what the mirror says -/
def RE (t : TE) (f : FE) : Prop := ∀ (σ : L2.St) (τ : Tau) (G H : Hp) (op : Op) (τ' : Tau) (Q : VK), At K mg G H σ τ → f τ = some (op, τ') →
  (∀ v G' H', Go K mg σ τ G H τ' G' H' → Or K mg H G' H' σ τ' v op → Q v H') → t σ H Q
def RT (t : TT) (f : FT) : Prop := ∀ (σ : L2.St) (τ : Tau) (G H : Hp) (b : Bool) (τ' : Tau) (Q : Bool → Hp → Prop), At K mg G H σ τ → f τ = some (b, τ') →
  (∀ G' H', Go K mg σ τ G H τ' G' H' → Q b H') → t σ H Q
def RA (t : TA) (f : FA) : Prop := ∀ (σ : L2.St) (τ : Tau) (G H : Hp) (ds : List D) (τ' : Tau) (Q : List V → Hp → Prop), At K mg G H σ τ → f τ = some (ds, τ') →
  (∀ vs G' H', Go K mg σ τ G H τ' G' H' → RpL K mg G' vs ds → Q vs H') → t σ H Q
inductive OrL (H0 G H : Hp) (σ : L2.St) (τ : Tau) : List V → List Op → Prop
  | nil : OrL H0 G H σ τ [] []
  | cons {v : V} {op : Op} {vs : List V} {ops : List Op} : Or K mg H0 G H σ τ v op → OrL H0 G H σ τ vs ops → OrL H0 G H σ τ (v :: vs) (op :: ops)
def RPa (t : TA) (f : FP) : Prop := ∀ (σ : L2.St) (τ : Tau) (G H : Hp) (ops : List Op) (τ' : Tau) (Q : List V → Hp → Prop), At K mg G H σ τ → f τ = some (ops, τ') →
  (∀ vs G' H', Go K mg σ τ G H τ' G' H' → OrL K mg H G' H' σ τ' vs ops → Q vs H') → t σ H Q
end
structure JE (X : Cx) (e : Expr) (t : TE) (f : FE) : Prop where
  pe : PE X e t
  re : RE X.K X.mg t f
structure JT (X : Cx) (e : Expr) (t : TT) (f : FT) : Prop where
  pt : PT X e t
  rt : RT X.K X.mg t f
structure JW (X : Cx) (e : Expr) (t : TT) (f : FT) : Prop where
  pw : PW X e t
  rt : RT X.K X.mg t f
structure JA (X : Cx) (es : List Expr) (t : TA) (f : FA) : Prop where
  pa : PA X es t
  ra : RA X.K X.mg t f
structure JP (X : Cx) (es : List Expr) (t : TA) (f : FP) : Prop where
  pa : PA X es t
  rp : RPa X.K X.mg t f

section
variable {K : PySem.W.Frag} {mg : Mg} {G G' G1 G2 H H' H0 H1 H2 G0 : Hp} {σ : L2.St} {τ τ' τ1 τ2 : Tau}
theorem OrL.step : ∀ {vs : List V} {ops : List Op}, OrL K mg H0 G H σ τ vs ops → Go K mg σ τ G H τ' G' H' → OrL K mg H0 G' H' σ τ' vs ops
  | _, _, .nil, _ => .nil
  | _, _, .cons h r, g => .cons (h.step g) (OrL.step r g)
theorem OrL.weak : ∀ {vs : List V} {ops : List Op}, OrL K mg H1 G H σ τ vs ops → (∀ b, H1 b = none → H0 b = none) → OrL K mg H0 G H σ τ vs ops
  | _, _, .nil, _ => .nil
  | _, _, .cons h r, g => .cons (h.weak g) (OrL.weak r g)
inductive PkL (K : PySem.W.Frag) (mg : Mg) (G H : Hp) : List V → List D → Prop
  | nil : PkL K mg G H [] []
  | cons {v : V} {d : D} {vs : List V} {ds : List D} : Pk K mg G H v d → PkL K mg G H vs ds → PkL K mg G H (v :: vs) (d :: ds)
def derefL (τ : Tau) : List Op → Option (List D)
  | [] => some []
  | o :: r => match deref τ o, derefL τ r with
    | some d, some ds => some (d :: ds)
    | _, _ => none
theorem OrL.pk (A : At K mg G H σ τ) : ∀ {vs : List V} {ops : List Op} {ds : List D}, OrL K mg H0 G H σ τ vs ops → derefL τ ops = some ds → PkL K mg G H vs ds
  | _, _, _, .nil, e => by cases e; exact .nil
  | _, _, _, .cons h r, e => by
    unfold derefL at e
    split at e
    · rename_i a b
      cases e
      exact .cons (h.pk A a) (OrL.pk A r b)
    · cases e
/-- what an operation on values does: new objects, some of them frozen -/
structure Nw (K : PySem.W.Frag) (mg : Mg) (G H G' H' : Hp) : Prop where
  gg : Same G G'
  hh : Same H H'
  gh : Same G' H'
  gf : ∀ b o, H b = some o → G b = none → G' b = none
theorem Nw.refl (h : Same G H) : Nw K mg G H G H := ⟨Same.refl _, Same.refl _, h, fun _ _ _ g => g⟩
theorem Nw.trans (a : Nw K mg G H G1 H1) (b : Nw K mg G1 H1 G2 H2) : Nw K mg G H G2 H2 := ⟨a.gg.trans b.gg, a.hh.trans b.hh, b.gh, fun p o h g => b.gf p o (a.hh _ _ h) (a.gf p o h g)⟩
theorem same_new {p : Addr} {o : HO} (h : H p = none) : Same H (upd H p o) := fun b x e => by rw [upd_ne (ne_of_none e h)]; exact e
theorem Nw.new (h : Same G H) {p : Addr} {o : HO} (n : H p = none) : Nw K mg G H G (upd H p o) := ⟨Same.refl _, same_new n, h.trans (same_new n), fun _ _ _ g => g⟩
theorem Nw.newF (h : Same G H) {p : Addr} {o : HO} (n : H p = none) : Nw K mg G H (upd G p o) (upd H p o) := by
  refine ⟨same_new (h.free n), same_new n, fun b x e => ?_, fun b x e g => ?_⟩
  · by_cases hb : b = p
    · subst hb; rw [upd_same] at e ⊢; exact e
    · rw [upd_ne hb] at e ⊢; exact h _ _ e
  · rw [upd_ne (ne_of_none e n)]; exact g
theorem Nw.go (n : Nw K mg G H G' H') (A : At K mg G H σ τ) : Go K mg σ τ G H τ G' H' :=
  ⟨⟨n.gh, fun i d q => let ⟨v, a, r⟩ := A.sh i d q; ⟨v, a, r.mono n.gg⟩, fun i d q => let ⟨p, o, a, b, c, r⟩ := A.ow i d q; ⟨p, o, a, n.gf _ _ c b, n.hh _ _ c, r.mono n.gg⟩, A.ap, A.ll⟩,
   n.gg, fun b h => n.hh.free h, fun b o _ h => n.hh _ _ h, fun b o _ h g => n.gf b o h g, fun _ d h => ⟨d, h⟩, rfl⟩
/-- an operation's result: a frozen value, or a new root -/
inductive On (K : PySem.W.Frag) (mg : Mg) (H G' H' : Hp) : V → Op → Prop
  | val {v : V} {d : D} : Rp K mg G' v d → On K mg H G' H' v (.val d)
  | tmp {p : Addr} {o : HO} {d : D} : H p = none → G' p = none → H' p = some o → Rt K mg G' o d → On K mg H G' H' (.ref p) (.tmp d)
theorem On.or {v : V} {op : Op} (h : On K mg H G' H' v op) (A : At K mg G H σ τ) : Or K mg H G' H' σ τ v op := by
  cases h with
  | val r => exact .val r
  | tmp a b c r =>
    refine .tmp a b c r fun z => ?_
    obtain ⟨_, o, e⟩ := A.root z
    rw [a] at e
    cases e
theorem On.new (h : Same G H) {p : Addr} {o : HO} {d : D} (n : H p = none) (r : Rt K mg G o d) : On K mg H G (upd H p o) (.ref p) (.tmp d) := .tmp n (h.free n) upd_same r

theorem Pk.int {v : V} {i : Int} (h : Pk K mg G H v (.int i)) : v = .int i := by
  cases h with
  | frz r => cases r; rfl
  | root e r => cases r
theorem Pk.bl {v : V} {i : Bool} (h : Pk K mg G H v (.bl i)) : v = .bl i := by
  cases h with
  | frz r => cases r; rfl
  | root e r => cases r
theorem Pk.str {v : V} {i : PySem.Str} (h : Pk K mg G H v (.str i)) : v = .str i := by
  cases h with
  | frz r => cases r; rfl
  | root e r => cases r
theorem Pk.non {v : V} (h : Pk K mg G H v .non) : v = .non := by
  cases h with
  | frz r => cases r; rfl
  | root e r => cases r
theorem Pk.lst {v : V} {ds : List D} (s : Same G H) (h : Pk K mg G H v (.lst ds)) : ∃ a vs, v = .ref a ∧ SqL K H a vs ∧ RpL K mg G vs ds := by
  cases h with
  | frz r => cases r with | lst q r => exact ⟨_, _, rfl, same_sql s q, r⟩
  | root e r => cases r with | lst r => exact ⟨_, _, rfl, SqL.of e, r⟩
theorem Pk.tup {v : V} {ds : List D} (s : Same G H) (h : Pk K mg G H v (.tup ds)) : ∃ a vs, v = .ref a ∧ SqT K H a vs ∧ RpL K mg G vs ds := by
  cases h with
  | frz r => cases r with | tup q r => exact ⟨_, _, rfl, same_sqt s q, r⟩
  | root e r => cases r
theorem Pk.dic {v : V} {ds : List (Key × D)} (s : Same G H) (h : Pk K mg G H v (.dic ds)) : ∃ a vs, v = .ref a ∧ H a = some (.dK vs) ∧ RpK K mg G vs ds := by
  cases h with
  | frz r => cases r with | dic q r => exact ⟨_, _, rfl, s _ _ q, r⟩
  | root e r => cases r with | dic r => exact ⟨_, _, rfl, e, r⟩
theorem Pk.ins {v : V} {c : String} {ds : List (String × D)} (s : Same G H) (h : Pk K mg G H v (.ins c ds)) : ∃ a C dx fs, v = .ref a ∧ mg (os c) = some (.ref C) ∧ H a = some (.ins C dx fs) ∧ RpF K mg G fs ds := by
  cases h with
  | frz r => cases r with | ins m q r => exact ⟨_, _, _, _, rfl, m, s _ _ q, r⟩
  | root e r => cases r with | ins m r => exact ⟨_, _, _, _, rfl, m, e, r⟩
end

/-! ### names, constants -/
def fC (d : D) (τ : Tau) : Option (Op × Tau) := some (.val d, τ)
def fVar (i : Nat) (τ : Tau) : Option (Op × Tau) := match τ[i]? with
  | some (some (.sh d)) => some (.val d, τ)
  | some (some (.ow _)) => some (.slot i, τ)
  | _ => none
section
variable {K : PySem.W.Frag} {mg : Mg}
theorem re_c {v : V} {d : D} (h : ∀ G, Rp K mg G v d) : RE K mg (tC v) (fC d) := fun σ τ G H op τ' Q A e q => by
  cases e
  exact q v G H (Go.refl A) (.val (h G))
theorem re_var (i : Nat) : RE K mg (tVar i) (fVar i) := fun σ τ G H op τ' Q A e q => by
  unfold fVar at e
  split at e
  · rename_i d h
    cases e
    obtain ⟨v, hv, r⟩ := A.sh i d h
    exact ⟨v, hv, q v G H (Go.refl A) (.val r)⟩
  · rename_i d h
    cases e
    obtain ⟨p, o, hv, _⟩ := A.ow i d h
    exact ⟨_, hv, q _ G H (Go.refl A) (.slot hv)⟩
  · cases e
end
section
variable {X : Cx} {pos : Pos} {j : Option String}
theorem je_var (i : Nat) {x : PySem.Str} {pos : Pos} (hN : X.N[i]? = some x := by rfl) (hv : Vis X.env.scope x := by first | exact Or.inl rfl | exact Or.inr (Or.inl rfl) | exact Or.inr (Or.inr rfl)) (hd : (x == ("__debug__" : PySem.Str)) = false := by decide)
    (hcd : (x == ("__classdict__" : PySem.Str)) = false := by decide) : JE X (.Name x pos) (tVar i) (fVar i) := ⟨pe_var hN hv hd hcd, re_var i⟩
theorem je_int {i j pos} : JE X (.Constant (.int i) j pos) (tC (.int i)) (fC (.int i)) := ⟨pe_int, re_c fun _ => .int i⟩
theorem je_bl {b j pos} : JE X (.Constant (.bool b) j pos) (tC (.bl b)) (fC (.bl b)) := ⟨pe_bl, re_c fun _ => .bl b⟩
theorem je_non {j pos} : JE X (.Constant .none j pos) (tC .non) (fC .non) := ⟨pe_non, re_c fun _ => .non⟩
theorem je_str {x j pos} : JE X (.Constant (.str x) j pos) (tC (.str x)) (fC (.str x)) := ⟨pe_str, re_c fun _ => .str x⟩
end

/-! ### two operands -/
abbrev G2 := D → D → Option Op
def fBin (g : G2) (fa fb : FE) (τ : Tau) : Option (Op × Tau) := (fa τ).bind fun a => (fb a.2).bind fun b => (deref b.2 a.1).bind fun x => (deref b.2 b.1).bind fun y => (g x y).bind fun z => some (z, b.2)
def fUn (g : D → Option Op) (fa : FE) (τ : Tau) : Option (Op × Tau) := (fa τ).bind fun a => (deref a.2 a.1).bind fun x => (g x).bind fun z => some (z, a.2)
def RB (K : PySem.W.Frag) (mg : Mg) (r : R2) (g : G2) : Prop := ∀ (G H : Hp) (x y : V) (d e : D) (op : Op) (Q : VK), Same G H → Pk K mg G H x d → Pk K mg G H y e → g d e = some op →
  (∀ v G' H', Nw K mg G H G' H' → On K mg H G' H' v op → Q v H') → r x y H Q
def RU (K : PySem.W.Frag) (mg : Mg) (r : V → Hp → VK → Prop) (g : D → Option Op) : Prop := ∀ (G H : Hp) (x : V) (d : D) (op : Op) (Q : VK), Same G H → Pk K mg G H x d → g d = some op →
  (∀ v G' H', Nw K mg G H G' H' → On K mg H G' H' v op → Q v H') → r x H Q
theorem bind_some' {α β : Type} {x : Option α} {f : α → Option β} {b : β} (h : x.bind f = some b) : ∃ a, x = some a ∧ f a = some b := by
  cases x with
  | none => cases h
  | some a => exact ⟨a, rfl, h⟩
section
variable {K : PySem.W.Frag} {mg : Mg} {ta tb : TE} {fa fb : FE}
theorem re_bin {r : R2} {g : G2} (hr : RB K mg r g) (ha : RE K mg ta fa) (hb : RE K mg tb fb) : RE K mg (tOp r ta tb) (fBin g fa fb) := fun σ τ G H op τ' Q A e q => by
  obtain ⟨⟨oa, τ1⟩, e1, e⟩ := bind_some' e
  obtain ⟨⟨ob, τ2⟩, e2, e⟩ := bind_some' e
  obtain ⟨d, e3, e⟩ := bind_some' e
  obtain ⟨d', e4, e⟩ := bind_some' e
  obtain ⟨z, e5, e⟩ := bind_some' e
  cases e
  refine ha σ τ G H oa τ1 _ A e1 fun x G1 H1 g1 o1 => ?_
  refine hb σ τ1 G1 H1 ob τ2 _ g1.at' e2 fun y G2 H2 g2 o2 => ?_
  have o1' := o1.step g2
  refine hr G2 H2 x y d d' _ Q g2.at'.gh (o1'.pk g2.at' e3) (o2.pk g2.at' e4) e5 fun v G3 H3 n o => ?_
  have g12 := g1.trans g2
  exact q v G3 H3 (g12.trans (n.go g2.at')) ((o.or g2.at').weak g12.kp)
theorem re_un {r : V → Hp → VK → Prop} {g : D → Option Op} (hr : RU K mg r g) (ha : RE K mg ta fa) : RE K mg (tUn r ta) (fUn g fa) := fun σ τ G H op τ' Q A e q => by
  obtain ⟨⟨oa, τ1⟩, e1, e⟩ := bind_some' e
  obtain ⟨d, e3, e⟩ := bind_some' e
  obtain ⟨z, e5, e⟩ := bind_some' e
  cases e
  refine ha σ τ G H oa τ1 _ A e1 fun x G1 H1 g1 o1 => ?_
  refine hr G1 H1 x d _ Q g1.at'.gh (o1.pk g1.at' e3) e5 fun v G3 H3 n o => ?_
  exact q v G3 H3 (g1.trans (n.go g1.at')) ((o.or g1.at').weak g1.kp)
/-- ints in, a scalar out -/
def gI (f : Int → Int → Option D) : G2
  | .int i, .int j => (f i j).map Op.val
  | _, _ => none
theorem rb_I0 {g : Int → Int → V} {f : Int → Int → D} (h : ∀ i j G, Rp K mg G (g i j) (f i j)) : RB K mg (rI0 g) (gI fun i j => some (f i j)) := fun G H x y d e op Q s p1 p2 eq q => by
  cases d <;> cases e <;> first | (cases eq; done) | skip
  rename_i i j
  cases eq
  cases p1.int
  cases p2.int
  exact ⟨i, j, rfl, rfl, q _ G H (Nw.refl s) (.val (h i j G))⟩
theorem rb_I {C : Int → Int → Prop} {g : Int → Int → V} {f : Int → Int → Option D} (h : ∀ i j d G, f i j = some d → C i j ∧ Rp K mg G (g i j) d) : RB K mg (rI C g) (gI f) := fun G H x y d e op Q s p1 p2 eq q => by
  cases d <;> cases e <;> first | (cases eq; done) | skip
  rename_i i j
  have eq' : (f i j).map Op.val = some op := eq
  cases hf : f i j with
  | none => rw [hf] at eq'; cases eq'
  | some z =>
    rw [hf] at eq'
    cases eq'
    cases p1.int
    cases p2.int
    obtain ⟨hc, hr⟩ := h i j z G hf
    exact ⟨i, j, rfl, rfl, hc, q _ G H (Nw.refl s) (.val hr)⟩
end

/-! #### arithmetic -/
def gAdd (d e : D) : Option Op := gI (fun i j => some (.int (i + j))) d e
def gSub (d e : D) : Option Op := gI (fun i j => some (.int (i - j))) d e
def mulOk (a b : Int) : Bool := !(decide (Builtin.Int.intBits a > shortFactorBits) && decide (Builtin.Int.intBits b > shortFactorBits) && Builtin.Int.intTooBig (Builtin.Int.intBits a + Builtin.Int.intBits b))
theorem mulOk_ok {a b : Int} (h : mulOk a b = true) : IntMulOk a b := by
  unfold IntMulOk
  unfold mulOk at h
  intro z
  rw [z] at h
  cases h
def gMul (d e : D) : Option Op := gI (fun i j => if mulOk i j = true then some (.int (i * j)) else none) d e
def divOk (j : Int) : Bool := decide (0 < j) && decide (j.natAbs.log2 < 9000)
def gDiv (d e : D) : Option Op := gI (fun i j => if divOk j = true then some (.int (i / j)) else none) d e
def gMod (d e : D) : Option Op := gI (fun i j => if 0 < j then some (.int (i % j)) else none) d e
def powOk (i j : Int) : Bool := decide (0 ≤ j) && decide (j ≤ 1000000) && decide (i.natAbs < 2 ^ 64)
def gPow (d e : D) : Option Op := gI (fun i j => if powOk i j = true then some (.int (i ^ j.toNat)) else none) d e
def gLt (d e : D) : Option Op := gI (fun i j => some (.bl (decide (i < j)))) d e
def gLe (d e : D) : Option Op := gI (fun i j => some (.bl (decide (i ≤ j)))) d e
def gGt (d e : D) : Option Op := gI (fun i j => some (.bl (decide (j < i)))) d e
def gGe (d e : D) : Option Op := gI (fun i j => some (.bl (decide (j ≤ i)))) d e
abbrev qAdd : R2 := rI0 fun i j => .int (i + j)
abbrev qSub : R2 := rI0 fun i j => .int (i - j)
abbrev qMul : R2 := rI IntMulOk fun i j => .int (i * j)
abbrev qDiv : R2 := rI CDivW fun i j => .int (i / j)
abbrev qMod : R2 := rI (fun _ j => 0 < j) fun i j => .int (i % j)
abbrev qPow : R2 := rI CPow fun i j => .int (i ^ j.toNat)
abbrev qLt : R2 := rI0 fun i j => .bl (decide (i < j))
abbrev qLe : R2 := rI0 fun i j => .bl (decide (i ≤ j))
abbrev qGt : R2 := rI0 fun i j => .bl (decide (j < i))
abbrev qGe : R2 := rI0 fun i j => .bl (decide (j ≤ i))
abbrev qNeg : V → Hp → VK → Prop := rU fun i => .int (-i)
def gNeg : D → Option Op
  | .int i => some (.val (.int (-i)))
  | _ => none
theorem if_get {α : Type} {c : Prop} [Decidable c] {x y : α} (h : (if c then some x else none) = some y) : c ∧ x = y := by
  by_cases hc : c
  · rw [if_pos hc] at h; exact ⟨hc, Option.some.inj h⟩
  · rw [if_neg hc] at h; cases h
section
variable {X : Cx} {a b c : Expr} {ta tb tc : TE} {fa fb fc : FE} {pos : Pos}
theorem je_bin {op : Operator} {r : R2} {g : G2} (ho : OpR X (binaryOp op) r) (hr : RB X.K X.mg r g) (ha : JE X a ta fa) (hb : JE X b tb fb) : JE X (.BinOp a op b pos) (tOp r ta tb) (fBin g fa fb) := ⟨pe_op ho ha.pe hb.pe, re_bin hr ha.re hb.re⟩
theorem je_cmp {op : CmpOp} {r : R2} {g : G2} (ho : OpR X (compareOp op) r) (hr : RB X.K X.mg r g) (ha : JE X a ta fa) (hb : JE X b tb fb) (hm : behindInMarks op b = false) : JE X (.Compare a [op] [b] pos) (tOp r ta tb) (fBin g fa fb) := ⟨pe_cmpR ho ha.pe hb.pe hm, re_bin hr ha.re hb.re⟩
theorem op_mulX : OpR X (binaryOp .Mult) qMul := opI fun _ _ _ _ _ _ _ hc q => mul_int q hc
theorem je_add (ha : JE X a ta fa) (hb : JE X b tb fb) : JE X (.BinOp a .Add b pos) (tOp qAdd ta tb) (fBin gAdd fa fb) := je_bin op_add (rb_I0 fun i j G => .int (i + j)) ha hb
theorem je_sub (ha : JE X a ta fa) (hb : JE X b tb fb) : JE X (.BinOp a .Sub b pos) (tOp qSub ta tb) (fBin gSub fa fb) := je_bin op_sub (rb_I0 fun i j G => .int (i - j)) ha hb
theorem je_mul (ha : JE X a ta fa) (hb : JE X b tb fb) : JE X (.BinOp a .Mult b pos) (tOp qMul ta tb) (fBin gMul fa fb) :=
  je_bin op_mulX (rb_I fun i j d G h => by obtain ⟨h1, rfl⟩ := if_get h; exact ⟨mulOk_ok h1, .int _⟩) ha hb
theorem je_div (ha : JE X a ta fa) (hb : JE X b tb fb) : JE X (.BinOp a .FloorDiv b pos) (tOp qDiv ta tb) (fBin gDiv fa fb) :=
  je_bin op_fdivW (rb_I fun i j d G h => by
    obtain ⟨h1, rfl⟩ := if_get h
    unfold divOk at h1
    simp only [Bool.and_eq_true, decide_eq_true_eq] at h1
    exact ⟨h1, .int _⟩) ha hb
theorem je_mod (ha : JE X a ta fa) (hb : JE X b tb fb) : JE X (.BinOp a .Mod b pos) (tOp qMod ta tb) (fBin gMod fa fb) :=
  je_bin op_mod (rb_I fun i j d G h => by obtain ⟨h1, rfl⟩ := if_get h; exact ⟨h1, .int _⟩) ha hb
theorem je_pow (ha : JE X a ta fa) (hb : JE X b tb fb) : JE X (.BinOp a .Pow b pos) (tOp qPow ta tb) (fBin gPow fa fb) :=
  je_bin op_pow (rb_I fun i j d G h => by
    obtain ⟨h1, rfl⟩ := if_get h
    unfold powOk at h1
    simp only [Bool.and_eq_true, decide_eq_true_eq] at h1
    exact ⟨⟨h1.1.1, h1.1.2, h1.2⟩, .int _⟩) ha hb
theorem ru_neg {K : PySem.W.Frag} {mg : Mg} : RU K mg qNeg gNeg := fun G H x d op Q s p eq q => by
  cases d <;> first | (cases eq; done) | skip
  cases eq
  cases p.int
  exact ⟨_, rfl, q _ G H (Nw.refl s) (.val (.int _))⟩
theorem je_neg (ha : JE X a ta fa) : JE X (.UnaryOp .USub a pos) (tUn qNeg ta) (fUn gNeg fa) := ⟨pe_un un_neg ha.pe, re_un ru_neg ha.re⟩
theorem rb_lt {K : PySem.W.Frag} {mg : Mg} : RB K mg qLt gLt := rb_I0 fun i j G => .bl _
theorem rb_le {K : PySem.W.Frag} {mg : Mg} : RB K mg qLe gLe := rb_I0 fun i j G => .bl _
theorem rb_gt {K : PySem.W.Frag} {mg : Mg} : RB K mg qGt gGt := rb_I0 fun i j G => .bl _
theorem rb_ge {K : PySem.W.Frag} {mg : Mg} : RB K mg qGe gGe := rb_I0 fun i j G => .bl _
theorem je_lt (ha : JE X a ta fa) (hb : JE X b tb fb) : JE X (.Compare a [.Lt] [b] pos) (tOp qLt ta tb) (fBin gLt fa fb) := je_cmp op_lt rb_lt ha hb (nomark _)
theorem je_le (ha : JE X a ta fa) (hb : JE X b tb fb) : JE X (.Compare a [.LtE] [b] pos) (tOp qLe ta tb) (fBin gLe fa fb) := je_cmp op_le rb_le ha hb (nomark _)
theorem je_gt (ha : JE X a ta fa) (hb : JE X b tb fb) : JE X (.Compare a [.Gt] [b] pos) (tOp qGt ta tb) (fBin gGt fa fb) := je_cmp op_gt rb_gt ha hb (nomark _)
theorem je_ge (ha : JE X a ta fa) (hb : JE X b tb fb) : JE X (.Compare a [.GtE] [b] pos) (tOp qGe ta tb) (fBin gGe fa fb) := je_cmp op_ge rb_ge ha hb (nomark _)
end
end J
namespace J
open PySem PySem.Spec PyProof.Rows L2

/-! ### == and != of data -/
mutual
def toPy : D → Option PyData
  | .non => some .none
  | .bl b => some (.bool b)
  | .int i => some (.int i)
  | .str x => some (.str x)
  | .lst xs => (toPyL xs).map PyData.list
  | .tup xs => (toPyL xs).map PyData.tuple
  | .dic _ => none
  | .ins _ _ => none
def toPyL : List D → Option (List PyData)
  | [] => some []
  | x :: xs => (toPy x).bind fun y => (toPyL xs).map fun ys => y :: ys
end
section
variable {K : PySem.W.Frag} {mg : Mg} {G H : Hp}
mutual
theorem Rp.dp (s : Same G H) : ∀ {v : V} {d : D} {p : PyData}, Rp K mg G v d → toPy d = some p → Dp K H v p
  | _, _, _, .non, e => by simp only [toPy] at e; cases e; exact .non
  | _, _, _, .bl b, e => by simp only [toPy] at e; cases e; exact .bl b
  | _, _, _, .int b, e => by simp only [toPy] at e; cases e; exact .int b
  | _, _, _, .str b, e => by simp only [toPy] at e; cases e; exact .str b
  | _, _, _, .lst q r, e => by
    simp only [toPy] at e
    obtain ⟨ps, e1, rfl⟩ := Option.map_eq_some_iff.mp e
    exact .lst (same_sql s q) (RpL.dp s r e1)
  | _, _, _, .tup q r, e => by
    simp only [toPy] at e
    obtain ⟨ps, e1, rfl⟩ := Option.map_eq_some_iff.mp e
    exact .tup (same_sqt s q) (RpL.dp s r e1)
  | _, _, _, .dic _ _, e => by simp only [toPy] at e; cases e
  | _, _, _, .ins _ _ _, e => by simp only [toPy] at e; cases e
theorem RpL.dp (s : Same G H) : ∀ {v : List V} {d : List D} {p : List PyData}, RpL K mg G v d → toPyL d = some p → DpAll K H v p
  | _, _, _, .nil, e => by simp only [toPyL] at e; cases e; exact .nil
  | _, _, _, .cons h r, e => by
    simp only [toPyL] at e
    obtain ⟨y, e1, e⟩ := bind_some' e
    obtain ⟨ys, e2, rfl⟩ := Option.map_eq_some_iff.mp e
    exact .cons (Rp.dp s h e1) (RpL.dp s r e2)
end
theorem Pk.dp (s : Same G H) {v : V} {d : D} {p : PyData} (h : Pk K mg G H v d) (e : toPy d = some p) : Dp K H v p := by
  cases h with
  | frz r => exact r.dp s e
  | root q r =>
    cases r with
    | lst r =>
      simp only [toPy] at e
      obtain ⟨ps, e1, rfl⟩ := Option.map_eq_some_iff.mp e
      exact .lst (SqL.of q) (r.dp s e1)
    | dic r => simp only [toPy] at e; cases e
    | ins m r => simp only [toPy] at e; cases e
end
def dEq (d e : D) : Option Bool := (toPy d).bind fun p => (toPy e).bind fun q => if SeqAt.shaped p = true ∧ SeqAt.shaped q = true then some (PyData.eqv p q) else none
def gEq (d e : D) : Option Op := (dEq d e).map fun b => .val (.bl b)
def gNe (d e : D) : Option Op := (dEq d e).map fun b => .val (.bl !b)
section
variable {X : Cx} {a b c : Expr} {ta tb tc : TE} {fa fb fc : FE} {pos : Pos}
theorem rb_eq {K : PySem.W.Frag} {mg : Mg} : RB K mg (rEqD K) gEq := fun G H x y d e op Q s p1 p2 eq q => by
  obtain ⟨b, e1, rfl⟩ := Option.map_eq_some_iff.mp eq
  obtain ⟨p, e2, e1⟩ := bind_some' e1
  obtain ⟨p', e3, e1⟩ := bind_some' e1
  obtain ⟨⟨s1, s2⟩, rfl⟩ := if_get e1
  exact ⟨p, p', p1.dp s e2, p2.dp s e3, s1, s2, q _ G H (Nw.refl s) (.val (.bl _))⟩
theorem rb_ne {K : PySem.W.Frag} {mg : Mg} : RB K mg (rNeD K) gNe := fun G H x y d e op Q s p1 p2 eq q => by
  obtain ⟨b, e1, rfl⟩ := Option.map_eq_some_iff.mp eq
  obtain ⟨p, e2, e1⟩ := bind_some' e1
  obtain ⟨p', e3, e1⟩ := bind_some' e1
  obtain ⟨⟨s1, s2⟩, rfl⟩ := if_get e1
  exact ⟨p, p', p1.dp s e2, p2.dp s e3, s1, s2, q _ G H (Nw.refl s) (.val (.bl _))⟩
theorem je_eq {K : PySem.W.Frag} {k : Nat} (hr : Room k X.A) (ha : JE X a ta fa) (hb : JE X b tb fb) (hK : X.K = K := by rfl) : JE X (.Compare a [.Eq] [b] pos) (tOp (rEqD K) ta tb) (fBin gEq fa fb) := by
  subst hK
  exact je_cmp (op_eqD hr.units) rb_eq ha hb (nomark _)
theorem je_ne {K : PySem.W.Frag} {k : Nat} (hr : Room k X.A) (ha : JE X a ta fa) (hb : JE X b tb fb) (hK : X.K = K := by rfl) : JE X (.Compare a [.NotEq] [b] pos) (tOp (rNeD K) ta tb) (fBin gNe fa fb) := by
  subst hK
  exact je_cmp (op_neD hr.units) rb_ne ha hb (nomark _)
end

/-! ### is None -/
def gIsN (d : D) : Option Op := match d with | .non => some (.val (.bl true)) | _ => some (.val (.bl false))
end J
namespace J
open PySem PySem.Spec PyProof.Rows L2
abbrev qIsN (neg : Bool) : R2 := fun x y H Q => y = .non ∧ Q (.bl (if neg then !decide (x = .non) else decide (x = .non))) H
def gIs (neg : Bool) (d e : D) : Option Op := match e with
  | .non => (gIsN d).bind fun o => match o with | .val (.bl b) => some (.val (.bl (if neg then !b else b))) | _ => none
  | _ => none
section
variable {X : Cx} {a b c : Expr} {ta tb tc : TE} {fa fb fc : FE} {pos : Pos}
theorem rb_is {neg : Bool} {K : PySem.W.Frag} {mg : Mg} : RB K mg (qIsN neg) (gIs neg) := fun G H x y d e op Q s p1 p2 eq q => by
  unfold gIs at eq
  split at eq
  · cases p2.non
    refine ⟨rfl, ?_⟩
    have key : ∀ b : Bool, decide (x = .non) = b → gIsN d = some (.val (.bl b)) → Q (.bl (if neg then !decide (x = .non) else decide (x = .non))) H := fun b h1 h2 => by
      rw [h2] at eq
      cases eq
      rw [h1]
      exact q _ G H (Nw.refl s) (.val (.bl _))
    cases d with
    | non => cases p1.non; exact key true rfl rfl
    | bl _ => cases p1.bl; exact key false rfl rfl
    | int _ => cases p1.int; exact key false rfl rfl
    | str _ => cases p1.str; exact key false rfl rfl
    | lst _ => obtain ⟨_, _, rfl, _⟩ := p1.lst s; exact key false rfl rfl
    | tup _ => obtain ⟨_, _, rfl, _⟩ := p1.tup s; exact key false rfl rfl
    | dic _ => obtain ⟨_, _, rfl, _⟩ := p1.dic s; exact key false rfl rfl
    | ins _ _ => obtain ⟨_, _, _, _, rfl, _⟩ := p1.ins s; exact key false rfl rfl
  · cases eq
theorem je_is (ha : JE X a ta fa) (hb : JE X b tb fb) : JE X (.Compare a [.Is] [b] pos) (tOp (qIsN false) ta tb) (fBin (gIs false) fa fb) := je_cmp (fun pins s σ H x y v u Q I rx ry h => op_isN pins s σ H x y v u Q I rx ry h) rb_is ha hb (nomark _)
theorem je_isn (ha : JE X a ta fa) (hb : JE X b tb fb) : JE X (.Compare a [.IsNot] [b] pos) (tOp (qIsN true) ta tb) (fBin (gIs true) fa fb) := je_cmp (fun pins s σ H x y v u Q I rx ry h => op_notN pins s σ H x y v u Q I rx ry h) rb_is ha hb (nomark _)
end

/-! ### tests -/
def fTB (f : FE) (τ : Tau) : Option (Bool × Tau) := (f τ).bind fun a => (deref a.2 a.1).bind fun d => match d with | .bl b => some (b, a.2) | _ => none
def fAnd (f g : FT) (τ : Tau) : Option (Bool × Tau) := (f τ).bind fun a => if a.1 = true then g a.2 else some (false, a.2)
def fOr (f g : FT) (τ : Tau) : Option (Bool × Tau) := (f τ).bind fun a => if a.1 = true then some (true, a.2) else g a.2
def fNot (f : FT) (τ : Tau) : Option (Bool × Tau) := (f τ).bind fun a => some (!a.1, a.2)
def fIfE (ft : FT) (f g : FE) (τ : Tau) : Option (Op × Tau) := (ft τ).bind fun a => if a.1 = true then f a.2 else g a.2
def fAndV (f g : FE) (τ : Tau) : Option (Op × Tau) := (f τ).bind fun a => (deref a.2 a.1).bind fun d => match d with | .bl b => if b = true then g a.2 else some (.val (.bl false), a.2) | _ => none
def fOrV (f g : FE) (τ : Tau) : Option (Op × Tau) := (f τ).bind fun a => (deref a.2 a.1).bind fun d => match d with | .bl b => if b = true then some (.val (.bl true), a.2) else g a.2 | _ => none
def fNotV (f : FE) (τ : Tau) : Option (Op × Tau) := (f τ).bind fun a => (deref a.2 a.1).bind fun d => match d with | .bl b => some (.val (.bl !b), a.2) | _ => none
section
variable {K : PySem.W.Frag} {mg : Mg} {ta tb : TE} {fa fb : FE} {t u : TT} {f g : FT}
theorem re_testE (ha : RE K mg ta fa) : RT K mg (tTest ta) (fTB fa) := fun σ τ G H b τ' Q A e q => by
  obtain ⟨⟨oa, τ1⟩, e1, e⟩ := bind_some' e
  obtain ⟨d, e2, e⟩ := bind_some' e
  dsimp only at e2 e
  cases d <;> first | (cases e; done) | skip
  cases e
  refine ha σ τ G H oa _ _ A e1 fun x G1 H1 g1 o1 => ?_
  cases (o1.pk g1.at' e2).bl
  exact ⟨_, rfl, q G1 H1 g1⟩
theorem re_testB (ha : RE K mg ta fa) : RT K mg (tB ta) (fTB fa) := re_testE ha
theorem rt_and (ha : RT K mg t f) (hb : RT K mg u g) : RT K mg (tAnd t u) (fAnd f g) := fun σ τ G H b τ' Q A e q => by
  obtain ⟨⟨a, τ1⟩, e1, e⟩ := bind_some' e
  refine ha σ τ G H a τ1 _ A e1 fun G1 H1 g1 => ?_
  cases a with
  | true =>
    rw [if_pos rfl] at e ⊢
    exact hb σ τ1 G1 H1 b τ' Q g1.at' e fun G2 H2 g2 => q G2 H2 (g1.trans g2)
  | false =>
    rw [if_neg Bool.false_ne_true] at e ⊢
    cases e
    exact q G1 H1 g1
theorem rt_or (ha : RT K mg t f) (hb : RT K mg u g) : RT K mg (tOr t u) (fOr f g) := fun σ τ G H b τ' Q A e q => by
  obtain ⟨⟨a, τ1⟩, e1, e⟩ := bind_some' e
  refine ha σ τ G H a τ1 _ A e1 fun G1 H1 g1 => ?_
  cases a with
  | true =>
    rw [if_pos rfl] at e ⊢
    cases e
    exact q G1 H1 g1
  | false =>
    rw [if_neg Bool.false_ne_true] at e ⊢
    exact hb σ τ1 G1 H1 b τ' Q g1.at' e fun G2 H2 g2 => q G2 H2 (g1.trans g2)
theorem rt_not (ha : RT K mg t f) : RT K mg (tNot t) (fNot f) := fun σ τ G H b τ' Q A e q => by
  obtain ⟨⟨a, τ1⟩, e1, e⟩ := bind_some' e
  cases e
  exact ha σ τ G H a _ _ A e1 fun G1 H1 g1 => q G1 H1 g1
theorem re_if (ht : RT K mg t f) (ha : RE K mg ta fa) (hb : RE K mg tb fb) : RE K mg (tIf t ta tb) (fIfE f fa fb) := fun σ τ G H op τ' Q A e q => by
  obtain ⟨⟨a, τ1⟩, e1, e⟩ := bind_some' e
  refine ht σ τ G H a τ1 _ A e1 fun G1 H1 g1 => ?_
  cases a with
  | true =>
    rw [if_pos rfl] at e ⊢
    exact ha σ τ1 G1 H1 op τ' Q g1.at' e fun v G2 H2 g2 o => q v G2 H2 (g1.trans g2) (o.weak g1.kp)
  | false =>
    rw [if_neg Bool.false_ne_true] at e ⊢
    exact hb σ τ1 G1 H1 op τ' Q g1.at' e fun v G2 H2 g2 o => q v G2 H2 (g1.trans g2) (o.weak g1.kp)
theorem re_andV (ha : RE K mg ta fa) (hb : RE K mg tb fb) : RE K mg (tAndV ta tb) (fAndV fa fb) := fun σ τ G H op τ' Q A e q => by
  obtain ⟨⟨oa, τ1⟩, e1, e⟩ := bind_some' e
  obtain ⟨d, e2, e⟩ := bind_some' e
  dsimp only at e2 e
  cases d <;> first | (cases e; done) | skip
  rename_i bb
  refine ha σ τ G H oa τ1 _ A e1 fun x G1 H1 g1 o1 => ?_
  cases (o1.pk g1.at' e2).bl
  refine ⟨bb, rfl, ?_⟩
  cases bb with
  | true =>
    dsimp only at e
    rw [if_pos rfl] at e ⊢
    exact hb σ τ1 G1 H1 op τ' Q g1.at' e fun v G2 H2 g2 o => q v G2 H2 (g1.trans g2) (o.weak g1.kp)
  | false =>
    dsimp only at e
    rw [if_neg Bool.false_ne_true] at e ⊢
    cases e
    exact q _ G1 H1 g1 (.val (.bl _))
theorem re_orV (ha : RE K mg ta fa) (hb : RE K mg tb fb) : RE K mg (tOrV ta tb) (fOrV fa fb) := fun σ τ G H op τ' Q A e q => by
  obtain ⟨⟨oa, τ1⟩, e1, e⟩ := bind_some' e
  obtain ⟨d, e2, e⟩ := bind_some' e
  dsimp only at e2 e
  cases d <;> first | (cases e; done) | skip
  rename_i bb
  refine ha σ τ G H oa τ1 _ A e1 fun x G1 H1 g1 o1 => ?_
  cases (o1.pk g1.at' e2).bl
  refine ⟨bb, rfl, ?_⟩
  cases bb with
  | true =>
    dsimp only at e
    rw [if_pos rfl] at e ⊢
    cases e
    exact q _ G1 H1 g1 (.val (.bl _))
  | false =>
    dsimp only at e
    rw [if_neg Bool.false_ne_true] at e ⊢
    exact hb σ τ1 G1 H1 op τ' Q g1.at' e fun v G2 H2 g2 o => q v G2 H2 (g1.trans g2) (o.weak g1.kp)
theorem re_notV (ha : RE K mg ta fa) : RE K mg (tNotV ta) (fNotV fa) := fun σ τ G H op τ' Q A e q => by
  obtain ⟨⟨oa, τ1⟩, e1, e⟩ := bind_some' e
  obtain ⟨d, e2, e⟩ := bind_some' e
  dsimp only at e2 e
  cases d <;> first | (cases e; done) | skip
  cases e
  refine ha σ τ G H oa _ _ A e1 fun x G1 H1 g1 o1 => ?_
  cases (o1.pk g1.at' e2).bl
  exact ⟨_, rfl, q _ G1 H1 g1 (.val (.bl _))⟩
end
section
variable {X : Cx} {a b c : Expr} {ta tb tc : TE} {fa fb fc : FE} {pos : Pos} {t u : TT} {f g : FT} {rest : List Expr}
theorem jt_val (h : JE X a ta fa) (he : ∀ whole, isTrue a X.env whole = (do let v ← whole; standAt a.pos; holding [v] (truthy v)) := by intro _; rfl) : JT X a (tB ta) (fTB fa) := ⟨pt_val h.pe he, re_testB h.re⟩
theorem jt_cmp {op : CmpOp} {r : R2} {g : G2} (ho : OpR X (compareOp op) r) (hr : RB X.K X.mg r g) (ha : JE X a ta fa) (hb : JE X b tb fb) (hm : behindInMarks op b = false) : JT X (.Compare a [op] [b] pos) (tTest (tOp r ta tb)) (fTB (fBin g fa fb)) :=
  ⟨pt_cmpR ho ha.pe hb.pe hm, re_testE (re_bin hr ha.re hb.re)⟩
theorem jt_lt (ha : JE X a ta fa) (hb : JE X b tb fb) : JT X (.Compare a [.Lt] [b] pos) (tTest (tOp qLt ta tb)) (fTB (fBin gLt fa fb)) := jt_cmp op_lt rb_lt ha hb (nomark _)
theorem jt_le (ha : JE X a ta fa) (hb : JE X b tb fb) : JT X (.Compare a [.LtE] [b] pos) (tTest (tOp qLe ta tb)) (fTB (fBin gLe fa fb)) := jt_cmp op_le rb_le ha hb (nomark _)
theorem jt_gt (ha : JE X a ta fa) (hb : JE X b tb fb) : JT X (.Compare a [.Gt] [b] pos) (tTest (tOp qGt ta tb)) (fTB (fBin gGt fa fb)) := jt_cmp op_gt rb_gt ha hb (nomark _)
theorem jt_ge (ha : JE X a ta fa) (hb : JE X b tb fb) : JT X (.Compare a [.GtE] [b] pos) (tTest (tOp qGe ta tb)) (fTB (fBin gGe fa fb)) := jt_cmp op_ge rb_ge ha hb (nomark _)
theorem jt_eq {K : PySem.W.Frag} {k : Nat} (hr : Room k X.A) (ha : JE X a ta fa) (hb : JE X b tb fb) (hK : X.K = K := by rfl) : JT X (.Compare a [.Eq] [b] pos) (tTest (tOp (rEqD K) ta tb)) (fTB (fBin gEq fa fb)) := by
  subst hK
  exact jt_cmp (op_eqD hr.units) rb_eq ha hb (nomark _)
theorem jt_ne {K : PySem.W.Frag} {k : Nat} (hr : Room k X.A) (ha : JE X a ta fa) (hb : JE X b tb fb) (hK : X.K = K := by rfl) : JT X (.Compare a [.NotEq] [b] pos) (tTest (tOp (rNeD K) ta tb)) (fTB (fBin gNe fa fb)) := by
  subst hK
  exact jt_cmp (op_neD hr.units) rb_ne ha hb (nomark _)
theorem jt_is (ha : JE X a ta fa) (hb : JE X b tb fb) : JT X (.Compare a [.Is] [b] pos) (tTest (tOp (qIsN false) ta tb)) (fTB (fBin (gIs false) fa fb)) := jt_cmp (fun pins s σ H x y v u Q I rx ry h => op_isN pins s σ H x y v u Q I rx ry h) rb_is ha hb (nomark _)
theorem jt_isn (ha : JE X a ta fa) (hb : JE X b tb fb) : JT X (.Compare a [.IsNot] [b] pos) (tTest (tOp (qIsN true) ta tb)) (fTB (fBin (gIs true) fa fb)) := jt_cmp (fun pins s σ H x y v u Q I rx ry h => op_notN pins s σ H x y v u Q I rx ry h) rb_is ha hb (nomark _)
theorem jt_not (h : JT X a t f) : JT X (.UnaryOp .Not a pos) (tNot t) (fNot f) := ⟨pt_not h.pt, rt_not h.rt⟩
theorem jw_and1 (h : JT X a t f) : JW X (.BoolOp .And [a] pos) t f := ⟨pw_and1 h.pt, h.rt⟩
theorem jw_or1 (h : JT X a t f) : JW X (.BoolOp .Or [a] pos) t f := ⟨pw_or1 h.pt, h.rt⟩
theorem jw_and (h : JT X a t f) (h2 : JW X (.BoolOp .And (b :: rest) pos) u g) : JW X (.BoolOp .And (a :: b :: rest) pos) (tAnd t u) (fAnd f g) := ⟨pw_and h.pt h2.pw, rt_and h.rt h2.rt⟩
theorem jw_or (h : JT X a t f) (h2 : JW X (.BoolOp .Or (b :: rest) pos) u g) : JW X (.BoolOp .Or (a :: b :: rest) pos) (tOr t u) (fOr f g) := ⟨pw_or h.pt h2.pw, rt_or h.rt h2.rt⟩
theorem jt_w (h : JW X a t f) : JT X a t f := ⟨h.pw.pt, h.rt⟩
theorem je_ifE (hc : JT X c t f) (ha : JE X a ta fa) (hb : JE X b tb fb) : JE X (.IfExp c a b pos) (tIf t ta tb) (fIfE f fa fb) := ⟨pe_ifExp hc.pt ha.pe hb.pe, re_if hc.rt ha.re hb.re⟩
theorem je_one {op} (h : JE X a ta fa) : JE X (.BoolOp op [a] pos) ta fa := ⟨pe_one h.pe, h.re⟩
theorem je_and (ha : JE X a ta fa) (hb : JE X (.BoolOp .And (b :: rest) pos) tb fb) : JE X (.BoolOp .And (a :: b :: rest) pos) (tAndV ta tb) (fAndV fa fb) := ⟨pe_and ha.pe hb.pe, re_andV ha.re hb.re⟩
theorem je_or (ha : JE X a ta fa) (hb : JE X (.BoolOp .Or (b :: rest) pos) tb fb) : JE X (.BoolOp .Or (a :: b :: rest) pos) (tOrV ta tb) (fOrV fa fb) := ⟨pe_or ha.pe hb.pe, re_orV ha.re hb.re⟩
theorem je_not (ha : JE X a ta fa) : JE X (.UnaryOp .Not a pos) (tNotV ta) (fNotV fa) := ⟨pe_not ha.pe, re_notV ha.re⟩
end

/-! ### chains: a op b op' c over ints -/
def fChain (g g' : G2) (fa fb fc : FE) (τ : Tau) : Option (Op × Tau) := (fa τ).bind fun a => (fb a.2).bind fun b => (deref b.2 a.1).bind fun x => (deref b.2 b.1).bind fun y => (g x y).bind fun z => match z with
  | .val (.bl true) => (fc b.2).bind fun c => (deref c.2 b.1).bind fun y' => (deref c.2 c.1).bind fun w => (g' y' w).bind fun z' => some (z', c.2)
  | .val (.bl false) => some (.val (.bl false), b.2)
  | _ => none
section
variable {K : PySem.W.Frag} {mg : Mg} {ta tb tc : TE} {fa fb fc : FE}
theorem re_chain {r r' : R2} {g g' : G2} (hr : RB K mg r g) (hr' : RB K mg r' g') (ha : RE K mg ta fa) (hb : RE K mg tb fb) (hc : RE K mg tc fc) : RE K mg (tChain r r' ta tb tc) (fChain g g' fa fb fc) := fun σ τ G H op τ' Q A e q => by
  obtain ⟨⟨oa, τ1⟩, e1, e⟩ := bind_some' e
  obtain ⟨⟨ob, τ2⟩, e2, e⟩ := bind_some' e
  obtain ⟨d, e3, e⟩ := bind_some' e
  obtain ⟨d', e4, e⟩ := bind_some' e
  obtain ⟨z, e5, e⟩ := bind_some' e
  dsimp only at e2 e3 e4 e
  refine ha σ τ G H oa τ1 _ A e1 fun x G1 H1 g1 o1 => ?_
  refine hb σ τ1 G1 H1 ob τ2 _ g1.at' e2 fun y G2 H2 g2 o2 => ?_
  have o1' := o1.step g2
  refine hr G2 H2 x y d d' z _ g2.at'.gh (o1'.pk g2.at' e3) (o2.pk g2.at' e4) e5 fun v G3 H3 n o => ?_
  have g3 := (g1.trans g2).trans (n.go g2.at')
  split at e
  · cases o with
    | val rv =>
      cases rv
      refine ⟨true, rfl, ?_⟩
      rw [if_pos rfl]
      obtain ⟨⟨oc, τ3⟩, e6, e⟩ := bind_some' e
      obtain ⟨d3, e7, e⟩ := bind_some' e
      obtain ⟨d4, e8, e⟩ := bind_some' e
      obtain ⟨z', e9, e⟩ := bind_some' e
      cases e
      refine hc σ τ2 G3 H3 oc _ _ g3.at' e6 fun w G4 H4 g4 o4 => ?_
      have o2' := (o2.step (n.go g2.at')).step g4
      refine hr' G4 H4 y w d3 d4 _ Q g4.at'.gh (o2'.pk g4.at' e7) (o4.pk g4.at' e8) e9 fun v' G5 H5 n' o' => ?_
      have g5 := g3.trans g4
      exact q v' G5 H5 (g5.trans (n'.go g4.at')) ((o'.or g4.at').weak g5.kp)
  · cases o with
    | val rv =>
      cases rv
      refine ⟨false, rfl, ?_⟩
      rw [if_neg Bool.false_ne_true]
      cases e
      exact q _ G3 H3 g3 (.val (.bl _))
  · cases e
end
section
variable {X : Cx} {a b c : Expr} {ta tb tc : TE} {fa fb fc : FE} {pos : Pos}
theorem je_chain {op op' : CmpOp} {r r' : R2} {g g' : G2} (ho : OpR X (compareOp op) r) (ho' : OpR X (compareOp op') r') (hr : RB X.K X.mg r g) (hr' : RB X.K X.mg r' g') (ha : JE X a ta fa) (hb : JE X b tb fb) (hc : JE X c tc fc)
    (hm : lastMarks [op, op'] [b, c] = false := by with_unfolding_all rfl) : JE X (.Compare a [op, op'] [b, c] pos) (tChain r r' ta tb tc) (fChain g g' fa fb fc) := ⟨pe_chain ho ho' ha.pe hb.pe hc.pe hm, re_chain hr hr' ha.re hb.re hc.re⟩
theorem jt_chain {op op' : CmpOp} {r r' : R2} {g g' : G2} (ho : OpR X (compareOp op) r) (ho' : OpR X (compareOp op') r') (hr : RB X.K X.mg r g) (hr' : RB X.K X.mg r' g') (ha : JE X a ta fa) (hb : JE X b tb fb) (hc : JE X c tc fc)
    (hm : lastMarks [op, op'] [b, c] = false := by with_unfolding_all rfl) : JT X (.Compare a [op, op'] [b, c] pos) (tTest (tChain r r' ta tb tc)) (fTB (fChain g g' fa fb fc)) := ⟨pt_chain ho ho' ha.pe hb.pe hc.pe hm, re_testE (re_chain hr hr' ha.re hb.re hc.re)⟩
end

/-! ### argument lists, displays -/
def aNil (τ : Tau) : Option (List D × Tau) := some ([], τ)
def aCons (f : FE) (r : FA) (τ : Tau) : Option (List D × Tau) := (f τ).bind fun a => (fz a.2 a.1).bind fun d => (r d.2).bind fun ds => some (d.1 :: ds.1, ds.2)
def pNil (τ : Tau) : Option (List Op × Tau) := some ([], τ)
def pCons (f : FE) (r : FP) (τ : Tau) : Option (List Op × Tau) := (f τ).bind fun a => (r a.2).bind fun ds => some (a.1 :: ds.1, ds.2)
def fTup (f : FA) (τ : Tau) : Option (Op × Tau) := (f τ).bind fun a => if a.1.length ≤ 16777216 then some (.val (.tup a.1), a.2) else none
def fLst (f : FA) (τ : Tau) : Option (Op × Tau) := (f τ).bind fun a => if a.1.length ≤ 16777216 then some (.tmp (.lst a.1), a.2) else none
section
variable {K : PySem.W.Frag} {mg : Mg} {te : TE} {fe : FE} {t : TA} {f : FA} {fp : FP}
theorem ra_nil : RA K mg tNil aNil := fun σ τ G H ds τ' Q A e q => by
  cases e
  exact q [] G H (Go.refl A) .nil
theorem ra_cons (he : RE K mg te fe) (hr : RA K mg t f) : RA K mg (tCons te t) (aCons fe f) := fun σ τ G H ds τ' Q A e q => by
  obtain ⟨⟨oa, τ1⟩, e1, e⟩ := bind_some' e
  obtain ⟨⟨d, τ2⟩, e2, e⟩ := bind_some' e
  obtain ⟨⟨ds', τ3⟩, e3, e⟩ := bind_some' e
  cases e
  refine he σ τ G H oa τ1 _ A e1 fun x G1 H1 g1 o1 => ?_
  obtain ⟨G2, g2, s2, r2⟩ := o1.fz g1 e2
  refine hr σ τ2 G2 H1 ds' _ _ g2.at' e3 fun xs G3 H3 g3 r3 => ?_
  exact q (x :: xs) G3 H3 (g2.trans g3) (.cons (r2.mono g3.gg) r3)
theorem rp_nil : RPa K mg tNil pNil := fun σ τ G H ds τ' Q A e q => by
  cases e
  exact q [] G H (Go.refl A) .nil
theorem rp_cons (he : RE K mg te fe) (hr : RPa K mg t fp) : RPa K mg (tCons te t) (pCons fe fp) := fun σ τ G H ds τ' Q A e q => by
  obtain ⟨⟨oa, τ1⟩, e1, e⟩ := bind_some' e
  obtain ⟨⟨ds', τ3⟩, e3, e⟩ := bind_some' e
  cases e
  refine he σ τ G H oa τ1 _ A e1 fun x G1 H1 g1 o1 => ?_
  refine hr σ τ1 G1 H1 ds' _ _ g1.at' e3 fun xs G3 H3 g3 r3 => ?_
  exact q (x :: xs) G3 H3 (g1.trans g3) (.cons (o1.step g3) (r3.weak g1.kp))
theorem re_tup (hr : RA K mg t f) : RE K mg (tTup t) (fTup f) := fun σ τ G H op τ' Q A e q => by
  obtain ⟨⟨ds, τ1⟩, e1, e⟩ := bind_some' e
  obtain ⟨hl, e⟩ := if_get e
  cases e
  refine hr σ τ G H ds _ _ A e1 fun vs G1 H1 g1 r1 => ⟨by rw [sizeLine_eq, r1.length]; exact hl, fun p hp => ?_⟩
  have n := Nw.newF (K := K) (mg := mg) (o := .tup vs) g1.at'.gh hp
  exact q _ _ _ (g1.trans (n.go g1.at')) (.val (.tup (SqT.of upd_same) (r1.mono n.gg)))
theorem re_lst (hr : RA K mg t f) : RE K mg (tLst t) (fLst f) := fun σ τ G H op τ' Q A e q => by
  obtain ⟨⟨ds, τ1⟩, e1, e⟩ := bind_some' e
  obtain ⟨hl, e⟩ := if_get e
  cases e
  refine hr σ τ G H ds _ _ A e1 fun vs G1 H1 g1 r1 => ⟨by rw [sizeLine_eq, r1.length]; exact hl, fun p hp => ?_⟩
  have n := Nw.new (K := K) (mg := mg) (o := .lst vs) g1.at'.gh hp
  exact q _ _ _ (g1.trans (n.go g1.at')) (((On.new g1.at'.gh hp (.lst r1)).or g1.at').weak g1.kp)
end
section
variable {X : Cx} {e : Expr} {es : List Expr} {te : TE} {fe : FE} {t : TA} {f : FA} {fp : FP} {pos : Pos}
theorem ja_nil : JA X [] tNil aNil := ⟨pa_nil, ra_nil⟩
theorem ja_cons (he : JE X e te fe) (hr : JA X es t f) (hs : starEach (e :: es) X.env = (false, eval e X.env) :: starEach es X.env := by rfl) : JA X (e :: es) (tCons te t) (aCons fe f) := ⟨pa_cons he.pe hr.pa hs, ra_cons he.re hr.ra⟩
theorem jp_nil : JP X [] tNil pNil := ⟨pa_nil, rp_nil⟩
theorem jp_cons (he : JE X e te fe) (hr : JP X es t fp) (hs : starEach (e :: es) X.env = (false, eval e X.env) :: starEach es X.env := by rfl) : JP X (e :: es) (tCons te t) (pCons fe fp) := ⟨pa_cons he.pe hr.pa hs, rp_cons he.re hr.rp⟩
theorem je_tup {x1} (h : JA X es t f) : JE X (.Tuple es x1 pos) (tTup t) (fTup f) := ⟨pe_tup h.pa, re_tup h.ra⟩
theorem je_lst (h : JA X es t f) : JE X (.List es pos) (tLst t) (fLst f) := ⟨pe_lst h.pa, re_lst h.ra⟩
end
end J
namespace J
open PySem PySem.Spec PyProof.Rows L2

inductive Flow where
  | nx (τ : Tau) | rt (op : Op) (τ : Tau) | bk (τ : Tau) | ct (τ : Tau)
abbrev FS := Tau → Option Flow

/-- the state of a def's body, against its entry -/
structure Fr (K : PySem.W.Frag) (mg : Mg) (io : Option V) (R0 : Addr → Prop) (G0 H0 : Hp) (G H : Hp) (σ : L2.St) (τ : Tau) : Prop where
  at' : At K mg G H σ τ
  gg : Same G0 G
  kp : ∀ b, H b = none → H0 b = none
  hh : ∀ b o, ¬ R0 b → H0 b = some o → H b = some o
  gf : ∀ b o, ¬ R0 b → H0 b = some o → G0 b = none → G b = none
  rr : ∀ b, Ro σ τ b → R0 b ∨ H0 b = none
  pr : ∀ v, io = some v → σ[0]? = some (some v)
  ll : τ.length ≤ σ.length
section
variable {K : PySem.W.Frag} {mg : Mg} {io : Option V} {R0 : Addr → Prop} {G0 H0 G H G' H' : Hp} {σ σ' : L2.St} {τ τ' : Tau}
theorem Fr.go (F : Fr K mg io R0 G0 H0 G H σ τ) (g : Go K mg σ τ G H τ' G' H') : Fr K mg io R0 G0 H0 G' H' σ τ' := by
  have nr : ∀ b o, ¬ R0 b → H0 b = some o → ¬ Ro σ τ b := fun b o n e z => by
    rcases F.rr b z with h | h
    · exact n h
    · rw [e] at h; cases h
  exact ⟨g.at', F.gg.trans g.gg, fun b h => F.kp b (g.kp b h), fun b o n e => g.hh b o (nr b o n e) (F.hh b o n e), fun b o n e z => g.gf b o (nr b o n e) (F.hh b o n e) (F.gf b o n e z), fun b h => F.rr b (g.rr b h), F.pr, by rw [g.tl]; exact F.ll⟩
/-- the slots changed, the heaps not -/
theorem Fr.slots (F : Fr K mg io R0 G0 H0 G H σ τ) (A : At K mg G H σ' τ') (r : ∀ b, Ro σ' τ' b → R0 b ∨ H0 b = none) (p : ∀ v, io = some v → σ'[0]? = some (some v)) (l : τ'.length ≤ σ'.length) : Fr K mg io R0 G0 H0 G H σ' τ' :=
  ⟨A, F.gg, F.kp, F.hh, F.gf, r, p, l⟩
end
def Kn (K : PySem.W.Frag) (mg : Mg) (io : Option V) (R0 : Addr → Prop) (G0 H0 : Hp) (D : Ends) : Flow → Prop
  | .nx τ' => ∀ σ' G' H', Fr K mg io R0 G0 H0 G' H' σ' τ' → D.nx σ' H'
  | .bk τ' => ∀ σ' G' H', Fr K mg io R0 G0 H0 G' H' σ' τ' → D.bk σ' H'
  | .ct τ' => ∀ σ' G' H', Fr K mg io R0 G0 H0 G' H' σ' τ' → D.ct σ' H'
  | .rt op τ' => ∀ v σ' G' H', Fr K mg io R0 G0 H0 G' H' σ' τ' → Or K mg H0 G' H' σ' τ' v op → D.rt v H'
def RS (K : PySem.W.Frag) (mg : Mg) (b : Bool) (t : TS) (F : FS) : Prop := ∀ (io : Option V) (R0 : Addr → Prop) (G0 H0 G H : Hp) (σ : L2.St) (τ : Tau) (D : Ends) (fl : Flow), (b = false → io = none) → Fr K mg io R0 G0 H0 G H σ τ →
  F τ = some fl → Kn K mg io R0 G0 H0 D fl → t D σ H
structure JS (X : Cx) (b : Bool) (st : Stmt) (t : TS) (F : FS) : Prop where
  ps : PS X st t
  rs : RS X.K X.mg b t F
structure JSs (X : Cx) (b : Bool) (st : List Stmt) (t : TS) (F : FS) : Prop where
  ps : PSs X st t
  rs : RS X.K X.mg b t F

def sNext (τ : Tau) : Option Flow := some (.nx τ)
def sSeq (f g : FS) (τ : Tau) : Option Flow := (f τ).bind fun fl => match fl with
  | .nx τ1 => g τ1
  | fl => some fl
def sExpr (f : FE) (τ : Tau) : Option Flow := (f τ).bind fun a => some (.nx a.2)
def sRet (f : FE) (τ : Tau) : Option Flow := (f τ).bind fun a => some (.rt a.1 a.2)
def sIf (c : FT) (f g : FS) (τ : Tau) : Option Flow := (c τ).bind fun a => if a.1 = true then f a.2 else g a.2
/-- name = e: a new root is owned, all else is put away -/
def stOp (i : Nat) (o : Op) (τ : Tau) : Option Tau := match o with
  | .tmp d => some (τ.set i (some (.ow d)))
  | .val d => some (τ.set i (some (.sh d)))
  | .slot j => (fz τ (.slot j)).bind fun d => some (d.2.set i (some (.sh d.1)))
def sSet (i : Nat) (f : FE) (τ : Tau) : Option Flow := (f τ).bind fun a => (stOp i a.1 a.2).bind fun τ' => some (.nx τ')
section
variable {K : PySem.W.Frag} {mg : Mg} {b : Bool} {t u : TS} {f g : FS} {te : TE} {fe : FE} {tc : TT} {fc : FT}
theorem rs_next : RS K mg b tNext sNext := fun io R0 G0 H0 G H σ τ D fl hb F e k => by
  cases e
  exact k σ G H F
theorem rs_seq (h1 : RS K mg b t f) (h2 : RS K mg b u g) : RS K mg b (tSeq t u) (sSeq f g) := fun io R0 G0 H0 G H σ τ D fl hb F e k => by
  obtain ⟨fl1, e1, e⟩ := bind_some' e
  refine h1 io R0 G0 H0 G H σ τ { D with nx := u D } fl1 hb F e1 ?_
  cases fl1 with
  | nx τ1 => exact fun σ' G' H' F' => h2 io R0 G0 H0 G' H' σ' τ1 D fl hb F' e k
  | rt op τ1 => cases e; exact k
  | bk τ1 => cases e; exact k
  | ct τ1 => cases e; exact k
theorem rs_drop (h : RE K mg te fe) : RS K mg b (tDrop te) (sExpr fe) := fun io R0 G0 H0 G H σ τ D fl hb F e k => by
  obtain ⟨⟨oa, τ1⟩, e1, e⟩ := bind_some' e
  cases e
  exact h σ τ G H oa τ1 _ F.at' e1 fun v G1 H1 g1 o1 => k σ G1 H1 (F.go g1)
theorem rs_ret (h : RE K mg te fe) : RS K mg b (tRet te) (sRet fe) := fun io R0 G0 H0 G H σ τ D fl hb F e k => by
  obtain ⟨⟨oa, τ1⟩, e1, e⟩ := bind_some' e
  cases e
  exact h σ τ G H oa τ1 _ F.at' e1 fun v G1 H1 g1 o1 => k v σ G1 H1 (F.go g1) (o1.weak F.kp)
theorem rs_if (hc : RT K mg tc fc) (h1 : RS K mg b t f) (h2 : RS K mg b u g) : RS K mg b (tIfS tc t u) (sIf fc f g) := fun io R0 G0 H0 G H σ τ D fl hb F e k => by
  obtain ⟨⟨c, τ1⟩, e1, e⟩ := bind_some' e
  refine hc σ τ G H c τ1 _ F.at' e1 fun G1 H1 g1 => ?_
  cases c with
  | true =>
    rw [if_pos rfl] at e ⊢
    exact h1 io R0 G0 H0 G1 H1 σ τ1 D fl hb (F.go g1) e k
  | false =>
    rw [if_neg Bool.false_ne_true] at e ⊢
    exact h2 io R0 G0 H0 G1 H1 σ τ1 D fl hb (F.go g1) e k

/-- a slot is set to a frozen value -/
theorem At.setSh {G H : Hp} {σ : L2.St} {τ : Tau} (A : At K mg G H σ τ) {i : Nat} {v : V} {d : D} (hi : τ.length ≤ σ.length) (r : Rp K mg G v d) : At K mg G H (σ.set i (some v)) (τ.set i (some (.sh d))) ∧ (∀ b, Ro (σ.set i (some v)) (τ.set i (some (.sh d))) b → Ro σ τ b) := by
  have keep : ∀ {j : Nat} {c : Cell}, (τ.set i (some (.sh d)))[j]? = some (some c) → (j = i ∧ c = .sh d ∧ i < τ.length) ∨ (j ≠ i ∧ τ[j]? = some (some c)) := fun {j c} h => by
    have hl : j < (τ.set i (some (.sh d))).length := by
      rcases Nat.lt_or_ge j (τ.set i (some (.sh d))).length with z | z
      · exact z
      · rw [List.getElem?_eq_none z] at h; cases h
    rcases get_set h with ⟨z1, z2⟩ | z
    · rw [List.length_set] at hl
      exact .inl ⟨z1, by cases z2; rfl, by omega⟩
    · exact .inr z
  refine ⟨⟨A.gh, fun j x h => ?_, fun j x h => ?_, fun j k p x y hj hk pj pk => ?_, by rw [List.length_set, List.length_set]; exact hi⟩, fun b ⟨j, x, hj, pj⟩ => ?_⟩
  · rcases keep h with ⟨rfl, z, hl⟩ | ⟨n, z⟩
    · cases z
      exact ⟨v, List.getElem?_set_self (by omega), r⟩
    · obtain ⟨w, a, c⟩ := A.sh j x z
      exact ⟨w, by rw [List.getElem?_set_ne (Ne.symm n)]; exact a, c⟩
  · rcases keep h with ⟨rfl, z, hl⟩ | ⟨n, z⟩
    · cases z
    · obtain ⟨p, o, a, c⟩ := A.ow j x z
      exact ⟨p, o, by rw [List.getElem?_set_ne (Ne.symm n)]; exact a, c⟩
  · rcases keep hj with ⟨rfl, z, hl⟩ | ⟨n, z⟩
    · cases z
    · rcases keep hk with ⟨rfl, z', hl⟩ | ⟨n', z'⟩
      · cases z'
      · rw [List.getElem?_set_ne (Ne.symm n)] at pj
        rw [List.getElem?_set_ne (Ne.symm n')] at pk
        exact A.ap j k p x y z z' pj pk
  · rcases keep hj with ⟨rfl, z, hl⟩ | ⟨n, z⟩
    · cases z
    · rw [List.getElem?_set_ne (Ne.symm n)] at pj
      exact ⟨j, x, z, pj⟩
/-- a slot is set to a new root -/
theorem At.setOw {G H : Hp} {σ : L2.St} {τ : Tau} (A : At K mg G H σ τ) {i : Nat} {p : Addr} {o : HO} {d : D} (hi : τ.length ≤ σ.length) (h1 : G p = none) (h2 : H p = some o) (r : Rt K mg G o d) (n0 : ¬ Ro σ τ p) :
    At K mg G H (σ.set i (some (.ref p))) (τ.set i (some (.ow d))) ∧ (∀ b, Ro (σ.set i (some (.ref p))) (τ.set i (some (.ow d))) b → b = p ∨ Ro σ τ b) := by
  have keep : ∀ {j : Nat} {c : Cell}, (τ.set i (some (.ow d)))[j]? = some (some c) → (j = i ∧ c = .ow d ∧ i < τ.length) ∨ (j ≠ i ∧ τ[j]? = some (some c)) := fun {j c} h => by
    have hl : j < (τ.set i (some (.ow d))).length := by
      rcases Nat.lt_or_ge j (τ.set i (some (.ow d))).length with z | z
      · exact z
      · rw [List.getElem?_eq_none z] at h; cases h
    rcases get_set h with ⟨z1, z2⟩ | z
    · rw [List.length_set] at hl
      exact .inl ⟨z1, by cases z2; rfl, by omega⟩
    · exact .inr z
  refine ⟨⟨A.gh, fun j x h => ?_, fun j x h => ?_, fun j k q x y hj hk pj pk => ?_, by rw [List.length_set, List.length_set]; exact hi⟩, fun b ⟨j, x, hj, pj⟩ => ?_⟩
  · rcases keep h with ⟨rfl, z, hl⟩ | ⟨n, z⟩
    · cases z
    · obtain ⟨w, a, c⟩ := A.sh j x z
      exact ⟨w, by rw [List.getElem?_set_ne (Ne.symm n)]; exact a, c⟩
  · rcases keep h with ⟨rfl, z, hl⟩ | ⟨n, z⟩
    · cases z
      exact ⟨p, o, List.getElem?_set_self (by omega), h1, h2, r⟩
    · obtain ⟨q, o', a, c⟩ := A.ow j x z
      exact ⟨q, o', by rw [List.getElem?_set_ne (Ne.symm n)]; exact a, c⟩
  · rcases keep hj with ⟨rfl, z, hl⟩ | ⟨n, z⟩
    · rcases keep hk with ⟨rfl, z', hl'⟩ | ⟨n', z'⟩
      · rfl
      · rw [List.getElem?_set_self (by omega)] at pj
        rw [List.getElem?_set_ne (Ne.symm n')] at pk
        cases pj
        exact absurd ⟨k, y, z', pk⟩ n0
    · rcases keep hk with ⟨rfl, z', hl'⟩ | ⟨n', z'⟩
      · rw [List.getElem?_set_self (by omega)] at pk
        rw [List.getElem?_set_ne (Ne.symm n)] at pj
        cases pk
        exact absurd ⟨j, x, z, pj⟩ n0
      · rw [List.getElem?_set_ne (Ne.symm n)] at pj
        rw [List.getElem?_set_ne (Ne.symm n')] at pk
        exact A.ap j k q x y z z' pj pk
  · rcases keep hj with ⟨rfl, z, hl⟩ | ⟨n, z⟩
    · rw [List.getElem?_set_self (by omega)] at pj
      cases pj
      exact .inl rfl
    · rw [List.getElem?_set_ne (Ne.symm n)] at pj
      exact .inr ⟨j, x, z, pj⟩
theorem pr_set {io : Option V} {σ : L2.St} {i : Nat} {w : Option V} (hb : b = false → io = none) (hi : b = false ∨ i ≠ 0) (h : ∀ v, io = some v → σ[0]? = some (some v)) : ∀ v, io = some v → (σ.set i w)[0]? = some (some v) := fun v e => by
  rcases hi with z | z
  · rw [hb z] at e; cases e
  · rw [List.getElem?_set_ne z]; exact h v e
/-- an operand is stored -/
theorem st_op {io : Option V} {R0 : Addr → Prop} {G0 H0 G H G1 H1 : Hp} {σ : L2.St} {τ τ1 τ2 : Tau} {i : Nat} {v : V} {o : Op} (hb : b = false → io = none) (hi : b = false ∨ i ≠ 0) (F : Fr K mg io R0 G0 H0 G H σ τ) (g : Go K mg σ τ G H τ1 G1 H1) (r : Or K mg H G1 H1 σ τ1 v o) (e : stOp i o τ1 = some τ2) :
    ∃ G2, Fr K mg io R0 G0 H0 G2 H1 (σ.set i (some v)) τ2 := by
  have F1 := F.go g
  have sh : ∀ {d τ3}, fz τ1 o = some (d, τ3) → τ2 = τ3.set i (some (.sh d)) → ∃ G2, Fr K mg io R0 G0 H0 G2 H1 (σ.set i (some v)) τ2 := fun {d τ3} e1 e2 => by
    subst e2
    obtain ⟨G2, g2, s2, r2⟩ := r.fz g e1
    have F2 := F.go g2
    obtain ⟨A, ro⟩ := F2.at'.setSh (i := i) F2.ll r2
    exact ⟨G2, F2.slots A (fun b h => F2.rr b (ro b h)) (pr_set hb hi F2.pr) (by rw [List.length_set, List.length_set]; exact F2.ll)⟩
  cases r with
  | tmp a b' c r' n =>
    cases e
    obtain ⟨A, ro⟩ := F1.at'.setOw (i := i) F1.ll b' c r' n
    refine ⟨G1, F1.slots A (fun b h => ?_) (pr_set hb hi F1.pr) (by rw [List.length_set, List.length_set]; exact F1.ll)⟩
    rcases ro b h with rfl | h
    · exact .inr (F.kp _ a)
    · exact F1.rr b h
  | val r' =>
    cases e
    exact sh (τ3 := τ1) rfl rfl
  | slot h =>
    obtain ⟨⟨d, τ3⟩, e1, e⟩ := bind_some' e
    cases e
    exact sh e1 rfl
theorem rs_set {i : Nat} (hi : b = false ∨ i ≠ 0) (h : RE K mg te fe) : RS K mg b (tAsg te (gName i)) (sSet i fe) := fun io R0 G0 H0 G H σ τ D fl hb F e k => by
  obtain ⟨⟨oa, τ1⟩, e1, e⟩ := bind_some' e
  obtain ⟨τ2, e2, e⟩ := bind_some' e
  cases e
  refine h σ τ G H oa τ1 _ F.at' e1 fun v G1 H1 g1 o1 => ?_
  obtain ⟨G2, F2⟩ := st_op hb hi F g1 o1 e2
  exact k _ G2 H1 F2
end

/-! ### while -/
def whN (c : FT) (f : FS) : Nat → Tau → Option Flow
  | 0, _ => none
  | n + 1, τ => (c τ).bind fun a => if a.1 = true then (f a.2).bind fun fl => match fl with
      | .nx τ2 => whN c f n τ2
      | .ct τ2 => whN c f n τ2
      | .bk τ2 => some (.nx τ2)
      | .rt o τ2 => some (.rt o τ2)
    else some (.nx a.2)
theorem whN_mono {c : FT} {f : FS} : ∀ {n m : Nat} {τ : Tau} {fl : Flow}, n ≤ m → whN c f n τ = some fl → whN c f m τ = some fl
  | 0, _, _, _, _, h => by cases h
  | n + 1, 0, _, _, hl, _ => absurd hl (Nat.not_succ_le_zero n)
  | n + 1, m + 1, τ, fl, hl, h => by
    unfold whN at h ⊢
    obtain ⟨a, e1, h⟩ := bind_some' h
    rw [e1]
    show (if a.1 = true then _ else _) = _
    by_cases ha : a.1 = true
    · rw [if_pos ha] at h ⊢
      obtain ⟨fl1, e2, h⟩ := bind_some' h
      rw [e2]
      cases fl1 with
      | nx τ2 => exact whN_mono (Nat.le_of_succ_le_succ hl) h
      | ct τ2 => exact whN_mono (Nat.le_of_succ_le_succ hl) h
      | bk τ2 => exact h
      | rt o τ2 => exact h
    · rw [if_neg ha] at h ⊢
      exact h
open Classical in
noncomputable def sWh (c : FT) (f : FS) (τ : Tau) : Option Flow := if h : ∃ p : Nat × Flow, whN c f p.1 τ = some p.2 then some (Classical.choose h).2 else none
theorem sWh_get {c : FT} {f : FS} {τ : Tau} {fl : Flow} (h : sWh c f τ = some fl) : ∃ n, whN c f n τ = some fl := by
  unfold sWh at h
  split at h
  · rename_i z
    have := Classical.choose_spec z
    cases h
    exact ⟨_, this⟩
  · cases h
theorem sWh_of {c : FT} {f : FS} {τ : Tau} {fl : Flow} {n : Nat} (h : whN c f n τ = some fl) : sWh c f τ = some fl := by
  unfold sWh
  have z : ∃ p : Nat × Flow, whN c f p.1 τ = some p.2 := ⟨(n, fl), h⟩
  rw [dif_pos z]
  have q := Classical.choose_spec z
  have h1 := whN_mono (Nat.le_max_left n (Classical.choose z).1) h
  have h2 := whN_mono (Nat.le_max_right n (Classical.choose z).1) q
  rw [h1] at h2
  exact h2.symm
section
variable {K : PySem.W.Frag} {mg : Mg} {b : Bool} {t u : TS} {f g : FS} {te : TE} {fe : FE} {tc : TT} {fc : FT}
theorem rs_wh (hc : RT K mg tc fc) (h1 : RS K mg b t f) : RS K mg b (tWhile tc t) (sWh fc f) := fun io R0 G0 H0 G H σ τ D fl hb F e k => by
  obtain ⟨n, e⟩ := sWh_get e
  refine ⟨fun m σ H => ∃ G τ, Fr K mg io R0 G0 H0 G H σ τ ∧ whN fc f m τ = some fl, ⟨n, G, τ, F, e⟩, ?_⟩
  rintro m σ H ⟨G, τ, F, e⟩
  cases m with
  | zero => cases e
  | succ m =>
    unfold whN at e
    obtain ⟨⟨c, τ1⟩, e1, e⟩ := bind_some' e
    refine hc σ τ G H c τ1 _ F.at' e1 fun G1 H1 g1 => ?_
    cases c with
    | true =>
      rw [if_pos rfl] at e ⊢
      obtain ⟨fl1, e2, e⟩ := bind_some' e
      refine ⟨fun σ H => ∃ G τ, Fr K mg io R0 G0 H0 G H σ τ ∧ whN fc f m τ = some fl, fun σ' H' w => ⟨m, Nat.lt_succ_self m, w⟩, ?_⟩
      refine h1 io R0 G0 H0 G1 H1 σ τ1 _ fl1 hb (F.go g1) e2 ?_
      cases fl1 with
      | nx τ2 => exact fun σ' G' H' F' => ⟨G', τ2, F', e⟩
      | ct τ2 => exact fun σ' G' H' F' => ⟨G', τ2, F', e⟩
      | bk τ2 => cases e; exact k
      | rt o τ2 => cases e; exact k
    | false =>
      rw [if_neg Bool.false_ne_true] at e ⊢
      cases e
      exact k σ G1 H1 (F.go g1)
end

/-! ### what a loop walks -/
abbrev FI := Tau → Option (List D × Tau)
/-- an iterator that yields these -/
def ItR (K : PySem.W.Frag) (mg : Mg) (J : It) (G : Hp) (ds : List D) : Prop := ∀ G2 H2, Same G G2 → Same G2 H2 → (∀ i, ds.length ≤ i → J.stop i H2) ∧
  (∀ i d, ds[i]? = some d → J.go i H2 ∧ ∀ x H', J.yld i H2 x H' → ∃ G', Nw K mg G2 H2 G' H' ∧ Rp K mg G' x d)
def RI (K : PySem.W.Frag) (mg : Mg) (w : TI) (f : FI) : Prop := ∀ (σ : L2.St) (τ : Tau) (G H : Hp) (ds : List D) (τ' : Tau) (R : It → Hp → Prop), At K mg G H σ τ → f τ = some (ds, τ') →
  (∀ J G' H', Go K mg σ τ G H τ' G' H' → ItR K mg J G' ds → R J H') → w σ H R
structure JI (X : Cx) (tg e : Expr) (w : TI) (f : FI) : Prop where
  pi : PI X tg e w
  ri : RI X.K X.mg w f
/-- a target of a loop or an unpacking -/
abbrev FG := D → Tau → Option Tau
def RG (K : PySem.W.Frag) (mg : Mg) (is : List Nat) (t : TG) (f : FG) : Prop := ∀ (G H : Hp) (σ : L2.St) (τ : Tau) (v : V) (d : D) (τ' : Tau) (Q : L2.St → Hp → Prop), At K mg G H σ τ → τ.length ≤ σ.length → Rp K mg G v d → f d τ = some τ' →
  (∀ σ', At K mg G H σ' τ' → τ'.length ≤ σ'.length → (∀ b, Ro σ' τ' b → Ro σ τ b) → (∀ j, j ∉ is → σ'[j]? = σ[j]?) → τ'.length = τ.length → (∀ j, j ∉ is → τ'[j]? = τ[j]?) → σ'.length = σ.length → Q σ' H) → t v σ H Q
structure JG (X : Cx) (tg : Expr) (is : List Nat) (t : TG) (f : FG) : Prop where
  pg : PG X tg t
  rg : RG X.K X.mg is t f
def RGs (K : PySem.W.Frag) (mg : Mg) (is : List Nat) (t : TGs) (f : List D → Tau → Option Tau) : Prop := ∀ (G H : Hp) (σ : L2.St) (τ : Tau) (v : List V) (d : List D) (τ' : Tau) (Q : L2.St → Hp → Prop), At K mg G H σ τ → τ.length ≤ σ.length → RpL K mg G v d → f d τ = some τ' →
  (∀ σ', At K mg G H σ' τ' → τ'.length ≤ σ'.length → (∀ b, Ro σ' τ' b → Ro σ τ b) → (∀ j, j ∉ is → σ'[j]? = σ[j]?) → τ'.length = τ.length → (∀ j, j ∉ is → τ'[j]? = τ[j]?) → σ'.length = σ.length → Q σ' H) → t v σ H Q
structure JGs (X : Cx) (tg : List Expr) (is : List Nat) (t : TGs) (f : List D → Tau → Option Tau) : Prop where
  pg : PGs X tg t
  rg : RGs X.K X.mg is t f
def gN (i : Nat) (d : D) (τ : Tau) : Option Tau := some (τ.set i (some (.sh d)))
def gsNil (ds : List D) (τ : Tau) : Option Tau := match ds with | [] => some τ | _ => none
def gsCons (f : FG) (r : List D → Tau → Option Tau) (ds : List D) (τ : Tau) : Option Tau := match ds with | d :: ds => (f d τ).bind fun τ1 => r ds τ1 | [] => none
def gT (n : Nat) (r : List D → Tau → Option Tau) (d : D) (τ : Tau) : Option Tau := match d with
  | .tup ds => if ds.length = n then r ds τ else none
  | .lst ds => if ds.length = n then r ds τ else none
  | _ => none
/-- a tuple or a list is unpacked -/
def gSq (K : PySem.W.Frag) (n : Nat) (t : TGs) : TG := fun v σ H Q => gTup K n t v σ H Q ∨ gUnl K n t v σ H Q
section
variable {K : PySem.W.Frag} {mg : Mg}
theorem if_get' {α : Type} {c : Prop} [Decidable c] {x : Option α} {y : α} (h : (if c then x else none) = some y) : c ∧ x = some y := by
  by_cases hc : c
  · rw [if_pos hc] at h; exact ⟨hc, h⟩
  · rw [if_neg hc] at h; cases h
theorem rg_name (i : Nat) : RG K mg [i] (gName i) (gN i) := fun G H σ τ v d τ' Q A hl r e q => by
  cases e
  obtain ⟨A', ro⟩ := A.setSh (i := i) hl r
  refine q _ A' (by rw [List.length_set, List.length_set]; exact hl) ro (fun j hj => ?_) (List.length_set ..) (fun j hj => ?_) (List.length_set ..)
  · rw [List.getElem?_set_ne (fun z => hj (by rw [z]; exact List.mem_singleton.mpr rfl))]
  · rw [List.getElem?_set_ne (fun z => hj (by rw [z]; exact List.mem_singleton.mpr rfl))]
theorem rgs_nil : RGs K mg [] gNil gsNil := fun G H σ τ v d τ' Q A hl r e q => by
  cases r with
  | nil => cases e; exact ⟨rfl, q σ A hl (fun _ h => h) (fun _ _ => rfl) rfl (fun _ _ => rfl) rfl⟩
  | cons _ _ => cases e
theorem rgs_cons {is js : List Nat} {t : TG} {u : TGs} {f : FG} {g : List D → Tau → Option Tau} (h1 : RG K mg is t f) (h2 : RGs K mg js u g) : RGs K mg (is ++ js) (gCons t u) (gsCons f g) := fun G H σ τ v d τ' Q A hl r e q => by
  cases r with
  | nil => cases e
  | cons r rr =>
    obtain ⟨τ1, e1, e⟩ := bind_some' e
    refine ⟨_, _, rfl, h1 G H σ τ _ _ τ1 _ A hl r e1 fun σ1 A1 l1 ro1 k1 t1 kt1 ls1 => ?_⟩
    refine h2 G H σ1 τ1 _ _ τ' Q A1 l1 rr e fun σ2 A2 l2 ro2 k2 t2 kt2 ls2 => ?_
    refine q σ2 A2 l2 (fun b h => ro1 b (ro2 b h)) (fun j hj => ?_) (t2.trans t1) (fun j hj => ?_) (ls2.trans ls1)
    · rw [k2 j (fun z => hj (List.mem_append_right _ z)), k1 j (fun z => hj (List.mem_append_left _ z))]
    · rw [kt2 j (fun z => hj (List.mem_append_right _ z)), kt1 j (fun z => hj (List.mem_append_left _ z))]
theorem rg_tup {is : List Nat} {n : Nat} {t : TGs} {f : List D → Tau → Option Tau} (h : RGs K mg is t f) : RG K mg is (gSq K n t) (gT n f) := fun G H σ τ v d τ' Q A hl r e q => by
  cases r <;> first | (cases e; done) | skip
  · rename_i a vs ds hs r
    obtain ⟨hn, e⟩ := if_get' e
    exact .inr ⟨a, vs, rfl, same_sql A.gh hs, by rw [r.length]; exact hn, h G H σ τ vs ds τ' Q A hl r e q⟩
  · rename_i a vs ds hs r
    obtain ⟨hn, e⟩ := if_get' e
    exact .inl ⟨a, vs, rfl, same_sqt A.gh hs, by rw [r.length]; exact hn, h G H σ τ vs ds τ' Q A hl r e q⟩
end
section
variable {X : Cx} {pos : Pos}
theorem jg_name {i : Nat} {x : PySem.Str} (hN : X.N.Nodup) (hi : X.N[i]? = some x := by rfl) (hx : Loc X.env.scope x := by first | exact Or.inl rfl | exact Or.inr rfl) (hf : X.fn x = true ∨ X.env.scope.names.lookup x = some .local := by first | exact .inl rfl | exact .inr rfl | assumption) : JG X (.Name x pos) [i] (gName i) (gN i) := ⟨pg_name hN hi hx hf, rg_name i⟩
theorem jgs_nil : JGs X [] [] gNil gsNil := ⟨pgs_nil, rgs_nil⟩
theorem jgs_cons {e : Expr} {es : List Expr} {is js : List Nat} {t : TG} {u : TGs} {f : FG} {g : List D → Tau → Option Tau} (h1 : JG X e is t f) (h2 : JGs X es js u g)
    (hs : (assignEach (e :: es) X.env).map (·.2) = assign e X.env :: (assignEach es X.env).map (·.2) := by rfl) : JGs X (e :: es) (is ++ js) (gCons t u) (gsCons f g) := ⟨pgs_cons h1.pg h2.pg hs, rgs_cons h1.rg h2.rg⟩
theorem jg_tup {K : PySem.W.Frag} {es : List Expr} {k : Nat} {is : List Nat} {t : TGs} {f : List D → Tau → Option Tau} {n : Nat} (hc : X.calm = true) (h : JGs X es is t f)
    (hn : (assignEach es X.env).length = n := by rfl) (hst : (assignEach es X.env).findIdx? (·.1) = none := by rfl) (hK : X.K = K := by rfl) : JG X (.Tuple es k pos) is (gSq K n t) (gT n f) := by
  subst hK
  exact ⟨⟨fun pins s σ H v u Q I r hw => hw.elim ((pg_tup hc h.pg hn hst).run pins s σ H v u Q I r) ((pg_unl hc h.pg hn hst).run pins s σ H v u Q I r)⟩, rg_tup h.rg⟩
end

/-! ### for -/
def forD (g : FG) (f : FS) : List D → Tau → Option Flow
  | [], τ => some (.nx τ)
  | d :: ds, τ => (g d τ).bind fun τ1 => (f τ1).bind fun fl => match fl with
    | .nx τ2 => forD g f ds τ2
    | .ct τ2 => forD g f ds τ2
    | .bk τ2 => some (.nx τ2)
    | .rt o τ2 => some (.rt o τ2)
def sFor (w : FI) (g : FG) (f : FS) (τ : Tau) : Option Flow := (w τ).bind fun a => forD g f a.1 a.2
section
variable {K : PySem.W.Frag} {mg : Mg} {b : Bool} {t u : TS} {f : FS} {wi : TI} {w : FI} {tg : TG} {g : FG} {is : List Nat}
theorem rs_for (hi : b = false ∨ 0 ∉ is) (hw : RI K mg wi w) (hg : RG K mg is tg g) (h1 : RS K mg b t f) : RS K mg b (tFor wi tg t) (sFor w g f) := fun io R0 G0 H0 G H σ τ D fl hb F e k => by
  obtain ⟨⟨ds, τ1⟩, e1, e⟩ := bind_some' e
  refine hw σ τ G H ds τ1 _ F.at' e1 fun J G1 H1 g1 it => ?_
  have F1 := F.go g1
  refine ⟨fun i m σ H => ∃ G τ, Fr K mg io R0 G0 H0 G H σ τ ∧ Same G1 G ∧ m = ds.length - i ∧ i ≤ ds.length ∧ forD g f (ds.drop i) τ = some fl, ⟨ds.length, G1, τ1, F1, Same.refl _, by simp, Nat.zero_le _, e⟩, ?_⟩
  rintro i m σ H ⟨G, τ, F, s, rfl, hle, e⟩
  obtain ⟨st, gn⟩ := it G H s F.at'.gh
  by_cases hlt : i < ds.length
  · have hd : ds[i]? = some ds[i] := List.getElem?_eq_getElem hlt
    obtain ⟨go, yl⟩ := gn i _ hd
    rw [List.drop_eq_getElem_cons hlt] at e
    obtain ⟨τ2, e2, e⟩ := bind_some' e
    obtain ⟨fl1, e3, e⟩ := bind_some' e
    refine .inr ⟨go, fun σ H => ∃ G τ, Fr K mg io R0 G0 H0 G H σ τ ∧ Same G1 G ∧ forD g f (ds.drop (i + 1)) τ = some fl, fun σ' H' ⟨G', τ', F', s', e'⟩ => ⟨_, by omega, G', τ', F', s', rfl, hlt, e'⟩, fun x H' y => ?_⟩
    obtain ⟨G', n, r⟩ := yl x H' y
    have F2 := F.go (n.go F.at')
    refine hg G' H' σ τ x _ τ2 _ F2.at' F2.ll r e2 fun σ3 A3 l3 ro3 k3 t3 kt3 ls3 => ?_
    have F3 : Fr K mg io R0 G0 H0 G' H' σ3 τ2 := F2.slots A3 (fun b h => F2.rr b (ro3 b h)) (fun v hv => by
      rcases hi with z | z
      · rw [hb z] at hv; cases hv
      · rw [k3 0 z]; exact F2.pr v hv) l3
    have s2 : Same G1 G' := s.trans n.gg
    -- the body keeps G growing: against the loop's own entry
    have F4 : Fr K mg io (fun b => Ro σ3 τ2 b) G' H' G' H' σ3 τ2 := ⟨A3, Same.refl _, fun _ h => h, fun _ _ _ h => h, fun _ _ _ _ h => h, fun _ h => .inl h, F3.pr, l3⟩
    have conv : ∀ {σ4 G4 H4 τ4}, Fr K mg io (fun b => Ro σ3 τ2 b) G' H' G4 H4 σ4 τ4 → Fr K mg io R0 G0 H0 G4 H4 σ4 τ4 ∧ Same G1 G4 := fun {σ4 G4 H4 τ4} F4 => by
      have nr : ∀ b o, ¬ R0 b → H0 b = some o → ¬ Ro σ3 τ2 b := fun b o n e z => by
        rcases F3.rr b z with h | h
        · exact n h
        · rw [e] at h; cases h
      refine ⟨⟨F4.at', F3.gg.trans F4.gg, fun b h => F3.kp b (F4.kp b h), fun b o n e => F4.hh b o (nr b o n e) (F3.hh b o n e), fun b o n e z => F4.gf b o (nr b o n e) (F3.hh b o n e) (F3.gf b o n e z), fun b h => ?_, F4.pr, F4.ll⟩, s2.trans F4.gg⟩
      rcases F4.rr b h with z | z
      · exact F3.rr b z
      · exact .inr (F3.kp b z)
    refine h1 io _ G' H' G' H' σ3 τ2 _ fl1 hb F4 e3 ?_
    cases fl1 with
    | nx τ4 => exact fun σ' G' H' F' => ⟨G', τ4, (conv F').1, (conv F').2, e⟩
    | ct τ4 => exact fun σ' G' H' F' => ⟨G', τ4, (conv F').1, (conv F').2, e⟩
    | bk τ4 => cases e; exact fun σ' G' H' F' => k σ' G' H' (conv F').1
    | rt o τ4 => cases e; exact fun v σ' G' H' F' o' => k v σ' G' H' (conv F').1 (o'.weak F3.kp)
  · have z : i = ds.length := by omega
    subst z
    rw [List.drop_length] at e
    cases e
    exact .inl ⟨st _ (Nat.le_refl _), k σ G H F⟩
end
section
variable {X : Cx} {b : Bool} {st : Stmt} {rest : List Stmt} {t u : TS} {f g : FS} {e : Expr} {te : TE} {fe : FE} {pos : Pos}
theorem jss_nil : JSs X b [] tNext sNext := ⟨pss_nil, rs_next⟩
theorem jss_cons (h1 : JS X b st t f) (h2 : JSs X b rest u g) : JSs X b (st :: rest) (tSeq t u) (sSeq f g) := ⟨pss_cons h1.ps h2.ps, rs_seq h1.rs h2.rs⟩
theorem jss_one (h1 : JS X b st t f) : JSs X b [st] t f := ⟨pss_one h1.ps, h1.rs⟩
theorem js_pass : JS X b (.Pass pos) tNext sNext := ⟨ps_pass, rs_next⟩
def sBrk (τ : Tau) : Option Flow := some (.bk τ)
def sCnt (τ : Tau) : Option Flow := some (.ct τ)
theorem js_break : JS X b (.Break pos) tBreak sBrk := ⟨ps_break, fun io R0 G0 H0 G H σ τ D fl hb F e k => by cases e; exact k σ G H F⟩
theorem js_cont : JS X b (.Continue pos) tCont sCnt := ⟨ps_continue, fun io R0 G0 H0 G H σ τ D fl hb F e k => by cases e; exact k σ G H F⟩
theorem js_doc {x j pos pos'} : JS X b (.Expr (.Constant (.str x) j pos) pos') tNext sNext := ⟨ps_doc, rs_next⟩
theorem js_expr (he : JE X e te fe) (hs : swapsWith e none pos.line X.env = pure false := by rfl) : JS X b (.Expr e pos) (tDrop te) (sExpr fe) := ⟨ps_expr he.pe hs, rs_drop he.re⟩
theorem js_ret (he : JE X e te fe) : JS X b (.Return (some e) pos) (tRet te) (sRet fe) := ⟨ps_ret he.pe, rs_ret he.re⟩
def sRetN (τ : Tau) : Option Flow := some (.rt (.val .non) τ)
theorem js_retN : JS X b (.Return none pos) tRetN sRetN := ⟨ps_retN, fun io R0 G0 H0 G H σ τ D fl hb F e k => by cases e; exact k _ σ G H F (.val .non)⟩
theorem js_if {c : Expr} {s1 s2 : List Stmt} {tc : TT} {fc : FT} (hc : JT X c tc fc) (h1 : JSs X b s1 t f) (h2 : JSs X b s2 u g) : JS X b (.If c s1 s2 pos) (tIfS tc t u) (sIf fc f g) := ⟨ps_if hc.pt h1.ps h2.ps, rs_if hc.rt h1.rs h2.rs⟩
def sNo (_ : Tau) : Option Flow := none
theorem js_never : JS X b st tNever sNo := ⟨ps_never, fun io R0 G0 H0 G H σ τ D fl hb F e k => by cases e⟩
theorem jss_never : JSs X b rest tNever sNo := ⟨pss_never, fun io R0 G0 H0 G H σ τ D fl hb F e k => by cases e⟩
theorem js_set {i : Nat} {x : PySem.Str} {pos' : Pos} (hN : X.N.Nodup) (hb : b = false ∨ i ≠ 0) (he : JE X e te fe) (hi : X.N[i]? = some x := by rfl) (hx : Loc X.env.scope x := by first | exact Or.inl rfl | exact Or.inr rfl)
    (hs : swapsWith e (some (.Name x pos')) pos.line X.env = pure false := by rfl) (hf : X.fn x = true ∨ X.env.scope.names.lookup x = some .local := by first | exact .inl rfl | exact .inr rfl | assumption) :
    JS X b (.Assign [.Name x pos'] e pos) (tAsg te (gName i)) (sSet i fe) := ⟨ps_set hN hi hx he.pe hs hf, rs_set hb he.re⟩
theorem js_while {c : Expr} {body : List Stmt} {tc : TT} {fc : FT} (hp : PassesOwn (model X.prog X.w) X.A X.env X.xe) (hc : JT X c tc fc) (hb : JSs X b body t f) : JS X b (.While c body [] pos) (tWhile tc t) (sWh fc f) := ⟨ps_while hp hc.pt hb.ps, rs_wh hc.rt hb.rs⟩
theorem js_for {tgt iter : Expr} {body : List Stmt} {wi : TI} {w : FI} {tg : TG} {gg : FG} {is : List Nat} (hp : PassesOwn (model X.prog X.w) X.A X.env X.xe) (hc : X.calm = true) (h0 : b = false ∨ 0 ∉ is) (hi : JI X tgt iter wi w) (hg : JG X tgt is tg gg) (hb : JSs X b body t f)
    (hs : ∀ x, foldedSetIterable iter X.env x = pure x := by intro _; rfl) : JS X b (.For tgt iter body [] pos) (tFor wi tg t) (sFor w gg f) := ⟨ps_for hp hc hi.pi hg.pg hb.ps hs, rs_for h0 hi.ri hg.rg hb.rs⟩
end
end J
namespace J
open PySem PySem.Spec PyProof.Rows L2

/-- what a def is: arguments to (is the result a new root?, the result, the first argument behind the call) -/
abbrev Mir := List D → Option (Bool × D × D)
def Rv (b : Bool) (vs : List V) (p : Addr) : Prop := b = true ∧ vs.head? = some (.ref p)
inductive Ar (K : PySem.W.Frag) (mg : Mg) (G H : Hp) : Bool → List V → List D → Prop
  | pure {vs : List V} {ds : List D} : RpL K mg G vs ds → Ar K mg G H false vs ds
  | io {p : Addr} {o : HO} {d : D} {vs : List V} {ds : List D} : G p = none → H p = some o → Rt K mg G o d → RpL K mg G vs ds → Ar K mg G H true (.ref p :: vs) (d :: ds)
inductive Rs (K : PySem.W.Frag) (mg : Mg) (H G' H' : Hp) (v : V) : Bool → D → Prop
  | old {z : D} : Rp K mg G' v z → Rs K mg H G' H' v false z
  | new {p : Addr} {o : HO} {z : D} : v = .ref p → H p = none → G' p = none → H' p = some o → Rt K mg G' o z → Rs K mg H G' H' v true z
structure Bk (K : PySem.W.Frag) (mg : Mg) (b : Bool) (vs : List V) (G H : Hp) (own : Bool) (z z0 : D) (v : V) (G' H' : Hp) : Prop where
  gg : Same G G'
  gh : Same G' H'
  kp : ∀ p, H' p = none → H p = none
  hh : ∀ p o, ¬ Rv b vs p → H p = some o → H' p = some o
  gf : ∀ p o, ¬ Rv b vs p → H p = some o → G p = none → G' p = none
  io : b = true → ∃ p o, vs.head? = some (.ref p) ∧ G' p = none ∧ H' p = some o ∧ Rt K mg G' o z0
  rs : Rs K mg H G' H' v own z
def spM (K : PySem.W.Frag) (mg : Mg) (b : Bool) (m : Mir) : Sp := fun vs H Q _ => ∃ G ds own z z0, Same G H ∧ Ar K mg G H b vs ds ∧ m ds = some (own, z, z0) ∧ ∀ v G' H', Bk K mg b vs G H own z z0 v G' H' → Q v H'
theorem Ar.length {K : PySem.W.Frag} {mg : Mg} {G H : Hp} {b : Bool} {vs : List V} {ds : List D} (h : Ar K mg G H b vs ds) : vs.length = ds.length := by
  cases h with
  | pure r => exact r.length
  | io _ _ _ r => rw [List.length_cons, List.length_cons, r.length]

def ini (b : Bool) (n : Nat) (ds : List D) : Tau := (match b, ds with
  | true, d :: ds => some (.ow d) :: ds.map fun d => some (.sh d)
  | _, ds => ds.map fun d => some (.sh d)) ++ List.replicate (n - ds.length) none
def resOp (b : Bool) (τ : Tau) : Op → Option (Bool × D)
  | .val d => some (false, d)
  | .tmp d => some (true, d)
  | .slot i => match τ[i]? with
    | some (some (.ow d)) => if b = true ∧ i = 0 then none else some (true, d)
    | some (some (.sh d)) => some (false, d)
    | _ => none
def owAt (τ : Tau) (i : Nat) : Option D := match τ[i]? with
  | some (some (.ow z)) => some z
  | _ => none
def ioOut (b : Bool) (τ : Tau) : Option D := if b = true then owAt τ 0 else some .non
def finF (b : Bool) (τ : Tau) (op : Op) : Option (Bool × D × D) := (resOp b τ op).bind fun r => (ioOut b τ).bind fun z => some (r.1, r.2, z)
def runF (b : Bool) (n k : Nat) (F : FS) (ds : List D) : Option (Bool × D × D) := if ds.length = k then (F (ini b n ds)).bind fun fl => match fl with
  | .nx τ => finF b τ (.val .non)
  | .rt op τ => finF b τ op
  | _ => none
  else none
theorem runF_len {b : Bool} {n k : Nat} {F : FS} {ds : List D} {r : Bool × D × D} (h : runF b n k F ds = some r) : ds.length = k := by
  unfold runF at h
  by_cases e : ds.length = k
  · exact e
  · rw [if_neg e] at h; cases h
section
variable {K : PySem.W.Frag} {mg : Mg}
theorem start_get {N : List PySem.Str} {vs : List V} {i : Nat} {v : V} (h : vs[i]? = some v) : (L2.start N vs)[i]? = some (some v) := by
  unfold L2.start
  have hl : i < vs.length := by
    rcases Nat.lt_or_ge i vs.length with z | z
    · exact z
    · rw [List.getElem?_eq_none z] at h; cases h
  rw [List.getElem?_append_left (by rw [List.length_map]; exact hl), List.getElem?_map, h]
  rfl
theorem shs_get {ds : List D} {i n : Nat} {c : Cell} (h : (ds.map (fun d => some (Cell.sh d)) ++ List.replicate n none)[i]? = some (some c)) : ∃ d, ds[i]? = some d ∧ c = .sh d := by
  rcases Nat.lt_or_ge i ds.length with z | z
  · rw [List.getElem?_append_left (by rw [List.length_map]; exact z), List.getElem?_map] at h
    rw [List.getElem?_eq_getElem z] at h ⊢
    have h' : some (some (Cell.sh ds[i])) = some (some c) := h
    cases h'
    exact ⟨_, rfl, rfl⟩
  · rw [List.getElem?_append_right (by rw [List.length_map]; exact z), List.getElem?_replicate] at h
    split at h <;> cases h
theorem at_ini {N : List PySem.Str} {b : Bool} {G H : Hp} {vs : List V} {ds : List D} (s : Same G H) (a : Ar K mg G H b vs ds) (hl : vs.length ≤ N.length) :
    Fr K mg (if b = true then vs.head? else none) (Rv b vs) G H G H (L2.start N vs) (ini b N.length ds) := by
  have ll : (ini b N.length ds).length ≤ (L2.start N vs).length := by
    have e := a.length
    unfold L2.start ini
    cases a with
    | pure r => simp only [List.length_append, List.length_map, List.length_replicate]; omega
    | io _ _ _ r => simp only [List.length_append, List.length_map, List.length_replicate, List.length_cons] at e hl ⊢; omega
  have key : At K mg G H (L2.start N vs) (ini b N.length ds) ∧ ∀ p, Ro (L2.start N vs) (ini b N.length ds) p → Rv b vs p := by
    cases a with
    | pure r =>
      have get : ∀ {i : Nat} {c : Cell}, (ini false N.length ds)[i]? = some (some c) → ∃ d, ds[i]? = some d ∧ c = .sh d := fun {i c} h => shs_get (by unfold ini at h; exact h)
      refine ⟨⟨s, fun i d h => ?_, fun i d h => ?_, fun i j p d e h => ?_, ll⟩, fun p ⟨i, d, h, _⟩ => ?_⟩
      · obtain ⟨d', h1, h2⟩ := get h
        cases h2
        obtain ⟨v, h3, h4⟩ := r.get h1
        exact ⟨v, start_get h3, h4⟩
      · obtain ⟨_, _, z⟩ := get h; cases z
      · obtain ⟨_, _, z⟩ := get h; cases z
      · obtain ⟨_, _, z⟩ := get h; cases z
    | @io p o d0 vs ds g h rt r =>
      have get : ∀ {i : Nat} {c : Cell}, (ini true N.length (d0 :: ds))[i]? = some (some c) → (i = 0 ∧ c = .ow d0) ∨ ∃ j d, i = j + 1 ∧ ds[j]? = some d ∧ c = .sh d := fun {i c} h => by
        unfold ini at h
        cases i with
        | zero => cases h; exact .inl ⟨rfl, rfl⟩
        | succ j =>
          obtain ⟨d, h1, h2⟩ := shs_get (ds := ds) (i := j) (n := N.length - (d0 :: ds).length) (c := c) h
          exact .inr ⟨j, d, rfl, h1, h2⟩
      have z0 : (L2.start N (V.ref p :: vs))[0]? = some (some (.ref p)) := start_get rfl
      refine ⟨⟨s, fun i d h => ?_, fun i d hi => ?_, fun i j q d e hi hj pi pj => ?_, ll⟩, fun q ⟨i, d, hi, pi⟩ => ?_⟩
      · rcases get h with ⟨_, z⟩ | ⟨j, d', rfl, h1, h2⟩
        · cases z
        · cases h2
          obtain ⟨v, h3, h4⟩ := r.get h1
          exact ⟨v, start_get (by simpa using h3), h4⟩
      · rcases get hi with ⟨rfl, z⟩ | ⟨j, d', rfl, h1, h2⟩
        · cases z
          exact ⟨p, o, z0, g, h, rt⟩
        · cases h2
      · rcases get hi with ⟨rfl, z⟩ | ⟨k, d', rfl, h1, h2⟩
        · rcases get hj with ⟨rfl, z⟩ | ⟨k, d', rfl, h1, h2⟩
          · rfl
          · cases h2
        · cases h2
      · rcases get hi with ⟨rfl, z⟩ | ⟨k, d', rfl, h1, h2⟩
        · rw [z0] at pi
          cases pi
          exact ⟨rfl, rfl⟩
        · cases h2
  obtain ⟨A, ro⟩ := key
  refine ⟨A, Same.refl _, fun _ h => h, fun _ _ _ h => h, fun _ _ _ _ h => h, fun q h => .inl (ro q h), fun v e => ?_, ll⟩
  by_cases hb : b = true
  · rw [if_pos hb] at e
    cases vs with
    | nil => cases e
    | cons w ws => cases e; exact start_get rfl
  · rw [if_neg hb] at e; cases e
theorem fin_bk {b : Bool} {G H G' H' : Hp} {vs : List V} {σ : L2.St} {τ : Tau} {op : Op} {own : Bool} {z z0 : D} {v : V} (F : Fr K mg (if b = true then vs.head? else none) (Rv b vs) G H G' H' σ τ) (hv : b = true → ∃ w, vs.head? = some w)
    (o : Or K mg H G' H' σ τ v op) (e : finF b τ op = some (own, z, z0)) : Bk K mg b vs G H own z z0 v G' H' := by
  obtain ⟨⟨own', z'⟩, e1, e⟩ := bind_some' e
  obtain ⟨z0', e2, e⟩ := bind_some' e
  cases e
  have slot0 : b = true → ∃ p o, vs.head? = some (.ref p) ∧ σ[0]? = some (some (.ref p)) ∧ τ[0]? = some (some (.ow z0)) ∧ G' p = none ∧ H' p = some o ∧ Rt K mg G' o z0 := fun hb => by
    unfold ioOut at e2
    rw [if_pos hb] at e2
    unfold owAt at e2
    split at e2
    · rename_i h0
      cases e2
      obtain ⟨p, o, a1, a2, a3, a4⟩ := F.at'.ow 0 _ h0
      obtain ⟨w, hw⟩ := hv hb
      have := F.pr w (by rw [if_pos hb]; exact hw)
      rw [a1] at this
      cases this
      exact ⟨p, o, hw, a1, h0, a2, a3, a4⟩
    · cases e2
  refine ⟨F.gg, F.at'.gh, F.kp, F.hh, F.gf, fun hb => let ⟨p, o, h1, _, _, h2, h3, h4⟩ := slot0 hb; ⟨p, o, h1, h2, h3, h4⟩, ?_⟩
  cases o with
  | val r => cases e1; exact .old r
  | tmp a1 a2 a3 a4 n => cases e1; exact .new rfl a1 a2 a3 a4
  | @slot _ i h =>
    unfold resOp at e1
    dsimp only at e1
    split at e1
    · rename_i d hi
      split at e1
      · cases e1
      · rename_i nb
        cases e1
        obtain ⟨p, o, a1, a2, a3, a4⟩ := F.at'.ow i _ hi
        rw [h] at a1
        cases a1
        refine .new rfl ?_ a2 a3 a4
        rcases F.rr p ⟨i, _, hi, h⟩ with ⟨hb, hp⟩ | hp
        · obtain ⟨q, o', h1, h2, h3, _⟩ := slot0 hb
          rw [h1] at hp
          cases hp
          exact absurd ⟨hb, F.at'.ap i 0 _ _ _ hi h3 h h2⟩ nb
        · exact hp
    · rename_i d hi
      cases e1
      obtain ⟨w, a1, a2⟩ := F.at'.sh i _ hi
      rw [h] at a1
      cases a1
      exact .old a2
    · cases e1
/-- A DEF: its body by rules; its promise is its mirror -/
theorem jfun {P : Program} {w : World} {base : Heap} {x qual : PySem.Str} {st : Stmt} {f : Addr} {fd : FuncData} {N ps : List PySem.Str} {k n np : Nat} {b : Bool} {F : FS} {m : Mir} (hm : m = runF b n np F) (hn : n = N.length) (hnp : np = ps.length) (Fn : Fun K x qual st f fd) (S : FnScope N ps (defScope st))
    (body : ∀ (cdv : Value) (A : Around) (outer : List Env) (s : Shared) (H : Hp) (E : XK), Room k (A.deeper (envOfC qual (defScope st) s.heap.objs.size f cdv)) →
      ∃ t, JSs (cxOf CX0 P w K mg base N qual (defScope st) f cdv A outer s H E).nox b (defBody st) t F) :
    FnOk P w K mg base CX0 (k + 1) f fd ps (spM K mg b m) := by
  subst hm hn hnp
  have hN : ps.length ≤ N.length := by
    have h := congrArg List.length S.pre
    rw [List.length_take] at h
    omega
  refine Fn.ok S (fun vs H Q E h => ?_) (fun cdv A outer s H vs Q E hr h => ?_)
  · obtain ⟨G, ds, own, z, z0, _, a, e, _⟩ := h
    rw [a.length, runF_len e]
  · obtain ⟨G, ds, own, z, z0, sm, a, e, q⟩ := h
    obtain ⟨t, hs⟩ := body cdv A outer s H E hr
    have hlen := runF_len e
    have hb : b = true → ∃ w, vs.head? = some w := fun hb => by
      subst hb
      cases a with
      | io _ _ _ _ => exact ⟨_, rfl⟩
    unfold runF at e
    rw [if_pos hlen] at e
    obtain ⟨fl, e1, e⟩ := bind_some' e
    have F0 := at_ini (N := N) sm a (by rw [a.length, hlen]; exact hN)
    refine ⟨t, hs.ps, hs.rs _ _ _ _ _ _ _ _ _ fl (fun hb' => by rw [hb']; rfl) F0 e1 ?_⟩
    cases fl with
    | nx τ' => exact fun σ' G' H' F' => q _ G' H' (fin_bk F' hb (.val .non) e)
    | rt op τ' => exact fun v σ' G' H' F' o => q v G' H' (fin_bk F' hb o e)
    | bk τ' => cases e
    | ct τ' => cases e
end

/-! ### calls -/
def mkOp (own : Bool) (z : D) : Op := if own = true then .tmp z else .val z
def fCall (m : Mir) (fa : FA) (τ : Tau) : Option (Op × Tau) := (fa τ).bind fun a => (m a.1).bind fun r => some (mkOp r.1 r.2.1, a.2)
/-- the first argument is handed over to be changed -/
def ioCall (m : Mir) (o : Op) (ds : List D) (τ : Tau) : Option (Op × Tau) := match o with
  | .slot i => match τ[i]? with
    | some (some (.ow d0)) => (m (d0 :: ds)).bind fun r => some (mkOp r.1 r.2.1, τ.set i (some (.ow r.2.2)))
    | _ => none
  | .tmp d0 => (m (d0 :: ds)).bind fun r => some (mkOp r.1 r.2.1, τ)
  | .val _ => none
def fCallIo (m : Mir) (fe : FE) (fa : FA) (τ : Tau) : Option (Op × Tau) := (fe τ).bind fun o => (fa o.2).bind fun a => ioCall m o.1 a.1 a.2
section
variable {K : PySem.W.Frag} {mg : Mg} {m : Mir}
theorem rs_or {G H G' H' : Hp} {σ : L2.St} {τ τ' : Tau} {v : V} {own : Bool} {z : D} (A : At K mg G H σ τ) (ro : ∀ b, Ro σ τ' b → Ro σ τ b) (r : Rs K mg H G' H' v own z) : Or K mg H G' H' σ τ' v (mkOp own z) := by
  cases r with
  | old r => exact .val r
  | new e a1 a2 a3 a4 =>
    subst e
    refine .tmp a1 a2 a3 a4 fun h => ?_
    obtain ⟨_, o, e⟩ := A.root (ro _ h)
    rw [a1] at e
    cases e
/-- behind a call that changes nothing -/
theorem bk_go {vs : List V} {G H G' H' : Hp} {σ : L2.St} {τ : Tau} {own : Bool} {z z0 : D} {v : V} (A : At K mg G H σ τ) (B : Bk K mg false vs G H own z z0 v G' H') : Go K mg σ τ G H τ G' H' := by
  have nr : ∀ p, ¬ Rv false vs p := fun p ⟨h, _⟩ => nomatch h
  exact ⟨⟨B.gh, fun i d h => let ⟨v, a, r⟩ := A.sh i d h; ⟨v, a, r.mono B.gg⟩, fun i d h => let ⟨p, o, a, g, c, r⟩ := A.ow i d h; ⟨p, o, a, B.gf _ _ (nr _) c g, B.hh _ _ (nr _) c, r.mono B.gg⟩, A.ap, A.ll⟩,
    B.gg, B.kp, fun b o _ h => B.hh b o (nr b) h, fun b o _ h g => B.gf b o (nr b) h g, fun _ d h => ⟨d, h⟩, rfl⟩
/-- behind a call that changes the root of slot i -/
theorem bk_goIo {p : Addr} {vs : List V} {G H G' H' : Hp} {σ : L2.St} {τ : Tau} {own : Bool} {d z z0 : D} {v : V} {i : Nat} (A : At K mg G H σ τ) (hi : τ[i]? = some (some (.ow d))) (hp : σ[i]? = some (some (.ref p))) (B : Bk K mg true (.ref p :: vs) G H own z z0 v G' H') :
    Go K mg σ τ G H (τ.set i (some (.ow z0))) G' H' ∧ ∀ b, Ro σ (τ.set i (some (.ow z0))) b → Ro σ τ b := by
  have nr : ∀ q, q ≠ p → ¬ Rv true (V.ref p :: vs) q := fun q n ⟨_, h⟩ => by cases h; exact n rfl
  obtain ⟨q, o', e, b1, b2, b3⟩ := B.io rfl
  cases e
  have sub : ∀ b, Ro σ (τ.set i (some (.ow z0))) b → Ro σ τ b := fun b ⟨j, x, hj, pj⟩ => by
    rcases get_set hj with ⟨rfl, z⟩ | ⟨n, z⟩
    · exact ⟨j, d, hi, pj⟩
    · exact ⟨j, x, z, pj⟩
  refine ⟨⟨⟨B.gh, fun j x h => ?_, fun j x h => ?_, fun j k q x y hj hk pj pk => ?_, by rw [List.length_set]; exact A.ll⟩, B.gg, B.kp, fun b o n h => B.hh b o (nr b fun e => n ⟨i, d, hi, by rw [e]; exact hp⟩) h, fun b o n h g => B.gf b o (nr b fun e => n ⟨i, d, hi, by rw [e]; exact hp⟩) h g, fun j x hj => ?_, List.length_set ..⟩, sub⟩
  · rcases get_set h with ⟨rfl, z⟩ | ⟨n, z⟩
    · cases z
    · obtain ⟨v, a, r⟩ := A.sh j x z
      exact ⟨v, a, r.mono B.gg⟩
  · rcases get_set h with ⟨rfl, z⟩ | ⟨n, z⟩
    · cases z
      exact ⟨p, o', hp, b1, b2, b3⟩
    · obtain ⟨q, o, a, g, c, r⟩ := A.ow j x z
      have nq : q ≠ p := fun e => n (A.ap j i p x d z hi (by rw [← e]; exact a) hp)
      exact ⟨q, o, a, B.gf _ _ (nr q nq) c g, B.hh _ _ (nr q nq) c, r.mono B.gg⟩
  · have back : ∀ {j : Nat} {x : D}, (τ.set i (some (.ow z0)))[j]? = some (some (Cell.ow x)) → ∃ x', τ[j]? = some (some (Cell.ow x')) := fun {j x} h => by
      rcases get_set h with ⟨rfl, z⟩ | ⟨n, z⟩
      · exact ⟨d, hi⟩
      · exact ⟨x, z⟩
    obtain ⟨x', hj'⟩ := back hj
    obtain ⟨y', hk'⟩ := back hk
    exact A.ap j k q x' y' hj' hk' pj pk
  · rcases get_set hj with ⟨rfl, z⟩ | ⟨n, z⟩
    · exact ⟨d, hi⟩
    · exact ⟨x, z⟩
/-- behind a call that changes a new root that is then dropped -/
theorem bk_goTmp {p : Addr} {vs : List V} {G0 H0 G H G' H' : Hp} {σ : L2.St} {τ0 τ : Tau} {own : Bool} {z z0 : D} {v : V} (g : Go K mg σ τ0 G0 H0 τ G H) (h0 : H0 p = none) (n0 : ¬ Ro σ τ p) (B : Bk K mg true (.ref p :: vs) G H own z z0 v G' H') :
    Go K mg σ τ0 G0 H0 τ G' H' := by
  have A := g.at'
  have nr : ∀ q, q ≠ p → ¬ Rv true (V.ref p :: vs) q := fun q n ⟨_, h⟩ => by cases h; exact n rfl
  have np : ∀ b o, H0 b = some o → b ≠ p := fun b o h e => by rw [e, h0] at h; cases h
  refine ⟨⟨B.gh, fun j x h => ?_, fun j x h => ?_, A.ap, A.ll⟩, g.gg.trans B.gg, fun b h => g.kp b (B.kp b h), fun b o n h => B.hh b o (nr b (np b o h)) (g.hh b o n h), fun b o n h e => B.gf b o (nr b (np b o h)) (g.hh b o n h) (g.gf b o n h e), g.ri, g.tl⟩
  · obtain ⟨v, a, r⟩ := A.sh j x h
    exact ⟨v, a, r.mono B.gg⟩
  · obtain ⟨q, o, a, g1, c, r⟩ := A.ow j x h
    have nq : q ≠ p := fun e => n0 ⟨j, x, h, by rw [← e]; exact a⟩
    exact ⟨q, o, a, B.gf _ _ (nr q nq) c g1, B.hh _ _ (nr q nq) c, r.mono B.gg⟩
/-- THE CALL with a first argument that may be changed: op's value x, the rest vs -/
theorem io_call {G0 H0 G H : Hp} {σ : L2.St} {τ0 τ τ' : Tau} {x : V} {vs : List V} {o op : Op} {ds : List D} {Q : VK} {E : XK} (g : Go K mg σ τ0 G0 H0 τ G H) (ox : Or K mg H0 G H σ τ x o) (r : RpL K mg G vs ds) (e : ioCall m o ds τ = some (op, τ'))
    (q : ∀ v G' H', Go K mg σ τ0 G0 H0 τ' G' H' → Or K mg H0 G' H' σ τ' v op → Q v H') : spM K mg true m (x :: vs) H Q E := by
  have A := g.at'
  cases ox with
  | val _ => cases e
  | tmp a b c rt n =>
    obtain ⟨⟨own, z, z0⟩, e1, e⟩ := bind_some' e
    cases e
    exact ⟨G, _, own, z, z0, A.gh, .io b c rt r, e1, fun v G' H' B => q v G' H' (bk_goTmp g a n B) ((rs_or A (fun _ h => h) B.rs).weak g.kp)⟩
  | @slot _ i h =>
    unfold ioCall at e
    dsimp only at e
    split at e
    · rename_i d0 hi
      obtain ⟨⟨own, z, z0⟩, e1, e⟩ := bind_some' e
      cases e
      obtain ⟨p, o', a, b, c, rt⟩ := A.ow i d0 hi
      rw [h] at a
      cases a
      refine ⟨G, _, own, z, z0, A.gh, .io b c rt r, e1, fun v G' H' B => ?_⟩
      obtain ⟨g2, ro⟩ := bk_goIo A hi h B
      exact q v G' H' (g.trans g2) ((rs_or A ro B.rs).weak g.kp)
    · cases e
theorem re_call {E : XK} {t : TA} {f : FA} (hr : RA K mg t f) : RE K mg (tCall (spM K mg false m) [] E t) (fCall m f) := fun σ τ G H op τ' Q A e q => by
  obtain ⟨⟨ds, τ1⟩, e1, e⟩ := bind_some' e
  obtain ⟨⟨own, z, z0⟩, e2, e⟩ := bind_some' e
  cases e
  refine hr σ τ G H ds _ _ A e1 fun vs G1 H1 g1 r1 => ?_
  rw [List.append_nil]
  refine ⟨G1, ds, own, z, z0, g1.at'.gh, .pure r1, e2, fun v G2 H2 B => ?_⟩
  exact q v G2 H2 (g1.trans (bk_go g1.at' B)) ((rs_or g1.at' (fun _ h => h) B.rs).weak g1.kp)
theorem re_callIo {E : XK} {te : TE} {fe : FE} {t : TA} {f : FA} (he : RE K mg te fe) (hr : RA K mg t f) : RE K mg (tCall (spM K mg true m) [] E (tCons te t)) (fCallIo m fe f) := fun σ τ G H op τ' Q A e q => by
  obtain ⟨⟨o, τ1⟩, e1, e⟩ := bind_some' e
  obtain ⟨⟨ds, τ2⟩, e2, e⟩ := bind_some' e
  refine he σ τ G H o τ1 _ A e1 fun x G1 H1 g1 o1 => ?_
  refine hr σ τ1 G1 H1 ds τ2 _ g1.at' e2 fun vs G2 H2 g2 r2 => ?_
  show spM K mg true m ((x :: vs) ++ []) H2 Q E
  rw [List.append_nil]
  exact io_call (g1.trans g2) (o1.step g2) r2 e q
end
section
variable {X : Cx} {k : Nat} {f : Addr} {fd : FuncData} {ps : List PySem.Str} {m : Mir} {x : PySem.Str} {p pos apos : Pos} {e o : Expr} {es : List Expr} {t : TA} {fa : FA} {te : TE} {fe : FE}
theorem je_call (F : FnOk X.prog X.w X.K X.mg X.base CX0 k f fd ps (spM X.K X.mg false m)) (hr : Room k X.A) (hg : Gl X x) (hm : X.mg x = some (.ref f)) (hk : PySem.W.keepIn X.K (.ref f) = true) (hb : Binds X.K fd ps [])
    (ha : JA X (e :: es) t fa) (hdb : (x == ("__debug__" : PySem.Str)) = false := by decide) (he : starEach (e :: es) X.env = (false, eval e X.env) :: starEach es X.env := by rfl) (hpl : (backTo pos (starEach es X.env)).any (·.1) = false := by rfl) :
    JE X (.Call (.Name x p) (e :: es) [] pos) (tCall (spM X.K X.mg false m) [] E0 t) (fCall m fa) := ⟨pe_call F hr hg hm hk hb .nil pass0 ha.pa hdb he hpl, re_call ha.ra⟩
theorem je_call0 (F : FnOk X.prog X.w X.K X.mg X.base CX0 k f fd ps (spM X.K X.mg false m)) (hr : Room k X.A) (hg : Gl X x) (hm : X.mg x = some (.ref f)) (hk : PySem.W.keepIn X.K (.ref f) = true) (hb : Binds X.K fd ps [])
    (hdb : (x == ("__debug__" : PySem.Str)) = false := by decide) : JE X (.Call (.Name x p) [] [] pos) (tCall (spM X.K X.mg false m) [] E0 tNil) (fCall m aNil) := ⟨pe_call0 F hr hg hm hk hb .nil pass0 hdb, re_call ra_nil⟩
theorem je_callIo (F : FnOk X.prog X.w X.K X.mg X.base CX0 k f fd ps (spM X.K X.mg true m)) (hr : Room k X.A) (hg : Gl X x) (hm : X.mg x = some (.ref f)) (hk : PySem.W.keepIn X.K (.ref f) = true) (hb : Binds X.K fd ps [])
    (he1 : JE X e te fe) (ha : JA X es t fa) (hdb : (x == ("__debug__" : PySem.Str)) = false := by decide) (he : starEach (e :: es) X.env = (false, eval e X.env) :: starEach es X.env := by rfl) (hpl : (backTo pos (starEach es X.env)).any (·.1) = false := by rfl) :
    JE X (.Call (.Name x p) (e :: es) [] pos) (tCall (spM X.K X.mg true m) [] E0 (tCons te t)) (fCallIo m fe fa) := ⟨pe_call F hr hg hm hk hb .nil pass0 (pa_cons he1.pe ha.pa he) hdb he hpl, re_callIo he1.re ha.ra⟩
end

/-! ### built-in calls -/
def fCB (g : List D → Option Op) (fp : FP) (τ : Tau) : Option (Op × Tau) := (fp τ).bind fun a => (derefL a.2 a.1).bind fun ds => (g ds).bind fun op => some (op, a.2)
def RC (K : PySem.W.Frag) (mg : Mg) (r : List V → Hp → VK → Prop) (g : List D → Option Op) : Prop := ∀ (G H : Hp) (xs : List V) (ds : List D) (op : Op) (Q : VK), Same G H → PkL K mg G H xs ds → g ds = some op →
  (∀ v G' H', Nw K mg G H G' H' → On K mg H G' H' v op → Q v H') → r xs H Q
theorem re_cb {K : PySem.W.Frag} {mg : Mg} {r : List V → Hp → VK → Prop} {g : List D → Option Op} {t : TA} {fp : FP} (hr : RC K mg r g) (ha : RPa K mg t fp) : RE K mg (tCB r t) (fCB g fp) := fun σ τ G H op τ' Q A e q => by
  obtain ⟨⟨ops, τ1⟩, e1, e⟩ := bind_some' e
  obtain ⟨ds, e2, e⟩ := bind_some' e
  obtain ⟨z, e3, e⟩ := bind_some' e
  cases e
  refine ha σ τ G H ops _ _ A e1 fun vs G1 H1 g1 o1 => ?_
  refine hr G1 H1 vs ds _ Q g1.at'.gh (o1.pk g1.at' e2) e3 fun v G3 H3 n o => ?_
  exact q v G3 H3 (g1.trans (n.go g1.at')) ((o.or g1.at').weak g1.kp)
section
variable {X : Cx} {id T : String} {r : List V → Hp → VK → Prop} {g : List D → Option Op} {x : PySem.Str} {p pos : Pos} {e : Expr} {es : List Expr} {t : TA} {fp : FP}
theorem je_cb (hc : CallR X (.builtin id) r) (hr : RC X.K X.mg r g) (hg : Gl X x) (hm : X.mg x = none) (hv : bootBuiltins x = some (.builtin id)) (ha : JP X (e :: es) t fp) (hn : x ≠ "__name__" := by decide) (hdb : (x == ("__debug__" : PySem.Str)) = false := by decide)
    (he : starEach (e :: es) X.env = (false, eval e X.env) :: starEach es X.env := by rfl) (hpl : (backTo pos (starEach es X.env)).any (·.1) = false := by rfl) : JE X (.Call (.Name x p) (e :: es) [] pos) (tCB r t) (fCB g fp) := ⟨pe_callB hc hg hm hv ha.pa hn hdb he hpl, re_cb hr ha.rp⟩
theorem je_ct (hc : CallR X (.type T) r) (hr : RC X.K X.mg r g) (hg : Gl X x) (hm : X.mg x = none) (hv : bootBuiltins x = some (.type T)) (ha : JP X (e :: es) t fp) (hn : x ≠ "__name__" := by decide) (hdb : (x == ("__debug__" : PySem.Str)) = false := by decide)
    (he : starEach (e :: es) X.env = (false, eval e X.env) :: starEach es X.env := by rfl) (hpl : (backTo pos (starEach es X.env)).any (·.1) = false := by rfl) : JE X (.Call (.Name x p) (e :: es) [] pos) (tCB r t) (fCB g fp) := ⟨pe_callTy hc hg hm hv ha.pa hn hdb he hpl, re_cb hr ha.rp⟩
end
end J
namespace J
open PySem PySem.Spec PyProof.Rows L2

/-! ### methods, new instances, properties, attributes -/
def insOk (cn mn : String) : D → Bool
  | .ins c fds => decide (c = cn) && (fds.lookup mn).isNone
  | _ => false
def fMeth (cn mn : String) (m : Mir) (fe : FE) (fa : FA) (τ : Tau) : Option (Op × Tau) := (fe τ).bind fun o => (fz o.2 o.1).bind fun d => if insOk cn mn d.1 = true then (fa d.2).bind fun a => (m (d.1 :: a.1)).bind fun r => some (mkOp r.1 r.2.1, a.2) else none
def fMethIo (cn mn : String) (m : Mir) (fe : FE) (fa : FA) (τ : Tau) : Option (Op × Tau) := (fe τ).bind fun o => (deref o.2 o.1).bind fun d => if insOk cn mn d = true then (fa o.2).bind fun a => ioCall m o.1 a.1 a.2 else none
def fMake (cn : String) (m : Mir) (fa : FA) (τ : Tau) : Option (Op × Tau) := (fa τ).bind fun a => (m (.ins cn [] :: a.1)).bind fun r => match r with
  | (false, .non, z) => some (.tmp z, a.2)
  | _ => none
def insC (cn : String) : D → Bool
  | .ins c _ => decide (c = cn)
  | _ => false
def fProp (cn : String) (m : Mir) (fe : FE) (τ : Tau) : Option (Op × Tau) := (fe τ).bind fun o => (fz o.2 o.1).bind fun d => if insC cn d.1 = true then (m [d.1]).bind fun r => some (mkOp r.1 r.2.1, d.2) else none
def fPropIo (cn : String) (m : Mir) (fe : FE) (τ : Tau) : Option (Op × Tau) := (fe τ).bind fun o => (deref o.2 o.1).bind fun d => if insC cn d = true then ioCall m o.1 [] o.2 else none
def fFld (cs : List String) (n : String) (fe : FE) (τ : Tau) : Option (Op × Tau) := (fe τ).bind fun o => (deref o.2 o.1).bind fun d => match d with
  | .ins c fds => if c ∈ cs then (fds.lookup n).bind fun z => some (.val z, o.2) else none
  | _ => none
/-- o.n = e, o an owned root -/
def putAt (cs : List String) (n : String) (d : D) (o : Op) (τ : Tau) : Option Tau := match o with
  | .slot i => match τ[i]? with
    | some (some (.ow (.ins c fds))) => if c ∈ cs ∧ fds.length < 1000 then some (τ.set i (some (.ow (.ins c (putD n d fds))))) else none
    | _ => none
  | _ => none
def sFldS (cs : List String) (n : String) (fo fe : FE) (τ : Tau) : Option Flow := (fe τ).bind fun a => (fz a.2 a.1).bind fun d => (fo d.2).bind fun o => (putAt cs n d.1 o.1 o.2).bind fun τ' => some (.nx τ')
section
variable {K : PySem.W.Frag} {mg : Mg} {m : Mir} {cn mn : String} {C : Addr} {E : XK} {te : TE} {fe : FE} {t : TA} {f : FA}
theorem insOk_ok {G H : Hp} {x : V} {d : D} (gC : mg (os cn) = some (.ref C)) (s : Same G H) (p : Pk K mg G H x d) (h : insOk cn mn d = true) : ∃ a dx fs, x = .ref a ∧ H a = some (.ins C dx fs) ∧ fs.lookup (os mn) = none := by
  cases d <;> first | (cases h; done) | skip
  rename_i c fds
  unfold insOk at h
  simp only [Bool.and_eq_true, decide_eq_true_eq, Option.isNone_iff_eq_none] at h
  obtain ⟨rfl, h⟩ := h
  obtain ⟨a, C', dx, fs, rfl, hm, ha, r⟩ := p.ins s
  rw [gC] at hm
  cases hm
  exact ⟨a, dx, fs, rfl, ha, r.look0 h⟩
theorem insC_ok {G H : Hp} {x : V} {d : D} (gC : mg (os cn) = some (.ref C)) (s : Same G H) (p : Pk K mg G H x d) (h : insC cn d = true) : ∃ a dx fs, x = .ref a ∧ H a = some (.ins C dx fs) := by
  cases d <;> first | (cases h; done) | skip
  rename_i c fds
  unfold insC at h
  obtain rfl := of_decide_eq_true h
  obtain ⟨a, C', dx, fs, rfl, hm, ha, r⟩ := p.ins s
  rw [gC] at hm
  cases hm
  exact ⟨a, dx, fs, rfl, ha⟩
theorem re_meth (gC : mg (os cn) = some (.ref C)) (he : RE K mg te fe) (hr : RA K mg t f) : RE K mg (tMeth C (os mn) (spM K mg false m) [] E te t) (fMeth cn mn m fe f) := fun σ τ G H op τ' Q A e q => by
  obtain ⟨⟨o, τ1⟩, e1, e⟩ := bind_some' e
  obtain ⟨⟨d, τ2⟩, e2, e⟩ := bind_some' e
  by_cases hi : insOk cn mn d = true
  · rw [if_pos hi] at e
    obtain ⟨⟨ds, τ3⟩, e3, e⟩ := bind_some' e
    obtain ⟨⟨own, z, z0⟩, e4, e⟩ := bind_some' e
    cases e
    refine he σ τ G H o τ1 _ A e1 fun x G1 H1 g1 o1 => ?_
    obtain ⟨G2, g2, s2, r2⟩ := o1.fz g1 e2
    obtain ⟨a, dx, fs, rfl, ha, hl⟩ := insOk_ok gC g2.at'.gh (Pk.frz r2 : Pk K mg G2 H1 x d) hi
    refine ⟨a, dx, fs, rfl, ha, hl, ?_⟩
    refine hr σ τ2 G2 H1 ds _ _ g2.at' e3 fun vs G3 H3 g3 r3 => ?_
    show spM K mg false m (.ref a :: (vs ++ [])) H3 Q E
    rw [List.append_nil]
    have g := g2.trans g3
    exact ⟨G3, d :: ds, own, z, z0, g3.at'.gh, .pure (.cons (r2.mono g3.gg) r3), e4, fun v G4 H4 B => q v G4 H4 (g.trans (bk_go g3.at' B)) ((rs_or g3.at' (fun _ h => h) B.rs).weak g.kp)⟩
  · rw [if_neg hi] at e
    cases e
theorem re_methIo (gC : mg (os cn) = some (.ref C)) (he : RE K mg te fe) (hr : RA K mg t f) : RE K mg (tMeth C (os mn) (spM K mg true m) [] E te t) (fMethIo cn mn m fe f) := fun σ τ G H op τ' Q A e q => by
  obtain ⟨⟨o, τ1⟩, e1, e⟩ := bind_some' e
  obtain ⟨d, e2, e⟩ := bind_some' e
  by_cases hi : insOk cn mn d = true
  · rw [if_pos hi] at e
    obtain ⟨⟨ds, τ3⟩, e3, e⟩ := bind_some' e
    refine he σ τ G H o τ1 _ A e1 fun x G1 H1 g1 o1 => ?_
    obtain ⟨a, dx, fs, rfl, ha, hl⟩ := insOk_ok gC g1.at'.gh (o1.pk g1.at' e2) hi
    refine ⟨a, dx, fs, rfl, ha, hl, ?_⟩
    refine hr σ τ1 G1 H1 ds τ3 _ g1.at' e3 fun vs G3 H3 g3 r3 => ?_
    show spM K mg true m (.ref a :: (vs ++ [])) H3 Q E
    rw [List.append_nil]
    exact io_call (g1.trans g3) (o1.step g3) r3 e q
  · rw [if_neg hi] at e
    cases e
theorem re_make (gC : mg (os cn) = some (.ref C)) (hr : RA K mg t f) : RE K mg (tMake C (spM K mg true m) [] E t) (fMake cn m f) := fun σ τ G H op τ' Q A e q => by
  obtain ⟨⟨ds, τ1⟩, e1, e⟩ := bind_some' e
  obtain ⟨r, e2, e⟩ := bind_some' e
  dsimp only at e2 e
  split at e
  · rename_i z0
    cases e
    refine hr σ τ G H ds _ _ A e1 fun vs G1 H1 g1 r1 x dx nx ndx nex => ?_
    rw [List.append_nil]
    have s1 : Same H1 (upd (upd H1 dx (.own x)) x (.ins C dx [])) := fun b o h => by
      rw [upd_ne (ne_of_none h nx), upd_ne (ne_of_none h ndx)]; exact h
    have A1 := g1.at'
    refine ⟨G1, _, false, .non, z0, A1.gh.trans s1, .io (A1.gh.free nx) upd_same (.ins gC .nil) r1, e2, fun v G2 H2 B => ?_⟩
    have ev : v = .non := by
      have h := B.rs
      cases h with
      | old r => cases r; rfl
    refine ⟨ev, ?_⟩
    obtain ⟨q', o', e', b1, b2, b3⟩ := B.io rfl
    cases e'
    have nr : ∀ b o, H1 b = some o → ¬ Rv true (V.ref x :: vs) b := fun b o h ⟨_, z⟩ => by
      cases z
      rw [nx] at h; cases h
    have g2 : Go K mg σ _ G1 H1 _ G2 H2 :=
      ⟨⟨B.gh, fun i d h => let ⟨v, a, r⟩ := A1.sh i d h; ⟨v, a, r.mono B.gg⟩, fun i d h => let ⟨p, o, a, g, c, r⟩ := A1.ow i d h; ⟨p, o, a, B.gf _ _ (nr _ _ c) (s1 _ _ c) g, B.hh _ _ (nr _ _ c) (s1 _ _ c), r.mono B.gg⟩, A1.ap, A1.ll⟩,
        B.gg, fun b h => s1.free (B.kp b h), fun b o _ h => B.hh b o (nr b o h) (s1 _ _ h), fun b o _ h g => B.gf b o (nr b o h) (s1 _ _ h) g, fun _ d h => ⟨d, h⟩, rfl⟩
    refine q _ G2 H2 (g1.trans g2) (.tmp (g1.kp _ nx) b1 b2 b3 fun z => ?_)
    obtain ⟨_, o, e⟩ := A1.root z
    rw [nx] at e; cases e
  · cases e
theorem re_prop (gC : mg (os cn) = some (.ref C)) (he : RE K mg te fe) : RE K mg (tProp C (spM K mg false m) [] E te) (fProp cn m fe) := fun σ τ G H op τ' Q A e q => by
  obtain ⟨⟨o, τ1⟩, e1, e⟩ := bind_some' e
  obtain ⟨⟨d, τ2⟩, e2, e⟩ := bind_some' e
  by_cases hi : insC cn d = true
  · rw [if_pos hi] at e
    obtain ⟨⟨own, z, z0⟩, e4, e⟩ := bind_some' e
    cases e
    refine he σ τ G H o τ1 _ A e1 fun x G1 H1 g1 o1 => ?_
    obtain ⟨G2, g2, s2, r2⟩ := o1.fz g1 e2
    obtain ⟨a, dx, fs, rfl, ha⟩ := insC_ok gC g2.at'.gh (Pk.frz r2 : Pk K mg G2 H1 x d) hi
    exact ⟨a, dx, fs, rfl, ha, G2, [d], own, z, z0, g2.at'.gh, .pure (.cons r2 .nil), e4, fun v G4 H4 B => q v G4 H4 (g2.trans (bk_go g2.at' B)) ((rs_or g2.at' (fun _ h => h) B.rs).weak g2.kp)⟩
  · rw [if_neg hi] at e
    cases e
theorem re_propIo (gC : mg (os cn) = some (.ref C)) (he : RE K mg te fe) : RE K mg (tProp C (spM K mg true m) [] E te) (fPropIo cn m fe) := fun σ τ G H op τ' Q A e q => by
  obtain ⟨⟨o, τ1⟩, e1, e⟩ := bind_some' e
  obtain ⟨d, e2, e⟩ := bind_some' e
  by_cases hi : insC cn d = true
  · rw [if_pos hi] at e
    refine he σ τ G H o τ1 _ A e1 fun x G1 H1 g1 o1 => ?_
    obtain ⟨a, dx, fs, rfl, ha⟩ := insC_ok gC g1.at'.gh (o1.pk g1.at' e2) hi
    exact ⟨a, dx, fs, rfl, ha, io_call g1 o1 .nil e q⟩
  · rw [if_neg hi] at e
    cases e
/-- what the text's classes are -/
def ClsOk (K : PySem.W.Frag) (mg : Mg) (cs : List String) (n : String) : Prop := ∀ c ∈ cs, ∀ C, mg (os c) = some (.ref C) → Cls K C ∧ NoAttr K C (os n)
theorem re_fld {cs : List String} {n : String} (T : ClsOk K mg cs n) (he : RE K mg te fe) : RE K mg (tFld K te (os n)) (fFld cs n fe) := fun σ τ G H op τ' Q A e q => by
  obtain ⟨⟨o, τ1⟩, e1, e⟩ := bind_some' e
  obtain ⟨d, e2, e⟩ := bind_some' e
  dsimp only at e2 e
  cases d <;> first | (cases e; done) | skip
  rename_i c fds
  dsimp only at e
  by_cases hc : c ∈ cs
  · rw [if_pos hc] at e
    obtain ⟨z, e3, e⟩ := bind_some' e
    cases e
    refine he σ τ G H o _ _ A e1 fun x G1 H1 g1 o1 => ?_
    obtain ⟨a, C, dx, fs, rfl, hm, ha, r⟩ := (o1.pk g1.at' e2).ins g1.at'.gh
    obtain ⟨v, hv, rv⟩ := r.look e3
    obtain ⟨T1, T2⟩ := T c hc C hm
    exact ⟨a, C, dx, fs, v, rfl, ha, T1, T2, hv, q v G1 H1 g1 (.val rv)⟩
  · rw [if_neg hc] at e; cases e
/-- an owned root is changed in place -/
theorem At.put {G H : Hp} {σ : L2.St} {τ : Tau} (A : At K mg G H σ τ) {i : Nat} {p : Addr} {d d' : D} {o' : HO} (hi : τ[i]? = some (some (.ow d))) (hp : σ[i]? = some (some (.ref p))) (r : Rt K mg G o' d') : At K mg G (upd H p o') σ (τ.set i (some (.ow d'))) ∧ ∀ b, Ro σ (τ.set i (some (.ow d'))) b → Ro σ τ b := by
  obtain ⟨g0, _⟩ := A.root ⟨i, d, hi, hp⟩
  have np : ∀ b o, G b = some o → b ≠ p := fun b o h e => by rw [e, g0] at h; cases h
  have sub : ∀ b, Ro σ (τ.set i (some (.ow d'))) b → Ro σ τ b := fun b ⟨j, x, hj, pj⟩ => by
    rcases get_set hj with ⟨rfl, z⟩ | ⟨n, z⟩
    · exact ⟨j, d, hi, pj⟩
    · exact ⟨j, x, z, pj⟩
  refine ⟨⟨fun b o h => by rw [upd_ne (np b o h)]; exact A.gh _ _ h, fun j x h => ?_, fun j x h => ?_, fun j k q x y hj hk pj pk => ?_, by rw [List.length_set]; exact A.ll⟩, sub⟩
  · rcases get_set h with ⟨rfl, z⟩ | ⟨n, z⟩
    · cases z
    · exact A.sh j x z
  · rcases get_set h with ⟨rfl, z⟩ | ⟨n, z⟩
    · cases z
      exact ⟨p, o', hp, g0, upd_same, r⟩
    · obtain ⟨q, o, a, g, c, r⟩ := A.ow j x z
      exact ⟨q, o, a, g, by rw [upd_ne (fun e => n (A.ap j i p x d z hi (by rw [← e]; exact a) hp))]; exact c, r⟩
  · have back : ∀ {j : Nat} {x : D}, (τ.set i (some (.ow d')))[j]? = some (some (Cell.ow x)) → ∃ x', τ[j]? = some (some (Cell.ow x')) := fun {j x} h => by
      rcases get_set h with ⟨rfl, z⟩ | ⟨n, z⟩
      · exact ⟨d, hi⟩
      · exact ⟨x, z⟩
    obtain ⟨x', hj'⟩ := back hj
    obtain ⟨y', hk'⟩ := back hk
    exact A.ap j k q x' y' hj' hk' pj pk
theorem Go.put {G H : Hp} {σ : L2.St} {τ : Tau} (A : At K mg G H σ τ) {i : Nat} {p : Addr} {d d' : D} {o' : HO} (hi : τ[i]? = some (some (.ow d))) (hp : σ[i]? = some (some (.ref p))) (r : Rt K mg G o' d') : Go K mg σ τ G H (τ.set i (some (.ow d'))) G (upd H p o') := by
  obtain ⟨A', sub⟩ := A.put hi hp r
  obtain ⟨_, o, ho⟩ := A.root ⟨i, d, hi, hp⟩
  have np : ∀ b, ¬ Ro σ τ b → b ≠ p := fun b n e => n ⟨i, d, hi, by rw [e]; exact hp⟩
  refine ⟨A', Same.refl _, fun b h => ?_, fun b x n h => by rw [upd_ne (np b n)]; exact h, fun _ _ _ _ h => h, fun j x hj => ?_, List.length_set ..⟩
  · by_cases e : b = p
    · rw [e, upd_same] at h; cases h
    · rwa [upd_ne e] at h
  · rcases get_set hj with ⟨rfl, z⟩ | ⟨n, z⟩
    · exact ⟨d, hi⟩
    · exact ⟨x, z⟩
theorem rs_fld {b : Bool} {cs : List String} {n : String} {to : TE} {fo : FE} (T : ClsOk K mg cs n) (ho : RE K mg to fo) (he : RE K mg te fe) : RS K mg b (sFld K to te (os n)) (sFldS cs n fo fe) := fun io R0 G0 H0 G H σ τ D fl hb F e k => by
  obtain ⟨⟨oa, τ1⟩, e1, e⟩ := bind_some' e
  obtain ⟨⟨d, τ2⟩, e2, e⟩ := bind_some' e
  obtain ⟨⟨oo, τ3⟩, e3, e⟩ := bind_some' e
  obtain ⟨τ4, e4, e⟩ := bind_some' e
  cases e
  refine he σ τ G H oa τ1 _ F.at' e1 fun y G1 H1 g1 o1 => ?_
  obtain ⟨G2, g2, s2, r2⟩ := o1.fz g1 e2
  refine ho σ τ2 G2 H1 oo τ3 _ g2.at' e3 fun x G3 H3 g3 o3 => ?_
  cases o3 with
  | val _ => cases e4
  | tmp _ _ _ _ _ => cases e4
  | @slot _ i hs =>
    unfold putAt at e4
    dsimp only at e4
    split at e4
    · rename_i c fds hi
      obtain ⟨⟨hc, hl⟩, rfl⟩ := if_get e4
      obtain ⟨p, o, a1, a2, a3, a4⟩ := g3.at'.ow i _ hi
      rw [hs] at a1
      cases a1
      cases a4 with
      | @ins C dx _ fs _ hm r =>
        obtain ⟨T1, T2⟩ := T c hc C hm
        refine ⟨p, C, dx, fs, rfl, a3, T1, T2, by rw [r.length]; exact hl, ?_⟩
        have g := g2.trans g3
        exact k σ G3 _ (F.go (g.trans (Go.put g3.at' hi hs (.ins hm (r.put (r2.mono g3.gg))))))
    · cases e4
end
section
variable {X : Cx} {k : Nat} {f C pa : Addr} {fd : FuncData} {ps : List PySem.Str} {m : Mir} {cn mn : String} {x : PySem.Str} {p pos apos : Pos} {e o : Expr} {es : List Expr} {t : TA} {fa : FA} {te to : TE} {fe fo : FE} {pl : Sem Bool}
theorem je_meth (gC : X.mg (os cn) = some (.ref C)) (he : JE X o te fe) (c : Cls X.K C) (hm : Meth X.K C (os mn) f) (F : FnOk X.prog X.w X.K X.mg X.base CX0 k f fd ps (spM X.K X.mg false m)) (hr : Room k X.A) (hb : Binds X.K fd ps []) (ha : JA X (e :: es) t fa)
    (hst : starEach (e :: es) X.env = (false, eval e X.env) :: starEach es X.env := by rfl) (hpl : (backTo pos (starEach es X.env)).any (·.1) = false := by rfl)
    (ht : eval (.Call (.Attribute o (os mn) apos) (e :: es) [] pos) X.env = (do
      let ov ← eval o X.env
      standAt apos.atName
      let (f, first) ← holding [ov] (getMethod ov (os mn) pl)
      callWith pos f first (backTo pos (starEach (e :: es) X.env)) (backToKw pos (keywordEach [] X.env))) := by rfl) :
    JE X (.Call (.Attribute o (os mn) apos) (e :: es) [] pos) (tMeth C (os mn) (spM X.K X.mg false m) [] E0 te t) (fMeth cn mn m fe fa) := ⟨pe_meth he.pe c hm F hr hb .nil pass0 ha.pa hst hpl ht, re_meth gC he.re ha.ra⟩
theorem je_methIo (gC : X.mg (os cn) = some (.ref C)) (he : JE X o te fe) (c : Cls X.K C) (hm : Meth X.K C (os mn) f) (F : FnOk X.prog X.w X.K X.mg X.base CX0 k f fd ps (spM X.K X.mg true m)) (hr : Room k X.A) (hb : Binds X.K fd ps []) (ha : JA X (e :: es) t fa)
    (hst : starEach (e :: es) X.env = (false, eval e X.env) :: starEach es X.env := by rfl) (hpl : (backTo pos (starEach es X.env)).any (·.1) = false := by rfl)
    (ht : eval (.Call (.Attribute o (os mn) apos) (e :: es) [] pos) X.env = (do
      let ov ← eval o X.env
      standAt apos.atName
      let (f, first) ← holding [ov] (getMethod ov (os mn) pl)
      callWith pos f first (backTo pos (starEach (e :: es) X.env)) (backToKw pos (keywordEach [] X.env))) := by rfl) :
    JE X (.Call (.Attribute o (os mn) apos) (e :: es) [] pos) (tMeth C (os mn) (spM X.K X.mg true m) [] E0 te t) (fMethIo cn mn m fe fa) := ⟨pe_meth he.pe c hm F hr hb .nil pass0 ha.pa hst hpl ht, re_methIo gC he.re ha.ra⟩
theorem je_meth0 (gC : X.mg (os cn) = some (.ref C)) (he : JE X o te fe) (c : Cls X.K C) (hm : Meth X.K C (os mn) f) (F : FnOk X.prog X.w X.K X.mg X.base CX0 k f fd ps (spM X.K X.mg false m)) (hr : Room k X.A) (hb : Binds X.K fd ps [])
    (ht : eval (.Call (.Attribute o (os mn) apos) [] [] pos) X.env = (do
      let ov ← eval o X.env
      standAt apos.atName
      let (f, first) ← holding [ov] (getMethod ov (os mn) pl)
      callWith pos f first (backTo pos (starEach [] X.env)) (backToKw pos (keywordEach [] X.env))) := by rfl) :
    JE X (.Call (.Attribute o (os mn) apos) [] [] pos) (tMeth C (os mn) (spM X.K X.mg false m) [] E0 te tNil) (fMeth cn mn m fe aNil) := ⟨pe_meth0 he.pe c hm F hr hb .nil pass0 ht, re_meth gC he.re ra_nil⟩
theorem je_meth0Io (gC : X.mg (os cn) = some (.ref C)) (he : JE X o te fe) (c : Cls X.K C) (hm : Meth X.K C (os mn) f) (F : FnOk X.prog X.w X.K X.mg X.base CX0 k f fd ps (spM X.K X.mg true m)) (hr : Room k X.A) (hb : Binds X.K fd ps [])
    (ht : eval (.Call (.Attribute o (os mn) apos) [] [] pos) X.env = (do
      let ov ← eval o X.env
      standAt apos.atName
      let (f, first) ← holding [ov] (getMethod ov (os mn) pl)
      callWith pos f first (backTo pos (starEach [] X.env)) (backToKw pos (keywordEach [] X.env))) := by rfl) :
    JE X (.Call (.Attribute o (os mn) apos) [] [] pos) (tMeth C (os mn) (spM X.K X.mg true m) [] E0 te tNil) (fMethIo cn mn m fe aNil) := ⟨pe_meth0 he.pe c hm F hr hb .nil pass0 ht, re_methIo gC he.re ra_nil⟩
theorem je_make (M : Mk X.K C f) (F : FnOk X.prog X.w X.K X.mg X.base CX0 k f fd ps (spM X.K X.mg true m)) (hr : Room (k + 1) X.A) (hg : Gl X (os cn)) (gC : X.mg (os cn) = some (.ref C)) (hb : Binds X.K fd ps []) (ha : JA X (e :: es) t fa)
    (hdb : (os cn == ("__debug__" : PySem.Str)) = false := by decide) (he : starEach (e :: es) X.env = (false, eval e X.env) :: starEach es X.env := by rfl) (hpl : (backTo pos (starEach es X.env)).any (·.1) = false := by rfl) :
    JE X (.Call (.Name (os cn) p) (e :: es) [] pos) (tMake C (spM X.K X.mg true m) [] E0 t) (fMake cn m fa) := ⟨pe_make M F hr hg gC hb .nil pass0 ha.pa hdb he hpl, re_make gC ha.ra⟩
theorem je_prop (gC : X.mg (os cn) = some (.ref C)) (he : JE X e te fe) (c : Cls X.K C) (hp : PropOf X.K C (os mn) pa f) (F : FnOk X.prog X.w X.K X.mg X.base CX0 k f fd ps (spM X.K X.mg false m)) (hr : Room (k + 1) X.A) (hb : Binds X.K fd ps [])
    (hab : attributeBase e (os mn) X.env (eval e X.env) = eval e X.env := by rfl) : JE X (.Attribute e (os mn) pos) (tProp C (spM X.K X.mg false m) [] E0 te) (fProp cn m fe) := ⟨pe_prop he.pe c hp F hr hb .nil pass0 hab, re_prop gC he.re⟩
theorem je_propIo (gC : X.mg (os cn) = some (.ref C)) (he : JE X e te fe) (c : Cls X.K C) (hp : PropOf X.K C (os mn) pa f) (F : FnOk X.prog X.w X.K X.mg X.base CX0 k f fd ps (spM X.K X.mg true m)) (hr : Room (k + 1) X.A) (hb : Binds X.K fd ps [])
    (hab : attributeBase e (os mn) X.env (eval e X.env) = eval e X.env := by rfl) : JE X (.Attribute e (os mn) pos) (tProp C (spM X.K X.mg true m) [] E0 te) (fPropIo cn m fe) := ⟨pe_prop he.pe c hp F hr hb .nil pass0 hab, re_propIo gC he.re⟩
theorem je_fld {K : PySem.W.Frag} {mg : Mg} {cs : List String} (T : ClsOk K mg cs mn) (he : JE X e te fe) (hab : attributeBase e (os mn) X.env (eval e X.env) = eval e X.env := by rfl) (hK : X.K = K := by rfl) (hM : X.mg = mg := by rfl) : JE X (.Attribute e (os mn) pos) (tFld K te (os mn)) (fFld cs mn fe) := by
  subst hK hM
  exact ⟨pe_fld he.pe hab, re_fld T he.re⟩
theorem js_fld {K : PySem.W.Frag} {mg : Mg} {b : Bool} {cs : List String} {pos' : Pos} (T : ClsOk K mg cs mn) (ho : JE X o to fo) (he : JE X e te fe) (hs : swapsWith e (some (.Attribute o (os mn) pos')) pos.line X.env = pure false := by rfl) (hK : X.K = K := by rfl) (hM : X.mg = mg := by rfl) :
    JS X b (.Assign [.Attribute o (os mn) pos'] e pos) (sFld K to te (os mn)) (sFldS cs mn fo fe) := by
  subst hK hM
  exact ⟨ps_fld ho.pe he.pe hs, rs_fld T ho.re he.re⟩
end
end J
namespace J
open PySem PySem.Spec PyProof.Rows L2

/-! ### what is walked -/
def iSeq (K : PySem.W.Frag) (tl : TE) : TI := fun σ H R => tl σ H fun x H1 => ∃ a, x = .ref a ∧ (((∃ xs, SqL K H1 a xs) ∧ R (Itl K a) H1) ∨ ((∃ xs, SqT K H1 a xs) ∧ R (Itt K a) H1))
theorem pi_seq {X : Cx} {tg l : Expr} {tl : TE} (hl : PE X l tl) : PI X tg l (iSeq X.K tl) := by
  refine ⟨fun pins s σ H R I h => ?_⟩
  refine thn (hl.run pins s σ H _ I h) fun v s1 ⟨x, H1, I1, r1, q1⟩ => ?_
  obtain ⟨a, e, q⟩ := q1
  subst e
  cases r1
  rcases q with ⟨⟨xs, hq⟩, q⟩ | ⟨⟨xs, hq⟩, q⟩
  · obtain ⟨its, rv, p, hz⟩ := I1.list hq
    refine wpAny_pyIter_list p.isList ?_
    refine ⟨s1.heap.objs.size, [s1.heap.objs.size], _, _, H1, rfl, I1.kept (t' := s1.toks) fun b o e => Heap.get?_push_of_some _ e, turn_list a _, ⟨_, Heap.get?_push_size _ rfl, rfl, rfl⟩, fun b hb => ?_, q⟩
    have e : b = s1.heap.objs.size := by simpa using hb
    subst e
    exact I1.fpOk (Nat.le_refl _) (I1.hok.fresh (Nat.le_refl _))
  · obtain ⟨its, rv, p, hz⟩ := I1.tuple hq
    refine wpAny_pyIter_tuple (show s1.heap.IsTuple a its.toArray from p) ?_
    refine ⟨s1.heap.objs.size, [s1.heap.objs.size], _, _, H1, rfl, I1.kept (t' := s1.toks) fun b o e => Heap.get?_push_of_some _ e, turn_tuple a _, ⟨_, Heap.get?_push_size _ rfl, rfl, rfl⟩, fun b hb => ?_, q⟩
    have e : b = s1.heap.objs.size := by simpa using hb
    subst e
    exact I1.fpOk (Nat.le_refl _) (I1.hok.fresh (Nat.le_refl _))
def iSq (fe : FE) (τ : Tau) : Option (List D × Tau) := (fe τ).bind fun o => (fz o.2 o.1).bind fun d => match d.1 with
  | .lst ds => some (ds, d.2)
  | .tup ds => some (ds, d.2)
  | _ => none
def rngD (lo hi : Int) : List D := (List.range (hi - lo).toNat).map fun (i : Nat) => .int (lo + (i : Int))
def rngOk (i : Int) : Bool := decide (-(2 ^ 62) ≤ i) && decide (i < 2 ^ 62)
def iR1 (fp : FP) (τ : Tau) : Option (List D × Tau) := (fp τ).bind fun a => (derefL a.2 a.1).bind fun ds => match ds with
  | [.int j] => if rngOk j = true then some (rngD 0 j, a.2) else none
  | _ => none
def iR2 (fp : FP) (τ : Tau) : Option (List D × Tau) := (fp τ).bind fun a => (derefL a.2 a.1).bind fun ds => match ds with
  | [.int i, .int j] => if rngOk i = true ∧ rngOk j = true then some (rngD i j, a.2) else none
  | _ => none
section
variable {K : PySem.W.Frag} {mg : Mg} {te : TE} {fe : FE} {ta : TA} {fp : FP}
theorem itr_list {a : Addr} {G : Hp} {vs : List V} {ds : List D} (h : SqL K G a vs) (r : RpL K mg G vs ds) : ItR K mg (Itl K a) G ds := fun G2 H2 s s2 => by
  have hq : SqL K H2 a vs := same_sql s2 (same_sql s h)
  refine ⟨fun i hi => ⟨vs, hq, by rw [r.length]; exact hi⟩, fun i d e => ?_⟩
  obtain ⟨v, hv, rv⟩ := r.get e
  exact ⟨⟨vs, v, hq, hv⟩, fun x H' ⟨e1, e2⟩ => by
    subst e1
    have := e2 vs hq
    rw [hv] at this
    cases this
    exact ⟨G2, Nw.refl s2, rv.mono s⟩⟩
theorem itr_tup {a : Addr} {G : Hp} {vs : List V} {ds : List D} (h : SqT K G a vs) (r : RpL K mg G vs ds) : ItR K mg (Itt K a) G ds := fun G2 H2 s s2 => by
  have hq : SqT K H2 a vs := same_sqt s2 (same_sqt s h)
  refine ⟨fun i hi => ⟨vs, hq, by rw [r.length]; exact hi⟩, fun i d e => ?_⟩
  obtain ⟨v, hv, rv⟩ := r.get e
  exact ⟨⟨vs, v, hq, hv⟩, fun x H' ⟨e1, e2⟩ => by
    subst e1
    have := e2 vs hq
    rw [hv] at this
    cases this
    exact ⟨G2, Nw.refl s2, rv.mono s⟩⟩
theorem itr_range {lo : Int} {n : Nat} {G : Hp} : ItR K mg (Itr lo n) G ((List.range n).map fun (i : Nat) => .int (lo + (i : Int))) := fun G2 H2 s s2 => by
  refine ⟨fun i hi => by rw [List.length_map, List.length_range] at hi; exact hi, fun i d e => ?_⟩
  have hi : i < n := by
    rcases Nat.lt_or_ge i n with z | z
    · exact z
    · rw [List.getElem?_eq_none (by rw [List.length_map, List.length_range]; exact z)] at e; cases e
  rw [List.getElem?_map, List.getElem?_range hi] at e
  cases e
  exact ⟨hi, fun x H' ⟨e1, e2⟩ => by
    subst e1
    subst e2
    exact ⟨G2, Nw.refl s2, .int _⟩⟩
theorem ri_seq (he : RE K mg te fe) : RI K mg (iSeq K te) (iSq fe) := fun σ τ G H ds τ' R A e q => by
  obtain ⟨⟨o, τ1⟩, e1, e⟩ := bind_some' e
  obtain ⟨⟨d, τ2⟩, e2, e⟩ := bind_some' e
  refine he σ τ G H o τ1 _ A e1 fun x G1 H1 g1 o1 => ?_
  obtain ⟨G2, g2, s2, r2⟩ := o1.fz g1 e2
  dsimp only at e
  cases d <;> first | (cases e; done) | skip
  · cases e
    cases r2 with
    | lst hq r => exact ⟨_, rfl, .inl ⟨⟨_, same_sql g2.at'.gh hq⟩, q _ G2 H1 g2 (itr_list hq r)⟩⟩
  · cases e
    cases r2 with
    | tup hq r => exact ⟨_, rfl, .inr ⟨⟨_, same_sqt g2.at'.gh hq⟩, q _ G2 H1 g2 (itr_tup hq r)⟩⟩
theorem rngOk_ok {i : Int} (h : rngOk i = true) : -(2 ^ 62) ≤ i ∧ i < 2 ^ 62 := by
  unfold rngOk at h
  simp only [Bool.and_eq_true, decide_eq_true_eq] at h
  exact h
theorem ri_r1 (ha : RPa K mg ta fp) : RI K mg (iRng1 ta) (iR1 fp) := fun σ τ G H ds τ' R A e q => by
  obtain ⟨⟨ops, τ1⟩, e1, e⟩ := bind_some' e
  obtain ⟨dd, e2, e⟩ := bind_some' e
  dsimp only at e2 e
  split at e
  · rename_i j
    obtain ⟨h, z⟩ := if_get e
    cases z
    refine ha σ τ G H ops _ _ A e1 fun vs G1 H1 g1 o1 => ?_
    have p := o1.pk g1.at' e2
    cases p with
    | cons p p' =>
      cases p'
      cases p.int
      obtain ⟨h1, h2⟩ := rngOk_ok h
      refine ⟨j, rfl, h1, h2, ?_⟩
      have it : ItR K mg (Itr 0 j.toNat) G1 (rngD 0 j) := by
        unfold rngD
        rw [Int.sub_zero]
        exact itr_range
      exact q _ G1 H1 g1 it
  · cases e
theorem ri_r2 (ha : RPa K mg ta fp) : RI K mg (iRng2 ta) (iR2 fp) := fun σ τ G H ds τ' R A e q => by
  obtain ⟨⟨ops, τ1⟩, e1, e⟩ := bind_some' e
  obtain ⟨dd, e2, e⟩ := bind_some' e
  dsimp only at e2 e
  split at e
  · rename_i i j
    obtain ⟨⟨h, h'⟩, z⟩ := if_get e
    cases z
    refine ha σ τ G H ops _ _ A e1 fun vs G1 H1 g1 o1 => ?_
    have p := o1.pk g1.at' e2
    cases p with
    | cons p p' =>
      cases p' with
      | cons p2 p3 =>
        cases p3
        cases p.int
        cases p2.int
        obtain ⟨h1, h2⟩ := rngOk_ok h
        obtain ⟨h3, h4⟩ := rngOk_ok h'
        exact ⟨i, j, rfl, ⟨h1, h2, h3, h4⟩, q _ G1 H1 g1 itr_range⟩
  · cases e
end
section
variable {X : Cx} {tg e a b : Expr} {te : TE} {fe : FE} {ta : TA} {fp : FP} {p pos : Pos}
theorem ji_seq {K : PySem.W.Frag} (he : JE X e te fe) (hK : X.K = K := by rfl) : JI X tg e (iSeq K te) (iSq fe) := by
  subst hK
  exact ⟨pi_seq he.pe, ri_seq he.re⟩
theorem ji_r1 (hg : Gl X "range") (hm : X.mg "range" = none) (ha : JP X [a] ta fp) (hs : starEach [a] X.env = [(false, eval a X.env)] := by rfl) : JI X tg (.Call (.Name "range" p) [a] [] pos) (iRng1 ta) (iR1 fp) := ⟨pi_range1 hg hm ha.pa hs, ri_r1 ha.rp⟩
theorem ji_r2 (hg : Gl X "range") (hm : X.mg "range" = none) (ha : JP X [a, b] ta fp) (hs : starEach [a, b] X.env = [(false, eval a X.env), (false, eval b X.env)] := by rfl) (hs2 : starEach [b] X.env = [(false, eval b X.env)] := by rfl) :
    JI X tg (.Call (.Name "range" p) [a, b] [] pos) (iRng2 ta) (iR2 fp) := ⟨pi_range2 hg hm ha.pa hs hs2, ri_r2 ha.rp⟩
end

/-! ### comprehensions -/
def wipeT (own : List Nat) (τ : Tau) : Tau := match own with
  | [] => τ
  | i :: r => (wipeT r τ).set i none
def backT (own : List Nat) (τ τ' : Tau) : Tau := match own with
  | [] => τ'
  | i :: r => (backT r τ τ').set i (τ[i]?.getD none)
def tAll (τ : Tau) : Option (Bool × Tau) := some (true, τ)
def lcD (own : List Nat) (g : FG) (ft : FT) (fe : FE) : List D → List D → Tau → Option (List D × Tau)
  | [], acc, τ => some (acc, τ)
  | d :: ds, acc, τ => (g d (wipeT own τ)).bind fun τ1 => (ft τ1).bind fun b => if b.1 = true then (fe b.2).bind fun o => (fz o.2 o.1).bind fun z =>
      if acc.length < 16777216 then lcD own g ft fe ds (acc ++ [z.1]) (backT own τ z.2) else none
    else lcD own g ft fe ds acc (backT own τ b.2)
def fLc (own : List Nat) (w : FI) (g : FG) (ft : FT) (fe : FE) (τ : Tau) : Option (Op × Tau) := (w τ).bind fun a => (lcD own g ft fe a.1 [] a.2).bind fun r => some (.tmp (.lst r.1), r.2)
section
variable {K : PySem.W.Frag} {mg : Mg} {G H G' H' : Hp} {σ σ2 : L2.St} {τ τ2 τ' : Tau} {own : List Nat}
theorem wipeT_length : ∀ (own : List Nat) (τ : Tau), (wipeT own τ).length = τ.length
  | [], _ => rfl
  | i :: r, τ => by unfold wipeT; rw [List.length_set, wipeT_length r]
theorem wipeT_get : ∀ {own : List Nat} {τ : Tau} {j : Nat} {c : Cell}, (wipeT own τ)[j]? = some (some c) → j ∉ own ∧ τ[j]? = some (some c)
  | [], _, _, _, h => ⟨by simp, h⟩
  | i :: r, τ, j, c, h => by
    unfold wipeT at h
    rcases get_set h with ⟨_, z⟩ | ⟨n, z⟩
    · cases z
    · obtain ⟨a, b⟩ := wipeT_get z
      exact ⟨by simp [n, a], b⟩
theorem wipeT_out : ∀ {own : List Nat} {τ : Tau} {j : Nat}, j ∉ own → (wipeT own τ)[j]? = τ[j]?
  | [], _, _, _ => rfl
  | i :: r, τ, j, h => by
    simp only [List.mem_cons, not_or] at h
    unfold wipeT
    rw [List.getElem?_set_ne (Ne.symm h.1), wipeT_out h.2]
theorem wipe_out' : ∀ {own : List Nat} {σ : L2.St} {j : Nat}, j ∉ own → (L2.wipe σ own)[j]? = σ[j]?
  | [], _, _, _ => rfl
  | i :: r, σ, j, h => by
    simp only [List.mem_cons, not_or] at h
    unfold L2.wipe
    rw [List.getElem?_set_ne (Ne.symm h.1), wipe_out' h.2]
theorem backT_length : ∀ (own : List Nat) (τ τ' : Tau), (backT own τ τ').length = τ'.length
  | [], _, _ => rfl
  | i :: r, τ, τ' => by unfold backT; rw [List.length_set, backT_length r]
theorem backT_get : ∀ {own : List Nat} {τ τ' : Tau} {j : Nat} {c : Cell}, (backT own τ τ')[j]? = some (some c) → (j ∈ own ∧ τ[j]? = some (some c)) ∨ (j ∉ own ∧ τ'[j]? = some (some c))
  | [], _, _, _, _, h => .inr ⟨by simp, h⟩
  | i :: r, τ, τ', j, c, h => by
    unfold backT at h
    rcases get_set h with ⟨e, z⟩ | ⟨n, z⟩
    · subst e
      refine .inl ⟨by simp, ?_⟩
      cases hj : τ[j]? with
      | none => rw [hj] at z; cases z
      | some x => rw [hj] at z; simp at z; rw [← z]
    · rcases backT_get z with ⟨a, b⟩ | ⟨a, b⟩
      · exact .inl ⟨by simp [a], b⟩
      · exact .inr ⟨by simp [n, a], b⟩
theorem At.wipeS (A : At K mg G H σ τ) (own : List Nat) : At K mg G H (L2.wipe σ own) (wipeT own τ) ∧ ∀ b, Ro (L2.wipe σ own) (wipeT own τ) b → Ro σ τ b := by
  have back : ∀ {j : Nat} {c : Cell}, (wipeT own τ)[j]? = some (some c) → (L2.wipe σ own)[j]? = σ[j]? ∧ τ[j]? = some (some c) := fun {j c} h => by
    obtain ⟨a, b⟩ := wipeT_get h
    exact ⟨wipe_out' a, b⟩
  refine ⟨⟨A.gh, fun i d h => ?_, fun i d h => ?_, fun i j p d e hi hj pi pj => ?_, by rw [wipeT_length, L2.wipe_length]; exact A.ll⟩, fun b ⟨i, d, h, p⟩ => ?_⟩
  · obtain ⟨a, b⟩ := back h
    rw [a]; exact A.sh i d b
  · obtain ⟨a, b⟩ := back h
    rw [a]; exact A.ow i d b
  · obtain ⟨a, b⟩ := back hi
    obtain ⟨a', b'⟩ := back hj
    exact A.ap i j p d e b b' (by rw [← a]; exact pi) (by rw [← a']; exact pj)
  · obtain ⟨a, b'⟩ := back h
    exact ⟨i, d, b', by rw [← a]; exact p⟩
/-- behind a block's step: what it did to the outer slots -/
theorem blk_go (A : At K mg G H σ τ) (hσ : ∀ j, j ∉ own → σ2[j]? = σ[j]?) (hτ : ∀ j, j ∉ own → τ2[j]? = τ[j]?) (hl : τ2.length = τ.length) (no : ∀ j d, j ∈ own → τ2[j]? ≠ some (some (Cell.ow d))) (g : Go K mg σ2 τ2 G H τ' G' H') :
    Go K mg σ τ G H (backT own τ τ') G' H' := by
  have rsub : ∀ b, Ro σ2 τ2 b → ∃ j d, j ∉ own ∧ τ[j]? = some (some (Cell.ow d)) ∧ σ[j]? = some (some (V.ref b)) := fun b ⟨j, d, h, p⟩ => by
    by_cases hj : j ∈ own
    · exact absurd h (no j d hj)
    · exact ⟨j, d, hj, by rw [← hτ j hj]; exact h, by rw [← hσ j hj]; exact p⟩
  have ro2 : ∀ b, Ro σ2 τ2 b → Ro σ τ b := fun b h => let ⟨j, d, _, a, c⟩ := rsub b h; ⟨j, d, a, c⟩
  have inown : ∀ j d p, j ∈ own → τ[j]? = some (some (Cell.ow d)) → σ[j]? = some (some (V.ref p)) → ¬ Ro σ2 τ2 p := fun j d p hj h hp z => by
    obtain ⟨k, e, nk, a, c⟩ := rsub p z
    have := A.ap j k p d e h a hp c
    subst this
    exact nk hj
  refine ⟨⟨g.at'.gh, fun j d h => ?_, fun j d h => ?_, fun i j p d e hi hj pi pj => ?_, by rw [backT_length, g.tl, hl]; exact A.ll⟩, g.gg, g.kp, fun b o n h => g.hh b o (fun z => n (ro2 b z)) h, fun b o n h e => g.gf b o (fun z => n (ro2 b z)) h e, fun j d h => ?_, by rw [backT_length, g.tl, hl]⟩
  · rcases backT_get h with ⟨a, b⟩ | ⟨a, b⟩
    · obtain ⟨v, c, r⟩ := A.sh j d b
      exact ⟨v, c, r.mono g.gg⟩
    · obtain ⟨v, c, r⟩ := g.at'.sh j d b
      exact ⟨v, by rw [← hσ j a]; exact c, r⟩
  · rcases backT_get h with ⟨a, b⟩ | ⟨a, b⟩
    · obtain ⟨p, o, c, x, y, r⟩ := A.ow j d b
      have n := inown j d p a b c
      exact ⟨p, o, c, g.gf _ _ n y x, g.hh _ _ n y, r.mono g.gg⟩
    · obtain ⟨p, o, c, r⟩ := g.at'.ow j d b
      exact ⟨p, o, by rw [← hσ j a]; exact c, r⟩
  · have key : ∀ {j : Nat} {d : D}, (backT own τ τ')[j]? = some (some (Cell.ow d)) → ∃ d', τ[j]? = some (some (Cell.ow d')) := fun {j d} h => by
      rcases backT_get h with ⟨a, b⟩ | ⟨a, b⟩
      · exact ⟨d, b⟩
      · obtain ⟨d', h'⟩ := g.ri j d b
        exact ⟨d', by rw [← hτ j a]; exact h'⟩
    obtain ⟨d1, h1⟩ := key hi
    obtain ⟨d2, h2⟩ := key hj
    exact A.ap i j p d1 d2 h1 h2 pi pj
  · rcases backT_get h with ⟨a, b⟩ | ⟨a, b⟩
    · exact ⟨d, b⟩
    · obtain ⟨d', h'⟩ := g.ri j d b
      exact ⟨d', by rw [← hτ j a]; exact h'⟩
theorem wipe_length' (own : List Nat) (σ : L2.St) : (L2.wipe σ own).length = σ.length := L2.wipe_length σ own
theorem re_lc {wi : TI} {w : FI} {tg : TG} {tgf : FG} {is : List Nat} {tt : TT} {ft : FT} {te : TE} {fe : FE} (hs : ∀ i ∈ is, i ∈ own) (hw : RI K mg wi w) (hg : RG K mg is tg tgf) (ht : RT K mg tt ft) (he : RE K mg te fe) : RE K mg (tLc wi tg tt te own) (fLc own w tgf ft fe) := fun σ τ G H op τ' Q A e q => by
  obtain ⟨⟨ds, τ1⟩, e1, e⟩ := bind_some' e
  obtain ⟨⟨res, τr⟩, e2, e⟩ := bind_some' e
  cases e
  refine hw σ τ G H ds τ1 _ A e1 fun J G1 H1 g1 it D hD => ?_
  have A1 := g1.at'
  have gD : G1 D = none := A1.gh.free hD
  have nD : ¬ Ro σ τ1 D := fun z => by
    obtain ⟨_, o, e⟩ := A1.root z
    rw [hD] at e; cases e
  refine ⟨fun i m H => ∃ G τ accV acc, Go K mg σ τ1 G1 H1 τ G H ∧ H D = some (.lst accV) ∧ G D = none ∧ RpL K mg G accV acc ∧ lcD own tgf ft fe (ds.drop i) acc τ = some (res, τr) ∧ m = ds.length - i ∧ i ≤ ds.length,
    ⟨ds.length, G1, τ1, [], [], Go.new A1 hD, upd_same, gD, .nil, e2, by simp, Nat.zero_le _⟩, ?_⟩
  rintro i m H ⟨G, τ, accV, acc, g, h1, h2, r, e, rfl, hle⟩
  have A := g.at'
  obtain ⟨st, gn⟩ := it G H g.gg A.gh
  by_cases hlt : i < ds.length
  · have hd : ds[i]? = some ds[i] := List.getElem?_eq_getElem hlt
    obtain ⟨go, yl⟩ := gn i _ hd
    rw [List.drop_eq_getElem_cons hlt] at e
    obtain ⟨τ2, e3, e⟩ := bind_some' e
    obtain ⟨⟨b, τ3⟩, e4, e⟩ := bind_some' e
    refine .inr ⟨go, fun H => ∃ G τ accV acc, Go K mg σ τ1 G1 H1 τ G H ∧ H D = some (.lst accV) ∧ G D = none ∧ RpL K mg G accV acc ∧ lcD own tgf ft fe (ds.drop (i + 1)) acc τ = some (res, τr),
      fun H' ⟨G', τ', a', c', x1, x2, x3, x4, x5⟩ => ⟨_, by omega, G', τ', a', c', x1, x2, x3, x4, x5, rfl, hlt⟩, fun x H' y => ?_⟩
    obtain ⟨G', n, rx⟩ := yl x H' y
    have g2 := g.trans (n.go A)
    have A2 := g2.at'
    have h1' := n.hh _ _ h1
    have h2' := n.gf _ _ h1 h2
    obtain ⟨Aw, row⟩ := A2.wipeS own
    refine hg G' H' (L2.wipe σ own) (wipeT own τ) x _ τ2 _ Aw Aw.ll rx e3 fun σ2 A3 l3 ro3 k3 t3 kt3 ls3 => ?_
    -- the block's slots against the outer ones
    have hσ : ∀ j, j ∉ own → σ2[j]? = σ[j]? := fun j hj => by rw [k3 j (fun z => hj (hs j z)), wipe_out' hj]
    have hτ : ∀ j, j ∉ own → τ2[j]? = τ[j]? := fun j hj => by rw [kt3 j (fun z => hj (hs j z)), wipeT_out hj]
    have hl : τ2.length = τ.length := by rw [t3, wipeT_length]
    have no : ∀ j d, j ∈ own → τ2[j]? ≠ some (some (Cell.ow d)) := fun j d hj z => by
      obtain ⟨p, o, a1, a2, a3, a4⟩ := A3.ow j d z
      obtain ⟨k, d', b1, b2⟩ := ro3 p ⟨j, d, z, a1⟩
      obtain ⟨nk, c1⟩ := wipeT_get b1
      rw [wipe_out' nk] at b2
      have := A3.ap j k p d d' z (by rw [hτ k nk]; exact c1) a1 (by rw [hσ k nk]; exact b2)
      subst this
      exact nk hj
    refine ⟨?_, ?_⟩
    · refine List.ext_getElem? fun j => ?_
      by_cases hj : j ∈ own
      · have key : ∀ (vs : List Nat) (ρ : L2.St), j ∈ vs → (L2.wipe ρ vs)[j]? = if j < ρ.length then some none else none := by
          intro vs
          induction vs with
          | nil => intro ρ h; cases h
          | cons v vs ih =>
            intro ρ h
            unfold L2.wipe
            by_cases hv : v = j
            · subst hv
              by_cases hlj : v < (L2.wipe ρ vs).length
              · rw [List.getElem?_set_self hlj, if_pos (by rw [L2.wipe_length] at hlj; exact hlj)]
              · rw [List.getElem?_eq_none (by rw [List.length_set]; omega), if_neg (by rw [L2.wipe_length] at hlj; exact hlj)]
            · rw [List.getElem?_set_ne hv]
              exact ih ρ (by rcases List.mem_cons.mp h with z | z; exact absurd z.symm hv; exact z)
        rw [key own σ2 hj, key own σ hj, ls3, wipe_length']
      · rw [wipe_out' hj, wipe_out' hj, hσ j hj]
    have nD2 : ∀ {τx : Tau} {Gx Hx : Hp}, Go K mg σ2 τ2 G' H' τx Gx Hx → Hx D = some (.lst accV) ∧ Gx D = none ∧ ¬ Ro σ2 τx D := fun {τx Gx Hx} gx => by
      have nr : ¬ Ro σ2 τ2 D := fun z => nD (g2.rr D (row D (ro3 D z)))
      exact ⟨gx.hh _ _ nr h1', gx.gf _ _ nr h1' h2', fun z => nr (gx.rr _ z)⟩
    refine ht σ2 τ2 G' H' b τ3 _ A3 e4 fun G4 H4 g4 => ?_
    dsimp only at e
    cases b with
    | false =>
      rw [if_neg Bool.false_ne_true] at e ⊢
      obtain ⟨y1, y2, _⟩ := nD2 g4
      exact ⟨G4, _, accV, acc, g2.trans (blk_go A2 hσ hτ hl no g4), y1, y2, (r.mono n.gg).mono g4.gg, e⟩
    | true =>
      rw [if_pos rfl] at e ⊢
      obtain ⟨⟨o, τ4⟩, e5, e⟩ := bind_some' e
      obtain ⟨⟨z, τ5⟩, e6, e⟩ := bind_some' e
      dsimp only at e
      by_cases hlen : acc.length < 16777216
      · rw [if_pos hlen] at e
        refine he σ2 τ3 G4 H4 o τ4 _ g4.at' e5 fun y G5 H5 g5 o5 => ?_
        have g45 := g4.trans g5
        obtain ⟨G6, g6, s6, r6⟩ := (o5.weak g4.kp).fz g45 e6
        obtain ⟨y1, y2, y3⟩ := nD2 g6
        refine ⟨accV, y1, by rw [sizeLine_eq, r.length]; exact hlen, ?_⟩
        have gg := g2.trans (blk_go A2 hσ hτ hl no g6)
        have AA := gg.at'
        have racc : RpL K mg G6 accV acc := (r.mono n.gg).mono g6.gg
        have sub : ∀ b, Ro σ (backT own τ τ5) b → b ≠ D := fun b hb z => nD (by rw [← z]; exact gg.rr b hb)
        refine ⟨G6, _, accV ++ [y], acc ++ [z], ⟨⟨fun b x hb => ?_, AA.sh, fun j d hj => ?_, AA.ap, AA.ll⟩, gg.gg, fun b hb => ?_, fun b x nb hb => ?_, fun b x nb hb he => gg.gf b x nb hb he, gg.ri, gg.tl⟩, upd_same, y2, racc.append (.cons r6 .nil), e⟩
        · rw [upd_ne (fun w => by rw [w, y2] at hb; cases hb)]; exact AA.gh _ _ hb
        · obtain ⟨p, o, c1, c2, c3, c4⟩ := AA.ow j d hj
          exact ⟨p, o, c1, c2, by rw [upd_ne (sub p ⟨j, d, hj, c1⟩)]; exact c3, c4⟩
        · by_cases w : b = D
          · rw [w]; exact hD
          · rw [upd_ne w] at hb; exact gg.kp b hb
        · rw [upd_ne (fun w => by rw [w, hD] at hb; cases hb)]; exact gg.hh b x nb hb
      · rw [if_neg hlen] at e; cases e
  · have z : i = ds.length := by omega
    subst z
    rw [List.drop_length] at e
    cases e
    exact .inl ⟨st _ (Nat.le_refl _), q _ G H (g1.trans g) (.tmp (g1.kp _ hD) h2 h1 (.lst r) fun w => nD (g.rr _ w))⟩
end
section
variable {X : Cx} {elt tgt iter : Expr} {ifs : List Expr} {scope : Scope} {own : List (PySem.Str × Nat)} {pos spos : Pos} {wi : TI} {w : FI} {tg : TG} {g : FG} {is : List Nat} {tt : TT} {ft : FT} {te : TE} {fe : FE}
structure JTs (X : Cx) (ifs : List Expr) (t : TT) (f : FT) : Prop where
  pts : PTs X ifs t
  rt : RT X.K X.mg t f
theorem jts_nil : JTs X [] tYes tAll := ⟨pts_nil, fun σ τ G H b τ' Q A e q => by cases e; exact q G H (Go.refl A)⟩
theorem jts_one {c : Expr} (h : JT X c tt ft) : JTs X [c] tt ft := ⟨pts_one h.pt, h.rt⟩
abbrev Blk (X : Cx) (scope : Scope) (J : Cx → Prop) : Prop := ∀ (s : Shared) (H : Hp) (C : Addr) (cl : List (PySem.Str × Addr)) (fp : List Addr), J (X.blk s H scope (compEnvC scope cl C X.env) fp)
theorem je_lc (hc : X.calm = true) (hN : X.N.Nodup) (hi : JI X tgt iter wi w) (ok : BlkOk X.N X.env.scope scope own) (hs : ∀ i ∈ is, i ∈ own.map (·.2)) (hg : ∀ (s : Shared) (H : Hp) (C : Addr) (cl : List (PySem.Str × Addr)) (fp : List Addr), JG (X.blk s H scope (compEnvC scope cl C X.env) fp) tgt is tg g) (ht : ∀ (s : Shared) (H : Hp) (C : Addr) (cl : List (PySem.Str × Addr)) (fp : List Addr), JTs (X.blk s H scope (compEnvC scope cl C X.env) fp) ifs tt ft) (he : ∀ (s : Shared) (H : Hp) (C : Addr) (cl : List (PySem.Str × Addr)) (fp : List Addr), JE (X.blk s H scope (compEnvC scope cl C X.env) fp) elt te fe)
    (hf : ∀ x, foldedSetIterable iter X.env x = pure x := by intro _; rfl) : JE X (.ListComp elt [⟨tgt, iter, ifs, 0⟩] scope pos) (tLc wi tg tt te (own.map (·.2))) (fLc (own.map (·.2)) w g ft fe) :=
  ⟨pe_lc hc hN hi.pi ok (fun s H C cl fp => (hg s H C cl fp).pg) (fun s H C cl fp => (ht s H C cl fp).pts) (fun s H C cl fp => (he s H C cl fp).pe) hf,
   re_lc hs hi.ri (hg X.s_0 X.H_0 0 [] []).rg (ht X.s_0 X.H_0 0 [] []).rt (he X.s_0 X.H_0 0 [] []).re⟩
/-- name = [..] on one line -/
theorem js_setLc {b : Bool} {i : Nat} {y : PySem.Str} {py : Pos} (hb : b = false ∨ i ≠ 0) (hc : X.calm = true) (hN : X.N.Nodup) (hyl : X.env.scope.names.lookup y = some .local) (hsw : swapsWith (.ListComp elt [⟨tgt, iter, ifs, 0⟩] scope pos) (some (.Name y py)) spos.line X.env = pure true)
    (hi : JI X tgt iter wi w) (ok : BlkOk X.N X.env.scope scope own) (hs : ∀ i ∈ is, i ∈ own.map (·.2)) (hg : ∀ (s : Shared) (H : Hp) (C : Addr) (cl : List (PySem.Str × Addr)) (fp : List Addr), JG (X.blk s H scope (compEnvC scope cl C X.env) fp) tgt is tg g) (ht : ∀ (s : Shared) (H : Hp) (C : Addr) (cl : List (PySem.Str × Addr)) (fp : List Addr), JTs (X.blk s H scope (compEnvC scope cl C X.env) fp) ifs tt ft) (he : ∀ (s : Shared) (H : Hp) (C : Addr) (cl : List (PySem.Str × Addr)) (fp : List Addr), JE (X.blk s H scope (compEnvC scope cl C X.env) fp) elt te fe)
    (hy : X.N[i]? = some y := by rfl) (hf : ∀ x, foldedSetIterable iter X.env x = pure x := by intro _; rfl) : JS X b (.Assign [.Name y py] (.ListComp elt [⟨tgt, iter, ifs, 0⟩] scope pos) spos) (tAsg (tLc wi tg tt te (own.map (·.2))) (gName i)) (sSet i (fLc (own.map (·.2)) w g ft fe)) :=
  ⟨ps_setLc hc hN hy hyl hsw hi.pi ok (fun s H C cl fp => (hg s H C cl fp).pg) (fun s H C cl fp => (ht s H C cl fp).pts) (fun s H C cl fp => (he s H C cl fp).pe) hf,
   rs_set hb (re_lc hs hi.ri (hg X.s_0 X.H_0 0 [] []).rg (ht X.s_0 X.H_0 0 [] []).rt (he X.s_0 X.H_0 0 [] []).re)⟩
end
end J
namespace J
open PySem PySem.Spec PyProof.Rows L2

/-! ### items, slices -/
def gIx : G2
  | .lst ds, .int i => (atI ds i).map Op.val
  | .tup ds, .int i => (atI ds i).map Op.val
  | .str z, .int i => if z.length ≤ 16777216 then (atI z.cps.toList i).map fun c => .val (.str ⟨#[c]⟩) else none
  | _, _ => none
def cutD {α : Type} (xs : List α) (lo hi : Option Int) : List α := (xs.drop (HT.sIx xs.length 0 lo)).take (HT.sIx xs.length xs.length hi - HT.sIx xs.length 0 lo)
section
variable {K : PySem.W.Frag} {mg : Mg}
theorem at_rp {G : Hp} {vs : List V} {ds : List D} {i : Int} {d : D} (r : RpL K mg G vs ds) (h : atI ds i = some d) : ∃ v, atI vs i = some v ∧ Rp K mg G v d := by
  unfold atI at h ⊢
  rw [r.length]
  obtain ⟨j, h1, h2⟩ := bind_some' h
  rw [h1]
  exact r.get h2
theorem rb_ix : RB K mg (rIx K) gIx := fun G H x y d e op Q s p1 p2 eq q => by
  cases d <;> cases e <;> first | (cases eq; done) | skip
  · rename_i z i
    obtain ⟨h1, h2⟩ : z.length ≤ 16777216 ∧ (atI z.cps.toList i).map (fun c => Op.val (.str ⟨#[c]⟩)) = some op := by
      have eq' : (if z.length ≤ 16777216 then (atI z.cps.toList i).map (fun c => Op.val (.str ⟨#[c]⟩)) else none) = some op := eq
      by_cases h : z.length ≤ 16777216
      · rw [if_pos h] at eq'; exact ⟨h, eq'⟩
      · rw [if_neg h] at eq'; cases eq'
    obtain ⟨c, h3, rfl⟩ := Option.map_eq_some_iff.mp h2
    cases p1.str
    cases p2.int
    exact .inr (.inr ⟨z, i, c, rfl, rfl, by rw [sizeLine_eq]; exact h1, h3, q _ G H (Nw.refl s) (.val (.str _))⟩)
  · rename_i ds i
    obtain ⟨z, h3, rfl⟩ := Option.map_eq_some_iff.mp (show (atI ds i).map Op.val = some op from eq)
    obtain ⟨a, vs, rfl, hq, r⟩ := p1.lst s
    cases p2.int
    obtain ⟨v, h4, r4⟩ := at_rp r h3
    exact .inl ⟨a, vs, i, v, rfl, rfl, hq, h4, q _ G H (Nw.refl s) (.val r4)⟩
  · rename_i ds i
    obtain ⟨z, h3, rfl⟩ := Option.map_eq_some_iff.mp (show (atI ds i).map Op.val = some op from eq)
    obtain ⟨a, vs, rfl, hq, r⟩ := p1.tup s
    cases p2.int
    obtain ⟨v, h4, r4⟩ := at_rp r h3
    exact .inr (.inl ⟨a, vs, i, v, rfl, rfl, hq, h4, q _ G H (Nw.refl s) (.val r4)⟩)
end
abbrev FO := Tau → Option (Option Int × Tau)
def RO (K : PySem.W.Frag) (mg : Mg) (t : TO) (f : FO) : Prop := ∀ (σ : L2.St) (τ : Tau) (G H : Hp) (o : Option Int) (τ' : Tau) (Q : Option Int → Hp → Prop), At K mg G H σ τ → f τ = some (o, τ') → (∀ G' H', Go K mg σ τ G H τ' G' H' → Q o H') → t σ H Q
structure JO (X : Cx) (e : Option Expr) (t : TO) (f : FO) : Prop where
  po : PO X e t
  ro : RO X.K X.mg t f
def oNo (τ : Tau) : Option (Option Int × Tau) := some (none, τ)
def oSome (fe : FE) (τ : Tau) : Option (Option Int × Tau) := (fe τ).bind fun o => (deref o.2 o.1).bind fun d => match d with | .int i => some (some i, o.2) | _ => none
def gSl (d : D) (lo hi : Option Int) : Option Op := match d with
  | .lst ds => some (.tmp (.lst (cutD ds lo hi)))
  | .tup ds => if HT.sIx ds.length 0 lo = 0 ∧ HT.sIx ds.length ds.length hi = ds.length then none else some (.val (.tup (cutD ds lo hi)))
  | _ => none
def fSl (fe : FE) (fl fh : FO) (τ : Tau) : Option (Op × Tau) := (fe τ).bind fun o => (fl o.2).bind fun l => (fh l.2).bind fun h => (deref h.2 o.1).bind fun d => (gSl d l.1 h.1).bind fun z => some (z, h.2)
section
variable {K : PySem.W.Frag} {mg : Mg} {te : TE} {fe : FE} {tl th : TO} {fl fh : FO}
theorem ro_no : RO K mg tNoPart oNo := fun σ τ G H o τ' Q A e q => by cases e; exact q G H (Go.refl A)
theorem ro_some (he : RE K mg te fe) : RO K mg (tPart te) (oSome fe) := fun σ τ G H o τ' Q A e q => by
  obtain ⟨⟨oa, τ1⟩, e1, e⟩ := bind_some' e
  obtain ⟨d, e2, e⟩ := bind_some' e
  dsimp only at e2 e
  cases d <;> first | (cases e; done) | skip
  cases e
  refine he σ τ G H oa _ _ A e1 fun x G1 H1 g1 o1 => ?_
  cases (o1.pk g1.at' e2).int
  exact ⟨_, rfl, q G1 H1 g1⟩
theorem cut_rp {G : Hp} {vs : List V} {ds : List D} (r : RpL K mg G vs ds) (lo hi : Option Int) : RpL K mg G (cutV vs lo hi) (cutD ds lo hi) := by
  unfold cutV cutD
  rw [r.length]
  exact (r.drop _).take _
abbrev rSlX (K : PySem.W.Frag) : V → Option Int → Option Int → Hp → VK → Prop := fun x lo hi H Q => rSlL K x lo hi H Q ∨ rSlT K x lo hi H Q
theorem re_sl (he : RE K mg te fe) (hl : RO K mg tl fl) (hh : RO K mg th fh) : RE K mg (tSl (rSlX K) te tl th) (fSl fe fl fh) := fun σ τ G H op τ' Q A e q => by
  obtain ⟨⟨o, τ1⟩, e1, e⟩ := bind_some' e
  obtain ⟨⟨lo, τ2⟩, e2, e⟩ := bind_some' e
  obtain ⟨⟨hi, τ3⟩, e3, e⟩ := bind_some' e
  obtain ⟨d, e4, e⟩ := bind_some' e
  obtain ⟨z, e5, e⟩ := bind_some' e
  cases e
  dsimp only at e4 e5
  refine he σ τ G H o τ1 _ A e1 fun x G1 H1 g1 o1 => hl σ τ1 G1 H1 lo τ2 _ g1.at' e2 fun G2 H2 g2 => hh σ τ2 G2 H2 hi _ _ g2.at' e3 fun G3 H3 g3 => ?_
  have g := (g1.trans g2).trans g3
  have A3 := g3.at'
  have p := ((o1.step g2).step g3).pk A3 e4
  cases d <;> first | (cases e5; done) | skip
  · cases e5
    obtain ⟨a, vs, rfl, hq, r⟩ := p.lst A3.gh
    exact .inl ⟨a, vs, rfl, hq, fun p hp => q _ _ _ (g.trans (Go.new A3 hp)) (((On.new A3.gh hp (.lst (cut_rp r lo hi))).or A3).weak g.kp)⟩
  · rename_i ds
    unfold gSl at e5
    dsimp only at e5
    split at e5
    · cases e5
    · rename_i hn
      cases e5
      obtain ⟨a, vs, rfl, hq, r⟩ := p.tup A3.gh
      refine .inr ⟨a, vs, rfl, hq, by rw [r.length]; exact hn, fun p hp => ?_⟩
      have n := Nw.newF (K := K) (mg := mg) (o := .tup (cutV vs lo hi)) A3.gh hp
      exact q _ _ _ (g.trans (n.go A3)) (.val (.tup (SqT.of upd_same) ((cut_rp r lo hi).mono n.gg)))
end
section
variable {X : Cx} {a b e : Expr} {ta tb te : TE} {fa fb fe : FE} {pos p2 : Pos} {lo hi : Option Expr} {tl th : TO} {fl fh : FO}
theorem je_ix {K : PySem.W.Frag} (ha : JE X a ta fa) (hb : JE X b tb fb) (hs : PlainIx b := by exact fun _ _ => rfl) (hK : X.K = K := by rfl) : JE X (.Subscript a b pos) (tOp (rIx K) ta tb) (fBin gIx fa fb) := by
  subst hK
  exact ⟨pe_ix ix_seq ha.pe hb.pe hs, re_bin rb_ix ha.re hb.re⟩
theorem jo_no : JO X none tNoPart oNo := ⟨po_none, ro_no⟩
theorem jo_some (h : JE X e te fe) : JO X (some e) (tPart te) (oSome fe) := ⟨po_some h.pe, ro_some h.re⟩
theorem je_sl {K : PySem.W.Frag} (he : JE X e te fe) (hl : JO X lo tl fl) (hu : JO X hi th fh) (hK : X.K = K := by rfl) : JE X (.Subscript e (.Slice lo hi none p2) pos) (tSl (rSlX K) te tl th) (fSl fe fl fh) := by
  subst hK
  exact ⟨pe_slice (sl_list.or sl_tup) he.pe hl.po hu.po, re_sl he.re hl.ro hu.ro⟩
end

/-! ### built-ins by their values -/
def gAbs : List D → Option Op
  | [.int i] => some (.val (.int (if i < 0 then -i else i)))
  | _ => none
def gInt : List D → Option Op
  | [.int i] => some (.val (.int i))
  | [.bl k] => some (.val (.int (if k = true then 1 else 0)))
  | _ => none
def gMax2 : List D → Option Op
  | [.int i, .int j] => some (.val (.int (if j > i then j else i)))
  | _ => none
def gMin2 : List D → Option Op
  | [.int i, .int j] => some (.val (.int (if j < i then j else i)))
  | _ => none
def gLen : List D → Option Op
  | [.lst ds] => some (.val (.int (ds.length : Nat)))
  | [.tup ds] => some (.val (.int (ds.length : Nat)))
  | [.str z] => if z.length ≤ 16777216 then some (.val (.int (z.length : Nat))) else none
  | _ => none
def gList : List D → Option Op
  | [.lst ds] => some (.tmp (.lst ds))
  | [.tup ds] => some (.tmp (.lst ds))
  | _ => none
def intsOf : List D → Option (List Int)
  | [] => some []
  | .int i :: r => (intsOf r).map fun s => i :: s
  | _ => none
def gSum : List D → Option Op
  | [.lst ds] => (intsOf ds).map fun ns => .val (.int ns.sum)
  | _ => none
section
variable {K : PySem.W.Frag} {mg : Mg}
theorem intsOf_rp {G : Hp} : ∀ {vs : List V} {ds : List D} {ns : List Int}, RpL K mg G vs ds → intsOf ds = some ns → vs = ns.map V.int
  | _, _, _, .nil, e => by cases e; rfl
  | _, _, _, .cons h r, e => by
    cases h <;> first | (cases e; done) | skip
    rename_i i
    obtain ⟨s, e1, rfl⟩ := Option.map_eq_some_iff.mp (show (intsOf _).map (fun s => i :: s) = some _ from e)
    rw [intsOf_rp r e1]
    rfl
abbrev qAbs : List V → Hp → VK → Prop := fun xs H Q => ∃ i, xs = [.int i] ∧ Q (.int (if i < 0 then -i else i)) H
abbrev qInt : List V → Hp → VK → Prop := fun xs H Q => (∃ i, xs = [.int i] ∧ Q (.int i) H) ∨ ∃ k, xs = [.bl k] ∧ Q (.int (if k then 1 else 0)) H
abbrev qMax : List V → Hp → VK → Prop := fun xs H Q => ∃ i j, xs = [.int i, .int j] ∧ Q (.int (if j > i then j else i)) H
abbrev qMin : List V → Hp → VK → Prop := fun xs H Q => ∃ i j, xs = [.int i, .int j] ∧ Q (.int (if j < i then j else i)) H
abbrev qLen (K : PySem.W.Frag) : List V → Hp → VK → Prop := fun xs H Q => ∃ x n, xs = [x] ∧ LenV K x H n ∧ Q (.int n) H
abbrev qList (K : PySem.W.Frag) : List V → Hp → VK → Prop := fun xs H Q => ∃ p ys, xs = [.ref p] ∧ (SqL K H p ys ∨ SqT K H p ys) ∧ ∀ l, H l = none → Q (.ref l) (upd H l (.lst ys))
theorem rc_abs : RC K mg qAbs gAbs := fun G H xs ds op Q s p eq q => by
  unfold gAbs at eq
  split at eq
  · cases eq
    cases p with
    | cons p p' => cases p'; cases p.int; exact ⟨_, rfl, q _ G H (Nw.refl s) (.val (.int _))⟩
  · cases eq
theorem rc_int : RC K mg qInt gInt := fun G H xs ds op Q s p eq q => by
  unfold gInt at eq
  split at eq
  · cases eq
    cases p with
    | cons p p' => cases p'; cases p.int; exact .inl ⟨_, rfl, q _ G H (Nw.refl s) (.val (.int _))⟩
  · cases eq
    cases p with
    | cons p p' => cases p'; cases p.bl; exact .inr ⟨_, rfl, q _ G H (Nw.refl s) (.val (.int _))⟩
  · cases eq
theorem rc_max : RC K mg qMax gMax2 := fun G H xs ds op Q s p eq q => by
  unfold gMax2 at eq
  split at eq
  · cases eq
    cases p with
    | cons p p' => cases p' with
      | cons p2 p3 => cases p3; cases p.int; cases p2.int; exact ⟨_, _, rfl, q _ G H (Nw.refl s) (.val (.int _))⟩
  · cases eq
theorem rc_min : RC K mg qMin gMin2 := fun G H xs ds op Q s p eq q => by
  unfold gMin2 at eq
  split at eq
  · cases eq
    cases p with
    | cons p p' => cases p' with
      | cons p2 p3 => cases p3; cases p.int; cases p2.int; exact ⟨_, _, rfl, q _ G H (Nw.refl s) (.val (.int _))⟩
  · cases eq
theorem rc_len : RC K mg (qLen K) gLen := fun G H xs ds op Q s p eq q => by
  unfold gLen at eq
  split at eq
  · cases eq
    cases p with
    | cons p p' =>
      cases p'
      obtain ⟨a, vs, rfl, hq, r⟩ := p.lst s
      exact ⟨_, vs.length, rfl, .inl ⟨vs, hq, rfl⟩, by rw [r.length]; exact q _ G H (Nw.refl s) (.val (.int _))⟩
  · cases eq
    cases p with
    | cons p p' =>
      cases p'
      obtain ⟨a, vs, rfl, hq, r⟩ := p.tup s
      exact ⟨_, vs.length, rfl, .inr ⟨vs, hq, rfl⟩, by rw [r.length]; exact q _ G H (Nw.refl s) (.val (.int _))⟩
  · rename_i z
    obtain ⟨h, rfl⟩ := if_get eq
    cases p with
    | cons p p' =>
      cases p'
      cases p.str
      exact ⟨_, z.length, rfl, ⟨by rw [sizeLine_eq]; exact h, rfl⟩, q _ G H (Nw.refl s) (.val (.int _))⟩
  · cases eq
theorem rc_list : RC K mg (qList K) gList := fun G H xs ds op Q s p eq q => by
  unfold gList at eq
  split at eq
  · cases eq
    cases p with
    | cons p p' =>
      cases p'
      obtain ⟨a, vs, rfl, hq, r⟩ := p.lst s
      exact ⟨a, vs, rfl, .inl hq, fun l hl => q _ _ _ (Nw.new s hl) (On.new s hl (.lst r))⟩
  · cases eq
    cases p with
    | cons p p' =>
      cases p'
      obtain ⟨a, vs, rfl, hq, r⟩ := p.tup s
      exact ⟨a, vs, rfl, .inr hq, fun l hl => q _ _ _ (Nw.new s hl) (On.new s hl (.lst r))⟩
  · cases eq
theorem rc_sum : RC K mg (rSum K) gSum := fun G H xs ds op Q s p eq q => by
  unfold gSum at eq
  split at eq
  · obtain ⟨ns, e1, rfl⟩ := Option.map_eq_some_iff.mp eq
    cases p with
    | cons p p' =>
      cases p'
      obtain ⟨a, vs, rfl, hq, r⟩ := p.lst s
      rw [intsOf_rp r e1] at hq
      exact ⟨a, ns, rfl, hq, q _ G H (Nw.refl s) (.val (.int _))⟩
  · cases eq
end

/-! ### isinstance against a built-in type -/
def tyn : D → Option String
  | .non => some "NoneType" | .bl _ => some "bool" | .int _ => some "int" | .str _ => some "str" | .lst _ => some "list" | .tup _ => some "tuple" | .dic _ => some "dict" | .ins _ _ => none
def subTy (a b : String) : Bool := decide (a = b) || (decide (a = "bool") && decide (b = "int"))
theorem kit_tab : ∀ tn ∈ ["int", "bool", "list", "tuple", "str", "dict"], ∀ a ∈ ["NoneType", "bool", "int", "str", "list", "tuple", "dict"], kitB a tn = some (subTy a tn) := by decide +kernel
def gIsi (tn : String) (d : D) : Option Op := (tyn d).map fun a => .val (.bl (subTy a tn))
def fIsi (tn : String) (fe : FE) : FE := fUn (gIsi tn) fe
section
variable {K : PySem.W.Frag} {mg : Mg} {te : TE} {fe : FE}
theorem tyx_of {G H : Hp} {x : V} {d : D} {a : String} (s : Same G H) (p : Pk K mg G H x d) (h : tyn d = some a) : TyX K H x (.type a) ∧ a ∈ ["NoneType", "bool", "int", "str", "list", "tuple", "dict"] := by
  cases d with
  | non => cases h; cases p.non; exact ⟨.base .non, by decide⟩
  | bl b => cases h; cases p.bl; exact ⟨.base (.bl _), by decide⟩
  | int b => cases h; cases p.int; exact ⟨.base (.int _), by decide⟩
  | str b => cases h; cases p.str; exact ⟨.base (.str _), by decide⟩
  | lst b =>
    cases h
    obtain ⟨a, vs, rfl, hq, r⟩ := p.lst s
    refine ⟨?_, by decide⟩
    rcases hq with (hq | ⟨o, hq⟩) | ⟨o, its, n, hk, hc, _⟩
    · exact .base (.lst hq)
    · exact .base (.frz hq)
    · exact .kList hk hc
  | tup b =>
    cases h
    obtain ⟨a, vs, rfl, hq, r⟩ := p.tup s
    refine ⟨?_, by decide⟩
    rcases hq with (hq | ⟨o, hq⟩) | ⟨o, its, n, hk, hc, _⟩
    · exact .base (.tup hq)
    · exact .fTuple hq
    · exact .kTuple hk hc
  | dic b =>
    cases h
    obtain ⟨a, vs, rfl, hq, r⟩ := p.dic s
    exact ⟨.base (.dK hq), by decide⟩
  | ins c fs => cases h
theorem re_isi {tn : String} (ht : tn ∈ ["int", "bool", "list", "tuple", "str", "dict"]) (he : RE K mg te fe) : RE K mg (tCB (rIsi K) (tCons te (tCons (tC (.ty tn)) tNil))) (fIsi tn fe) := fun σ τ G H op τ' Q A e q => by
  obtain ⟨⟨o, τ1⟩, e1, e⟩ := bind_some' e
  obtain ⟨d, e2, e⟩ := bind_some' e
  obtain ⟨z, e3, e⟩ := bind_some' e
  cases e
  obtain ⟨a, e4, rfl⟩ := Option.map_eq_some_iff.mp e3
  refine he σ τ G H o _ _ A e1 fun x G1 H1 g1 o1 => ?_
  obtain ⟨t1, t2⟩ := tyx_of g1.at'.gh (o1.pk g1.at' e2) e4
  exact ⟨x, .ty tn, .type a, .type tn, _, rfl, .ty tn, t1, kit_ty (kit_tab tn ht a t2), q _ G1 H1 g1 (.val (.bl _))⟩
end
section
variable {X : Cx} {e a b : Expr} {te ta tb : TE} {fe fa fb : FE} {t : TA} {fp : FP} {p p' pos : Pos} {es : List Expr}
theorem je_isi {K : PySem.W.Frag} {tn : String} (hg : Gl X "isinstance") (hm : X.mg "isinstance" = none) (hg2 : Gl X (os tn)) (hm2 : X.mg (os tn) = none) (he : JE X e te fe) (ht : tn ∈ ["int", "bool", "list", "tuple", "str", "dict"]) (hv2 : bootBuiltins (os tn) = some (.type tn))
    (hd : (os tn == ("__debug__" : PySem.Str)) = false := by decide) (hn2 : os tn ≠ "__name__" := by decide) (hs : starEach (e :: .Name (os tn) p' :: []) X.env = (false, eval e X.env) :: starEach (.Name (os tn) p' :: []) X.env := by rfl) (hs2 : starEach (.Name (os tn) p' :: []) X.env = (false, eval (.Name (os tn) p') X.env) :: starEach [] X.env := by rfl)
    (hpl : (backTo pos (starEach (.Name (os tn) p' :: []) X.env)).any (·.1) = false := by rfl) (hK : X.K = K := by rfl) :
    JE X (.Call (.Name "isinstance" p) [e, .Name (os tn) p'] [] pos) (tCB (rIsi K) (tCons te (tCons (tC (.ty tn)) tNil))) (fIsi tn fe) := by
  subst hK
  exact ⟨pe_callB call_isi hg hm (by decide +kernel) (pa_cons he.pe (pa_cons (pe_bltn hg2 hm2 hv2 rfl hn2 hd) pa_nil hs2) hs) (by decide) (by decide) hs hpl, re_isi ht he.re⟩
theorem je_abs (hg : Gl X "abs") (hm : X.mg "abs" = none) (ha : JP X [e] t fp) (he : starEach (e :: []) X.env = (false, eval e X.env) :: starEach [] X.env := by rfl) (hpl : (backTo pos (starEach [] X.env)).any (·.1) = false := by rfl) : JE X (.Call (.Name "abs" p) [e] [] pos) (tCB qAbs t) (fCB gAbs fp) := je_cb call_abs rc_abs hg hm (by decide +kernel) ha (by decide) (by decide) he hpl
theorem je_len {K : PySem.W.Frag} (hg : Gl X "len") (hm : X.mg "len" = none) (ha : JP X [e] t fp) (he : starEach (e :: []) X.env = (false, eval e X.env) :: starEach [] X.env := by rfl) (hpl : (backTo pos (starEach [] X.env)).any (·.1) = false := by rfl) (hK : X.K = K := by rfl) : JE X (.Call (.Name "len" p) [e] [] pos) (tCB (qLen K) t) (fCB gLen fp) := by
  subst hK
  exact je_cb call_len rc_len hg hm (by decide +kernel) ha (by decide) (by decide) he hpl
theorem je_sum {K : PySem.W.Frag} (hc : X.calm = true) (hg : Gl X "sum") (hm : X.mg "sum" = none) (ha : JP X [e] t fp) (he : starEach (e :: []) X.env = (false, eval e X.env) :: starEach [] X.env := by rfl) (hpl : (backTo pos (starEach [] X.env)).any (·.1) = false := by rfl) (hK : X.K = K := by rfl) : JE X (.Call (.Name "sum" p) [e] [] pos) (tCB (rSum K) t) (fCB gSum fp) := by
  subst hK
  exact je_cb (cr_sum hc) rc_sum hg hm (by decide +kernel) ha (by decide) (by decide) he hpl
theorem je_max2 (hc : X.calm = true) (hg : Gl X "max") (hm : X.mg "max" = none) (ha : JP X [a, b] t fp) (he : starEach (a :: [b]) X.env = (false, eval a X.env) :: starEach [b] X.env := by rfl) (hpl : (backTo pos (starEach [b] X.env)).any (·.1) = false := by rfl) : JE X (.Call (.Name "max" p) [a, b] [] pos) (tCB qMax t) (fCB gMax2 fp) := je_cb (call_max2 hc) rc_max hg hm (by decide +kernel) ha (by decide) (by decide) he hpl
theorem je_min2 (hc : X.calm = true) (hg : Gl X "min") (hm : X.mg "min" = none) (ha : JP X [a, b] t fp) (he : starEach (a :: [b]) X.env = (false, eval a X.env) :: starEach [b] X.env := by rfl) (hpl : (backTo pos (starEach [b] X.env)).any (·.1) = false := by rfl) : JE X (.Call (.Name "min" p) [a, b] [] pos) (tCB qMin t) (fCB gMin2 fp) := je_cb (call_min2 hc) rc_min hg hm (by decide +kernel) ha (by decide) (by decide) he hpl
theorem je_int1 (hg : Gl X "int") (hm : X.mg "int" = none) (ha : JP X [e] t fp) (he : starEach (e :: []) X.env = (false, eval e X.env) :: starEach [] X.env := by rfl) (hpl : (backTo pos (starEach [] X.env)).any (·.1) = false := by rfl) : JE X (.Call (.Name "int" p) [e] [] pos) (tCB qInt t) (fCB gInt fp) := je_ct call_int1 rc_int hg hm (by decide +kernel) ha (by decide) (by decide) he hpl
theorem je_list1 {K : PySem.W.Frag} (hg : Gl X "list") (hm : X.mg "list" = none) (ha : JP X [e] t fp) (he : starEach (e :: []) X.env = (false, eval e X.env) :: starEach [] X.env := by rfl) (hpl : (backTo pos (starEach [] X.env)).any (·.1) = false := by rfl) (hK : X.K = K := by rfl) : JE X (.Call (.Name "list" p) [e] [] pos) (tCB (qList K) t) (fCB gList fp) := by
  subst hK
  exact je_ct call_list_of rc_list hg hm (by decide +kernel) ha (by decide) (by decide) he hpl
end

/-! ### lists changed in place -/
/-- x.append(e), x an owned root -/
def owL (τ : Tau) : Op → Option (Nat × List D)
  | .slot i => match τ[i]? with
    | some (some (.ow (.lst ds))) => some (i, ds)
    | _ => none
  | _ => none
def fApp (fo fe : FE) (τ : Tau) : Option (Op × Tau) := (fo τ).bind fun o => (owL o.2 o.1).bind fun _ => (fe o.2).bind fun a => (fz a.2 a.1).bind fun d => (owL d.2 o.1).bind fun l =>
  if l.2.length < 16777216 then some (.val .non, d.2.set l.1 (some (.ow (.lst (l.2 ++ [d.1]))))) else none
/-- x[i] = e, x an owned root -/
def setAt (o : Op) (i : Int) (d : D) (τ : Tau) : Option Tau := match o with
  | .slot k => match τ[k]? with
    | some (some (.ow (.lst ds))) => (ixN ds.length i).bind fun j => some (τ.set k (some (.ow (.lst (ds.set j d)))))
    | _ => none
  | _ => none
def sSetIx (fo fi fe : FE) (τ : Tau) : Option Flow := (fe τ).bind fun a => (fz a.2 a.1).bind fun d => (fo d.2).bind fun o => (fi o.2).bind fun k => (deref k.2 k.1).bind fun n => match n with
  | .int i => (setAt o.1 i d.1 k.2).bind fun τ' => some (.nx τ')
  | _ => none
section
variable {K : PySem.W.Frag} {mg : Mg} {te to ti : TE} {fe fo fi : FE} {b : Bool}
theorem ty_list {G H : Hp} {x : V} {ds : List D} (s : Same G H) (p : Pk K mg G H x (.lst ds)) : tyV K "list" x H := by
  obtain ⟨a, vs, rfl, hq, r⟩ := p.lst s
  exact .inl ⟨rfl, vs, hq⟩
theorem owL_ok {H0 G H : Hp} {σ : L2.St} {τ : Tau} {x : V} {o : Op} {r : Nat × List D} (A : At K mg G H σ τ) (h : Or K mg H0 G H σ τ x o) (e : owL τ o = some r) : ∃ p vs, x = .ref p ∧ o = .slot r.1 ∧ σ[r.1]? = some (some (V.ref p)) ∧ τ[r.1]? = some (some (Cell.ow (.lst r.2))) ∧ H p = some (.lst vs) ∧ RpL K mg G vs r.2 := by
  cases h with
  | val _ => cases e
  | tmp _ _ _ _ _ => cases e
  | @slot _ i hs =>
    unfold owL at e
    dsimp only at e
    split at e
    · rename_i ds hi
      cases e
      obtain ⟨p, ob, a1, a2, a3, a4⟩ := A.ow i _ hi
      rw [hs] at a1
      cases a1
      cases a4 with
      | lst r => exact ⟨p, _, rfl, rfl, hs, hi, a3, r⟩
    · cases e
theorem re_app (ho : RE K mg to fo) (he : RE K mg te fe) : RE K mg (tBM K "list" rAppend to (tCons te tNil)) (fApp fo fe) := fun σ τ G H op τ' Q A e q => by
  obtain ⟨⟨o, τ1⟩, e1, e⟩ := bind_some' e
  obtain ⟨l0, e0, e⟩ := bind_some' e
  obtain ⟨⟨o2, τ2⟩, e2, e⟩ := bind_some' e
  obtain ⟨⟨d, τ3⟩, e3, e⟩ := bind_some' e
  obtain ⟨l, e4, e⟩ := bind_some' e
  dsimp only at e e0 e2 e3 e4
  obtain ⟨hl, z⟩ := if_get e
  cases z
  refine ho σ τ G H o τ1 _ A e1 fun x G1 H1 g1 o1 => ?_
  obtain ⟨p, vs0, rfl, _, _, _, hp, _⟩ := owL_ok g1.at' o1 e0
  refine ⟨.inl ⟨rfl, vs0, SqL.of hp⟩, ?_⟩
  refine he σ τ1 G1 H1 o2 τ2 _ g1.at' e2 fun y G2 H2 g2 o2' => ?_
  obtain ⟨G3, g3, s3, r3⟩ := o2'.fz g2 e3
  obtain ⟨p', vs, ex, _, hs, hi, hp', r⟩ := owL_ok g3.at' (o1.step g3) e4
  cases ex
  refine ⟨p, vs, y, rfl, rfl, hp', by rw [sizeLine_eq, r.length]; exact hl, ?_⟩
  exact q _ G3 _ ((g1.trans g3).trans (Go.put g3.at' hi hs (.lst (r.append (.cons r3 .nil))))) (.val .non)
theorem rs_setIx (ho : RE K mg to fo) (hi : RE K mg ti fi) (he : RE K mg te fe) : RS K mg b (tAsg te (L2.gSub to ti rSetL)) (sSetIx fo fi fe) := fun io R0 G0 H0 G H σ τ D fl hb F e k => by
  obtain ⟨⟨oa, τ1⟩, e1, e⟩ := bind_some' e
  obtain ⟨⟨d, τ2⟩, e2, e⟩ := bind_some' e
  obtain ⟨⟨oo, τ3⟩, e3, e⟩ := bind_some' e
  obtain ⟨⟨oi, τ4⟩, e4, e⟩ := bind_some' e
  obtain ⟨n, e5, e⟩ := bind_some' e
  dsimp only at e e2 e3 e4 e5
  cases n <;> first | (cases e; done) | skip
  rename_i i
  obtain ⟨τ5, e6, e⟩ := bind_some' e
  cases e
  refine he σ τ G H oa τ1 _ F.at' e1 fun y G1 H1 g1 o1 => ?_
  obtain ⟨G2, g2, s2, r2⟩ := o1.fz g1 e2
  refine ho σ τ2 G2 H1 oo τ3 _ g2.at' e3 fun x G3 H3 g3 o3 => ?_
  refine hi σ τ3 G3 H3 oi τ4 _ g3.at' e4 fun z G4 H4 g4 o4 => ?_
  cases (o4.pk g4.at' e5).int
  cases o3 with
  | val _ => cases e6
  | tmp _ _ _ _ _ => cases e6
  | @slot _ j hs =>
    unfold setAt at e6
    dsimp only at e6
    split at e6
    · rename_i ds hj
      obtain ⟨kk, e7, e6⟩ := bind_some' e6
      cases e6
      obtain ⟨p, o, a1, a2, a3, a4⟩ := g4.at'.ow j _ hj
      rw [hs] at a1
      cases a1
      cases a4 with
      | @lst vs _ r =>
        refine ⟨p, vs, i, kk, rfl, rfl, a3, by rw [r.length]; exact e7, ?_⟩
        have g := (g2.trans g3).trans g4
        exact k σ G4 _ (F.go (g.trans (Go.put g4.at' hj hs (.lst (r.set ((r2.mono g3.gg).mono g4.gg) kk)))))
    · cases e6
end
section
variable {X : Cx} {b : Bool} {o i e : Expr} {te to ti : TE} {fe fo fi : FE} {apos pos pos' : Pos}
theorem je_app {K : PySem.W.Frag} (ho : JE X o to fo) (he : JE X e te fe) (hbase : attributeBase o (os "append") X.env (eval o X.env) = eval o X.env := by rfl)
    (hfew : ((backTo pos (starEach (e :: []) X.env)).all (fun x => !x.1) && (backToKw pos (keywordEach [] X.env)).all (fun x => x.1.isSome)
      && decide ((e :: []).length + ([] : List Keyword).length + (if ([] : List Keyword).isEmpty then 0 else 1) < 30)) = true := by rfl)
    (hline : (apos.endLine == pos.line) = true := by rfl) (hs : starEach (e :: []) X.env = (false, eval e X.env) :: starEach [] X.env := by rfl) (hplain : (backTo pos (starEach [] X.env)).any (·.1) = false := by rfl) (hK : X.K = K := by rfl) :
    JE X (.Call (.Attribute o (os "append") apos) [e] [] pos) (tBM K "list" rAppend to (tCons te tNil)) (fApp fo fe) := by
  subst hK
  exact ⟨pe_bm PySem.F.plainAttrs_list PySem.F.slot_list_append PySem.F.type_list_append mt_append ho.pe (pa_cons he.pe pa_nil hs) hbase hfew hline hs hplain, re_app ho.re he.re⟩
theorem js_setIx (ho : JE X o to fo) (hi : JE X i ti fi) (he : JE X e te fe)
    (ha : ∀ v, assign (.Subscript o i pos') X.env v = (do
      let ov ← holding [v] (eval o X.env)
      let iv ← holding [v, ov] (eval i X.env)
      standAt pos'
      holding [v, ov, iv] (setItem ov iv v)
      release [v, ov, iv] []) := by intro _; rfl)
    (hs : swapsWithSole [.Subscript o i pos'] e pos.line X.env = pure false := by rfl) (hw : swappedStores [.Subscript o i pos'] e X.env = pure none := by rfl)
    (h1 : (assignEach [.Subscript o i pos'] X.env).map (·.2) = [assign (.Subscript o i pos') X.env] := by rfl) : JS X b (.Assign [.Subscript o i pos'] e pos) (tAsg te (L2.gSub to ti rSetL)) (sSetIx fo fi fe) :=
  ⟨ps_asg he.pe (pg_sub ho.pe hi.pe set_list ha) hs hw h1, rs_setIx ho.re hi.re he.re⟩
end
end J
namespace J
open PySem PySem.Spec PyProof.Rows L2

/-! ### what is known of a def, a method, a property, a class -/
section
variable (P : Program) (w : World) (K : PySem.W.Frag) (mg : Mg) (base : Heap)
structure KnF (f : Addr) (fd : FuncData) (x : String) (ps : List PySem.Str) (b : Bool) (k : Nat) (m : Mir) : Prop where
  ok : FnOk P w K mg base CX0 k f fd ps (spM K mg b m)
  g : mg (os x) = some (.ref f)
  kp : PySem.W.keepIn K (.ref f) = true
  bi : Binds K fd ps []
structure KnM (C f : Addr) (fd : FuncData) (cn mn : String) (ps : List PySem.Str) (b : Bool) (k : Nat) (m : Mir) : Prop where
  ok : FnOk P w K mg base CX0 k f fd ps (spM K mg b m)
  g : mg (os cn) = some (.ref C)
  cl : Cls K C
  me : Meth K C (os mn) f
  bi : Binds K fd ps []
structure KnP (C p f : Addr) (fd : FuncData) (cn mn : String) (ps : List PySem.Str) (b : Bool) (k : Nat) (m : Mir) : Prop where
  ok : FnOk P w K mg base CX0 k f fd ps (spM K mg b m)
  g : mg (os cn) = some (.ref C)
  cl : Cls K C
  pr : PropOf K C (os mn) p f
  bi : Binds K fd ps []
structure KnC (C f : Addr) (fd : FuncData) (cn : String) (ps : List PySem.Str) (k : Nat) (m : Mir) : Prop where
  ok : FnOk P w K mg base CX0 k f fd ps (spM K mg true m)
  g : mg (os cn) = some (.ref C)
  cm : Mk K C f
  bi : Binds K fd ps []
end
section
variable {X : Cx} {k j : Nat} {ps : List PySem.Str} {m : Mir} {C f pa : Addr} {fd : FuncData} {x cn mn : String} {p pos apos : Pos} {e o : Expr} {es : List Expr} {t : TA} {fa : FA} {te to : TE} {fe fo : FE} {pl : Sem Bool}
theorem kf_call {K : PySem.W.Frag} {mg : Mg} (h : KnF X.prog X.w K mg X.base f fd x ps false k m) (hr : Room j X.A) (ha : JA X (e :: es) t fa) (hj : k ≤ j := by decide) (hg : Gl X (os x) := by rfl) (hdb : (os x == ("__debug__" : PySem.Str)) = false := by decide)
    (he : starEach (e :: es) X.env = (false, eval e X.env) :: starEach es X.env := by rfl) (hpl : (backTo pos (starEach es X.env)).any (·.1) = false := by rfl) (hK : X.K = K := by rfl) (hM : X.mg = mg := by rfl) : JE X (.Call (.Name (os x) p) (e :: es) [] pos) (tCall (spM K mg false m) [] E0 t) (fCall m fa) := by
  subst hK hM
  exact je_call h.ok (hr.mono hj) hg h.g h.kp h.bi ha hdb he hpl
theorem kf_call0 {K : PySem.W.Frag} {mg : Mg} (h : KnF X.prog X.w K mg X.base f fd x ps false k m) (hr : Room j X.A) (hj : k ≤ j := by decide) (hg : Gl X (os x) := by rfl) (hdb : (os x == ("__debug__" : PySem.Str)) = false := by decide) (hK : X.K = K := by rfl) (hM : X.mg = mg := by rfl) : JE X (.Call (.Name (os x) p) [] [] pos) (tCall (spM K mg false m) [] E0 tNil) (fCall m aNil) := by
  subst hK hM
  exact je_call0 h.ok (hr.mono hj) hg h.g h.kp h.bi hdb
theorem kf_callIo {K : PySem.W.Frag} {mg : Mg} (h : KnF X.prog X.w K mg X.base f fd x ps true k m) (hr : Room j X.A) (he1 : JE X e te fe) (ha : JA X es t fa) (hj : k ≤ j := by decide) (hg : Gl X (os x) := by rfl) (hdb : (os x == ("__debug__" : PySem.Str)) = false := by decide)
    (he : starEach (e :: es) X.env = (false, eval e X.env) :: starEach es X.env := by rfl) (hpl : (backTo pos (starEach es X.env)).any (·.1) = false := by rfl) (hK : X.K = K := by rfl) (hM : X.mg = mg := by rfl) : JE X (.Call (.Name (os x) p) (e :: es) [] pos) (tCall (spM K mg true m) [] E0 (tCons te t)) (fCallIo m fe fa) := by
  subst hK hM
  exact je_callIo h.ok (hr.mono hj) hg h.g h.kp h.bi he1 ha hdb he hpl
theorem kc_make {K : PySem.W.Frag} {mg : Mg} (h : KnC X.prog X.w K mg X.base C f fd cn ps k m) (hr : Room j X.A) (ha : JA X (e :: es) t fa) (hj : k + 1 ≤ j := by decide) (hg : Gl X (os cn) := by rfl) (hdb : (os cn == ("__debug__" : PySem.Str)) = false := by decide)
    (he : starEach (e :: es) X.env = (false, eval e X.env) :: starEach es X.env := by rfl) (hpl : (backTo pos (starEach es X.env)).any (·.1) = false := by rfl) (hK : X.K = K := by rfl) (hM : X.mg = mg := by rfl) : JE X (.Call (.Name (os cn) p) (e :: es) [] pos) (tMake C (spM K mg true m) [] E0 t) (fMake cn m fa) := by
  subst hK hM
  exact je_make h.cm h.ok (hr.mono hj) hg h.g h.bi ha hdb he hpl
theorem kp_prop {K : PySem.W.Frag} {mg : Mg} (h : KnP X.prog X.w K mg X.base C pa f fd cn mn ps false k m) (hr : Room j X.A) (he : JE X e te fe) (hj : k + 1 ≤ j := by decide) (hab : attributeBase e (os mn) X.env (eval e X.env) = eval e X.env := by rfl) (hK : X.K = K := by rfl) (hM : X.mg = mg := by rfl) : JE X (.Attribute e (os mn) pos) (tProp C (spM K mg false m) [] E0 te) (fProp cn m fe) := by
  subst hK hM
  exact je_prop h.g he h.cl h.pr h.ok (hr.mono hj) h.bi hab
theorem kp_propIo {K : PySem.W.Frag} {mg : Mg} (h : KnP X.prog X.w K mg X.base C pa f fd cn mn ps true k m) (hr : Room j X.A) (he : JE X e te fe) (hj : k + 1 ≤ j := by decide) (hab : attributeBase e (os mn) X.env (eval e X.env) = eval e X.env := by rfl) (hK : X.K = K := by rfl) (hM : X.mg = mg := by rfl) : JE X (.Attribute e (os mn) pos) (tProp C (spM K mg true m) [] E0 te) (fPropIo cn m fe) := by
  subst hK hM
  exact je_propIo h.g he h.cl h.pr h.ok (hr.mono hj) h.bi hab
theorem km_meth {K : PySem.W.Frag} {mg : Mg} (h : KnM X.prog X.w K mg X.base C f fd cn mn ps false k m) (hr : Room j X.A) (he : JE X o te fe) (ha : JA X (e :: es) t fa) (hj : k ≤ j := by decide)
    (hst : starEach (e :: es) X.env = (false, eval e X.env) :: starEach es X.env := by rfl) (hpl : (backTo pos (starEach es X.env)).any (·.1) = false := by rfl)
    (ht : eval (.Call (.Attribute o (os mn) apos) (e :: es) [] pos) X.env = (do
      let ov ← eval o X.env
      standAt apos.atName
      let (f, first) ← holding [ov] (getMethod ov (os mn) pl)
      callWith pos f first (backTo pos (starEach (e :: es) X.env)) (backToKw pos (keywordEach [] X.env))) := by rfl) (hK : X.K = K := by rfl) (hM : X.mg = mg := by rfl) :
    JE X (.Call (.Attribute o (os mn) apos) (e :: es) [] pos) (tMeth C (os mn) (spM K mg false m) [] E0 te t) (fMeth cn mn m fe fa) := by
  subst hK hM
  exact je_meth h.g he h.cl h.me h.ok (hr.mono hj) h.bi ha hst hpl ht
theorem km_methIo {K : PySem.W.Frag} {mg : Mg} (h : KnM X.prog X.w K mg X.base C f fd cn mn ps true k m) (hr : Room j X.A) (he : JE X o te fe) (ha : JA X (e :: es) t fa) (hj : k ≤ j := by decide)
    (hst : starEach (e :: es) X.env = (false, eval e X.env) :: starEach es X.env := by rfl) (hpl : (backTo pos (starEach es X.env)).any (·.1) = false := by rfl)
    (ht : eval (.Call (.Attribute o (os mn) apos) (e :: es) [] pos) X.env = (do
      let ov ← eval o X.env
      standAt apos.atName
      let (f, first) ← holding [ov] (getMethod ov (os mn) pl)
      callWith pos f first (backTo pos (starEach (e :: es) X.env)) (backToKw pos (keywordEach [] X.env))) := by rfl) (hK : X.K = K := by rfl) (hM : X.mg = mg := by rfl) :
    JE X (.Call (.Attribute o (os mn) apos) (e :: es) [] pos) (tMeth C (os mn) (spM K mg true m) [] E0 te t) (fMethIo cn mn m fe fa) := by
  subst hK hM
  exact je_methIo h.g he h.cl h.me h.ok (hr.mono hj) h.bi ha hst hpl ht
theorem km_meth0 {K : PySem.W.Frag} {mg : Mg} (h : KnM X.prog X.w K mg X.base C f fd cn mn ps false k m) (hr : Room j X.A) (he : JE X o te fe) (hj : k ≤ j := by decide)
    (ht : eval (.Call (.Attribute o (os mn) apos) [] [] pos) X.env = (do
      let ov ← eval o X.env
      standAt apos.atName
      let (f, first) ← holding [ov] (getMethod ov (os mn) pl)
      callWith pos f first (backTo pos (starEach [] X.env)) (backToKw pos (keywordEach [] X.env))) := by rfl) (hK : X.K = K := by rfl) (hM : X.mg = mg := by rfl) :
    JE X (.Call (.Attribute o (os mn) apos) [] [] pos) (tMeth C (os mn) (spM K mg false m) [] E0 te tNil) (fMeth cn mn m fe aNil) := by
  subst hK hM
  exact je_meth0 h.g he h.cl h.me h.ok (hr.mono hj) h.bi ht
theorem km_meth0Io {K : PySem.W.Frag} {mg : Mg} (h : KnM X.prog X.w K mg X.base C f fd cn mn ps true k m) (hr : Room j X.A) (he : JE X o te fe) (hj : k ≤ j := by decide)
    (ht : eval (.Call (.Attribute o (os mn) apos) [] [] pos) X.env = (do
      let ov ← eval o X.env
      standAt apos.atName
      let (f, first) ← holding [ov] (getMethod ov (os mn) pl)
      callWith pos f first (backTo pos (starEach [] X.env)) (backToKw pos (keywordEach [] X.env))) := by rfl) (hK : X.K = K := by rfl) (hM : X.mg = mg := by rfl) :
    JE X (.Call (.Attribute o (os mn) apos) [] [] pos) (tMeth C (os mn) (spM K mg true m) [] E0 te tNil) (fMethIo cn mn m fe aNil) := by
  subst hK hM
  exact je_meth0Io h.g he h.cl h.me h.ok (hr.mono hj) h.bi ht
end

/-! ### the law's end -/
/-- what a script is -/
def Good (ns : List Int) : Prop := ns.length ≤ 63 ∧ ∀ z ∈ ns, Builtin.Int.intBits z ≤ 1048576
theorem ints_rp {K : PySem.W.Frag} {mg : Mg} {G : Hp} : ∀ ns : List Int, RpL K mg G (ns.map V.int) (ns.map D.int)
  | [] => .nil
  | _ :: ns => .cons (.int _) (ints_rp ns)
def spLaw (K : PySem.W.Frag) (good : List Int → Prop) : Sp := fun vs H Q _ => ∃ (a : Addr) (ns : List Int), vs = [.ref a] ∧ SqL K H a (ns.map V.int) ∧ good ns ∧ ∀ H', Q (.bl true) H'
theorem law_imp {P : Program} {w : World} {K : PySem.W.Frag} {mg : Mg} {base : Heap} {k : Nat} {f : Addr} {fd : FuncData} {ps : List PySem.Str} {m : Mir} {good : List Int → Prop} (F : FnOk P w K mg base CX0 k f fd ps (spM K mg false m))
    (h : ∀ ns : List Int, good ns → ∃ z, m [.lst (ns.map D.int)] = some (false, .bl true, z)) : FnOk P w K mg base CX0 k f fd ps (spLaw K good) := by
  refine F.imp fun vs H Q E ⟨a, ns, e, hs, hn, q⟩ => ?_
  subst e
  obtain ⟨z, hz⟩ := h ns hn
  refine ⟨H, [.lst (ns.map D.int)], false, .bl true, z, Same.refl H, .pure (.cons (.lst hs (ints_rp ns)) .nil), hz, fun v G' H' B => ?_⟩
  have r := B.rs
  cases r with
  | old r => cases r; exact q H'
end J
namespace J
open PySem PySem.Spec PyProof.Rows L2

/-! ### a, b = e1, e2; a, b = e; x += e -/
def setAll : List Nat → List D → Tau → Option Tau
  | [], [], τ => some τ
  | i :: is, d :: ds, τ => setAll is ds (τ.set i (some (.sh d)))
  | _, _, _ => none
def sPar (is : List Nat) (fa : FA) (τ : Tau) : Option Flow := (fa τ).bind fun a => (setAll is a.1 a.2).bind fun τ' => some (.nx τ')
def sUnp (fe : FE) (fg : FG) (τ : Tau) : Option Flow := (fe τ).bind fun o => (fz o.2 o.1).bind fun d => (fg d.1 d.2).bind fun τ' => some (.nx τ')
def sAug (i : Nat) (g : G2) (fe : FE) (τ : Tau) : Option Flow := match τ[i]? with
  | some (some (.sh d)) => (fe τ).bind fun o => (deref o.2 o.1).bind fun e => (g d e).bind fun z => match z with
    | .val z => some (.nx (o.2.set i (some (.sh z))))
    | _ => none
  | _ => none
section
variable {K : PySem.W.Frag} {mg : Mg} {b : Bool} {ta : TA} {fa : FA} {te : TE} {fe : FE}
theorem Fr.setSh {io : Option V} {R0 : Addr → Prop} {G0 H0 G H : Hp} {σ : L2.St} {τ : Tau} {i : Nat} {v : V} {d : D} (hb : b = false → io = none) (hi : b = false ∨ i ≠ 0) (F : Fr K mg io R0 G0 H0 G H σ τ) (r : Rp K mg G v d) : Fr K mg io R0 G0 H0 G H (σ.set i (some v)) (τ.set i (some (.sh d))) := by
  obtain ⟨A, ro⟩ := F.at'.setSh (i := i) F.ll r
  exact F.slots A (fun b h => F.rr b (ro b h)) (pr_set hb hi F.pr) (by rw [List.length_set, List.length_set]; exact F.ll)
theorem rs_par2 {i j : Nat} (h0 : b = false ∨ 0 ∉ [i, j]) (ha : RA K mg ta fa) : RS K mg b (tPar i j ta) (sPar [i, j] fa) := fun io R0 G0 H0 G H σ τ D fl hb F e k => by
  obtain ⟨⟨ds, τ1⟩, e1, e⟩ := bind_some' e
  obtain ⟨τ2, e2, e⟩ := bind_some' e
  cases e
  refine ha σ τ G H ds τ1 _ F.at' e1 fun vs G1 H1 g1 r1 => ?_
  have hi : b = false ∨ i ≠ 0 := h0.imp id fun h z => h (by simp [z])
  have hj : b = false ∨ j ≠ 0 := h0.imp id fun h z => h (by simp [z])
  cases r1 with
  | nil => cases e2
  | cons r1 r2 =>
    cases r2 with
    | nil => cases e2
    | cons r2 r3 =>
      cases r3 with
      | cons _ _ => cases e2
      | nil =>
        cases e2
        exact ⟨_, _, rfl, k _ G1 H1 (Fr.setSh hb hj (Fr.setSh hb hi (F.go g1) r1) r2)⟩
theorem rs_par3 {i j l : Nat} (h0 : b = false ∨ 0 ∉ [i, j, l]) (ha : RA K mg ta fa) : RS K mg b (tPar3 i j l ta) (sPar [i, j, l] fa) := fun io R0 G0 H0 G H σ τ D fl hb F e k => by
  obtain ⟨⟨ds, τ1⟩, e1, e⟩ := bind_some' e
  obtain ⟨τ2, e2, e⟩ := bind_some' e
  cases e
  refine ha σ τ G H ds τ1 _ F.at' e1 fun vs G1 H1 g1 r1 => ?_
  have hi : b = false ∨ i ≠ 0 := h0.imp id fun h z => h (by simp [z])
  have hj : b = false ∨ j ≠ 0 := h0.imp id fun h z => h (by simp [z])
  have hl : b = false ∨ l ≠ 0 := h0.imp id fun h z => h (by simp [z])
  cases r1 with
  | nil => cases e2
  | cons r1 r2 =>
    cases r2 with
    | nil => cases e2
    | cons r2 r3 =>
      cases r3 with
      | nil => cases e2
      | cons r3 r4 =>
        cases r4 with
        | cons _ _ => cases e2
        | nil =>
          cases e2
          exact ⟨_, _, _, rfl, k _ G1 H1 (Fr.setSh hb hl (Fr.setSh hb hj (Fr.setSh hb hi (F.go g1) r1) r2) r3)⟩
theorem rs_unp {is : List Nat} {tg : TG} {fg : FG} (h0 : b = false ∨ 0 ∉ is) (he : RE K mg te fe) (hg : RG K mg is tg fg) : RS K mg b (tAsg te tg) (sUnp fe fg) := fun io R0 G0 H0 G H σ τ D fl hb F e k => by
  obtain ⟨⟨o, τ1⟩, e1, e⟩ := bind_some' e
  obtain ⟨⟨d, τ2⟩, e2, e⟩ := bind_some' e
  obtain ⟨τ3, e3, e⟩ := bind_some' e
  cases e
  refine he σ τ G H o τ1 _ F.at' e1 fun x G1 H1 g1 o1 => ?_
  obtain ⟨G2, g2, s2, r2⟩ := o1.fz g1 e2
  have F2 := F.go g2
  refine hg G2 H1 σ τ2 x d τ3 _ F2.at' F2.ll r2 e3 fun σ3 A3 l3 ro3 k3 t3 kt3 ls3 => ?_
  exact k σ3 G2 H1 (F2.slots A3 (fun b h => F2.rr b (ro3 b h)) (fun v hv => by
    rcases h0 with z | z
    · rw [hb z] at hv; cases hv
    · rw [k3 0 z]; exact F2.pr v hv) l3)
/-- an augmented operator by values, frozen scalars -/
def RIp (K : PySem.W.Frag) (mg : Mg) (t : TIp) (g : G2) : Prop := ∀ (G H : Hp) (x y : V) (d e z : D) (Q : VK), Same G H → Rp K mg G x d → Pk K mg G H y e → g d e = some (.val z) → (∀ v, Rp K mg G v z → Q v H) → t x y H Q
theorem rs_aug {i : Nat} {t : TIp} {g : G2} (hi : b = false ∨ i ≠ 0) (ho : RIp K mg t g) (he : RE K mg te fe) : RS K mg b (tAug i te t) (sAug i g fe) := fun io R0 G0 H0 G H σ τ D fl hb F e k => by
  unfold sAug at e
  split at e
  · rename_i d hd
    obtain ⟨⟨o, τ1⟩, e1, e⟩ := bind_some' e
    obtain ⟨d', e2, e⟩ := bind_some' e
    obtain ⟨z, e3, e⟩ := bind_some' e
    obtain ⟨x, hx, rx⟩ := F.at'.sh i d hd
    refine ⟨x, hx, ?_⟩
    refine he σ τ G H o τ1 _ F.at' e1 fun y G1 H1 g1 o1 => ?_
    dsimp only at e2 e3 e
    split at e
    · cases e
      exact ho G1 H1 x y d d' _ _ g1.at'.gh (rx.mono g1.gg) (o1.pk g1.at' e2) e3 fun v rv => k _ G1 H1 (Fr.setSh hb hi (F.go g1) rv)
    · cases e
  · cases e
theorem rip_I {f : Int → Int → Int} : RIp K mg (ipI f) (gI fun i j => some (.int (f i j))) := fun G H x y d e z Q s r p eq q => by
  cases d <;> cases e <;> first | (cases eq; done) | skip
  cases eq
  cases r
  cases p.int
  exact ⟨_, _, rfl, rfl, q _ (.int _)⟩
end
section
variable {X : Cx} {b : Bool} {ta : TA} {fa : FA} {te : TE} {fe : FE} {e : Expr} {pos : Pos}
theorem js_par2 {i j : Nat} {x y : PySem.Str} {a c : Expr} {px py pt : Pos} {kt k2 pt2} (hc : X.calm = true) (hN : X.N.Nodup) (h0 : b = false ∨ 0 ∉ [i, j]) (ha : JA X [a, c] ta fa) (hi : X.N[i]? = some x := by rfl) (hj : X.N[j]? = some y := by rfl) (hij : i ≠ j := by decide)
    (hx : X.env.scope.names.lookup x = some .local := by rfl) (hy : X.env.scope.names.lookup y = some .local := by rfl)
    (hw : swappedStores [.Tuple [.Name x px, .Name y py] kt pt] (.Tuple [a, c] k2 pt2) X.env = pure (some [x, y]) := by rfl)
    (hs : swapsWithSole [.Tuple [.Name x px, .Name y py] kt pt] (.Tuple [a, c] k2 pt2) pos.line X.env = pure false := by rfl) :
    JS X b (.Assign [.Tuple [.Name x px, .Name y py] kt pt] (.Tuple [a, c] k2 pt2) pos) (tPar i j ta) (sPar [i, j] fa) := ⟨ps_par hc hN hi hj hij hx hy ha.pa hw hs, rs_par2 h0 ha.ra⟩
theorem js_unp {tg : Expr} {is : List Nat} {g : TG} {fg : FG} (h0 : b = false ∨ 0 ∉ is) (he : JE X e te fe) (hg : JG X tg is g fg) (hs : swapsWithSole [tg] e pos.line X.env = pure false := by rfl) (hw : swappedStores [tg] e X.env = pure none := by rfl)
    (h1 : (assignEach [tg] X.env).map (·.2) = [assign tg X.env] := by rfl) : JS X b (.Assign [tg] e pos) (tAsg te g) (sUnp fe fg) := ⟨ps_asg he.pe hg.pg hs hw h1, rs_unp h0 he.re hg.rg⟩
theorem js_augAdd {i : Nat} {x : PySem.Str} {pos' : Pos} (hN : X.N.Nodup) (hb : b = false ∨ i ≠ 0) (he : JE X e te fe) (hi : X.N[i]? = some x := by rfl) (hx : Loc X.env.scope x := by first | exact Or.inl rfl | exact Or.inr rfl)
    (hf : X.fn x = true ∨ X.env.scope.names.lookup x = some .local := by first | exact .inl rfl | exact .inr rfl | assumption) : JS X b (.AugAssign (.Name x pos') .Add e pos) (tAug i te (ipI fun i j => i + j)) (sAug i gAdd fe) := ⟨ps_aug hN hi hx he.pe ip_add hf, rs_aug hb rip_I he.re⟩
theorem js_augSub {i : Nat} {x : PySem.Str} {pos' : Pos} (hN : X.N.Nodup) (hb : b = false ∨ i ≠ 0) (he : JE X e te fe) (hi : X.N[i]? = some x := by rfl) (hx : Loc X.env.scope x := by first | exact Or.inl rfl | exact Or.inr rfl)
    (hf : X.fn x = true ∨ X.env.scope.names.lookup x = some .local := by first | exact .inl rfl | exact .inr rfl | assumption) : JS X b (.AugAssign (.Name x pos') .Sub e pos) (tAug i te (ipI fun i j => i - j)) (sAug i gSub fe) := ⟨ps_aug hN hi hx he.pe ip_sub hf, rs_aug hb rip_I he.re⟩
theorem js_par3 {i j l : Nat} {x y z : PySem.Str} {a c d : Expr} {px py pz pt : Pos} {kt k2 pt2} (hc : X.calm = true) (hN : X.N.Nodup) (h0 : b = false ∨ 0 ∉ [i, j, l]) (ha : JA X [a, c, d] ta fa) (hi : X.N[i]? = some x := by rfl) (hj : X.N[j]? = some y := by rfl) (hl : X.N[l]? = some z := by rfl)
    (hij : i ≠ j := by decide) (hil : i ≠ l := by decide) (hjl : j ≠ l := by decide)
    (hx : X.env.scope.names.lookup x = some .local := by rfl) (hy : X.env.scope.names.lookup y = some .local := by rfl) (hz : X.env.scope.names.lookup z = some .local := by rfl)
    (hw : swappedStores [.Tuple [.Name x px, .Name y py, .Name z pz] kt pt] (.Tuple [a, c, d] k2 pt2) X.env = pure (some [x, y, z]) := by rfl)
    (hs : swapsWithSole [.Tuple [.Name x px, .Name y py, .Name z pz] kt pt] (.Tuple [a, c, d] k2 pt2) pos.line X.env = pure false := by rfl) :
    JS X b (.Assign [.Tuple [.Name x px, .Name y py, .Name z pz] kt pt] (.Tuple [a, c, d] k2 pt2) pos) (tPar3 i j l ta) (sPar [i, j, l] fa) := ⟨ps_par3 hc hN hi hj hl hij hil hjl hx hy hz ha.pa hw hs, rs_par3 h0 ha.ra⟩
end
end J
namespace J
open PySem PySem.Spec PyProof.Rows L2

/-! ### running a mirror -/
theorem whN_some {c : FT} {f : FS} {τ : Tau} {fl : Flow} : sWh c f τ = some fl ↔ ∃ n, whN c f n τ = some fl := ⟨sWh_get, fun ⟨_, h⟩ => sWh_of h⟩
theorem sWh_eq (c : FT) (f : FS) (τ : Tau) : sWh c f τ = (c τ).bind fun a => if a.1 = true then (f a.2).bind fun fl => match fl with
      | .nx τ2 => sWh c f τ2
      | .ct τ2 => sWh c f τ2
      | .bk τ2 => some (.nx τ2)
      | .rt o τ2 => some (.rt o τ2)
    else some (.nx a.2) := by
  refine Option.ext fun fl => ?_
  constructor
  · intro h
    obtain ⟨n, h⟩ := sWh_get h
    cases n with
    | zero => cases h
    | succ n =>
      unfold whN at h
      obtain ⟨a, e1, h⟩ := bind_some' h
      rw [e1]
      show (if a.1 = true then _ else _) = _
      by_cases ha : a.1 = true
      · rw [if_pos ha] at h ⊢
        obtain ⟨fl1, e2, h⟩ := bind_some' h
        rw [e2]
        cases fl1 with
        | nx τ2 => exact sWh_of h
        | ct τ2 => exact sWh_of h
        | bk τ2 => exact h
        | rt o τ2 => exact h
      · rw [if_neg ha] at h ⊢
        exact h
  · intro h
    obtain ⟨a, e1, h⟩ := bind_some' h
    by_cases ha : a.1 = true
    · rw [if_pos ha] at h
      obtain ⟨fl1, e2, h⟩ := bind_some' h
      have key : ∀ n, (match fl1 with
          | .nx τ2 => whN c f n τ2
          | .ct τ2 => whN c f n τ2
          | .bk τ2 => some (.nx τ2)
          | .rt o τ2 => some (.rt o τ2)) = some fl → whN c f (n + 1) τ = some fl := fun n hn => by
        unfold whN
        rw [e1]
        show (if a.1 = true then _ else _) = _
        rw [if_pos ha, e2]
        exact hn
      cases fl1 with
      | nx τ2 => obtain ⟨n, hn⟩ := sWh_get h; exact sWh_of (key n hn)
      | ct τ2 => obtain ⟨n, hn⟩ := sWh_get h; exact sWh_of (key n hn)
      | bk τ2 => exact sWh_of (key 0 h)
      | rt o τ2 => exact sWh_of (key 0 h)
    · rw [if_neg ha] at h
      refine sWh_of (n := 1) ?_
      unfold whN
      rw [e1]
      show (if a.1 = true then _ else _) = _
      rw [if_neg ha]
      exact h
abbrev si (i : Int) : Option Cell := some (.sh (.int i))
abbrev sd (d : D) : Option Cell := some (.sh d)
def contD (g : FG) (f : FS) (ds : List D) : Flow → Option Flow
  | .nx τ2 => forD g f ds τ2
  | .ct τ2 => forD g f ds τ2
  | .bk τ2 => some (.nx τ2)
  | .rt o τ2 => some (.rt o τ2)
theorem forD_cons {g : FG} {f : FS} {d : D} {ds : List D} {τ τ1 : Tau} {fl : Flow} (e1 : g d τ = some τ1) (e2 : f τ1 = some fl) : forD g f (d :: ds) τ = contD g f ds fl := by
  unfold forD
  rw [e1]
  show (f τ1).bind _ = _
  rw [e2]
  cases fl <;> rfl
/-- a for over a list, by an invariant of the state ahead of each turn; the turn goes on -/
theorem forD_inv {g : FG} {f : FS} (Iv : Nat → Tau → Prop) : ∀ (ds : List D) (i : Nat) (τ : Tau), Iv i τ → (∀ k d τ, ds[k]? = some d → Iv (i + k) τ → ∃ τ1 fl, g d τ = some τ1 ∧ f τ1 = some fl ∧ ∃ τ2, (fl = .nx τ2 ∨ fl = .ct τ2) ∧ Iv (i + k + 1) τ2) → ∃ τ', forD g f ds τ = some (.nx τ') ∧ Iv (i + ds.length) τ'
  | [], i, τ, h, _ => ⟨τ, rfl, h⟩
  | d :: ds, i, τ, h, st => by
    obtain ⟨τ1, fl, e1, e2, τ2, hf, h2⟩ := st 0 d τ rfl h
    obtain ⟨τ', e3, h3⟩ := forD_inv Iv ds (i + 1) τ2 (by simpa using h2) (fun k d' τ hk hi => by
      have := st (k + 1) d' τ (by simpa using hk) (by rw [show i + (k + 1) = i + 1 + k by omega]; exact hi)
      rw [show i + (k + 1) + 1 = i + 1 + k + 1 by omega] at this
      exact this)
    refine ⟨τ', ?_, by rw [List.length_cons, show i + (ds.length + 1) = i + 1 + ds.length by omega]; exact h3⟩
    unfold forD
    rw [e1]
    show (f τ1).bind _ = _
    rw [e2]
    rcases hf with rfl | rfl
    · exact e3
    · exact e3
/-- a for whose turn may return: either it ends, or some turn returns what is wanted -/
theorem forD_ret {g : FG} {f : FS} (Iv : Nat → Tau → Prop) (Rt : Op → Tau → Prop) : ∀ (ds : List D) (i : Nat) (τ : Tau), Iv i τ → (∀ k d τ, ds[k]? = some d → Iv (i + k) τ → ∃ τ1 fl, g d τ = some τ1 ∧ f τ1 = some fl ∧ ((∃ τ2, (fl = .nx τ2 ∨ fl = .ct τ2) ∧ Iv (i + k + 1) τ2) ∨ ∃ o τ2, fl = .rt o τ2 ∧ Rt o τ2)) →
    (∃ τ', forD g f ds τ = some (.nx τ') ∧ Iv (i + ds.length) τ') ∨ ∃ o τ', forD g f ds τ = some (.rt o τ') ∧ Rt o τ'
  | [], i, τ, h, _ => .inl ⟨τ, rfl, h⟩
  | d :: ds, i, τ, h, st => by
    obtain ⟨τ1, fl, e1, e2, hf⟩ := st 0 d τ rfl h
    have un := forD_cons (ds := ds) e1 e2
    rcases hf with ⟨τ2, hf, h2⟩ | ⟨o, τ2, rfl, hr⟩
    · have ih := forD_ret Iv Rt ds (i + 1) τ2 (by simpa using h2) (fun k d' τ hk hi => by
        have := st (k + 1) d' τ (by simpa using hk) (by rw [show i + (k + 1) = i + 1 + k by omega]; exact hi)
        rw [show i + (k + 1) + 1 = i + 1 + k + 1 by omega] at this
        exact this)
      have e : forD g f (d :: ds) τ = forD g f ds τ2 := by rcases hf with rfl | rfl <;> exact un
      rw [e, List.length_cons, show i + (ds.length + 1) = i + 1 + ds.length by omega]
      exact ih
    · exact .inr ⟨o, τ2, un, hr⟩
end J
namespace J
open PySem PySem.Spec PyProof.Rows L2

/-! ### calls with keywords -/
/-- the arguments in the parameters' order -/
def pk {α : Type} (pm : List Nat) (l : List α) : List α := pm.filterMap (l[·]?)
def tPk (n m : Nat) (pm : List Nat) (t tk : TA) : TA := fun σ H Q => t σ H fun vs H1 => tk σ H1 fun zs H2 => vs.length = n ∧ zs.length = m ∧ Q (pk pm (vs ++ zs)) H2
def aPk (n m : Nat) (pm : List Nat) (f g : FA) (τ : Tau) : Option (List D × Tau) := (f τ).bind fun a => (g a.2).bind fun b => if a.1.length = n ∧ b.1.length = m then some (pk pm (a.1 ++ b.1), b.2) else none
theorem RpL.pk {K : PySem.W.Frag} {mg : Mg} {G : Hp} {vs : List V} {ds : List D} (r : RpL K mg G vs ds) : ∀ pm : List Nat, RpL K mg G (J.pk pm vs) (J.pk pm ds)
  | [] => .nil
  | i :: pm => by
    unfold J.pk
    rw [List.filterMap_cons, List.filterMap_cons]
    cases h : ds[i]? with
    | none =>
      have : vs[i]? = none := by
        rw [List.getElem?_eq_none_iff] at h ⊢
        rw [r.length]; exact h
      rw [this]
      exact RpL.pk r pm
    | some d =>
      obtain ⟨v, e, rv⟩ := r.get h
      rw [e]
      exact .cons rv (RpL.pk r pm)
theorem RpL.app {K : PySem.W.Frag} {mg : Mg} {G : Hp} : ∀ {vs : List V} {ds : List D} {ws : List V} {es : List D}, RpL K mg G vs ds → RpL K mg G ws es → RpL K mg G (vs ++ ws) (ds ++ es) := RpL.append
theorem RpL.monoL {K : PySem.W.Frag} {mg : Mg} {G G' : Hp} {vs : List V} {ds : List D} (r : RpL K mg G vs ds) (s : Same G G') : RpL K mg G' vs ds := RpL.mono s r
theorem ra_pk {K : PySem.W.Frag} {mg : Mg} {t tk : TA} {f g : FA} {n m : Nat} {pm : List Nat} (ha : RA K mg t f) (hk : RA K mg tk g) : RA K mg (tPk n m pm t tk) (aPk n m pm f g) := fun σ τ G H ds τ' Q A e q => by
  obtain ⟨⟨d1, τ1⟩, e1, e⟩ := bind_some' e
  obtain ⟨⟨d2, τ2⟩, e2, e⟩ := bind_some' e
  obtain ⟨⟨l1, l2⟩, e⟩ := if_get e
  cases e
  refine ha σ τ G H d1 τ1 _ A e1 fun vs G1 H1 g1 r1 => ?_
  refine hk σ τ1 G1 H1 d2 τ2 _ g1.at' e2 fun zs G2 H2 g2 r2 => ?_
  exact ⟨r1.length.trans l1, r2.length.trans l2, q _ G2 H2 (g1.trans g2) (((r1.monoL g2.gg).append r2).pk pm)⟩
theorem vals_pk {vs : List V} {us : List Value} (r : Vals vs us) : ∀ pm : List Nat, Vals (pk pm vs) (pk pm us) := by
  have get : ∀ {vs : List V} {us : List Value}, Vals vs us → ∀ i : Nat, (vs[i]? = none ∧ us[i]? = none) ∨ ∃ v u, vs[i]? = some v ∧ us[i]? = some u ∧ RelV v u := by
    intro vs us r
    induction r with
    | nil => exact fun i => .inl ⟨by simp, by simp⟩
    | cons h _ ih =>
      intro i
      cases i with
      | zero => exact .inr ⟨_, _, rfl, rfl, h⟩
      | succ i => simpa using ih i
  intro pm
  induction pm with
  | nil => exact .nil
  | cons i pm ih =>
    unfold pk
    rw [List.filterMap_cons, List.filterMap_cons]
    rcases get r i with ⟨a, b⟩ | ⟨v, u, a, b, h⟩
    · rw [a, b]; exact ih
    · rw [a, b]; exact .cons h ih
theorem pk_succ {α : Type} (pm : List Nat) (x : α) (l : List α) : pk (0 :: pm.map Nat.succ) (x :: l) = x :: pk pm l := by
  unfold pk
  rw [List.filterMap_cons, List.filterMap_map]
  rfl
/-- what a call with n positional values and keywords ks binds -/
def KwB (K : PySem.W.Frag) (fd : FuncData) (ps ks : List PySem.Str) (n : Nat) (pm : List Nat) : Prop :=
  ∀ (s : Shared) (us ws : List Value), K.In s.heap → us.length = n → ws.length = ks.length → BindsTo s fd ⟨us, ks.zip ws⟩ (ps.zip (pk pm (us ++ ws)))
/-- keywords' values -/
structure JK (X : Cx) (kws : List Keyword) (t : TA) (f : FA) : Prop where
  pk : PK X kws t
  ra : RA X.K X.mg t f
section
variable {X : Cx} {k n : Nat} {f C : Addr} {fd : FuncData} {ps ks : List PySem.Str} {sp : Sp} {pm : List Nat} {x mn : PySem.Str} {p pos apos kpos : Pos} {e o : Expr} {es : List Expr} {kws : List Keyword} {te to : TE} {t tk : TA} {fe fo : FE} {fa fk : FA} {nm : Option PySem.Str} {m : Mir} {pl : Sem Bool}
theorem jk_nil : JK X [] tNil aNil := ⟨pk_nil, ra_nil⟩
theorem jk_cons (ha : JE X e te fe) (hr : JK X kws t fa) : JK X (⟨nm, e, kpos⟩ :: kws) (tCons te t) (aCons fe fa) := ⟨pk_cons ha.pe hr.pk, ra_cons ha.re hr.ra⟩
theorem run_fnN {pins : List (Addr × Obj)} {σ : L2.St} {H : Hp} {s : Shared} {Q : VK} {us ws : List Value} {vs zs : List V} (F : FnOk X.prog X.w X.K X.mg X.base CX0 k f fd ps sp) (hr : Room k X.A) (hb : KwB X.K fd ps ks n pm)
    (I : Inv X pins σ H s) (r : Vals vs us) (rz : Vals zs ws) (l1 : vs.length = n) (l2 : zs.length = ks.length) (h : sp (pk pm (vs ++ zs)) H Q E0) : wpAny (model X.prog X.w) X.A (call (.ref f) us (ks.zip ws)) (EP X pins σ Q) X.xe s := by
  have r2 := vals_pk (r.append rz) pm
  refine wpAny_call (codeAny_mono (F.run X.A X.stack s H ⟨us, ks.zip ws⟩ _ _ Q E0 hr I.env0 (hb s us ws I.kIn (r.length.symm.trans l1) (rz.length.symm.trans l2)) r2 h) fun r s' hq => ?_)
  cases r with
  | error e => exact pass0 pins σ H s e s' I hq
  | ok fl =>
    cases fl with
    | ret u => exact I.after hq
    | next => exact False.elim hq
    | brk => exact False.elim hq
    | cont => exact False.elim hq
/-- f(e, .., k = v, ..) -/
theorem pe_callN (F : FnOk X.prog X.w X.K X.mg X.base CX0 k f fd ps sp) (hr : Room k X.A) (hg : Gl X x) (hm : X.mg x = some (.ref f)) (hk : PySem.W.keepIn X.K (.ref f) = true) (hb : KwB X.K fd ps ks n pm)
    (ha : PA X (e :: es) t) (hkw : PK X kws tk) (hall : (backToKw pos (keywordEach kws X.env)).all (·.1.isSome) = true := by rfl) (hks : (backToKw pos (keywordEach kws X.env)).filterMap (·.1) = ks := by rfl)
    (hdb : (x == ("__debug__" : PySem.Str)) = false := by decide) (he : starEach (e :: es) X.env = (false, eval e X.env) :: starEach es X.env := by rfl)
    (hpl : ((backTo pos (starEach (e :: es) X.env)).any (·.1) || (backToKw pos (keywordEach kws X.env)).any (·.1.isNone)) = false := by rfl) :
    PE X (.Call (.Name x p) (e :: es) kws pos) (tCall sp [] E0 (tPk n ks.length pm t tk)) := by
  refine ⟨fun pins s σ H Q I h => ?_⟩
  refine wpAny_Call_Name_kw (ld_glob I hg hm ?_ hdb)
  refine PySem.W.callWith_KW (h₀ := X.base) I.ok.mod.kin hk hall (thn (ha.run pos pins s σ H _ I h) fun us s1 ⟨vs, H1, I1, r, q⟩ => ?_) hpl he
  refine thn (hkw.run pos pins s1 σ H1 _ I1 q) fun ws s2 ⟨zs, H2, I2, rz, l1, l2, q2⟩ => ⟨I2.kIn, ?_⟩
  rw [hks]
  dsimp only at q2
  rw [List.append_nil] at q2
  exact run_fnN F hr hb I2 r rz l1 l2 q2
/-- f(k = v, ..) -/
theorem pe_callN0 (F : FnOk X.prog X.w X.K X.mg X.base CX0 k f fd ps sp) (hr : Room k X.A) (hg : Gl X x) (hm : X.mg x = some (.ref f)) (hk : PySem.W.keepIn X.K (.ref f) = true) (hb : KwB X.K fd ps ks 0 pm)
    (hkw : PK X kws tk) (hall : (backToKw pos (keywordEach kws X.env)).all (·.1.isSome) = true := by rfl) (hks : (backToKw pos (keywordEach kws X.env)).filterMap (·.1) = ks := by rfl)
    (hdb : (x == ("__debug__" : PySem.Str)) = false := by decide)
    (hpl : ((backTo pos (starEach [] X.env)).any (·.1) || (backToKw pos (keywordEach kws X.env)).any (·.1.isNone)) = false := by rfl) :
    PE X (.Call (.Name x p) [] kws pos) (tCall sp [] E0 (tPk 0 ks.length pm tNil tk)) := by
  refine ⟨fun pins s σ H Q I h => ?_⟩
  refine wpAny_Call_Name_kw (ld_glob I hg hm ?_ hdb)
  refine PySem.W.callWith_KW0 (h₀ := X.base) I.ok.mod.kin hk hall ?_ hpl
  refine thn (hkw.run pos pins s σ H _ I h) fun ws s2 ⟨zs, H2, I2, rz, l1, l2, q2⟩ => ⟨I2.kIn, ?_⟩
  rw [hks]
  dsimp only at q2
  rw [List.append_nil] at q2
  exact run_fnN (us := []) F hr hb I2 .nil rz l1 l2 q2
/-- o.m(e, .., k = v, ..) -/
theorem pe_methN (he : PE X o to) (c : Cls X.K C) (hm : Meth X.K C mn f) (F : FnOk X.prog X.w X.K X.mg X.base CX0 k f fd ps sp) (hr : Room k X.A) (hb : KwB X.K fd ps ks (n + 1) (0 :: pm.map Nat.succ)) (ha : PA X (e :: es) t) (hkw : PK X kws tk)
    (hall : (backToKw pos (keywordEach kws X.env)).all (·.1.isSome) = true := by rfl) (hks : (backToKw pos (keywordEach kws X.env)).filterMap (·.1) = ks := by rfl)
    (hst : starEach (e :: es) X.env = (false, eval e X.env) :: starEach es X.env := by rfl)
    (hpl : ((backTo pos (starEach (e :: es) X.env)).any (·.1) || (backToKw pos (keywordEach kws X.env)).any (·.1.isNone)) = false := by rfl)
    (ht : eval (.Call (.Attribute o mn apos) (e :: es) kws pos) X.env = (do
      let ov ← eval o X.env
      standAt apos.atName
      let (f, first) ← holding [ov] (getMethod ov mn pl)
      callWith pos f first (backTo pos (starEach (e :: es) X.env)) (backToKw pos (keywordEach kws X.env))) := by rfl) :
    PE X (.Call (.Attribute o mn apos) (e :: es) kws pos) (tMeth C mn sp [] E0 to (tPk n ks.length pm t tk)) := by
  refine ⟨fun pins s σ H Q I h => ?_⟩
  refine PySem.W.methodCall_KW (pl := pl) (thn (he.run pins s σ H _ I h) fun u s1 ⟨x, H1, I1, rx, a, dx, fs, ex, ea, l, q⟩ => ?_) ht
  subst ex
  obtain rfl : u = Value.ref a := rx
  refine getmeth_ok I1 ea c hm l ?_
  refine PySem.W.callWith_KW (first := [.ref a]) (h₀ := X.base) I.ok.mod.kin hm.kp hall (thn (ha.run pos pins s1 σ H1 _ I1 q) fun us s2 ⟨vs, H2, I2, r, q2⟩ => ?_) hpl hst
  refine thn (hkw.run pos pins s2 σ H2 _ I2 q2) fun ws s3 ⟨zs, H3, I3, rz, l1, l2, q3⟩ => ⟨I3.kIn, ?_⟩
  rw [hks]
  dsimp only at q3
  rw [List.append_nil] at q3
  refine run_fnN (us := .ref a :: us) (vs := .ref a :: vs) F hr hb I3 (.cons rfl r) rz (congrArg Nat.succ l1) l2 ?_
  show sp (pk (0 :: pm.map Nat.succ) (.ref a :: (vs ++ zs))) H3 Q E0
  rw [pk_succ]
  exact q3
/-- o.m(k = v, ..) -/
theorem pe_methN0 (he : PE X o to) (c : Cls X.K C) (hm : Meth X.K C mn f) (F : FnOk X.prog X.w X.K X.mg X.base CX0 k f fd ps sp) (hr : Room k X.A) (hb : KwB X.K fd ps ks 1 (0 :: pm.map Nat.succ)) (hkw : PK X kws tk)
    (hall : (backToKw pos (keywordEach kws X.env)).all (·.1.isSome) = true := by rfl) (hks : (backToKw pos (keywordEach kws X.env)).filterMap (·.1) = ks := by rfl)
    (hpl : ((backTo pos (starEach [] X.env)).any (·.1) || (backToKw pos (keywordEach kws X.env)).any (·.1.isNone)) = false := by rfl)
    (ht : eval (.Call (.Attribute o mn apos) [] kws pos) X.env = (do
      let ov ← eval o X.env
      standAt apos.atName
      let (f, first) ← holding [ov] (getMethod ov mn pl)
      callWith pos f first (backTo pos (starEach [] X.env)) (backToKw pos (keywordEach kws X.env))) := by rfl) :
    PE X (.Call (.Attribute o mn apos) [] kws pos) (tMeth C mn sp [] E0 to (tPk 0 ks.length pm tNil tk)) := by
  refine ⟨fun pins s σ H Q I h => ?_⟩
  refine PySem.W.methodCall_KW (pl := pl) (thn (he.run pins s σ H _ I h) fun u s1 ⟨x, H1, I1, rx, a, dx, fs, ex, ea, l, q⟩ => ?_) ht
  subst ex
  obtain rfl : u = Value.ref a := rx
  refine getmeth_ok I1 ea c hm l ?_
  refine PySem.W.callWith_KW0 (first := [.ref a]) (h₀ := X.base) I.ok.mod.kin hm.kp hall ?_ hpl
  refine thn (hkw.run pos pins s1 σ H1 _ I1 q) fun ws s3 ⟨zs, H3, I3, rz, l1, l2, q3⟩ => ⟨I3.kIn, ?_⟩
  rw [hks]
  dsimp only at q3
  rw [List.append_nil] at q3
  refine run_fnN (us := [.ref a]) (vs := [.ref a]) F hr hb I3 (.cons rfl .nil) rz rfl l2 ?_
  show sp (pk (0 :: pm.map Nat.succ) (.ref a :: zs)) H3 Q E0
  rw [pk_succ]
  exact q3
/-- C(.., k = v, ..) -/
theorem run_mkN {pins : List (Addr × Obj)} {σ : L2.St} {H : Hp} {s : Shared} {Q : VK} {us ws : List Value} {vs zs : List V} (M : Mk X.K C f) (F : FnOk X.prog X.w X.K X.mg X.base CX0 k f fd ps sp) (hr : Room (k + 1) X.A) (hb : KwB X.K fd ps ks (n + 1) (0 :: pm.map Nat.succ))
    (I : Inv X pins σ H s) (r : Vals vs us) (rz : Vals zs ws) (l1 : vs.length = n) (l2 : zs.length = ks.length)
    (h : ∀ x dx, H x = none → H dx = none → dx ≠ x → sp (.ref x :: pk pm (vs ++ zs)) (upd (upd H dx (.own x)) x (.ins C dx [])) (fun v H2 => v = .non ∧ Q (.ref x) H2) E0) :
    wpAny (model X.prog X.w) X.A (call (.ref C) us (ks.zip ws)) (EP X pins σ Q) X.xe s :=
  run_makeN (g := fun us ws => pk (0 :: pm.map Nat.succ) (us ++ ws)) (gV := fun vs zs => pk (0 :: pm.map Nat.succ) (vs ++ zs)) M F hr ⟨hb, fun r1 r2 => vals_pk (r1.append r2) _⟩ pass0 I r rz l1 l2 fun x dx h1 h2 h3 => by
    show sp (pk (0 :: pm.map Nat.succ) (.ref x :: (vs ++ zs))) _ _ E0
    rw [pk_succ]
    exact h x dx h1 h2 h3
theorem pe_mkN (M : Mk X.K C f) (F : FnOk X.prog X.w X.K X.mg X.base CX0 k f fd ps sp) (hr : Room (k + 1) X.A) (hg : Gl X x) (hm : X.mg x = some (.ref C)) (hb : KwB X.K fd ps ks (n + 1) (0 :: pm.map Nat.succ))
    (ha : PA X (e :: es) t) (hkw : PK X kws tk) (hall : (backToKw pos (keywordEach kws X.env)).all (·.1.isSome) = true := by rfl) (hks : (backToKw pos (keywordEach kws X.env)).filterMap (·.1) = ks := by rfl)
    (hdb : (x == ("__debug__" : PySem.Str)) = false := by decide) (he : starEach (e :: es) X.env = (false, eval e X.env) :: starEach es X.env := by rfl)
    (hpl : ((backTo pos (starEach (e :: es) X.env)).any (·.1) || (backToKw pos (keywordEach kws X.env)).any (·.1.isNone)) = false := by rfl) :
    PE X (.Call (.Name x p) (e :: es) kws pos) (tMake C sp [] E0 (tPk n ks.length pm t tk)) := by
  refine ⟨fun pins s σ H Q I h => ?_⟩
  refine wpAny_Call_Name_kw (ld_glob I hg hm ?_ hdb)
  refine PySem.W.callWith_KW (h₀ := X.base) I.ok.mod.kin M.kp hall (thn (ha.run pos pins s σ H _ I h) fun us s1 ⟨vs, H1, I1, r, q⟩ => ?_) hpl he
  refine thn (hkw.run pos pins s1 σ H1 _ I1 q) fun ws s2 ⟨zs, H2, I2, rz, l1, l2, q2⟩ => ⟨I2.kIn, ?_⟩
  rw [hks]
  refine run_mkN M F hr hb I2 r rz l1 l2 fun x dx h1 h2 h3 => ?_
  have := q2 x dx h1 h2 h3
  rw [List.append_nil] at this
  exact this
theorem pe_mkN0 (M : Mk X.K C f) (F : FnOk X.prog X.w X.K X.mg X.base CX0 k f fd ps sp) (hr : Room (k + 1) X.A) (hg : Gl X x) (hm : X.mg x = some (.ref C)) (hb : KwB X.K fd ps ks 1 (0 :: pm.map Nat.succ))
    (hkw : PK X kws tk) (hall : (backToKw pos (keywordEach kws X.env)).all (·.1.isSome) = true := by rfl) (hks : (backToKw pos (keywordEach kws X.env)).filterMap (·.1) = ks := by rfl)
    (hdb : (x == ("__debug__" : PySem.Str)) = false := by decide)
    (hpl : ((backTo pos (starEach [] X.env)).any (·.1) || (backToKw pos (keywordEach kws X.env)).any (·.1.isNone)) = false := by rfl) :
    PE X (.Call (.Name x p) [] kws pos) (tMake C sp [] E0 (tPk 0 ks.length pm tNil tk)) := by
  refine ⟨fun pins s σ H Q I h => ?_⟩
  refine wpAny_Call_Name_kw (ld_glob I hg hm ?_ hdb)
  refine PySem.W.callWith_KW0 (h₀ := X.base) I.ok.mod.kin M.kp hall ?_ hpl
  refine thn (hkw.run pos pins s σ H _ I h) fun ws s2 ⟨zs, H2, I2, rz, l1, l2, q2⟩ => ⟨I2.kIn, ?_⟩
  rw [hks]
  refine run_mkN (us := []) (vs := []) M F hr hb I2 .nil rz l1 l2 fun x dx h1 h2 h3 => ?_
  have := q2 x dx h1 h2 h3
  rw [List.append_nil] at this
  exact this
end
section
variable {X : Cx} {k j n : Nat} {ps ks : List PySem.Str} {m : Mir} {C f : Addr} {fd : FuncData} {x cn mn : String} {p pos apos : Pos} {e o : Expr} {es : List Expr} {kws : List Keyword} {t tk : TA} {fa fk : FA} {to : TE} {fo : FE} {pl : Sem Bool} {pm : List Nat}
theorem kf_callN {K : PySem.W.Frag} {mg : Mg} (h : KnF X.prog X.w K mg X.base f fd x ps false k m) (hb : KwB K fd ps ks n pm) (hr : Room j X.A) (ha : JA X (e :: es) t fa) (hw : JK X kws tk fk) (hj : k ≤ j := by decide) (hg : Gl X (os x) := by rfl)
    (hall : (backToKw pos (keywordEach kws X.env)).all (·.1.isSome) = true := by rfl) (hks : (backToKw pos (keywordEach kws X.env)).filterMap (·.1) = ks := by rfl)
    (hdb : (os x == ("__debug__" : PySem.Str)) = false := by decide) (he : starEach (e :: es) X.env = (false, eval e X.env) :: starEach es X.env := by rfl)
    (hpl : ((backTo pos (starEach (e :: es) X.env)).any (·.1) || (backToKw pos (keywordEach kws X.env)).any (·.1.isNone)) = false := by rfl) (hK : X.K = K := by rfl) (hM : X.mg = mg := by rfl) :
    JE X (.Call (.Name (os x) p) (e :: es) kws pos) (tCall (spM K mg false m) [] E0 (tPk n ks.length pm t tk)) (fCall m (aPk n ks.length pm fa fk)) := by
  subst hK hM
  exact ⟨pe_callN h.ok (hr.mono hj) hg h.g h.kp hb ha.pa hw.pk hall hks hdb he hpl, re_call (ra_pk ha.ra hw.ra)⟩
theorem kf_callN0 {K : PySem.W.Frag} {mg : Mg} (h : KnF X.prog X.w K mg X.base f fd x ps false k m) (hb : KwB K fd ps ks 0 pm) (hr : Room j X.A) (hw : JK X kws tk fk) (hj : k ≤ j := by decide) (hg : Gl X (os x) := by rfl)
    (hall : (backToKw pos (keywordEach kws X.env)).all (·.1.isSome) = true := by rfl) (hks : (backToKw pos (keywordEach kws X.env)).filterMap (·.1) = ks := by rfl)
    (hdb : (os x == ("__debug__" : PySem.Str)) = false := by decide)
    (hpl : ((backTo pos (starEach [] X.env)).any (·.1) || (backToKw pos (keywordEach kws X.env)).any (·.1.isNone)) = false := by rfl) (hK : X.K = K := by rfl) (hM : X.mg = mg := by rfl) :
    JE X (.Call (.Name (os x) p) [] kws pos) (tCall (spM K mg false m) [] E0 (tPk 0 ks.length pm tNil tk)) (fCall m (aPk 0 ks.length pm aNil fk)) := by
  subst hK hM
  exact ⟨pe_callN0 h.ok (hr.mono hj) hg h.g h.kp hb hw.pk hall hks hdb hpl, re_call (ra_pk ra_nil hw.ra)⟩
theorem km_methN {K : PySem.W.Frag} {mg : Mg} (h : KnM X.prog X.w K mg X.base C f fd cn mn ps false k m) (hb : KwB K fd ps ks (n + 1) (0 :: pm.map Nat.succ)) (hr : Room j X.A) (he : JE X o to fo) (ha : JA X (e :: es) t fa) (hw : JK X kws tk fk) (hj : k ≤ j := by decide)
    (hall : (backToKw pos (keywordEach kws X.env)).all (·.1.isSome) = true := by rfl) (hks : (backToKw pos (keywordEach kws X.env)).filterMap (·.1) = ks := by rfl)
    (hst : starEach (e :: es) X.env = (false, eval e X.env) :: starEach es X.env := by rfl)
    (hpl : ((backTo pos (starEach (e :: es) X.env)).any (·.1) || (backToKw pos (keywordEach kws X.env)).any (·.1.isNone)) = false := by rfl)
    (ht : eval (.Call (.Attribute o (os mn) apos) (e :: es) kws pos) X.env = (do
      let ov ← eval o X.env
      standAt apos.atName
      let (f, first) ← holding [ov] (getMethod ov (os mn) pl)
      callWith pos f first (backTo pos (starEach (e :: es) X.env)) (backToKw pos (keywordEach kws X.env))) := by rfl) (hK : X.K = K := by rfl) (hM : X.mg = mg := by rfl) :
    JE X (.Call (.Attribute o (os mn) apos) (e :: es) kws pos) (tMeth C (os mn) (spM K mg false m) [] E0 to (tPk n ks.length pm t tk)) (fMeth cn mn m fo (aPk n ks.length pm fa fk)) := by
  subst hK hM
  exact ⟨pe_methN he.pe h.cl h.me h.ok (hr.mono hj) hb ha.pa hw.pk hall hks hst hpl ht, re_meth h.g he.re (ra_pk ha.ra hw.ra)⟩
theorem km_methN0 {K : PySem.W.Frag} {mg : Mg} (h : KnM X.prog X.w K mg X.base C f fd cn mn ps false k m) (hb : KwB K fd ps ks 1 (0 :: pm.map Nat.succ)) (hr : Room j X.A) (he : JE X o to fo) (hw : JK X kws tk fk) (hj : k ≤ j := by decide)
    (hall : (backToKw pos (keywordEach kws X.env)).all (·.1.isSome) = true := by rfl) (hks : (backToKw pos (keywordEach kws X.env)).filterMap (·.1) = ks := by rfl)
    (hpl : ((backTo pos (starEach [] X.env)).any (·.1) || (backToKw pos (keywordEach kws X.env)).any (·.1.isNone)) = false := by rfl)
    (ht : eval (.Call (.Attribute o (os mn) apos) [] kws pos) X.env = (do
      let ov ← eval o X.env
      standAt apos.atName
      let (f, first) ← holding [ov] (getMethod ov (os mn) pl)
      callWith pos f first (backTo pos (starEach [] X.env)) (backToKw pos (keywordEach kws X.env))) := by rfl) (hK : X.K = K := by rfl) (hM : X.mg = mg := by rfl) :
    JE X (.Call (.Attribute o (os mn) apos) [] kws pos) (tMeth C (os mn) (spM K mg false m) [] E0 to (tPk 0 ks.length pm tNil tk)) (fMeth cn mn m fo (aPk 0 ks.length pm aNil fk)) := by
  subst hK hM
  exact ⟨pe_methN0 he.pe h.cl h.me h.ok (hr.mono hj) hb hw.pk hall hks hpl ht, re_meth h.g he.re (ra_pk ra_nil hw.ra)⟩
theorem km_methNIo {K : PySem.W.Frag} {mg : Mg} (h : KnM X.prog X.w K mg X.base C f fd cn mn ps true k m) (hb : KwB K fd ps ks (n + 1) (0 :: pm.map Nat.succ)) (hr : Room j X.A) (he : JE X o to fo) (ha : JA X (e :: es) t fa) (hw : JK X kws tk fk) (hj : k ≤ j := by decide)
    (hall : (backToKw pos (keywordEach kws X.env)).all (·.1.isSome) = true := by rfl) (hks : (backToKw pos (keywordEach kws X.env)).filterMap (·.1) = ks := by rfl)
    (hst : starEach (e :: es) X.env = (false, eval e X.env) :: starEach es X.env := by rfl)
    (hpl : ((backTo pos (starEach (e :: es) X.env)).any (·.1) || (backToKw pos (keywordEach kws X.env)).any (·.1.isNone)) = false := by rfl)
    (ht : eval (.Call (.Attribute o (os mn) apos) (e :: es) kws pos) X.env = (do
      let ov ← eval o X.env
      standAt apos.atName
      let (f, first) ← holding [ov] (getMethod ov (os mn) pl)
      callWith pos f first (backTo pos (starEach (e :: es) X.env)) (backToKw pos (keywordEach kws X.env))) := by rfl) (hK : X.K = K := by rfl) (hM : X.mg = mg := by rfl) :
    JE X (.Call (.Attribute o (os mn) apos) (e :: es) kws pos) (tMeth C (os mn) (spM K mg true m) [] E0 to (tPk n ks.length pm t tk)) (fMethIo cn mn m fo (aPk n ks.length pm fa fk)) := by
  subst hK hM
  exact ⟨pe_methN he.pe h.cl h.me h.ok (hr.mono hj) hb ha.pa hw.pk hall hks hst hpl ht, re_methIo h.g he.re (ra_pk ha.ra hw.ra)⟩
theorem km_methN0Io {K : PySem.W.Frag} {mg : Mg} (h : KnM X.prog X.w K mg X.base C f fd cn mn ps true k m) (hb : KwB K fd ps ks 1 (0 :: pm.map Nat.succ)) (hr : Room j X.A) (he : JE X o to fo) (hw : JK X kws tk fk) (hj : k ≤ j := by decide)
    (hall : (backToKw pos (keywordEach kws X.env)).all (·.1.isSome) = true := by rfl) (hks : (backToKw pos (keywordEach kws X.env)).filterMap (·.1) = ks := by rfl)
    (hpl : ((backTo pos (starEach [] X.env)).any (·.1) || (backToKw pos (keywordEach kws X.env)).any (·.1.isNone)) = false := by rfl)
    (ht : eval (.Call (.Attribute o (os mn) apos) [] kws pos) X.env = (do
      let ov ← eval o X.env
      standAt apos.atName
      let (f, first) ← holding [ov] (getMethod ov (os mn) pl)
      callWith pos f first (backTo pos (starEach [] X.env)) (backToKw pos (keywordEach kws X.env))) := by rfl) (hK : X.K = K := by rfl) (hM : X.mg = mg := by rfl) :
    JE X (.Call (.Attribute o (os mn) apos) [] kws pos) (tMeth C (os mn) (spM K mg true m) [] E0 to (tPk 0 ks.length pm tNil tk)) (fMethIo cn mn m fo (aPk 0 ks.length pm aNil fk)) := by
  subst hK hM
  exact ⟨pe_methN0 he.pe h.cl h.me h.ok (hr.mono hj) hb hw.pk hall hks hpl ht, re_methIo h.g he.re (ra_pk ra_nil hw.ra)⟩
theorem kc_makeN {K : PySem.W.Frag} {mg : Mg} (h : KnC X.prog X.w K mg X.base C f fd cn ps k m) (hb : KwB K fd ps ks (n + 1) (0 :: pm.map Nat.succ)) (hr : Room j X.A) (ha : JA X (e :: es) t fa) (hw : JK X kws tk fk) (hj : k + 1 ≤ j := by decide) (hg : Gl X (os cn) := by rfl)
    (hall : (backToKw pos (keywordEach kws X.env)).all (·.1.isSome) = true := by rfl) (hks : (backToKw pos (keywordEach kws X.env)).filterMap (·.1) = ks := by rfl)
    (hdb : (os cn == ("__debug__" : PySem.Str)) = false := by decide) (he : starEach (e :: es) X.env = (false, eval e X.env) :: starEach es X.env := by rfl)
    (hpl : ((backTo pos (starEach (e :: es) X.env)).any (·.1) || (backToKw pos (keywordEach kws X.env)).any (·.1.isNone)) = false := by rfl) (hK : X.K = K := by rfl) (hM : X.mg = mg := by rfl) :
    JE X (.Call (.Name (os cn) p) (e :: es) kws pos) (tMake C (spM K mg true m) [] E0 (tPk n ks.length pm t tk)) (fMake cn m (aPk n ks.length pm fa fk)) := by
  subst hK hM
  exact ⟨pe_mkN h.cm h.ok (hr.mono hj) hg h.g hb ha.pa hw.pk hall hks hdb he hpl, re_make h.g (ra_pk ha.ra hw.ra)⟩
theorem kc_makeN0 {K : PySem.W.Frag} {mg : Mg} (h : KnC X.prog X.w K mg X.base C f fd cn ps k m) (hb : KwB K fd ps ks 1 (0 :: pm.map Nat.succ)) (hr : Room j X.A) (hw : JK X kws tk fk) (hj : k + 1 ≤ j := by decide) (hg : Gl X (os cn) := by rfl)
    (hall : (backToKw pos (keywordEach kws X.env)).all (·.1.isSome) = true := by rfl) (hks : (backToKw pos (keywordEach kws X.env)).filterMap (·.1) = ks := by rfl)
    (hdb : (os cn == ("__debug__" : PySem.Str)) = false := by decide)
    (hpl : ((backTo pos (starEach [] X.env)).any (·.1) || (backToKw pos (keywordEach kws X.env)).any (·.1.isNone)) = false := by rfl) (hK : X.K = K := by rfl) (hM : X.mg = mg := by rfl) :
    JE X (.Call (.Name (os cn) p) [] kws pos) (tMake C (spM K mg true m) [] E0 (tPk 0 ks.length pm tNil tk)) (fMake cn m (aPk 0 ks.length pm aNil fk)) := by
  subst hK hM
  exact ⟨pe_mkN0 h.cm h.ok (hr.mono hj) hg h.g hb hw.pk hall hks hdb hpl, re_make h.g (ra_pk ra_nil hw.ra)⟩
end
theorem kwb_mk {K : PySem.W.Frag} {x qual : PySem.Str} {st : Stmt} {f : Addr} {fd : FuncData} {ps ks : List PySem.Str} {n : Nat} {pm : List Nat} (F : Fun K x qual st f fd)
    (h : ∀ (kV doc pmV : Value) (an : Option Addr) (cdv ct : Value) (us ws : List Value), us.length = n → ws.length = ks.length → bindArgs (PySem.W.fnOf x qual (defArgs st) (defBody st) (defScope st) .none kV doc pmV an cdv ct) ⟨us, ks.zip ws⟩ = pure (ps.zip (pk pm (us ++ ws)))) : KwB K fd ps ks n pm := by
  obtain ⟨oc, od, kV, doc, pmV, an, cdv, ct, osl, rfl, lk, hcd⟩ := F.ex
  exact fun s us ws _ l1 l2 => .of_eq (h kV doc pmV an cdv ct us ws l1 l2)
end J
namespace J
open PySem PySem.Spec PyProof.Rows L2

/-! ### operators of own classes -/
def rM (C : Addr) (sp : Sp) : R2 := fun x y H Q => ∃ a b dx dy fs gs, x = .ref a ∧ y = .ref b ∧ H a = some (.ins C dx fs) ∧ H b = some (.ins C dy gs) ∧ sp [x, y] H Q E0
section
variable {X : Cx} {k : Nat} {f C : Addr} {fd : FuncData} {ps : List PySem.Str} {sp : Sp}
theorem back_of {pins : List (Addr × Obj)} {σ : L2.St} {Q : VK} {u : Value} {s' : Shared} (h : EP X pins σ Q u s') : PySem.W.CmpBack (EP X pins σ Q) u s' := by
  obtain ⟨v, H', I', r, q⟩ := id h
  cases u <;> first | exact h | skip
  cases v <;> first | (cases r; done) | (obtain ⟨_, r⟩ := r; cases r; done)
theorem run_opM {pins : List (Addr × Obj)} {σ : L2.St} {H : Hp} {s : Shared} {Q : VK} {a b : Addr} (F : FnOk X.prog X.w X.K X.mg X.base CX0 k f fd ps sp) (hr : Room k X.A) (hb : Binds X.K fd ps [])
    (I : Inv X pins σ H s) (h : sp [.ref a, .ref b] H Q E0) : wpAny (model X.prog X.w) X.A (call (.ref f) [.ref a, .ref b]) (PySem.W.CmpBack (EP X pins σ Q)) X.xe s :=
  wpAny_mono (run_fn (us := [.ref a, .ref b]) (vs := [.ref a, .ref b]) F hr hb .nil pass0 I (.cons rfl (.cons rfl .nil)) (by rw [List.append_nil]; exact h)) (fun u s' h => back_of h) fun _ _ e => e
theorem op_cmpM {op : CmpOp} (F : FnOk X.prog X.w X.K X.mg X.base CX0 k f fd ps sp) (hr : Room k X.A) (hb : Binds X.K fd ps []) (hs : PySem.W.findIn X.K (.ref C) (cmpInfo op).2.1 = some (some (.ref f))) (hf : PySem.W.isFn X.K (.ref f) = true)
    (ho : ∀ a b, compareOp op a b = richCompare op a b) : OpR X (compareOp op) (rM C sp) := by
  intro pins s σ H x y v u Q I rx ry h
  obtain ⟨a, b, dx, dy, fs, gs, rfl, rfl, ha, hb', hsp⟩ := h
  cases rx
  cases ry
  obtain ⟨mA, J, _⟩ := ins_get I.hok ha
  obtain ⟨mB, J', _⟩ := ins_get I.hok hb'
  obtain ⟨od, J, _⟩ := J.look
  obtain ⟨od', J', _⟩ := J'.look
  rw [ho]
  obtain ⟨_, hF⟩ := I.fr
  exact PySem.W.cmp_K (op := op) (tb := .ref C) hr.units0 hF I.ok.mod.kin J J'.type (by simp [PySem.W.notFirst]) hs hf (run_opM F hr hb I hsp)
theorem op_binM {op : Operator} (F : FnOk X.prog X.w X.K X.mg X.base CX0 k f fd ps sp) (hr : Room k X.A) (hb : Binds X.K fd ps []) (hs : PySem.W.findIn X.K (.ref C) (PySem.dunder op.info.2) = some (some (.ref f))) (hf : PySem.W.isFn X.K (.ref f) = true)
    (hc : PySem.W.selfFirst X.K C = true) : OpR X (binaryOp op) (rM C sp) := by
  intro pins s σ H x y v u Q I rx ry h
  obtain ⟨a, b, dx, dy, fs, gs, rfl, rfl, ha, hb', hsp⟩ := h
  cases rx
  cases ry
  obtain ⟨mA, J, _⟩ := ins_get I.hok ha
  obtain ⟨mB, J', _⟩ := ins_get I.hok hb'
  obtain ⟨od, J, _⟩ := J.look
  obtain ⟨od', J', _⟩ := J'.look
  obtain ⟨_, hF⟩ := I.fr
  exact PySem.W.binop_K hF I.ok.mod.kin J J'.type hc hs hf (run_opM F hr hb I hsp)
end
section
variable {prog : Program} {w : World} {A : Around} {E : Value → Shared → Prop} {s : Shared} {K : PySem.W.Frag} {x C L f : Addr} {h₀ : Heap} {m : PySem.Str → Option Value} {ox : Obj} {od : Option Obj} {b : Value}
open PySem.W PySem.Calls Builtin in
theorem ne_entry {Q : Fin → Shared → Prop} (X : K.In s.heap) (I : InstAt s.heap x ox C od) (hs : findIn K (.ref C) "__eq__" = some (some (.ref f))) (hf : isFn K (.ref f) = true) (hu : A.units < cLine)
    (h : wpAny (model prog w) A (call (.ref f) [.ref x, b]) (fun v s' => ∃ r, v = .bool r ∧ Q (.done (.ret (.bool (!r)))) s') E s) : wpAny (model prog w) A (Builtin.«object.__ne__» ⟨[.ref x, b], []⟩) Q E s := by
  unfold Builtin.«object.__ne__»
  repeat (first
    | with_reducible refine wpAny_cRoomFor hu ?_
    | (refine wpAny_bind (m := callSpecialIfBound? (.ref x) (PySem.Str.ofString "__eq__") [b]) (ifBound_K X I hs hf (wpAny_mono h (fun r s' hr => by
          obtain ⟨r, rfl, hq⟩ := hr
          repeat (first | exact hq | exact wpAny_pure hq | exact wpAny_truthy_bool hq | (refine wpAny_bind (m := truthy (.bool _)) (wpAny_truthy_bool ?_)) | wp_step)) fun _ _ e => e)))
    | wp_step)
open PySem.W PySem.Calls Builtin in
theorem ne_try {Q : Option Value → Shared → Prop} (X : K.In s.heap) (I : InstAt s.heap x ox C od) (hn : findIn K (.ref C) "__ne__" = some (some (.builtin "object.__ne__"))) (ho : subIn K (.ref C) (.type "object") = some true)
    (hs : findIn K (.ref C) "__eq__" = some (some (.ref f))) (hf : isFn K (.ref f) = true) (hu : A.units + 1 < cLine)
    (h : wpAny (model prog w) A.in1 (call (.ref f) [.ref x, b]) (fun v s' => ∃ r, v = .bool r ∧ Q (some (.bool (!r))) s') E s) : wpAny (model prog w) A (tryCompare (.ref x) "__ne__" b) Q E s := by
  unfold tryCompare
  have S := PySem.F.cmp_object.ne
  have hcall : wpAny (model prog w) A (call (.builtin "object.__ne__") [.ref x, b]) (fun v s' => ∃ r, v = .bool r ∧ Q (some (.bool r)) s') E s := by
    refine wpAny_call (codeAny_call_builtin S.plain PySem.F.cmpEntry_ne ?_)
    simp only [checkBuiltinCall, PySem.F.cmpKind_ne, PySem.F.cmpSplit_ne]
    refine wpAny_bind ?_
    unfold isInstance
    refine wpAny_bind (I.type.here ((looks_subIn X ho).here ?_))
    rw [if_neg (by decide)]
    have fin : wpAny (model prog w) A.in1 (Builtin.«object.__ne__» ⟨[.ref x, b], []⟩) (fun fin s' => match fin with
        | .done (.ret v) => ∃ r, v = .bool r ∧ Q (some (.bool r)) s'
        | _ => False) E s := ne_entry X I hs hf (by exact hu) (wpAny_mono h (fun v s' ⟨r, e, q⟩ => ⟨r, e, _, rfl, q⟩) fun _ _ e => e)
    have ha := PySem.F.cmpArgs_ne (.ref x) b
    unfold argsOk at ha
    split at ha
    · rename_i sig hsig
      simp only [hsig]
      rw [show Bind.checkArgs "object.__ne__" sig ⟨[.ref x, b], []⟩ = pure () from ha]
      refine wpAny_pure (wpAny_mono fin (fun r s' z => ?_) fun _ _ e => e)
      split at z
      · exact z
      · cases z
    · rename_i hsig
      simp only [hsig]
      refine wpAny_pure (wpAny_mono fin (fun r s' z => ?_) fun _ _ e => e)
      split at z
      · exact z
      · cases z
  simp only [callSpecialIfBound?, bindSpecialIfBound?]
  refine wpAny_bind (wpAny_holding (wpAny_bind (wpAny_bind (wpAny_bind (I.type.here ((looks_findIn X hn).here ?_))))))
  simp only [S.bind]
  refine wpAny_bind (wpAny_askSetting (wpAny_ite ?_))
  split
  · exact wpAny_bind (wpAny_pure (wpAny_pure (wpAny_bind (wpAny_mono hcall (fun v s' ⟨r, e, q⟩ => by subst e; exact wpAny_pure (wpAny_pure q)) fun _ _ e => e))))
  · exact wpAny_tryCatch (wpAny_bind (wpAny_pure (wpAny_pure (wpAny_bind (wpAny_mono hcall (fun v s' ⟨r, e, q⟩ => by subst e; exact wpAny_pure (wpAny_pure q)) fun _ _ e => e)))))
open PySem.W in
theorem ne_rich {Q : Value → Shared → Prop} (X : K.In s.heap) (I : InstAt s.heap x ox C od) (hb : Looks (model prog w) s.heap (typeOf b) (.ref C)) (hn : findIn K (.ref C) "__ne__" = some (some (.builtin "object.__ne__"))) (ho : subIn K (.ref C) (.type "object") = some true)
    (hs : findIn K (.ref C) "__eq__" = some (some (.ref f))) (hf : isFn K (.ref f) = true) (hu : A.units + 1 < cLine)
    (h : wpAny (model prog w) A.in1 (call (.ref f) [.ref x, b]) (fun v s' => ∃ r, v = .bool r ∧ Q (.bool (!r)) s') E s) : wpAny (model prog w) A (richCompare .NotEq (.ref x) b) Q E s := by
  have one : wpAny (model prog w) A (tryCompare (.ref x) "__ne__" b) (fun r s' => ∃ v, r = some v ∧ Q v s') E s :=
    ne_try X I hn ho hs hf hu (wpAny_mono h (fun v s' ⟨r, e, q⟩ => ⟨r, e, _, rfl, q⟩) fun _ _ e => e)
  unfold richCompare
  simp only [oneThing_ref]
  refine wpAny_holding (wpAny_bind (wpAny_cRoomFor (by omega) ?_))
  rw [cmpInfo_NotEq]
  refine wpAny_bind (I.type.here (wpAny_bind (hb.here ?_)))
  rw [show (Value.ref C != Value.ref C) = false from by simp]
  simp only [Bool.false_eq_true, if_false]
  refine wpAny_bind (wpAny_pure ?_)
  simp only [Bool.false_eq_true, if_false]
  refine wpAny_bind (wpAny_mono one (fun r s' z => ?_) fun _ _ e => e)
  obtain ⟨v, rfl, hq⟩ := z
  exact wpAny_pure hq
end
/-- !=, by the own == -/
def rMn (C : Addr) (sp : Sp) : R2 := fun x y H Q => ∃ a b dx dy fs gs, x = .ref a ∧ y = .ref b ∧ H a = some (.ins C dx fs) ∧ H b = some (.ins C dy gs) ∧ sp [x, y] H (fun v H' => ∃ r, v = .bl r ∧ Q (.bl (!r)) H') E0
section
variable {X : Cx} {k : Nat} {f C : Addr} {fd : FuncData} {ps : List PySem.Str} {sp : Sp}
theorem run_opAt {A : Around} {pins : List (Addr × Obj)} {σ : L2.St} {H : Hp} {s : Shared} {Q : VK} {a b : Addr} (F : FnOk X.prog X.w X.K X.mg X.base CX0 k f fd ps sp) (hr : Room k A) (fr : A.frames = X.A.frames) (hb : Binds X.K fd ps [])
    (I : Inv X pins σ H s) (h : sp [.ref a, .ref b] H Q E0) : wpAny (model X.prog X.w) A (call (.ref f) [.ref a, .ref b]) (EP X pins σ Q) X.xe s := by
  have e0 : Env0 X.prog X.w X.K X.mg X.base A X.stack s H := by
    have e := I.env0
    exact ⟨by rw [fr]; exact e.frames, e.mod, e.bs, e.bsz, e.funs, e.frf, e.hok, e.bare⟩
  have hl := F.len _ _ _ _ h
  have r2 : Vals [V.ref a, V.ref b] [Value.ref a, Value.ref b] := .cons rfl (.cons rfl .nil)
  refine wpAny_call (codeAny_mono (F.run A X.stack s H ⟨[.ref a, .ref b], []⟩ [.ref a, .ref b] [.ref a, .ref b] _ E0 hr e0 (by
    have := hb s [.ref a, .ref b] I.kIn (by simpa using hl)
    simpa using this) r2 h) fun r s' hq => ?_)
  cases r with
  | error e => exact pass0 pins σ H s e s' I hq
  | ok fl =>
    cases fl with
    | ret w => exact I.after hq
    | next => exact False.elim hq
    | brk => exact False.elim hq
    | cont => exact False.elim hq
theorem op_neM (F : FnOk X.prog X.w X.K X.mg X.base CX0 k f fd ps sp) (hr : Room (k + 1) X.A) (hb : Binds X.K fd ps []) (hn : PySem.W.findIn X.K (.ref C) "__ne__" = some (some (.builtin "object.__ne__"))) (ho : PySem.W.subIn X.K (.ref C) (.type "object") = some true)
    (hs : PySem.W.findIn X.K (.ref C) "__eq__" = some (some (.ref f))) (hf : PySem.W.isFn X.K (.ref f) = true) : OpR X (compareOp .NotEq) (rMn C sp) := by
  intro pins s σ H x y v u Q I rx ry h
  obtain ⟨a, b, dx, dy, fs, gs, rfl, rfl, ha, hb', hsp⟩ := h
  cases rx
  cases ry
  obtain ⟨mA, J, _⟩ := ins_get I.hok ha
  obtain ⟨mB, J', _⟩ := ins_get I.hok hb'
  obtain ⟨od, J, _⟩ := J.look
  obtain ⟨od', J', _⟩ := J'.look
  show wpAny (model X.prog X.w) X.A (richCompare .NotEq (.ref a) (.ref b)) _ _ s
  refine ne_rich I.kIn J J'.type hn ho hs hf (by have := hr.units; omega) (wpAny_mono (run_opAt F hr.in1 rfl hb I hsp) (fun v s' h => ?_) fun _ _ e => e)
  obtain ⟨z, H', I', r, t, e, q⟩ := h
  subst e
  cases r
  exact ⟨t, rfl, .bl (!t), H', I', rfl, q⟩
end

/-! #### their mirrors: both operands are put away -/
def fBinF (g : G2) (fa fb : FE) (τ : Tau) : Option (Op × Tau) := (fa τ).bind fun a => (fz a.2 a.1).bind fun d => (fb d.2).bind fun b => (fz b.2 b.1).bind fun e => (g d.1 e.1).bind fun z => some (z, e.2)
def gM2 (cn : String) (m : Mir) (d e : D) : Option Op := if insC cn d = true ∧ insC cn e = true then (m [d, e]).bind fun r => some (mkOp r.1 r.2.1) else none
def gEqM (cn : String) (m : Mir) (d e : D) : Option Op := if insC cn d = true ∧ insC cn e = true then (m [d, e]).bind fun r => some (mkOp r.1 r.2.1) else gEq d e
def gNeM (cn : String) (m : Mir) (d e : D) : Option Op := if insC cn d = true ∧ insC cn e = true then (m [d, e]).bind fun r => match r with
    | (false, .bl b, _) => some (.val (.bl !b))
    | _ => none
  else gNe d e
def RBF (K : PySem.W.Frag) (mg : Mg) (r : R2) (g : G2) : Prop := ∀ (G H : Hp) (x y : V) (d e : D) (op : Op) (Q : VK), Same G H → Rp K mg G x d → Rp K mg G y e → g d e = some op →
  (∀ v G' H', Nw K mg G H G' H' → On K mg H G' H' v op → Q v H') → r x y H Q
section
variable {K : PySem.W.Frag} {mg : Mg} {ta tb : TE} {fa fb : FE} {m : Mir} {cn : String} {C : Addr}
theorem re_binF {r : R2} {g : G2} (hr : RBF K mg r g) (ha : RE K mg ta fa) (hb : RE K mg tb fb) : RE K mg (tOp r ta tb) (fBinF g fa fb) := fun σ τ G H op τ' Q A e q => by
  obtain ⟨⟨oa, τ1⟩, e1, e⟩ := bind_some' e
  obtain ⟨⟨d, τ2⟩, e2, e⟩ := bind_some' e
  obtain ⟨⟨ob, τ3⟩, e3, e⟩ := bind_some' e
  obtain ⟨⟨d', τ4⟩, e4, e⟩ := bind_some' e
  obtain ⟨z, e5, e⟩ := bind_some' e
  cases e
  refine ha σ τ G H oa τ1 _ A e1 fun x G1 H1 g1 o1 => ?_
  obtain ⟨G2, g2, s2, r2⟩ := o1.fz g1 e2
  refine hb σ τ2 G2 H1 ob τ3 _ g2.at' e3 fun y G3 H3 g3 o3 => ?_
  obtain ⟨G4, g4, s4, r4⟩ := o3.fz g3 e4
  have g := g2.trans g4
  exact hr G4 H3 x y d d' _ Q g4.at'.gh (r2.mono g4.gg) r4 e5 fun v G5 H5 n o => q v G5 H5 (g.trans (n.go g4.at')) ((o.or g4.at').weak g.kp)
theorem nw_of_bk {vs : List V} {G H G' H' : Hp} {own : Bool} {z z0 : D} {v : V} (B : Bk K mg false vs G H own z z0 v G' H') : Nw K mg G H G' H' :=
  ⟨B.gg, fun b o h => B.hh b o (fun ⟨z, _⟩ => nomatch z) h, B.gh, fun b o h g => B.gf b o (fun ⟨z, _⟩ => nomatch z) h g⟩
theorem on_of_rs {H G' H' : Hp} {own : Bool} {z : D} {v : V} (r : Rs K mg H G' H' v own z) : On K mg H G' H' v (mkOp own z) := by
  cases r with
  | old r => exact .val r
  | new e a1 a2 a3 a4 => subst e; exact .tmp a1 a2 a3 a4
theorem both_ins {G H : Hp} {x y : V} {d e : D} (gC : mg (os cn) = some (.ref C)) (s : Same G H) (r1 : Rp K mg G x d) (r2 : Rp K mg G y e) (h : insC cn d = true ∧ insC cn e = true) :
    ∃ a b dx dy fs gs, x = .ref a ∧ y = .ref b ∧ H a = some (.ins C dx fs) ∧ H b = some (.ins C dy gs) := by
  obtain ⟨a, dx, fs, rfl, ha⟩ := insC_ok gC s (Pk.frz r1 : Pk K mg G H x d) h.1
  obtain ⟨b, dy, gs, rfl, hb⟩ := insC_ok gC s (Pk.frz r2 : Pk K mg G H y e) h.2
  exact ⟨a, b, dx, dy, fs, gs, rfl, rfl, ha, hb⟩
theorem sp_both {G H : Hp} {x y : V} {d e : D} {op : Op} {Q : VK} (s : Same G H) (r1 : Rp K mg G x d) (r2 : Rp K mg G y e) (h : ((m [d, e]).bind fun r => some (mkOp r.1 r.2.1)) = some op)
    (q : ∀ v G' H', Nw K mg G H G' H' → On K mg H G' H' v op → Q v H') : spM K mg false m [x, y] H Q E0 := by
  obtain ⟨⟨own, z, z0⟩, e1, h⟩ := bind_some' h
  cases h
  exact ⟨G, [d, e], own, z, z0, s, .pure (.cons r1 (.cons r2 .nil)), e1, fun v G' H' B => q v G' H' (nw_of_bk B) (on_of_rs B.rs)⟩
theorem rb_M2 (gC : mg (os cn) = some (.ref C)) : RBF K mg (rM C (spM K mg false m)) (gM2 cn m) := fun G H x y d e op Q s r1 r2 eq q => by
  obtain ⟨hi, eq⟩ := if_get' eq
  obtain ⟨a, b, dx, dy, fs, gs, hx, hy, ha, hb⟩ := both_ins gC s r1 r2 hi
  exact ⟨a, b, dx, dy, fs, gs, hx, hy, ha, hb, sp_both s r1 r2 eq q⟩
def rOr (r r' : R2) : R2 := fun x y H Q => r x y H Q ∨ r' x y H Q
theorem rb_eqM (gC : mg (os cn) = some (.ref C)) : RBF K mg (rOr (rM C (spM K mg false m)) (rEqD K)) (gEqM cn m) := fun G H x y d e op Q s r1 r2 eq q => by
  unfold gEqM at eq
  by_cases hi : insC cn d = true ∧ insC cn e = true
  · rw [if_pos hi] at eq
    obtain ⟨a, b, dx, dy, fs, gs, hx, hy, ha, hb⟩ := both_ins gC s r1 r2 hi
    exact .inl ⟨a, b, dx, dy, fs, gs, hx, hy, ha, hb, sp_both s r1 r2 eq q⟩
  · rw [if_neg hi] at eq
    exact .inr (rb_eq G H x y d e op Q s (.frz r1) (.frz r2) eq q)
theorem rb_neM (gC : mg (os cn) = some (.ref C)) : RBF K mg (rOr (rMn C (spM K mg false m)) (rNeD K)) (gNeM cn m) := fun G H x y d e op Q s r1 r2 eq q => by
  unfold gNeM at eq
  by_cases hi : insC cn d = true ∧ insC cn e = true
  · rw [if_pos hi] at eq
    obtain ⟨a, b, dx, dy, fs, gs, hx, hy, ha, hb⟩ := both_ins gC s r1 r2 hi
    obtain ⟨r, e1, eq⟩ := bind_some' eq
    split at eq
    · rename_i b0 z0
      cases eq
      refine .inl ⟨a, b, dx, dy, fs, gs, hx, hy, ha, hb, G, [d, e], false, .bl b0, z0, s, .pure (.cons r1 (.cons r2 .nil)), e1, fun v G' H' B => ?_⟩
      have hr := B.rs
      cases hr with
      | old r => cases r; exact ⟨b0, rfl, q _ G' H' (nw_of_bk B) (.val (.bl _))⟩
    · cases eq
  · rw [if_neg hi] at eq
    exact .inr (rb_ne G H x y d e op Q s (.frz r1) (.frz r2) eq q)
end
theorem op_or {X : Cx} {op : Value → Value → Sem Value} {r r' : R2} (h : OpR X op r) (h' : OpR X op r') : OpR X op (rOr r r') := fun pins s σ H x y v u Q I rx ry z => z.elim (h pins s σ H x y v u Q I rx ry) (h' pins s σ H x y v u Q I rx ry)
section
variable {X : Cx} {k j : Nat} {ps : List PySem.Str} {m : Mir} {C f : Addr} {fd : FuncData} {cn mn : String} {pos : Pos} {a b : Expr} {ta tb : TE} {fa fb : FE}
theorem km_eq {K : PySem.W.Frag} {mg : Mg} (h : KnM X.prog X.w K mg X.base C f fd cn "__eq__" ps false k m) (hr : Room j X.A) (ha : JE X a ta fa) (hb : JE X b tb fb) (hj : k ≤ j := by decide) (hK : X.K = K := by rfl) (hM : X.mg = mg := by rfl) :
    JE X (.Compare a [.Eq] [b] pos) (tOp (rOr (rM C (spM K mg false m)) (rEqD K)) ta tb) (fBinF (gEqM cn m) fa fb) := by
  subst hK hM
  exact ⟨pe_cmpR (op_or (op_cmpM (op := .Eq) h.ok (hr.mono hj) h.bi h.me.at_ h.me.fn fun _ _ => rfl) (op_eqD hr.units)) ha.pe hb.pe (nomark _), re_binF (rb_eqM h.g) ha.re hb.re⟩
theorem km_eqT {K : PySem.W.Frag} {mg : Mg} (h : KnM X.prog X.w K mg X.base C f fd cn "__eq__" ps false k m) (hr : Room j X.A) (ha : JE X a ta fa) (hb : JE X b tb fb) (hj : k ≤ j := by decide) (hK : X.K = K := by rfl) (hM : X.mg = mg := by rfl) :
    JT X (.Compare a [.Eq] [b] pos) (tTest (tOp (rOr (rM C (spM K mg false m)) (rEqD K)) ta tb)) (fTB (fBinF (gEqM cn m) fa fb)) := by
  subst hK hM
  exact ⟨pt_cmpR (op_or (op_cmpM (op := .Eq) h.ok (hr.mono hj) h.bi h.me.at_ h.me.fn fun _ _ => rfl) (op_eqD hr.units)) ha.pe hb.pe (nomark _), re_testE (re_binF (rb_eqM h.g) ha.re hb.re)⟩
/-- a class without an own != -/
structure NeOk (K : PySem.W.Frag) (mg : Mg) (cn : String) : Prop where
  ne : ∀ C, mg (os cn) = some (.ref C) → PySem.W.findIn K (.ref C) "__ne__" = some (some (.builtin "object.__ne__")) ∧ PySem.W.subIn K (.ref C) (.type "object") = some true
theorem km_ne {K : PySem.W.Frag} {mg : Mg} (N : NeOk K mg cn) (h : KnM X.prog X.w K mg X.base C f fd cn "__eq__" ps false k m) (hr : Room j X.A) (ha : JE X a ta fa) (hb : JE X b tb fb) (hj : k + 1 ≤ j := by decide) (hK : X.K = K := by rfl) (hM : X.mg = mg := by rfl) :
    JE X (.Compare a [.NotEq] [b] pos) (tOp (rOr (rMn C (spM K mg false m)) (rNeD K)) ta tb) (fBinF (gNeM cn m) fa fb) := by
  subst hK hM
  exact ⟨pe_cmpR (op_or (op_neM h.ok (hr.mono hj) h.bi (N.ne C h.g).1 (N.ne C h.g).2 h.me.at_ h.me.fn) (op_neD hr.units)) ha.pe hb.pe (nomark _), re_binF (rb_neM h.g) ha.re hb.re⟩
theorem km_neT {K : PySem.W.Frag} {mg : Mg} (N : NeOk K mg cn) (h : KnM X.prog X.w K mg X.base C f fd cn "__eq__" ps false k m) (hr : Room j X.A) (ha : JE X a ta fa) (hb : JE X b tb fb) (hj : k + 1 ≤ j := by decide) (hK : X.K = K := by rfl) (hM : X.mg = mg := by rfl) :
    JT X (.Compare a [.NotEq] [b] pos) (tTest (tOp (rOr (rMn C (spM K mg false m)) (rNeD K)) ta tb)) (fTB (fBinF (gNeM cn m) fa fb)) := by
  subst hK hM
  exact ⟨pt_cmpR (op_or (op_neM h.ok (hr.mono hj) h.bi (N.ne C h.g).1 (N.ne C h.g).2 h.me.at_ h.me.fn) (op_neD hr.units)) ha.pe hb.pe (nomark _), re_testE (re_binF (rb_neM h.g) ha.re hb.re)⟩
/-- a class whose own name stands first -/
structure SfOk (K : PySem.W.Frag) (mg : Mg) (cn : String) : Prop where
  sf : ∀ C, mg (os cn) = some (.ref C) → PySem.W.selfFirst K C = true
theorem km_op {op : Operator} {K : PySem.W.Frag} {mg : Mg} (N : SfOk K mg cn) (h : KnM X.prog X.w K mg X.base C f fd cn mn ps false k m) (hr : Room j X.A) (ha : JE X a ta fa) (hb : JE X b tb fb) (hm : PySem.dunder op.info.2 = os mn := by rfl) (hj : k ≤ j := by decide) (hK : X.K = K := by rfl) (hM : X.mg = mg := by rfl) :
    JE X (.BinOp a op b pos) (tOp (rM C (spM K mg false m)) ta tb) (fBinF (gM2 cn m) fa fb) := by
  subst hK hM
  exact ⟨pe_op (op_binM h.ok (hr.mono hj) h.bi (hm ▸ h.me.at_) h.me.fn (N.sf C h.g)) ha.pe hb.pe, re_binF (rb_M2 h.g) ha.re hb.re⟩
end
end J
namespace J
open PySem PySem.Spec PyProof.Rows L2

/-! ### isinstance of an own class -/
structure TyK (K : PySem.W.Frag) (C : Addr) : Prop where
  cl : Cls K C
  ha : PySem.W.findIn K (.ref C) "__class__" = some (some (.builtin "object.__class__"))
  hn : PySem.W.specialIn K (.builtin "object.__class__") "__get__" = some (some (.builtin "getset_descriptor.__get__"))
  ht : PySem.W.takesIn K (.builtin "object.__class__") = some true
  hm : PySem.W.mroIn K C (.type "object") = some true
structure IsOk (K : PySem.W.Frag) (mg : Mg) (cn : String) (yes no : List String) : Prop where
  cl : ∀ C, mg (os cn) = some (.ref C) → PySem.W.isClsIn K C = true ∧ PySem.W.typeIn K (.ref C) = some (.type "type")
  ye : ∀ C c C', mg (os cn) = some (.ref C) → c ∈ yes → mg (os c) = some (.ref C') → PySem.W.subIn K (.ref C') (.ref C) = some true
  ty : ∀ c C', c ∈ yes ∨ c ∈ no → mg (os c) = some (.ref C') → TyK K C'
  no : ∀ C c C', mg (os cn) = some (.ref C) → c ∈ no → mg (os c) = some (.ref C') → PySem.W.subIn K (.ref C') (.ref C) = some false ∧ C' ≠ C
def gIsC (yes no : List String) (d : D) : Option Op := match d with
  | .ins c _ => if c ∈ yes then some (.val (.bl true)) else if c ∈ no then some (.val (.bl false)) else none
  | _ => some (.val (.bl false))
def fIsC (yes no : List String) (fe : FE) (τ : Tau) : Option (Op × Tau) := fUn (gIsC yes no) fe τ
theorem kit_no {K : PySem.W.Frag} {C : Addr} {a : String} (h : PySem.W.isClsIn K C = true ∧ PySem.W.typeIn K (.ref C) = some (.type "type")) (ha : a ∈ ["NoneType", "bool", "int", "str", "list", "tuple", "dict"]) : PySem.W.kitOne K (.type a) (.ref C) = some false := by
  unfold PySem.W.kitOne
  rw [if_neg (by simp)]
  unfold PySem.W.kitCls
  have h1 := h.1
  unfold PySem.W.isClsIn at h1
  dsimp only
  rw [if_pos (by rw [h1, h.2]; rfl)]
  simp only [List.mem_cons, List.not_mem_nil, or_false] at ha
  rcases ha with rfl | rfl | rfl | rfl | rfl | rfl | rfl <;> rfl
theorem kit_own {K : PySem.W.Frag} {C C' : Addr} {b : Bool} (h : PySem.W.isClsIn K C = true ∧ PySem.W.typeIn K (.ref C) = some (.type "type")) (hs : PySem.W.subIn K (.ref C') (.ref C) = some b) (hb : b = false → C' ≠ C) : PySem.W.kitOne K (.ref C') (.ref C) = some b := by
  unfold PySem.W.kitOne
  by_cases e : C' = C
  · subst e
    rw [if_pos (by simp)]
    cases b
    · exact absurd rfl (hb rfl)
    · rfl
  · rw [if_neg (by simpa using e)]
    unfold PySem.W.kitCls
    have h1 := h.1
    unfold PySem.W.isClsIn at h1
    dsimp only
    rw [if_pos (by rw [h1, h.2]; rfl)]
    exact hs
section
variable {K : PySem.W.Frag} {mg : Mg} {te : TE} {fe : FE} {cn : String} {yes no : List String} {C : Addr}
theorem re_isC (N : IsOk K mg cn yes no) (gC : mg (os cn) = some (.ref C)) (he : RE K mg te fe) : RE K mg (tCB (rIsi K) (tCons te (tCons (tC (.ref C)) tNil))) (fIsC yes no fe) := fun σ τ G H op τ' Q A e q => by
  obtain ⟨⟨o, τ1⟩, e1, e⟩ := bind_some' e
  obtain ⟨d, e2, e⟩ := bind_some' e
  obtain ⟨z, e3, e⟩ := bind_some' e
  cases e
  refine he σ τ G H o _ _ A e1 fun x G1 H1 g1 o1 => ?_
  have p := o1.pk g1.at' e2
  have built : ∀ a, tyn d = some a → op = .val (.bl false) → (∀ v G' H', Go K mg σ τ G H τ1 G' H' → Or K mg H G' H' σ τ1 v op → Q v H') → rIsi K [x, .ref C] H1 Q := fun a ha ho q => by
    subst ho
    obtain ⟨t1, t2⟩ := tyx_of g1.at'.gh p ha
    exact ⟨x, .ref C, .type a, .ref C, false, rfl, .own C, t1, kit_no (N.cl C gC) t2, q _ G1 H1 g1 (.val (.bl _))⟩
  cases d with
  | ins c fs =>
    obtain ⟨a, C', dx, fs', rfl, hm, ha, _⟩ := p.ins g1.at'.gh
    unfold gIsC at e3
    dsimp only at e3
    by_cases hy : c ∈ yes
    · rw [if_pos hy] at e3
      cases e3
      have T := N.ty c C' (.inl hy) hm
      exact ⟨_, .ref C, .ref C', .ref C, true, rfl, .own C, .base (.ins ha T.cl T.ha T.hn T.ht T.hm), kit_own (N.cl C gC) (N.ye C c C' gC hy hm) (fun z => nomatch z), q _ G1 H1 g1 (.val (.bl _))⟩
    · rw [if_neg hy] at e3
      by_cases hn : c ∈ no
      · rw [if_pos hn] at e3
        cases e3
        have T := N.ty c C' (.inr hn) hm
        exact ⟨_, .ref C, .ref C', .ref C, false, rfl, .own C, .base (.ins ha T.cl T.ha T.hn T.ht T.hm), kit_own (N.cl C gC) (N.no C c C' gC hn hm).1 (fun _ => (N.no C c C' gC hn hm).2), q _ G1 H1 g1 (.val (.bl _))⟩
      · rw [if_neg hn] at e3
        cases e3
  | non => exact built _ rfl (by cases e3; rfl) q
  | bl _ => exact built _ rfl (by cases e3; rfl) q
  | int _ => exact built _ rfl (by cases e3; rfl) q
  | str _ => exact built _ rfl (by cases e3; rfl) q
  | lst _ => exact built _ rfl (by cases e3; rfl) q
  | tup _ => exact built _ rfl (by cases e3; rfl) q
  | dic _ => exact built _ rfl (by cases e3; rfl) q
end
section
variable {X : Cx} {e : Expr} {te : TE} {fe : FE} {p p' pos : Pos} {cn : String} {yes no : List String} {C : Addr}
theorem je_isC {K : PySem.W.Frag} {mg : Mg} (N : IsOk K mg cn yes no) (gC : mg (os cn) = some (.ref C)) (hg : Gl X "isinstance") (hm : X.mg "isinstance" = none) (he : JE X e te fe) (hg2 : Gl X (os cn) := by rfl)
    (hd : (os cn == ("__debug__" : PySem.Str)) = false := by decide) (hs : starEach (e :: .Name (os cn) p' :: []) X.env = (false, eval e X.env) :: starEach (.Name (os cn) p' :: []) X.env := by rfl) (hs2 : starEach (.Name (os cn) p' :: []) X.env = (false, eval (.Name (os cn) p') X.env) :: starEach [] X.env := by rfl)
    (hpl : (backTo pos (starEach (.Name (os cn) p' :: []) X.env)).any (·.1) = false := by rfl) (hK : X.K = K := by rfl) (hM : X.mg = mg := by rfl) :
    JE X (.Call (.Name "isinstance" p) [e, .Name (os cn) p'] [] pos) (tCB (rIsi K) (tCons te (tCons (tC (.ref C)) tNil))) (fIsC yes no fe) := by
  subst hK hM
  exact ⟨pe_callB call_isi hg hm (by decide +kernel) (pa_cons he.pe (pa_cons (pe_glob hg2 gC rfl hd) pa_nil hs2) hs) (by decide) (by decide) hs hpl, re_isC N gC he.re⟩
end
end J
namespace J
/-- _law_draws(cell, tops) -/
noncomputable def B_law_draws_1 : FS := (sSeq (sSet 5 (fBin gMod (fCB gInt (pCons (fBin gAdd (fBin gAdd (fBin gAdd (fBin gMul (fVar 0) (fVar 0)) (fBin gMul (fBin gAdd (fBin gMul (fC (.int 2)) (fVar 4)) (fC (.int 3))) (fVar 0))) (fBin gMul (fBin gMul (fC (.int 7919)) (fVar 4)) (fVar 4))) (fC (.int 104729))) pNil)) (fC (.int 2147483629))))
  (sSeq (sSet 5 (fBin gMod (fCB gInt (pCons (fBin gAdd (fBin gAdd (fBin gMul (fVar 5) (fVar 5)) (fBin gMul (fC (.int 40503)) (fVar 4))) (fC (.int 17))) pNil)) (fC (.int 2147483587))))
  (sSeq (sSet 5 (fBin gMod (fCB gInt (pCons (fBin gAdd (fBin gMul (fVar 5) (fC (.int 69621))) (fBin gMul (fBin gMul (fVar 4) (fVar 4)) (fVar 4))) pNil)) (fC (.int 2147483423))))
  (sIf (fTB (fBin gGe (fVar 0) (fBin gPow (fC (.int 10)) (fC (.int 18))))) (sSeq (sExpr (fApp (fVar 2) (fBin gMod (fCB gInt (pCons (fVar 3) pNil)) (fBin gIx (fVar 1) (fVar 4)))))
  (sSet 3 (fBin gDiv (fVar 3) (fBin gIx (fVar 1) (fVar 4))))) (sExpr (fApp (fVar 2) (fBin gMod (fCB gInt (pCons (fBin gAdd (fBin gDiv (fVar 5) (fC (.int 7))) (fBin gMul (fC (.int 11)) (fBin gPow (fVar 5) (fC (.int 6))))) pNil)) (fBin gIx (fVar 1) (fVar 4)))))))))
noncomputable def F_law_draws : FS := (sSeq (sSet 2 (fLst aNil))
  (sSeq (sSet 3 (fVar 0))
  (sSeq (sFor (iR1 (pCons (fCB gLen (pCons (fVar 1) pNil)) pNil)) (gN 4) B_law_draws_1)
  (sRet (fVar 2)))))
noncomputable def m_law_draws : Mir := runF false 6 2 F_law_draws
/-- _law_cell(script, k) -/
noncomputable def F_law_cell_2 : FS := (sSeq (sIf (fTB (fBin gLt (fVar 1) (fCB gLen (pCons (fVar 0) pNil)))) (sRet (fBin gIx (fVar 0) (fVar 1))) sNext)
  (sRet (fC (.int 0))))
noncomputable def m_law_cell_2 : Mir := runF false 2 2 F_law_cell_2
/-- _law_triples(limit) -/
noncomputable def B_law_triples_1 : FS := (sExpr (fApp (fVar 1) (fTup (aCons (fVar 2) (aCons (fVar 3) (aCons (fVar 4) aNil))))))
noncomputable def B_law_triples_2 : FS := (sFor (iR2 (pCons (fUn gNeg (fVar 0)) (pCons (fBin gAdd (fVar 0) (fC (.int 1))) pNil))) (gN 4) B_law_triples_1)
noncomputable def B_law_triples_3 : FS := (sFor (iR2 (pCons (fUn gNeg (fVar 0)) (pCons (fBin gAdd (fVar 0) (fC (.int 1))) pNil))) (gN 3) B_law_triples_2)
noncomputable def F_law_triples : FS := (sSeq (sSet 1 (fLst aNil))
  (sSeq (sFor (iR2 (pCons (fUn gNeg (fVar 0)) (pCons (fBin gAdd (fVar 0) (fC (.int 1))) pNil))) (gN 2) B_law_triples_3)
  (sRet (fVar 1))))
noncomputable def m_law_triples : Mir := runF false 5 1 F_law_triples
/-- _law_whole(found) -/
noncomputable def F_law_whole : FS := (sRet (fAndV (fIsi "int" (fVar 0)) (fNotV (fIsi "bool" (fVar 0)))))
noncomputable def m_law_whole : Mir := runF false 1 1 F_law_whole
/-- _law_same(found, due) -/
noncomputable def C_law_same_1 : FT := (fNot (fTB (fCall m_law_whole (aCons (fVar 3) aNil))))
noncomputable def X_law_same_1 : FE := (fVar 3)
noncomputable def B_law_same_1 : FS := (sIf (fOr (fNot (fTB (fIsi "tuple" (fVar 2)))) (fTB (fBin gNe (fLc [3] (iSq (fVar 2)) (gN 3) C_law_same_1 X_law_same_1) (fLst aNil)))) (sRet (fC (.bl false))) sNext)
noncomputable def F_law_same : FS := (sSeq (sIf (fOr (fNot (fTB (fIsi "list" (fVar 0)))) (fTB (fBin gNe (fVar 0) (fVar 1)))) (sRet (fC (.bl false))) sNext)
  (sSeq (sFor (iSq (fVar 0)) (gN 2) B_law_same_1)
  (sRet (fC (.bl true)))))
noncomputable def m_law_same : Mir := runF false 4 2 F_law_same
/-- check_size(n) -/
noncomputable def F_check_size : FS := (sIf (fTB (fBin gLt (fVar 0) (fC (.int 1)))) sNo sNext)
noncomputable def m_check_size : Mir := runF false 1 1 F_check_size
/-- check_cell(n, row, column) -/
noncomputable def F_check_cell : FS := (sSeq (sExpr (fCall m_check_size (aCons (fVar 0) aNil)))
  (sIf (fOr (fNot (fTB (fChain gLe gLt (fC (.int 0)) (fVar 1) (fVar 0)))) (fNot (fTB (fChain gLe gLt (fC (.int 0)) (fVar 2) (fVar 0))))) sNo sNext))
noncomputable def m_check_cell : Mir := runF false 3 3 F_check_cell
/-- check_seen(n, row, column, sign) -/
noncomputable def F_check_seen : FS := (sSeq (sExpr (fCall m_check_cell (aCons (fVar 0) (aCons (fVar 1) (aCons (fVar 2) aNil)))))
  (sIf (fNot (fTB (fChain gLe gLt (fC (.int 0)) (fVar 3) (fVar 0)))) sNo sNext))
noncomputable def m_check_seen : Mir := runF false 4 4 F_check_seen
/-- everywhere(seen, most) -/
noncomputable def B_everywhere_1 : FS := (sExpr (fCall m_check_seen (aCons (fVar 2) (aCons (fVar 3) (aCons (fVar 4) (aCons (fVar 5) aNil))))))
noncomputable def C_everywhere_1 : FT := (fTB (fBin gNe (fBin gMod (fBin gSub (fBin gAdd (fBin gAdd (fBin gMul (fVar 7) (fVar 3)) (fBin gMul (fVar 8) (fVar 4))) (fVar 9)) (fVar 5)) (fVar 2)) (fC (.int 0))))
noncomputable def X_everywhere_1 : FE := (fVar 2)
noncomputable def B_everywhere_2 : FS := (sSeq (sSet 10 (fLc [2, 3, 4, 5] (iSq (fVar 0)) (gT 4 (gsCons (gN 2) (gsCons (gN 3) (gsCons (gN 4) (gsCons (gN 5) gsNil))))) C_everywhere_1 X_everywhere_1))
  (sIf (fTB (fBin gEq (fVar 10) (fLst aNil))) (sExpr (fApp (fVar 6) (fTup (aCons (fVar 7) (aCons (fVar 8) (aCons (fVar 9) aNil)))))) sNext))
noncomputable def B_everywhere_3 : FS := (sFor (iR2 (pCons (fUn gNeg (fVar 1)) (pCons (fBin gAdd (fVar 1) (fC (.int 1))) pNil))) (gN 9) B_everywhere_2)
noncomputable def B_everywhere_4 : FS := (sFor (iR2 (pCons (fUn gNeg (fVar 1)) (pCons (fBin gAdd (fVar 1) (fC (.int 1))) pNil))) (gN 8) B_everywhere_3)
noncomputable def F_everywhere : FS := (sSeq (sFor (iSq (fVar 0)) (gT 4 (gsCons (gN 2) (gsCons (gN 3) (gsCons (gN 4) (gsCons (gN 5) gsNil))))) B_everywhere_1)
  (sSeq (sSet 6 (fLst aNil))
  (sSeq (sFor (iR2 (pCons (fUn gNeg (fVar 1)) (pCons (fBin gAdd (fVar 1) (fC (.int 1))) pNil))) (gN 7) B_everywhere_4)
  (sRet (fVar 6)))))
noncomputable def m_everywhere : Mir := runF false 11 2 F_everywhere
/-- _law_fits(rule, cell) -/
noncomputable def F_law_fits : FS := (sSeq (sUnp (fVar 1) (gT 4 (gsCons (gN 2) (gsCons (gN 3) (gsCons (gN 4) (gsCons (gN 5) gsNil))))))
  (sRet (fBin gEq (fBin gMod (fCB gInt (pCons (fBin gSub (fBin gAdd (fBin gAdd (fBin gMul (fBin gIx (fVar 0) (fC (.int 0))) (fVar 3)) (fBin gMul (fBin gIx (fVar 0) (fC (.int 1))) (fVar 4))) (fBin gIx (fVar 0) (fC (.int 2)))) (fVar 5)) pNil)) (fVar 2)) (fC (.int 0)))))
noncomputable def m_law_fits : Mir := runF false 6 2 F_law_fits
/-- law(script) -/
noncomputable def X_law_k49_1 : FE := (fBin gSub (fBin gMod (fCB gInt (pCons (fVar 18) pNil)) (fBin gAdd (fBin gMul (fC (.int 2)) (fVar 2)) (fC (.int 1)))) (fVar 2))
noncomputable def C_law_k49_1 : FT := (fTB (fCall m_law_fits (aCons (fVar 19) (aCons (fBin gIx (fVar 8) (fUn gNeg (fC (.int 1)))) aNil))))
noncomputable def X_law_k49_2 : FE := (fVar 19)
noncomputable def B_law_k49_1 : FS := (sSeq (sUnp (fCall m_law_draws (aCons (fVar 9) (aCons (fLst (aCons (fC (.int 6)) (aCons (fC (.int 3)) (aCons (fBin gPow (fC (.int 10)) (fC (.int 30))) (aCons (fBin gPow (fC (.int 10)) (fC (.int 30))) (aCons (fBin gPow (fC (.int 10)) (fC (.int 30))) (aCons (fBin gPow (fC (.int 10)) (fC (.int 30))) aNil))))))) aNil))) (gT 6 (gsCons (gN 10) (gsCons (gN 11) (gsCons (gN 12) (gsCons (gN 13) (gsCons (gN 14) (gsCons (gN 15) gsNil))))))))
  (sSeq (sSet 16 (fBin gAdd (fC (.int 1)) (fVar 12)))
  (sSeq (sIf (fTB (fBin gGt (fVar 11) (fC (.int 0)))) (sSet 16 (fBin gAdd (fC (.int 1)) (fBin gMod (fCB gInt (pCons (fVar 12) pNil)) (fC (.int 12))))) sNext)
  (sSeq (sSet 13 (fBin gMod (fCB gInt (pCons (fVar 13) pNil)) (fVar 16)))
  (sSeq (sSet 14 (fBin gMod (fCB gInt (pCons (fVar 14) pNil)) (fVar 16)))
  (sSeq (sIf (fOr (fTB (fBin gGt (fVar 10) (fC (.int 0)))) (fTB (fBin gEq (fVar 1) (fC (.int 0))))) (sSet 15 (fBin gAdd (fBin gAdd (fBin gMul (fBin gIx (fVar 6) (fC (.int 0))) (fVar 13)) (fBin gMul (fBin gIx (fVar 6) (fC (.int 1))) (fVar 14))) (fBin gIx (fVar 6) (fC (.int 2))))) sNext)
  (sSeq (sExpr (fApp (fVar 8) (fTup (aCons (fVar 16) (aCons (fVar 13) (aCons (fVar 14) (aCons (fBin gMod (fCB gInt (pCons (fVar 15) pNil)) (fVar 16)) aNil)))))))
  (sSeq (sSet 7 (fLc [19] (iSq (fVar 7)) (gN 19) C_law_k49_1 X_law_k49_2))
  (sIf (fAnd (fTB (fBin gLt (fVar 2) (fC (.int 3)))) (fNot (fTB (fCall m_law_same (aCons (fCall m_everywhere (aCons (fCB gList (pCons (fVar 8) pNil)) (aCons (fVar 2) aNil))) (aCons (fVar 7) aNil)))))) (sRet (fC (.bl false))) sNext)))))))))
noncomputable def F_law_k49 : FS := (sSeq (sUnp (fCall m_law_draws (aCons (fCall m_law_cell_2 (aCons (fVar 0) (aCons (fC (.int 0)) aNil))) (aCons (fLst (aCons (fC (.int 2)) (aCons (fC (.int 6)) (aCons (fC (.int 11)) (aCons (fC (.int 11)) (aCons (fC (.int 11)) aNil)))))) aNil))) (gT 5 (gsCons (gN 1) (gsCons (gN 2) (gsCons (gN 3) (gsCons (gN 4) (gsCons (gN 5) gsNil)))))))
  (sSeq (sSet 6 (fLc [18] (iSq (fLst (aCons (fVar 3) (aCons (fVar 4) (aCons (fVar 5) aNil))))) (gN 18) tAll X_law_k49_1))
  (sSeq (sSet 7 (fCall m_law_triples (aCons (fVar 2) aNil)))
  (sSeq (sSet 8 (fLst aNil))
  (sSeq (sIf (fNot (fTB (fCall m_law_same (aCons (fCall m_everywhere (aCons (fCB gList (pCons (fVar 8) pNil)) (aCons (fVar 2) aNil))) (aCons (fVar 7) aNil))))) (sRet (fC (.bl false))) sNext)
  (sSeq (sFor (iSq (fSl (fVar 0) (oSome (fC (.int 1))) (oSome (fC (.int 13))))) (gN 9) B_law_k49_1)
  (sSeq (sSet 17 (fCB gList (pCons (fVar 8) pNil)))
  (sRet (fAndV (fCall m_law_same (aCons (fCall m_everywhere (aPk 0 2 [1, 0] aNil (aCons (fVar 2) (aCons (fVar 17) aNil)))) (aCons (fVar 7) aNil))) (fBin gEq (fVar 17) (fVar 8)))))))))))
noncomputable def m_law_k49 : Mir := runF false 20 1 F_law_k49
end J
namespace J
open PySem PySem.Spec PyProof.Rows L2
/-! ### sizes of ints -/
def Sm (k : Nat) (i : Int) : Prop := i.natAbs < 2 ^ k
theorem Sm.mono {k l : Nat} {i : Int} (h : Sm k i) (hl : k ≤ l) : Sm l i := Nat.lt_of_lt_of_le h (Nat.pow_le_pow_right (by decide) hl)
theorem Sm.bits {k : Nat} {i : Int} (h : Sm k i) : Builtin.Int.intBits i ≤ k := by
  unfold Builtin.Int.intBits
  split
  · exact Nat.zero_le _
  · rename_i hi
    have h0 : i.natAbs ≠ 0 := by simpa using hi
    have := (Nat.log2_lt h0).mpr h
    omega
theorem Sm.of_bits {k : Nat} {i : Int} (h : Builtin.Int.intBits i ≤ k) : Sm k i := by
  unfold Builtin.Int.intBits at h
  unfold Sm
  split at h
  · rename_i hi
    have : i = 0 := by simpa using hi
    subst this
    exact Nat.two_pow_pos k
  · rename_i hi
    have h0 : i.natAbs ≠ 0 := by simpa using hi
    exact (Nat.log2_lt h0).mp (by omega)
theorem Sm.mul {k l : Nat} {i j : Int} (h : Sm k i) (h' : Sm l j) : Sm (k + l) (i * j) := by
  unfold Sm at *
  rw [Int.natAbs_mul, Nat.pow_add]
  exact Nat.mul_lt_mul'' h h'
theorem Sm.add {k : Nat} {i j : Int} (h : Sm k i) (h' : Sm k j) : Sm (k + 1) (i + j) := by
  unfold Sm at *
  rw [Nat.pow_succ]
  have := Int.natAbs_add_le i j
  omega
theorem Sm.neg {k : Nat} {i : Int} (h : Sm k i) : Sm k (-i) := by unfold Sm at *; rwa [Int.natAbs_neg]
theorem Sm.sub {k : Nat} {i j : Int} (h : Sm k i) (h' : Sm k j) : Sm (k + 1) (i - j) := by
  rw [Int.sub_eq_add_neg]
  exact h.add h'.neg
theorem Sm.le {k : Nat} {i j : Int} (h : Sm k j) (hl : i.natAbs ≤ j.natAbs) : Sm k i := Nat.lt_of_le_of_lt hl h
theorem Sm.of {k : Nat} {i : Int} (h1 : -((2 : Int) ^ k) < i) (h2 : i < (2 : Int) ^ k) : Sm k i := by
  unfold Sm
  have : ((2 ^ k : Nat) : Int) = (2 : Int) ^ k := by simp
  omega
theorem mulOk_sm {k l : Nat} {i j : Int} (h : Sm k i) (h' : Sm l j) (hl : k + l ≤ 134217728 := by decide) : mulOk i j = true := by
  have h1 := h.bits
  have h2 := h'.bits
  unfold mulOk
  rw [Bool.not_eq_true', Bool.and_eq_false_iff]
  refine .inr ?_
  unfold Builtin.Int.intTooBig
  refine decide_eq_false ?_
  have e : bitsLine = 134217728 := by decide
  rw [e]
  omega
theorem mulOk_small {i j : Int} (h : Sm 64 i) : mulOk i j = true := by
  have h1 := h.bits
  unfold mulOk
  rw [Bool.not_eq_true', Bool.and_eq_false_iff, Bool.and_eq_false_iff]
  exact .inl (.inl (decide_eq_false (Nat.not_lt.mpr h1)))
theorem mulOk_smallR {i j : Int} (h : Sm 64 j) : mulOk i j = true := by
  have h1 := h.bits
  unfold mulOk
  rw [Bool.not_eq_true', Bool.and_eq_false_iff, Bool.and_eq_false_iff]
  exact .inl (.inr (decide_eq_false (Nat.not_lt.mpr h1)))
theorem divOk_sm {j : Int} (h0 : 0 < j) (h : Sm 9000 j) : divOk j = true := by
  unfold divOk
  rw [Bool.and_eq_true, decide_eq_true_eq, decide_eq_true_eq]
  exact ⟨h0, (Nat.log2_lt (by omega)).mpr h⟩
/-! ### == of ints, items -/
theorem shaped_int (i : Int) : SeqAt.shaped (.int i) = true := by rfl
theorem beq_dec (i j : Int) : (i == j) = decide (i = j) := by rfl
theorem gEq_int (i j : Int) : gEq (.int i) (.int j) = some (.val (.bl (decide (i = j)))) := by
  simp [gEq, dEq, toPy, shaped_int, PyData.eqv, beq_dec]
theorem gNe_int (i j : Int) : gNe (.int i) (.int j) = some (.val (.bl (!decide (i = j)))) := by
  simp [gNe, dEq, toPy, shaped_int, PyData.eqv, beq_dec]
theorem atI_nat {α : Type} (xs : List α) (k : Nat) (h : k < xs.length) : atI xs (k : Int) = some xs[k] := by
  have h1 : ixN xs.length (k : Int) = some k := by
    unfold ixN
    rw [if_pos (by omega)]
    simp [h]
  simp [atI, h1, h]
theorem atI_0 {α : Type} (x : α) (xs : List α) : atI (x :: xs) 0 = some x := atI_nat _ 0 (by simp)
theorem atI_1 {α : Type} (x y : α) (xs : List α) : atI (x :: y :: xs) 1 = some y := atI_nat _ 1 (by simp)
theorem atI_2 {α : Type} (x y z : α) (xs : List α) : atI (x :: y :: z :: xs) 2 = some z := atI_nat _ 2 (by simp)
theorem ixN_0 (n : Nat) : ixN (n + 1) 0 = some 0 := by
  unfold ixN
  rw [if_pos (by omega)]
  simp
/-! ### == of lists of ints; comprehensions -/
theorem toPyL_ints : ∀ ns : List Int, toPyL (ns.map D.int) = some (ns.map PyData.int)
  | [] => by simp [toPyL]
  | n :: ns => by simp [toPyL, toPy, toPyL_ints ns]
theorem canLayAll_ints : ∀ ns : List Int, PyData.canLayAll0 (ns.map PyData.int) = true
  | [] => rfl
  | n :: ns => by
    show (PyData.canLay0 (.int n) && PyData.canLayAll0 (ns.map PyData.int)) = true
    rw [canLayAll_ints ns]; rfl
theorem depthAll_ints : ∀ ns : List Int, PyData.depthAll (ns.map PyData.int) = 0
  | [] => rfl
  | n :: ns => by
    show max (PyData.depth (.int n)) (PyData.depthAll (ns.map PyData.int)) = 0
    rw [depthAll_ints ns]; rfl
theorem eqvAll_ints : ∀ ns ms : List Int, PyData.eqvAll (ns.map PyData.int) (ms.map PyData.int) = decide (ns = ms)
  | [], [] => by simp [PyData.eqvAll]
  | [], _ :: _ => by simp [PyData.eqvAll]
  | _ :: _, [] => by simp [PyData.eqvAll]
  | n :: ns, m :: ms => by
    simp [PyData.eqvAll, PyData.eqv, eqvAll_ints ns ms, beq_dec]
theorem shaped_ints (ns : List Int) : SeqAt.shaped (.list (ns.map PyData.int)) = true ∧ SeqAt.shaped (.tuple (ns.map PyData.int)) = true := by
  constructor
  · show (PyData.canLayAll0 (ns.map PyData.int) && decide (PyData.depthAll (ns.map PyData.int) + 1 ≤ 64)) = true
    rw [canLayAll_ints, depthAll_ints]; rfl
  · show (PyData.canLayAll0 (ns.map PyData.int) && decide (PyData.depthAll (ns.map PyData.int) + 1 ≤ 64)) = true
    rw [canLayAll_ints, depthAll_ints]; rfl
theorem gEq_ints (ns ms : List Int) : gEq (.lst (ns.map D.int)) (.lst (ms.map D.int)) = some (.val (.bl (decide (ns = ms)))) := by
  simp only [gEq, dEq, toPy, toPyL_ints, Option.map_some, Option.bind_some, (shaped_ints _).1, and_self, if_true, PyData.eqv, eqvAll_ints]
theorem gNe_ints (ns ms : List Int) : gNe (.lst (ns.map D.int)) (.lst (ms.map D.int)) = some (.val (.bl (!decide (ns = ms)))) := by
  simp only [gNe, dEq, toPy, toPyL_ints, Option.map_some, Option.bind_some, (shaped_ints _).1, and_self, if_true, PyData.eqv, eqvAll_ints]
theorem gEq_intsT (ns ms : List Int) : gEq (.tup (ns.map D.int)) (.tup (ms.map D.int)) = some (.val (.bl (decide (ns = ms)))) := by
  simp only [gEq, dEq, toPy, toPyL_ints, Option.map_some, Option.bind_some, (shaped_ints _).2, and_self, if_true, PyData.eqv, eqvAll_ints]
theorem gNe_intsT (ns ms : List Int) : gNe (.tup (ns.map D.int)) (.tup (ms.map D.int)) = some (.val (.bl (!decide (ns = ms)))) := by
  simp only [gNe, dEq, toPy, toPyL_ints, Option.map_some, Option.bind_some, (shaped_ints _).2, and_self, if_true, PyData.eqv, eqvAll_ints]
/-- none of the items passes the test -/
theorem lcD_none {own : List Nat} {g : FG} {ft : FT} {fe : FE} {τ : Tau} : ∀ (ds acc : List D), (∀ d ∈ ds, ∃ τ1 τ2, g d (wipeT own τ) = some τ1 ∧ ft τ1 = some (false, τ2) ∧ backT own τ τ2 = τ) → lcD own g ft fe ds acc τ = some (acc, τ)
  | [], acc, _ => rfl
  | d :: ds, acc, h => by
    obtain ⟨τ1, τ2, e1, e2, e3⟩ := h d List.mem_cons_self
    unfold lcD
    simp only [e1, e2, e3, Option.bind_some, Bool.false_eq_true, if_false]
    exact lcD_none ds acc fun d hd => h d (List.mem_cons_of_mem _ hd)
/-- each item is kept, as f says -/
theorem lcD_map {own : List Nat} {g : FG} {ft : FT} {fe : FE} {τ : Tau} (f : D → D) : ∀ (ds acc : List D), acc.length + ds.length ≤ 16777216 → (∀ d ∈ ds, ∃ τ1 τ2 o τ3 τ4, g d (wipeT own τ) = some τ1 ∧ ft τ1 = some (true, τ2) ∧ fe τ2 = some (o, τ3) ∧ fz τ3 o = some (f d, τ4) ∧ backT own τ τ4 = τ) → lcD own g ft fe ds acc τ = some (acc ++ ds.map f, τ)
  | [], acc, _, _ => by rw [List.map_nil, List.append_nil]; rfl
  | d :: ds, acc, hl, h => by
    obtain ⟨τ1, τ2, o, τ3, τ4, e1, e2, e3, e4, e5⟩ := h d List.mem_cons_self
    rw [List.length_cons] at hl
    unfold lcD
    have hl' : acc.length < 16777216 := by omega
    simp only [e1, e2, e3, e4, e5, Option.bind_some, if_true, hl']
    rw [lcD_map f ds (acc ++ [f d]) (by rw [List.length_append, List.length_singleton]; omega) fun d hd => h d (List.mem_cons_of_mem _ hd), List.map_cons, List.append_assoc]
    rfl
/-! ### ranges, loops, the pool -/
theorem seq_nx {f g : FS} {τ τ1 : Tau} {r : Option Flow} (h1 : f τ = some (.nx τ1)) (h2 : g τ1 = r) : sSeq f g τ = r := by
  unfold sSeq
  rw [h1]
  exact h2
theorem run_rt {b : Bool} {n k : Nat} {F : FS} {ds : List D} {τ τ' : Tau} {o : Op} {r : Bool × D × D} (hl : ds.length = k) (hi : ini b n ds = τ) (h : F τ = some (.rt o τ')) (hf : finF b τ' o = some r) : runF b n k F ds = some r := by
  unfold runF
  rw [if_pos hl, hi, h]
  exact hf
theorem rngD_get {lo hi : Int} {k : Nat} {d : D} (h : (rngD lo hi)[k]? = some d) : d = .int (lo + k) ∧ lo + k < hi := by
  unfold rngD at h
  rw [List.getElem?_map] at h
  obtain ⟨i, h1, h2⟩ := Option.map_eq_some_iff.mp h
  obtain ⟨h3, h4⟩ := List.getElem?_eq_some_iff.mp h1
  rw [List.getElem_range] at h4
  rw [List.length_range] at h3
  subst h4
  exact ⟨h2.symm, by omega⟩
def iD : D → Int
  | .int i => i
  | _ => 0
theorem rngOk_of {n : Int} (h0 : 0 ≤ n) (h1 : n ≤ 1000000) : rngOk n = true := by
  unfold rngOk
  rw [Bool.and_eq_true, decide_eq_true_eq, decide_eq_true_eq]
  exact ⟨Int.le_trans (by decide) h0, Int.lt_of_le_of_lt h1 (by decide)⟩
/-- a for over range(lo, hi) whose turns go on -/
theorem for_rng {g : FG} {f : FS} (Iv : Tau → Prop) (lo hi : Int) (τ : Tau) (h : Iv τ) (st : ∀ k τ, lo ≤ k → k < hi → Iv τ → ∃ τ1 fl, g (.int k) τ = some τ1 ∧ f τ1 = some fl ∧ ∃ τ2, (fl = .nx τ2 ∨ fl = .ct τ2) ∧ Iv τ2) : ∃ τ', forD g f (rngD lo hi) τ = some (.nx τ') ∧ Iv τ' := by
  obtain ⟨τ', h1, h2⟩ := forD_inv (g := g) (f := f) (fun _ => Iv) (rngD lo hi) 0 τ h fun k d τ hd hi => by
    obtain ⟨rfl, hk⟩ := rngD_get hd
    exact st _ τ (by omega) hk hi
  exact ⟨τ', h1, h2⟩
/-- a for over a list whose turns go on -/
theorem for_lst {g : FG} {f : FS} (Iv : Tau → Prop) (ds : List D) (τ : Tau) (h : Iv τ) (st : ∀ d τ, d ∈ ds → Iv τ → ∃ τ1 fl, g d τ = some τ1 ∧ f τ1 = some fl ∧ ∃ τ2, (fl = .nx τ2 ∨ fl = .ct τ2) ∧ Iv τ2) : ∃ τ', forD g f ds τ = some (.nx τ') ∧ Iv τ' := by
  obtain ⟨τ', h1, h2⟩ := forD_inv (g := g) (f := f) (fun _ => Iv) ds 0 τ h fun k d τ hd hi => st _ τ (List.mem_of_getElem? hd) hi
  exact ⟨τ', h1, h2⟩
/-! ### loops that gather, comprehensions that sift -/
def rgI (lo hi : Int) : List Int := (List.range (hi - lo).toNat).map fun (i : Nat) => lo + (i : Int)
theorem rngD_eq (lo hi : Int) : rngD lo hi = (rgI lo hi).map D.int := by
  unfold rngD rgI
  rw [List.map_map]
  rfl
theorem rgI_mem {lo hi x : Int} (h : x ∈ rgI lo hi) : lo ≤ x ∧ x < hi := by
  unfold rgI at h
  obtain ⟨i, h1, rfl⟩ := List.mem_map.mp h
  have := List.mem_range.mp h1
  omega
theorem rgI_length (lo hi : Int) : (rgI lo hi).length = (hi - lo).toNat := by simp [rgI]
/-- a for that adds F x to a list at each turn -/
theorem for_acc {γ α : Type} {g : FG} {f : FS} (St : List D → γ → Tau) (en : α → D) (F : α → List D) (B : Nat) : ∀ (xs : List α) (acc : List D) (c : γ), acc.length + (xs.flatMap F).length ≤ B →
    (∀ x ∈ xs, ∀ (acc : List D) (c : γ), acc.length + (F x).length ≤ B → ∃ τ1 c', g (en x) (St acc c) = some τ1 ∧ f τ1 = some (.nx (St (acc ++ F x) c'))) → ∃ c', forD g f (xs.map en) (St acc c) = some (.nx (St (acc ++ xs.flatMap F) c'))
  | [], acc, c, _, _ => ⟨c, by simp [forD]⟩
  | x :: xs, acc, c, hl, st => by
    rw [List.flatMap_cons, List.length_append] at hl
    obtain ⟨τ1, c1, e1, e2⟩ := st x List.mem_cons_self acc c (by omega)
    obtain ⟨c2, e3⟩ := for_acc St en F B xs (acc ++ F x) c1 (by rw [List.length_append]; omega) fun y hy => st y (List.mem_cons_of_mem _ hy)
    refine ⟨c2, ?_⟩
    rw [List.map_cons, forD_cons e1 e2]
    show forD g f (xs.map en) (St (acc ++ F x) c1) = _
    rw [e3, List.flatMap_cons, List.append_assoc]
/-- [e for x in xs if p x] -/
theorem lcD_sift {α : Type} {own : List Nat} {g : FG} {ft : FT} {fe : FE} {τ : Tau} (en : α → D) (p : α → Bool) (f : α → D) : ∀ (xs : List α) (acc : List D), acc.length + xs.length ≤ 16777216 →
    (∀ x ∈ xs, ∃ τ1 τ2, g (en x) (wipeT own τ) = some τ1 ∧ ft τ1 = some (p x, τ2) ∧ (p x = false → backT own τ τ2 = τ) ∧ (p x = true → ∃ o τ3 τ4, fe τ2 = some (o, τ3) ∧ fz τ3 o = some (f x, τ4) ∧ backT own τ τ4 = τ)) →
    lcD own g ft fe (xs.map en) acc τ = some (acc ++ (xs.filter p).map f, τ)
  | [], acc, _, _ => by simp [lcD]
  | x :: xs, acc, hl, h => by
    obtain ⟨τ1, τ2, e1, e2, h1, h2⟩ := h x List.mem_cons_self
    rw [List.length_cons] at hl
    rw [List.map_cons]
    unfold lcD
    cases hp : p x with
    | false =>
      rw [hp] at e2
      simp only [e1, e2, h1 hp, Option.bind_some, Bool.false_eq_true, if_false]
      rw [lcD_sift en p f xs acc (by omega) fun y hy => h y (List.mem_cons_of_mem _ hy), List.filter_cons, hp]
      rfl
    | true =>
      rw [hp] at e2
      obtain ⟨o, τ3, τ4, e3, e4, e5⟩ := h2 hp
      have hl' : acc.length < 16777216 := by omega
      simp only [e1, e2, e3, e4, e5, Option.bind_some, if_true, hl']
      rw [lcD_sift en p f xs (acc ++ [f x]) (by rw [List.length_append, List.length_singleton]; omega) fun y hy => h y (List.mem_cons_of_mem _ hy), List.filter_cons, hp, if_pos rfl, List.map_cons, List.append_assoc]
      rfl
/-! ### == of a thing with itself -/
inductive Pl : Nat → D → Prop
  | non (n : Nat) : Pl n .non
  | bl (n : Nat) (b : Bool) : Pl n (.bl b)
  | int (n : Nat) (i : Int) : Pl n (.int i)
  | lst {n : Nat} {xs : List D} : (∀ x ∈ xs, Pl n x) → Pl (n + 1) (.lst xs)
  | tup {n : Nat} {xs : List D} : (∀ x ∈ xs, Pl n x) → Pl (n + 1) (.tup xs)
theorem Pl.up {n : Nat} {d : D} (h : Pl n d) : ∀ m, n ≤ m → Pl m d := by
  induction h with
  | non n => exact fun m _ => .non m
  | bl n b => exact fun m _ => .bl m b
  | int n i => exact fun m _ => .int m i
  | lst h ih =>
    intro m hm
    obtain ⟨k, rfl⟩ : ∃ k, m = k + 1 := ⟨m - 1, by omega⟩
    exact .lst fun x hx => ih x hx k (by omega)
  | tup h ih =>
    intro m hm
    obtain ⟨k, rfl⟩ : ∃ k, m = k + 1 := ⟨m - 1, by omega⟩
    exact .tup fun x hx => ih x hx k (by omega)
theorem plL_py {n : Nat} : ∀ xs : List D, (∀ x ∈ xs, ∃ p, toPy x = some p ∧ PyData.canLay0 p = true ∧ PyData.depth p ≤ n) → ∃ ps, toPyL xs = some ps ∧ PyData.canLayAll0 ps = true ∧ PyData.depthAll ps ≤ n
  | [], _ => ⟨[], by simp [toPyL], rfl, Nat.zero_le _⟩
  | x :: xs, h => by
    obtain ⟨p, e1, c1, d1⟩ := h x List.mem_cons_self
    obtain ⟨ps, e2, c2, d2⟩ := plL_py xs fun y hy => h y (List.mem_cons_of_mem _ hy)
    refine ⟨p :: ps, by simp [toPyL, e1, e2], ?_, ?_⟩
    · show (PyData.canLay0 p && PyData.canLayAll0 ps) = true
      rw [c1, c2]; rfl
    · show max (PyData.depth p) (PyData.depthAll ps) ≤ n
      omega
theorem Pl.py {n : Nat} {d : D} (h : Pl n d) : ∃ p, toPy d = some p ∧ PyData.canLay0 p = true ∧ PyData.depth p ≤ n := by
  induction h with
  | non n => exact ⟨.none, by simp [toPy], rfl, Nat.zero_le _⟩
  | bl n b => exact ⟨.bool b, by simp [toPy], rfl, Nat.zero_le _⟩
  | int n i => exact ⟨.int i, by simp [toPy], rfl, Nat.zero_le _⟩
  | @lst n xs _ ih =>
    obtain ⟨ps, e, c, d⟩ := plL_py xs ih
    exact ⟨.list ps, by simp [toPy, e], c, Nat.succ_le_succ d⟩
  | @tup n xs _ ih =>
    obtain ⟨ps, e, c, d⟩ := plL_py xs ih
    exact ⟨.tuple ps, by simp [toPy, e], c, Nat.succ_le_succ d⟩
theorem dEq_refl {d : D} (h : Pl 64 d) : dEq d d = some true := by
  obtain ⟨p, e, c, dp⟩ := h.py
  have s : SeqAt.shaped p = true := by
    unfold SeqAt.shaped
    rw [c]; simpa using dp
  unfold dEq
  rw [e]
  show (if _ ∧ _ then _ else _) = _
  rw [if_pos ⟨s, s⟩, PySem.SeqAt.eqv_refl p c]
theorem gEq_refl {d : D} (h : Pl 64 d) : gEq d d = some (.val (.bl true)) := by
  unfold gEq; rw [dEq_refl h]; rfl
theorem gNe_refl {d : D} (h : Pl 64 d) : gNe d d = some (.val (.bl false)) := by
  unfold gNe; rw [dEq_refl h]; rfl
theorem size_ok {n : Int} (h : 1 ≤ n) : m_check_size [.int n] = some (false, .non, .non) := by
  have h' : ¬ n < 1 := by omega
  simp [m_check_size, F_check_size, runF, ini, finF, resOp, ioOut, owAt, sSeq, sSet, stOp, sPar, setAll, sUnp, sAug, sIf, sRet, sRetN, sExpr, sNext, sNo, sBrk, sCnt, aNil, aCons, pNil, pCons, fVar, fC, fBin, fUn, fCB, fCall, ioCall, fCallIo, mkOp, deref, derefL, fz, gI, J.gAdd, J.gSub, gMul, gDiv, gMod, gPow, gLt, gLe, gGt, gGe, gNeg, gIx, fTB, fAnd, fOr, fNot, fIfE, fAndV, fOrV, fNotV, fChain, fTup, fLst, gT, gsCons, gsNil, gN, fMake, fMeth, fMethIo, insOk, insC, fProp, fPropIo, fFld, sFldS, putAt, putD, fIsi, gIsi, tyn, subTy, gAbs, gInt, gMax2, gMin2, gLen, gList, gIs, gIsN, iSq, iR1, iR2, tAll, fApp, owL, setAt, sSetIx, sFor, fLc, pk, aPk, gEq_int, gNe_int, atI_0, atI_1, atI_2, ixN_0, List.lookup, fBinF, gM2, gEqM, gNeM, gIsC, fIsC, insC, h']
theorem cell_ok {n r c : Int} (h : 1 ≤ n) (r0 : 0 ≤ r) (r1 : r < n) (c0 : 0 ≤ c) (c1 : c < n) : m_check_cell [.int n, .int r, .int c] = some (false, .non, .non) := by
  simp [m_check_cell, F_check_cell, runF, ini, finF, resOp, ioOut, owAt, sSeq, sSet, stOp, sPar, setAll, sUnp, sAug, sIf, sRet, sRetN, sExpr, sNext, sNo, sBrk, sCnt, aNil, aCons, pNil, pCons, fVar, fC, fBin, fUn, fCB, fCall, ioCall, fCallIo, mkOp, deref, derefL, fz, gI, J.gAdd, J.gSub, gMul, gDiv, gMod, gPow, gLt, gLe, gGt, gGe, gNeg, gIx, fTB, fAnd, fOr, fNot, fIfE, fAndV, fOrV, fNotV, fChain, fTup, fLst, gT, gsCons, gsNil, gN, fMake, fMeth, fMethIo, insOk, insC, fProp, fPropIo, fFld, sFldS, putAt, putD, fIsi, gIsi, tyn, subTy, gAbs, gInt, gMax2, gMin2, gLen, gList, gIs, gIsN, iSq, iR1, iR2, tAll, fApp, owL, setAt, sSetIx, sFor, fLc, pk, aPk, gEq_int, gNe_int, atI_0, atI_1, atI_2, ixN_0, List.lookup, fBinF, gM2, gEqM, gNeM, gIsC, fIsC, insC, size_ok h, r0, r1, c0, c1]
theorem whole_m (i : Int) : m_law_whole [.int i] = some (false, .bl true, .non) := by
  simp [m_law_whole, F_law_whole, runF, ini, finF, resOp, ioOut, owAt, sSeq, sSet, stOp, sPar, setAll, sUnp, sAug, sIf, sRet, sRetN, sExpr, sNext, sNo, sBrk, sCnt, aNil, aCons, pNil, pCons, fVar, fC, fBin, fUn, fCB, fCall, ioCall, fCallIo, mkOp, deref, derefL, fz, gI, J.gAdd, J.gSub, gMul, gDiv, gMod, gPow, gLt, gLe, gGt, gGe, gNeg, gIx, fTB, fAnd, fOr, fNot, fIfE, fAndV, fOrV, fNotV, fChain, fTup, fLst, gT, gsCons, gsNil, gN, fMake, fMeth, fMethIo, insOk, insC, fProp, fPropIo, fFld, sFldS, putAt, putD, fIsi, gIsi, tyn, subTy, gAbs, gInt, gMax2, gMin2, gLen, gList, gIs, gIsN, iSq, iR1, iR2, tAll, fApp, owL, setAt, sSetIx, sFor, fLc, pk, aPk, gEq_int, gNe_int, atI_0, atI_1, atI_2, ixN_0, List.lookup, fBinF, gM2, gEqM, gNeM, gIsC, fIsC, insC]
/-! ### draws of a cell -/
/-- a for over range(lo, hi), by an invariant that knows the number -/
theorem for_rngI {g : FG} {f : FS} (Iv : Int → Tau → Prop) (lo hi : Int) (hlh : lo ≤ hi) (τ : Tau) (h : Iv lo τ) (st : ∀ k τ, lo ≤ k → k < hi → Iv k τ → ∃ τ1 fl, g (.int k) τ = some τ1 ∧ f τ1 = some fl ∧ ∃ τ2, (fl = .nx τ2 ∨ fl = .ct τ2) ∧ Iv (k + 1) τ2) : ∃ τ', forD g f (rngD lo hi) τ = some (.nx τ') ∧ Iv hi τ' := by
  obtain ⟨τ', h1, h2⟩ := forD_inv (g := g) (f := f) (fun k => Iv (lo + k)) (rngD lo hi) 0 τ (by simpa using h) fun k d τ hd hi => by
    obtain ⟨rfl, hk⟩ := rngD_get hd
    have := st _ τ (by omega) hk (by simpa using hi)
    obtain ⟨τ1, fl, a, b, τ2, c, d⟩ := this
    exact ⟨τ1, fl, a, b, τ2, c, by simpa [Int.add_assoc] using d⟩
  refine ⟨τ', h1, ?_⟩
  have e : (lo + ((0 + (rngD lo hi).length : Nat) : Int)) = hi := by
    simp [rngD]; omega
  rw [e] at h2
  exact h2
theorem small_sq {i : Int} (h0 : 0 ≤ i) (h1 : i < 2147483648) : Sm 64 i := .of (by omega) (by omega)
theorem pow6 {s : Int} (a : 0 ≤ s) (b : s < 2147483648) : powOk s 6 = true := by
  unfold powOk
  simp only [Bool.and_eq_true, decide_eq_true_eq]
  exact ⟨⟨by decide, by decide⟩, Nat.lt_of_lt_of_le (show s.natAbs < 2147483648 by omega) (by decide)⟩
theorem draws_turn {cell r t : Int} {T : List D} {fs : List D} {j : Nat} {k' s' : Option Cell} (hC : Sm 1048576 cell) (hj : j ≤ 1000) (hat : atI T (j : Int) = some (.int t)) (htd : divOk t = true) (ht0 : 0 < t) (lf : fs.length < 16777216) :
    ∃ z r' s'', B_law_draws_1 [si cell, sd (.lst T), some (.ow (.lst fs)), si r, si j, s'] = some (.nx [si cell, sd (.lst T), some (.ow (.lst (fs ++ [.int z]))), si r', si j, s'']) ∧ 0 ≤ z ∧ z < t := by
  have p18 : powOk 10 18 = true := by decide +kernel
  have m1 : mulOk cell cell = true := mulOk_sm hC hC
  have d7 : divOk 7 = true := by decide +kernel
  have sj : Sm 64 (j : Int) := .of (by omega) (by omega)
  have n1 : mulOk 2 (j : Int) = true := mulOk_smallR sj
  have n2 : mulOk (2 * (j : Int) + 3) cell = true := mulOk_small (.of (by omega) (by omega))
  have n3 : mulOk 7919 (j : Int) = true := mulOk_smallR sj
  have n4 : mulOk (7919 * (j : Int)) (j : Int) = true := mulOk_smallR sj
  have n5 : mulOk 40503 (j : Int) = true := mulOk_smallR sj
  have n6 : mulOk (j : Int) (j : Int) = true := mulOk_smallR sj
  have n7 : mulOk ((j : Int) * (j : Int)) (j : Int) = true := mulOk_smallR sj
  obtain ⟨s1, hs1, a1, b1⟩ : ∃ s, (cell * cell + (2 * (j : Int) + 3) * cell + 7919 * (j : Int) * (j : Int) + 104729) % 2147483629 = s ∧ 0 ≤ s ∧ s < 2147483648 := ⟨_, rfl, Int.emod_nonneg _ (by decide), Int.lt_of_lt_of_le (Int.emod_lt_of_pos _ (by decide)) (by decide)⟩
  obtain ⟨s2, hs2, a2, b2⟩ : ∃ s, (s1 * s1 + 40503 * (j : Int) + 17) % 2147483587 = s ∧ 0 ≤ s ∧ s < 2147483648 := ⟨_, rfl, Int.emod_nonneg _ (by decide), Int.lt_of_lt_of_le (Int.emod_lt_of_pos _ (by decide)) (by decide)⟩
  obtain ⟨s3, hs3, a3, b3⟩ : ∃ s, (s2 * 69621 + (j : Int) * (j : Int) * (j : Int)) % 2147483423 = s ∧ 0 ≤ s ∧ s < 2147483648 := ⟨_, rfl, Int.emod_nonneg _ (by decide), Int.lt_of_lt_of_le (Int.emod_lt_of_pos _ (by decide)) (by decide)⟩
  have q1 : mulOk s1 s1 = true := mulOk_small (small_sq a1 b1)
  have q2 : mulOk s2 69621 = true := mulOk_small (small_sq a2 b2)
  have q3 : powOk s3 6 = true := pow6 a3 b3
  have q4 : mulOk 11 (s3 ^ 6) = true := mulOk_small (by unfold Sm; decide)
  have e1 : sSet 5 (fBin gMod (fCB gInt (pCons (fBin gAdd (fBin gAdd (fBin gAdd (fBin gMul (fVar 0) (fVar 0)) (fBin gMul (fBin gAdd (fBin gMul (fC (.int 2)) (fVar 4)) (fC (.int 3))) (fVar 0))) (fBin gMul (fBin gMul (fC (.int 7919)) (fVar 4)) (fVar 4))) (fC (.int 104729))) pNil)) (fC (.int 2147483629))) [si cell, sd (.lst T), some (.ow (.lst fs)), si r, si j, s'] = some (.nx [si cell, sd (.lst T), some (.ow (.lst fs)), si r, si j, si s1]) := by
    simp [runF, ini, finF, resOp, ioOut, owAt, sSeq, sSet, stOp, sPar, setAll, sUnp, sAug, sIf, sRet, sRetN, sExpr, sNext, sNo, sBrk, sCnt, aNil, aCons, pNil, pCons, fVar, fC, fBin, fUn, fCB, fCall, ioCall, fCallIo, mkOp, deref, derefL, fz, gI, J.gAdd, J.gSub, gMul, gDiv, gMod, gPow, gLt, gLe, gGt, gGe, gNeg, gIx, fTB, fAnd, fOr, fNot, fIfE, fAndV, fOrV, fNotV, fChain, fTup, fLst, gT, gsCons, gsNil, gN, fMake, fMeth, fMethIo, insOk, insC, fProp, fPropIo, fFld, sFldS, putAt, putD, fIsi, gIsi, tyn, subTy, gAbs, gInt, gMax2, gMin2, gLen, gList, gIs, gIsN, iSq, iR1, iR2, tAll, fApp, owL, setAt, sSetIx, sFor, fLc, pk, aPk, gEq_int, gNe_int, atI_0, atI_1, atI_2, ixN_0, List.lookup, fBinF, gM2, gEqM, gNeM, gIsC, fIsC, insC, m1, n1, n2, n3, n4, hs1]
  have e2 : sSet 5 (fBin gMod (fCB gInt (pCons (fBin gAdd (fBin gAdd (fBin gMul (fVar 5) (fVar 5)) (fBin gMul (fC (.int 40503)) (fVar 4))) (fC (.int 17))) pNil)) (fC (.int 2147483587))) [si cell, sd (.lst T), some (.ow (.lst fs)), si r, si j, si s1] = some (.nx [si cell, sd (.lst T), some (.ow (.lst fs)), si r, si j, si s2]) := by
    simp [runF, ini, finF, resOp, ioOut, owAt, sSeq, sSet, stOp, sPar, setAll, sUnp, sAug, sIf, sRet, sRetN, sExpr, sNext, sNo, sBrk, sCnt, aNil, aCons, pNil, pCons, fVar, fC, fBin, fUn, fCB, fCall, ioCall, fCallIo, mkOp, deref, derefL, fz, gI, J.gAdd, J.gSub, gMul, gDiv, gMod, gPow, gLt, gLe, gGt, gGe, gNeg, gIx, fTB, fAnd, fOr, fNot, fIfE, fAndV, fOrV, fNotV, fChain, fTup, fLst, gT, gsCons, gsNil, gN, fMake, fMeth, fMethIo, insOk, insC, fProp, fPropIo, fFld, sFldS, putAt, putD, fIsi, gIsi, tyn, subTy, gAbs, gInt, gMax2, gMin2, gLen, gList, gIs, gIsN, iSq, iR1, iR2, tAll, fApp, owL, setAt, sSetIx, sFor, fLc, pk, aPk, gEq_int, gNe_int, atI_0, atI_1, atI_2, ixN_0, List.lookup, fBinF, gM2, gEqM, gNeM, gIsC, fIsC, insC, q1, n5, hs2]
  have e3 : sSet 5 (fBin gMod (fCB gInt (pCons (fBin gAdd (fBin gMul (fVar 5) (fC (.int 69621))) (fBin gMul (fBin gMul (fVar 4) (fVar 4)) (fVar 4))) pNil)) (fC (.int 2147483423))) [si cell, sd (.lst T), some (.ow (.lst fs)), si r, si j, si s2] = some (.nx [si cell, sd (.lst T), some (.ow (.lst fs)), si r, si j, si s3]) := by
    simp [runF, ini, finF, resOp, ioOut, owAt, sSeq, sSet, stOp, sPar, setAll, sUnp, sAug, sIf, sRet, sRetN, sExpr, sNext, sNo, sBrk, sCnt, aNil, aCons, pNil, pCons, fVar, fC, fBin, fUn, fCB, fCall, ioCall, fCallIo, mkOp, deref, derefL, fz, gI, J.gAdd, J.gSub, gMul, gDiv, gMod, gPow, gLt, gLe, gGt, gGe, gNeg, gIx, fTB, fAnd, fOr, fNot, fIfE, fAndV, fOrV, fNotV, fChain, fTup, fLst, gT, gsCons, gsNil, gN, fMake, fMeth, fMethIo, insOk, insC, fProp, fPropIo, fFld, sFldS, putAt, putD, fIsi, gIsi, tyn, subTy, gAbs, gInt, gMax2, gMin2, gLen, gList, gIs, gIsN, iSq, iR1, iR2, tAll, fApp, owL, setAt, sSetIx, sFor, fLc, pk, aPk, gEq_int, gNe_int, atI_0, atI_1, atI_2, ixN_0, List.lookup, fBinF, gM2, gEqM, gNeM, gIsC, fIsC, insC, q2, n6, n7, hs3]
  unfold B_law_draws_1
  by_cases hb : 1000000000000000000 ≤ cell
  · refine ⟨r % t, r / t, si s3, seq_nx e1 (seq_nx e2 (seq_nx e3 ?_)), Int.emod_nonneg _ (by omega), Int.emod_lt_of_pos _ ht0⟩
    simp [runF, ini, finF, resOp, ioOut, owAt, sSeq, sSet, stOp, sPar, setAll, sUnp, sAug, sIf, sRet, sRetN, sExpr, sNext, sNo, sBrk, sCnt, aNil, aCons, pNil, pCons, fVar, fC, fBin, fUn, fCB, fCall, ioCall, fCallIo, mkOp, deref, derefL, fz, gI, J.gAdd, J.gSub, gMul, gDiv, gMod, gPow, gLt, gLe, gGt, gGe, gNeg, gIx, fTB, fAnd, fOr, fNot, fIfE, fAndV, fOrV, fNotV, fChain, fTup, fLst, gT, gsCons, gsNil, gN, fMake, fMeth, fMethIo, insOk, insC, fProp, fPropIo, fFld, sFldS, putAt, putD, fIsi, gIsi, tyn, subTy, gAbs, gInt, gMax2, gMin2, gLen, gList, gIs, gIsN, iSq, iR1, iR2, tAll, fApp, owL, setAt, sSetIx, sFor, fLc, pk, aPk, gEq_int, gNe_int, atI_0, atI_1, atI_2, ixN_0, List.lookup, fBinF, gM2, gEqM, gNeM, gIsC, fIsC, insC, hb, p18, hat, htd, ht0, lf]
  · refine ⟨(s3 / 7 + 11 * s3 ^ 6) % t, r, si s3, seq_nx e1 (seq_nx e2 (seq_nx e3 ?_)), Int.emod_nonneg _ (by omega), Int.emod_lt_of_pos _ ht0⟩
    simp [runF, ini, finF, resOp, ioOut, owAt, sSeq, sSet, stOp, sPar, setAll, sUnp, sAug, sIf, sRet, sRetN, sExpr, sNext, sNo, sBrk, sCnt, aNil, aCons, pNil, pCons, fVar, fC, fBin, fUn, fCB, fCall, ioCall, fCallIo, mkOp, deref, derefL, fz, gI, J.gAdd, J.gSub, gMul, gDiv, gMod, gPow, gLt, gLe, gGt, gGe, gNeg, gIx, fTB, fAnd, fOr, fNot, fIfE, fAndV, fOrV, fNotV, fChain, fTup, fLst, gT, gsCons, gsNil, gN, fMake, fMeth, fMethIo, insOk, insC, fProp, fPropIo, fFld, sFldS, putAt, putD, fIsi, gIsi, tyn, subTy, gAbs, gInt, gMax2, gMin2, gLen, gList, gIs, gIsN, iSq, iR1, iR2, tAll, fApp, owL, setAt, sSetIx, sFor, fLc, pk, aPk, gEq_int, gNe_int, atI_0, atI_1, atI_2, ixN_0, List.lookup, fBinF, gM2, gEqM, gNeM, gIsC, fIsC, insC, hb, p18, hat, htd, ht0, lf, d7, q3, q4]
theorem draws_m {cell : Int} (hc : Builtin.Int.intBits cell ≤ 1048576) (tops : List Int) (ht : ∀ t ∈ tops, divOk t = true) (hl : tops.length ≤ 1000) :
    ∃ fs : List Int, m_law_draws [.int cell, .lst (tops.map D.int)] = some (true, .lst (fs.map D.int), .non) ∧ fs.length = tops.length ∧ ∀ (j : Nat) (f t : Int), fs[j]? = some f → tops[j]? = some t → 0 ≤ f ∧ f < t := by
  have hC : Sm 1048576 cell := .of_bits hc
  obtain ⟨L, hL⟩ : ∃ L : Int, (tops.length : Int) = L := ⟨_, rfl⟩
  obtain ⟨τ', e, fs, r, k', s', h, hlen, hfs⟩ := for_rngI (g := gN 4) (f := B_law_draws_1) (fun k τ => ∃ (fs : List Int) (r : Int) (k' s' : Option Cell), τ = [si cell, sd (.lst (tops.map D.int)), some (.ow (.lst (fs.map D.int))), si r, k', s'] ∧ (fs.length : Int) = k ∧ ∀ (j : Nat) (f t : Int), fs[j]? = some f → tops[j]? = some t → 0 ≤ f ∧ f < t) 0 L (by omega)
    [si cell, sd (.lst (tops.map D.int)), some (.ow (.lst [])), si cell, none, none] ⟨[], cell, none, none, rfl, rfl, by simp⟩ fun k τ k0 k1 ⟨fs, r, k', s', h, hlen, hfs⟩ => by
      subst h
      obtain ⟨j, rfl⟩ : ∃ j : Nat, k = j := ⟨k.toNat, by omega⟩
      have hj : j < tops.length := by omega
      have hj' : j < (tops.map D.int).length := by simpa using hj
      obtain ⟨t, hT⟩ : ∃ t, tops[j] = t := ⟨_, rfl⟩
      have hat : atI (tops.map D.int) (j : Int) = some (.int t) := by rw [atI_nat _ _ hj']; simp [hT]
      have htd := ht t (by rw [← hT]; exact List.getElem_mem hj)
      have ht0 : 0 < t := by
        unfold divOk at htd
        simp only [Bool.and_eq_true, decide_eq_true_eq] at htd
        exact htd.1
      have lf : fs.length < 16777216 := by omega
      have push : ∀ z : Int, 0 ≤ z → z < t → ((fs ++ [z]).length : Int) = (j : Int) + 1 ∧ ∀ (i : Nat) (f u : Int), (fs ++ [z])[i]? = some f → tops[i]? = some u → 0 ≤ f ∧ f < u := fun z z0 z1 => by
        refine ⟨by rw [List.length_append, List.length_singleton]; omega, fun i f u h1 h2 => ?_⟩
        rcases Nat.lt_or_ge i fs.length with hi | hi
        · rw [List.getElem?_append_left hi] at h1
          exact hfs i f u h1 h2
        · rw [List.getElem?_append_right hi] at h1
          have : i - fs.length = 0 := by
            rcases Nat.eq_zero_or_pos (i - fs.length) with h | h
            · exact h
            · rw [List.getElem?_eq_none (by simp; omega)] at h1; cases h1
          rw [this] at h1
          have hij : i = j := by omega
          subst hij
          rw [List.getElem?_eq_getElem hj, hT] at h2
          cases h1; cases h2
          exact ⟨z0, z1⟩
      obtain ⟨z, r', s'', e, z0, z1⟩ := draws_turn (r := r) (fs := fs.map D.int) (k' := k') (s' := s') hC (show j ≤ 1000 by omega) hat htd ht0 (by rw [List.length_map]; exact lf)
      obtain ⟨p1, p2⟩ := push z z0 z1
      exact ⟨_, _, rfl, e, _, .inl rfl, fs ++ [z], r', si j, s'', by rw [List.map_append]; rfl, p1, p2⟩
  subst h
  refine ⟨fs, ?_, by omega, hfs⟩
  have hr : rngOk L = true := rngOk_of (by omega) (by omega)
  refine run_rt (τ' := [si cell, sd (.lst (tops.map D.int)), some (.ow (.lst (fs.map D.int))), si r, k', s']) (o := .slot 2) rfl rfl ?_ rfl
  unfold F_law_draws
  refine seq_nx (τ1 := [si cell, sd (.lst (tops.map D.int)), some (.ow (.lst [])), none, none, none]) (by simp [runF, ini, finF, resOp, ioOut, owAt, sSeq, sSet, stOp, sPar, setAll, sUnp, sAug, sIf, sRet, sRetN, sExpr, sNext, sNo, sBrk, sCnt, aNil, aCons, pNil, pCons, fVar, fC, fBin, fUn, fCB, fCall, ioCall, fCallIo, mkOp, deref, derefL, fz, gI, J.gAdd, J.gSub, gMul, gDiv, gMod, gPow, gLt, gLe, gGt, gGe, gNeg, gIx, fTB, fAnd, fOr, fNot, fIfE, fAndV, fOrV, fNotV, fChain, fTup, fLst, gT, gsCons, gsNil, gN, fMake, fMeth, fMethIo, insOk, insC, fProp, fPropIo, fFld, sFldS, putAt, putD, fIsi, gIsi, tyn, subTy, gAbs, gInt, gMax2, gMin2, gLen, gList, gIs, gIsN, iSq, iR1, iR2, tAll, fApp, owL, setAt, sSetIx, sFor, fLc, pk, aPk, gEq_int, gNe_int, atI_0, atI_1, atI_2, ixN_0, List.lookup, fBinF, gM2, gEqM, gNeM, gIsC, fIsC, insC]) ?_
  refine seq_nx (τ1 := [si cell, sd (.lst (tops.map D.int)), some (.ow (.lst [])), si cell, none, none]) (by simp [runF, ini, finF, resOp, ioOut, owAt, sSeq, sSet, stOp, sPar, setAll, sUnp, sAug, sIf, sRet, sRetN, sExpr, sNext, sNo, sBrk, sCnt, aNil, aCons, pNil, pCons, fVar, fC, fBin, fUn, fCB, fCall, ioCall, fCallIo, mkOp, deref, derefL, fz, gI, J.gAdd, J.gSub, gMul, gDiv, gMod, gPow, gLt, gLe, gGt, gGe, gNeg, gIx, fTB, fAnd, fOr, fNot, fIfE, fAndV, fOrV, fNotV, fChain, fTup, fLst, gT, gsCons, gsNil, gN, fMake, fMeth, fMethIo, insOk, insC, fProp, fPropIo, fFld, sFldS, putAt, putD, fIsi, gIsi, tyn, subTy, gAbs, gInt, gMax2, gMin2, gLen, gList, gIs, gIsN, iSq, iR1, iR2, tAll, fApp, owL, setAt, sSetIx, sFor, fLc, pk, aPk, gEq_int, gNe_int, atI_0, atI_1, atI_2, ixN_0, List.lookup, fBinF, gM2, gEqM, gNeM, gIsC, fIsC, insC]) ?_
  refine seq_nx (τ1 := [si cell, sd (.lst (tops.map D.int)), some (.ow (.lst (fs.map D.int))), si r, k', s']) ?_ (by simp [runF, ini, finF, resOp, ioOut, owAt, sSeq, sSet, stOp, sPar, setAll, sUnp, sAug, sIf, sRet, sRetN, sExpr, sNext, sNo, sBrk, sCnt, aNil, aCons, pNil, pCons, fVar, fC, fBin, fUn, fCB, fCall, ioCall, fCallIo, mkOp, deref, derefL, fz, gI, J.gAdd, J.gSub, gMul, gDiv, gMod, gPow, gLt, gLe, gGt, gGe, gNeg, gIx, fTB, fAnd, fOr, fNot, fIfE, fAndV, fOrV, fNotV, fChain, fTup, fLst, gT, gsCons, gsNil, gN, fMake, fMeth, fMethIo, insOk, insC, fProp, fPropIo, fFld, sFldS, putAt, putD, fIsi, gIsi, tyn, subTy, gAbs, gInt, gMax2, gMin2, gLen, gList, gIs, gIsN, iSq, iR1, iR2, tAll, fApp, owL, setAt, sSetIx, sFor, fLc, pk, aPk, gEq_int, gNe_int, atI_0, atI_1, atI_2, ixN_0, List.lookup, fBinF, gM2, gEqM, gNeM, gIsC, fIsC, insC])
  simp only [sFor, iR1, fCB, pCons, pNil, fVar, derefL, deref, gLen, List.length_map, hL, Option.bind_some, List.getElem?_cons_succ, List.getElem?_cons_zero, hr, if_true]
  exact e
abbrev T3 := Int × Int × Int
abbrev Q4 := Int × Int × Int × Int
abbrev en3 (t : T3) : D := .tup [.int t.1, .int t.2.1, .int t.2.2]
abbrev en4 (q : Q4) : D := .tup [.int q.1, .int q.2.1, .int q.2.2.1, .int q.2.2.2]
def trips (l : Int) : List T3 := (rgI (-l) (l + 1)).flatMap fun a => (rgI (-l) (l + 1)).flatMap fun b => (rgI (-l) (l + 1)).map fun d => (a, b, d)
theorem flat_len {α β : Type} {F : α → List β} {k : Nat} : ∀ xs : List α, (∀ x ∈ xs, (F x).length ≤ k) → (xs.flatMap F).length ≤ xs.length * k
  | [], _ => by simp
  | x :: xs, h => by
    have h1 := h x List.mem_cons_self
    have h2 := flat_len xs fun y hy => h y (List.mem_cons_of_mem _ hy)
    rw [List.flatMap_cons, List.length_append, List.length_cons, Nat.add_mul]
    omega
theorem flat1 {α β : Type} (f : α → β) : ∀ xs : List α, (xs.flatMap fun x => [f x]) = xs.map f
  | [] => rfl
  | x :: xs => by rw [List.flatMap_cons, flat1 f xs]; rfl
theorem rg_len {l : Int} (h1 : l ≤ 5) : (rgI (-l) (l + 1)).length ≤ 11 := by rw [rgI_length]; omega
theorem trips_mem {l : Int} {t : T3} (h : t ∈ trips l) : (-l ≤ t.1 ∧ t.1 ≤ l) ∧ (-l ≤ t.2.1 ∧ t.2.1 ≤ l) ∧ -l ≤ t.2.2 ∧ t.2.2 ≤ l := by
  unfold trips at h
  obtain ⟨a, ha, h⟩ := List.mem_flatMap.mp h
  obtain ⟨b, hb, h⟩ := List.mem_flatMap.mp h
  obtain ⟨d, hd, rfl⟩ := List.mem_map.mp h
  have := rgI_mem ha
  have := rgI_mem hb
  have := rgI_mem hd
  exact ⟨by dsimp only; omega, by dsimp only; omega, by dsimp only; omega⟩
theorem iR2_lim {l : Int} {τ : Tau} {i : Nat} (h0 : 0 ≤ l) (h1 : l ≤ 5) (hi : τ[i]? = some (si l)) : iR2 (pCons (fUn gNeg (fVar i)) (pCons (fBin gAdd (fVar i) (fC (.int 1))) pNil)) τ = some (rngD (-l) (l + 1), τ) := by
  have r1 : rngOk (-l) = true := by
    unfold rngOk
    rw [Bool.and_eq_true, decide_eq_true_eq, decide_eq_true_eq]
    exact ⟨Int.le_trans (by decide) (show (-5 : Int) ≤ -l by omega), Int.lt_of_le_of_lt (show -l ≤ 0 by omega) (by decide)⟩
  have r2 : rngOk (l + 1) = true := rngOk_of (by omega) (by omega)
  have hv : fVar i τ = some (.val (.int l), τ) := by simp only [fVar, hi]
  simp [iR2, pCons, pNil, fUn, fBin, fC, hv, deref, derefL, gNeg, J.gAdd, gI, r1, r2]
theorem triples_m {l : Int} (h0 : 0 ≤ l) (h1 : l ≤ 5) : m_law_triples [.int l] = some (true, .lst ((trips l).map en3), .non) := by
  have L := rg_len h1
  have turn : ∀ (a b d : Int) (acc : List D) (c : Option Cell), acc.length < 16777216 → B_law_triples_1 [si l, some (.ow (.lst acc)), si a, si b, si d] = some (.nx [si l, some (.ow (.lst (acc ++ [en3 (a, b, d)]))), si a, si b, si d]) := fun a b d acc c hl => by
    simp [B_law_triples_1, runF, ini, finF, resOp, ioOut, owAt, sSeq, sSet, stOp, sPar, setAll, sUnp, sAug, sIf, sRet, sRetN, sExpr, sNext, sNo, sBrk, sCnt, aNil, aCons, pNil, pCons, fVar, fC, fBin, fUn, fCB, fCall, ioCall, fCallIo, mkOp, deref, derefL, fz, gI, J.gAdd, J.gSub, gMul, gDiv, gMod, gPow, gLt, gLe, gGt, gGe, gNeg, gIx, fTB, fAnd, fOr, fNot, fIfE, fAndV, fOrV, fNotV, fChain, fTup, fLst, gT, gsCons, gsNil, gN, fMake, fMeth, fMethIo, insOk, insC, fProp, fPropIo, fFld, sFldS, putAt, putD, fIsi, gIsi, tyn, subTy, gAbs, gInt, gMax2, gMin2, gLen, gList, gIs, gIsN, iSq, iR1, iR2, tAll, fApp, owL, setAt, sSetIx, sFor, fLc, pk, aPk, gEq_int, gNe_int, atI_0, atI_1, atI_2, ixN_0, List.lookup, fBinF, gM2, gEqM, gNeM, gIsC, fIsC, insC, hl]
  have row : ∀ (a b : Int) (acc : List D) (c : Option Cell), acc.length ≤ 10000 → ∃ c', B_law_triples_2 [si l, some (.ow (.lst acc)), si a, si b, c] = some (.nx [si l, some (.ow (.lst (acc ++ ((rgI (-l) (l + 1)).map fun d => (a, b, d)).map en3))), si a, si b, c']) := fun a b acc c hl => by
    obtain ⟨c', e⟩ := for_acc (g := gN 4) (f := B_law_triples_1) (fun acc c => [si l, some (.ow (.lst acc)), si a, si b, c]) D.int (fun d => [en3 (a, b, d)]) 20000 (rgI (-l) (l + 1)) acc c (by
      have := flat_len (k := 1) (F := fun d => [en3 (a, b, d)]) (rgI (-l) (l + 1)) (fun x _ => by simp)
      omega) fun x _ acc c hl => ⟨_, si x, rfl, turn a b x acc c (by simp at hl; omega)⟩
    refine ⟨c', ?_⟩
    unfold B_law_triples_2
    simp only [sFor]
    rw [iR2_lim h0 h1 (by rfl), rngD_eq]
    show forD _ _ _ _ = _
    rw [e, flat1, List.map_map]
    rfl
  have plane : ∀ (a : Int) (acc : List D) (c : Option Cell × Option Cell), acc.length ≤ 5000 → ∃ c', B_law_triples_3 [si l, some (.ow (.lst acc)), si a, c.1, c.2] = some (.nx [si l, some (.ow (.lst (acc ++ ((rgI (-l) (l + 1)).flatMap fun b => (rgI (-l) (l + 1)).map fun d => (a, b, d)).map en3))), si a, (c' : Option Cell × Option Cell).1, c'.2]) := fun a acc c hl => by
    obtain ⟨c', e⟩ := for_acc (γ := Option Cell × Option Cell) (g := gN 3) (f := B_law_triples_2) (fun acc c => [si l, some (.ow (.lst acc)), si a, c.1, c.2]) D.int (fun b => ((rgI (-l) (l + 1)).map fun d => (a, b, d)).map en3) 9000 (rgI (-l) (l + 1)) acc c (by
      have := flat_len (k := 11) (F := fun b => ((rgI (-l) (l + 1)).map fun d => ((a, b, d) : T3)).map en3) (rgI (-l) (l + 1)) (fun x _ => by rw [List.length_map, List.length_map]; exact L)
      omega) fun x _ acc c hl => by
        obtain ⟨c', e⟩ := row a x acc c.2 (by omega)
        exact ⟨_, (si x, c'), rfl, e⟩
    refine ⟨c', ?_⟩
    unfold B_law_triples_3
    simp only [sFor]
    rw [iR2_lim h0 h1 (by rfl), rngD_eq]
    show forD _ _ _ _ = _
    rw [e, List.map_flatMap]
  obtain ⟨c', e⟩ := for_acc (γ := Option Cell × Option Cell × Option Cell) (g := gN 2) (f := B_law_triples_3) (fun acc c => [si l, some (.ow (.lst acc)), c.1, c.2.1, c.2.2]) D.int (fun a => ((rgI (-l) (l + 1)).flatMap fun b => (rgI (-l) (l + 1)).map fun d => (a, b, d)).map en3) 4000 (rgI (-l) (l + 1)) [] (none, none, none) (by
      have := flat_len (k := 121) (F := fun a => ((rgI (-l) (l + 1)).flatMap fun b => (rgI (-l) (l + 1)).map fun d => ((a, b, d) : T3)).map en3) (rgI (-l) (l + 1)) (fun x _ => by
        rw [List.length_map]
        have := flat_len (k := 11) (F := fun b => (rgI (-l) (l + 1)).map fun d => ((x, b, d) : T3)) (rgI (-l) (l + 1)) (fun x _ => by rw [List.length_map]; exact L)
        omega)
      simp only [List.length_nil]
      omega) fun x _ acc c hl => by
        obtain ⟨c', e⟩ := plane x acc c.2 (by omega)
        exact ⟨_, (si x, c'), rfl, e⟩
  rw [List.nil_append, ← List.map_flatMap] at e
  refine run_rt (τ' := [si l, some (.ow (.lst ((trips l).map en3))), c'.1, c'.2.1, c'.2.2]) (o := .slot 1) rfl rfl ?_ rfl
  unfold F_law_triples
  refine seq_nx (τ1 := [si l, some (.ow (.lst [])), none, none, none]) (by simp [runF, ini, finF, resOp, ioOut, owAt, sSeq, sSet, stOp, sPar, setAll, sUnp, sAug, sIf, sRet, sRetN, sExpr, sNext, sNo, sBrk, sCnt, aNil, aCons, pNil, pCons, fVar, fC, fBin, fUn, fCB, fCall, ioCall, fCallIo, mkOp, deref, derefL, fz, gI, J.gAdd, J.gSub, gMul, gDiv, gMod, gPow, gLt, gLe, gGt, gGe, gNeg, gIx, fTB, fAnd, fOr, fNot, fIfE, fAndV, fOrV, fNotV, fChain, fTup, fLst, gT, gsCons, gsNil, gN, fMake, fMeth, fMethIo, insOk, insC, fProp, fPropIo, fFld, sFldS, putAt, putD, fIsi, gIsi, tyn, subTy, gAbs, gInt, gMax2, gMin2, gLen, gList, gIs, gIsN, iSq, iR1, iR2, tAll, fApp, owL, setAt, sSetIx, sFor, fLc, pk, aPk, gEq_int, gNe_int, atI_0, atI_1, atI_2, ixN_0, List.lookup, fBinF, gM2, gEqM, gNeM, gIsC, fIsC, insC]) ?_
  refine seq_nx (τ1 := [si l, some (.ow (.lst ((trips l).map en3))), c'.1, c'.2.1, c'.2.2]) ?_ (by simp [runF, ini, finF, resOp, ioOut, owAt, sSeq, sSet, stOp, sPar, setAll, sUnp, sAug, sIf, sRet, sRetN, sExpr, sNext, sNo, sBrk, sCnt, aNil, aCons, pNil, pCons, fVar, fC, fBin, fUn, fCB, fCall, ioCall, fCallIo, mkOp, deref, derefL, fz, gI, J.gAdd, J.gSub, gMul, gDiv, gMod, gPow, gLt, gLe, gGt, gGe, gNeg, gIx, fTB, fAnd, fOr, fNot, fIfE, fAndV, fOrV, fNotV, fChain, fTup, fLst, gT, gsCons, gsNil, gN, fMake, fMeth, fMethIo, insOk, insC, fProp, fPropIo, fFld, sFldS, putAt, putD, fIsi, gIsi, tyn, subTy, gAbs, gInt, gMax2, gMin2, gLen, gList, gIs, gIsN, iSq, iR1, iR2, tAll, fApp, owL, setAt, sSetIx, sFor, fLc, pk, aPk, gEq_int, gNe_int, atI_0, atI_1, atI_2, ixN_0, List.lookup, fBinF, gM2, gEqM, gNeM, gIsC, fIsC, insC])
  simp only [sFor]
  rw [iR2_lim h0 h1 (by rfl), rngD_eq]
  exact e
def bad (t : T3) (q : Q4) : Bool := decide ((t.1 * q.2.1 + t.2.1 * q.2.2.1 + t.2.2 - q.2.2.2) % q.1 ≠ 0)
def okT (seen : List Q4) (t : T3) : Bool := seen.all fun q => !bad t q
structure GoodQ (q : Q4) : Prop where
  n0 : 1 ≤ q.1
  n1 : q.1 ≤ 1000000000000000000000000000000
  r0 : 0 ≤ q.2.1
  r1 : q.2.1 < q.1
  c0 : 0 ≤ q.2.2.1
  c1 : q.2.2.1 < q.1
  s0 : 0 ≤ q.2.2.2
  s1 : q.2.2.2 < q.1
theorem seen_ok {q : Q4} (h : GoodQ q) : m_check_seen [.int q.1, .int q.2.1, .int q.2.2.1, .int q.2.2.2] = some (false, .non, .non) := by
  have e := cell_ok h.n0 h.r0 h.r1 h.c0 h.c1
  simp [m_check_seen, F_check_seen, runF, ini, finF, resOp, ioOut, owAt, sSeq, sSet, stOp, sPar, setAll, sUnp, sAug, sIf, sRet, sRetN, sExpr, sNext, sNo, sBrk, sCnt, aNil, aCons, pNil, pCons, fVar, fC, fBin, fUn, fCB, fCall, ioCall, fCallIo, mkOp, deref, derefL, fz, gI, J.gAdd, J.gSub, gMul, gDiv, gMod, gPow, gLt, gLe, gGt, gGe, gNeg, gIx, fTB, fAnd, fOr, fNot, fIfE, fAndV, fOrV, fNotV, fChain, fTup, fLst, gT, gsCons, gsNil, gN, fMake, fMeth, fMethIo, insOk, insC, fProp, fPropIo, fFld, sFldS, putAt, putD, fIsi, gIsi, tyn, subTy, gAbs, gInt, gMax2, gMin2, gLen, gList, gIs, gIsN, iSq, iR1, iR2, tAll, fApp, owL, setAt, sSetIx, sFor, fLc, pk, aPk, gEq_int, gNe_int, atI_0, atI_1, atI_2, ixN_0, List.lookup, fBinF, gM2, gEqM, gNeM, gIsC, fIsC, insC, e, h.s0, h.s1]
theorem smT {l x : Int} (h1 : l ≤ 5) (h : -l ≤ x ∧ x ≤ l) : Sm 64 x := .of (by omega) (by omega)
theorem flat_if {α β : Type} (p : α → Bool) (f : α → β) : ∀ xs : List α, (xs.flatMap fun x => if p x = true then [f x] else []) = (xs.filter p).map f
  | [] => rfl
  | x :: xs => by
    rw [List.flatMap_cons, flat_if p f xs, List.filter_cons]
    cases p x <;> rfl
theorem flat_map {α β γ : Type} (f : α → β) (F : β → List γ) : ∀ xs : List α, ((xs.map f).flatMap F) = xs.flatMap fun x => F (f x)
  | [] => rfl
  | x :: xs => by rw [List.map_cons, List.flatMap_cons, List.flatMap_cons, flat_map f F xs]
theorem flat_flat {α β γ : Type} (f : α → List β) (F : β → List γ) : ∀ xs : List α, ((xs.flatMap f).flatMap F) = xs.flatMap fun x => (f x).flatMap F
  | [] => rfl
  | x :: xs => by rw [List.flatMap_cons, List.flatMap_append, List.flatMap_cons, flat_flat f F xs]
theorem everywhere_m {l : Int} {seen : List Q4} (h0 : 0 ≤ l) (h1 : l ≤ 5) (hs : ∀ q ∈ seen, GoodQ q) (hl : seen.length ≤ 1000) : m_everywhere [.lst (seen.map en4), .int l] = some (true, .lst (((trips l).filter (okT seen)).map en3), .non) := by
  have L := rg_len h1
  obtain ⟨S, hS⟩ : ∃ S, D.lst (seen.map en4) = S := ⟨_, rfl⟩
  -- the test of one triple
  have wrong : ∀ (a b d : Int) (c2 c3 c4 c5 w : Option Cell) (acc : List D), (-l ≤ a ∧ a ≤ l) → (-l ≤ b ∧ b ≤ l) → lcD [2, 3, 4, 5] (gT 4 (gsCons (gN 2) (gsCons (gN 3) (gsCons (gN 4) (gsCons (gN 5) gsNil))))) C_everywhere_1 X_everywhere_1 (seen.map en4) [] [sd S, si l, c2, c3, c4, c5, some (.ow (.lst acc)), si a, si b, si d, w] = some (((seen.filter (bad (a, b, d))).map (·.1)).map D.int, [sd S, si l, c2, c3, c4, c5, some (.ow (.lst acc)), si a, si b, si d, w]) := fun a b d c2 c3 c4 c5 w acc ha hb => by
    have := lcD_sift (own := [2, 3, 4, 5]) (g := gT 4 (gsCons (gN 2) (gsCons (gN 3) (gsCons (gN 4) (gsCons (gN 5) gsNil))))) (ft := C_everywhere_1) (fe := X_everywhere_1) (τ := [sd S, si l, c2, c3, c4, c5, some (.ow (.lst acc)), si a, si b, si d, w]) en4 (bad (a, b, d)) (fun q => .int q.1) seen [] (by simp; omega) fun q hq => by
      have G := hs q hq
      have m1 : mulOk a q.2.1 = true := mulOk_small (smT h1 ha)
      have m2 : mulOk b q.2.2.1 = true := mulOk_small (smT h1 hb)
      have n0 : 0 < q.1 := by have := G.n0; omega
      refine ⟨[sd S, si l, si q.1, si q.2.1, si q.2.2.1, si q.2.2.2, some (.ow (.lst acc)), si a, si b, si d, w], [sd S, si l, si q.1, si q.2.1, si q.2.2.1, si q.2.2.2, some (.ow (.lst acc)), si a, si b, si d, w], rfl, ?_, fun _ => rfl, fun _ => ⟨.val (.int q.1), [sd S, si l, si q.1, si q.2.1, si q.2.2.1, si q.2.2.2, some (.ow (.lst acc)), si a, si b, si d, w], [sd S, si l, si q.1, si q.2.1, si q.2.2.1, si q.2.2.2, some (.ow (.lst acc)), si a, si b, si d, w], rfl, rfl, rfl⟩⟩
      simp [C_everywhere_1, runF, ini, finF, resOp, ioOut, owAt, sSeq, sSet, stOp, sPar, setAll, sUnp, sAug, sIf, sRet, sRetN, sExpr, sNext, sNo, sBrk, sCnt, aNil, aCons, pNil, pCons, fVar, fC, fBin, fUn, fCB, fCall, ioCall, fCallIo, mkOp, deref, derefL, fz, gI, J.gAdd, J.gSub, gMul, gDiv, gMod, gPow, gLt, gLe, gGt, gGe, gNeg, gIx, fTB, fAnd, fOr, fNot, fIfE, fAndV, fOrV, fNotV, fChain, fTup, fLst, gT, gsCons, gsNil, gN, fMake, fMeth, fMethIo, insOk, insC, fProp, fPropIo, fFld, sFldS, putAt, putD, fIsi, gIsi, tyn, subTy, gAbs, gInt, gMax2, gMin2, gLen, gList, gIs, gIsN, iSq, iR1, iR2, tAll, fApp, owL, setAt, sSetIx, sFor, fLc, pk, aPk, gEq_int, gNe_int, atI_0, atI_1, atI_2, ixN_0, List.lookup, fBinF, gM2, gEqM, gNeM, gIsC, fIsC, insC, m1, m2, n0, bad]
    rw [this, List.nil_append, List.map_map]
    rfl
  have turn : ∀ (a b d : Int) (c2 c3 c4 c5 w : Option Cell) (acc : List D), (-l ≤ a ∧ a ≤ l) → (-l ≤ b ∧ b ≤ l) → acc.length < 16777216 → ∃ w', B_everywhere_2 [sd S, si l, c2, c3, c4, c5, some (.ow (.lst acc)), si a, si b, si d, w] = some (.nx [sd S, si l, c2, c3, c4, c5, some (.ow (.lst (acc ++ (if okT seen (a, b, d) = true then [en3 (a, b, d)] else [])))), si a, si b, si d, w']) := fun a b d c2 c3 c4 c5 w acc ha hb hl => by
    have e := wrong a b d c2 c3 c4 c5 w acc ha hb
    have ge := gEq_ints ((seen.filter (bad (a, b, d))).map (·.1)) []
    rw [List.map_nil] at ge
    obtain ⟨W, hW⟩ : ∃ W, ((seen.filter (bad (a, b, d))).map (·.1)).map D.int = W := ⟨_, rfl⟩
    rw [hW] at e ge
    have hd : decide ((seen.filter (bad (a, b, d))).map (·.1) = []) = okT seen (a, b, d) := by
      rw [Bool.eq_iff_iff, decide_eq_true_eq, List.map_eq_nil_iff, List.filter_eq_nil_iff]
      unfold okT
      rw [List.all_eq_true]
      simp
    rw [hd] at ge
    unfold B_everywhere_2
    refine ⟨some (.ow (.lst W)), ?_⟩
    refine seq_nx (τ1 := [sd S, si l, c2, c3, c4, c5, some (.ow (.lst acc)), si a, si b, si d, some (.ow (.lst W))]) ?_ ?_
    · simp [runF, ini, finF, resOp, ioOut, owAt, sSeq, sSet, stOp, sPar, setAll, sUnp, sAug, sIf, sRet, sRetN, sExpr, sNext, sNo, sBrk, sCnt, aNil, aCons, pNil, pCons, fVar, fC, fBin, fUn, fCB, fCall, ioCall, fCallIo, mkOp, deref, derefL, fz, gI, J.gAdd, J.gSub, gMul, gDiv, gMod, gPow, gLt, gLe, gGt, gGe, gNeg, gIx, fTB, fAnd, fOr, fNot, fIfE, fAndV, fOrV, fNotV, fChain, fTup, fLst, gT, gsCons, gsNil, gN, fMake, fMeth, fMethIo, insOk, insC, fProp, fPropIo, fFld, sFldS, putAt, putD, fIsi, gIsi, tyn, subTy, gAbs, gInt, gMax2, gMin2, gLen, gList, gIs, gIsN, iSq, iR1, iR2, tAll, fApp, owL, setAt, sSetIx, sFor, fLc, pk, aPk, gEq_int, gNe_int, atI_0, atI_1, atI_2, ixN_0, List.lookup, fBinF, gM2, gEqM, gNeM, gIsC, fIsC, insC, ← hS]
      rw [hS, e]
      rfl
    · by_cases ho : okT seen (a, b, d) = true
      · simp [runF, ini, finF, resOp, ioOut, owAt, sSeq, sSet, stOp, sPar, setAll, sUnp, sAug, sIf, sRet, sRetN, sExpr, sNext, sNo, sBrk, sCnt, aNil, aCons, pNil, pCons, fVar, fC, fBin, fUn, fCB, fCall, ioCall, fCallIo, mkOp, deref, derefL, fz, gI, J.gAdd, J.gSub, gMul, gDiv, gMod, gPow, gLt, gLe, gGt, gGe, gNeg, gIx, fTB, fAnd, fOr, fNot, fIfE, fAndV, fOrV, fNotV, fChain, fTup, fLst, gT, gsCons, gsNil, gN, fMake, fMeth, fMethIo, insOk, insC, fProp, fPropIo, fFld, sFldS, putAt, putD, fIsi, gIsi, tyn, subTy, gAbs, gInt, gMax2, gMin2, gLen, gList, gIs, gIsN, iSq, iR1, iR2, tAll, fApp, owL, setAt, sSetIx, sFor, fLc, pk, aPk, gEq_int, gNe_int, atI_0, atI_1, atI_2, ixN_0, List.lookup, fBinF, gM2, gEqM, gNeM, gIsC, fIsC, insC, ge, ho, hl]
      · simp [runF, ini, finF, resOp, ioOut, owAt, sSeq, sSet, stOp, sPar, setAll, sUnp, sAug, sIf, sRet, sRetN, sExpr, sNext, sNo, sBrk, sCnt, aNil, aCons, pNil, pCons, fVar, fC, fBin, fUn, fCB, fCall, ioCall, fCallIo, mkOp, deref, derefL, fz, gI, J.gAdd, J.gSub, gMul, gDiv, gMod, gPow, gLt, gLe, gGt, gGe, gNeg, gIx, fTB, fAnd, fOr, fNot, fIfE, fAndV, fOrV, fNotV, fChain, fTup, fLst, gT, gsCons, gsNil, gN, fMake, fMeth, fMethIo, insOk, insC, fProp, fPropIo, fFld, sFldS, putAt, putD, fIsi, gIsi, tyn, subTy, gAbs, gInt, gMax2, gMin2, gLen, gList, gIs, gIsN, iSq, iR1, iR2, tAll, fApp, owL, setAt, sSetIx, sFor, fLc, pk, aPk, gEq_int, gNe_int, atI_0, atI_1, atI_2, ixN_0, List.lookup, fBinF, gM2, gEqM, gNeM, gIsC, fIsC, insC, ge, ho]
  let G : T3 → List D := fun t => if okT seen t = true then [en3 t] else []
  have G1 : ∀ t, (G t).length ≤ 1 := fun t => by dsimp only [G]; split <;> simp
  have row : ∀ (a b : Int) (acc : List D) (c2 c3 c4 c5 c9 w : Option Cell), (-l ≤ a ∧ a ≤ l) → (-l ≤ b ∧ b ≤ l) → acc.length ≤ 10000 → ∃ c : Option Cell × Option Cell, B_everywhere_3 [sd S, si l, c2, c3, c4, c5, some (.ow (.lst acc)), si a, si b, c9, w] = some (.nx [sd S, si l, c2, c3, c4, c5, some (.ow (.lst (acc ++ (rgI (-l) (l + 1)).flatMap fun d => G (a, b, d)))), si a, si b, c.1, c.2]) := fun a b acc c2 c3 c4 c5 c9 w ha hb hl => by
    obtain ⟨c', e⟩ := for_acc (γ := Option Cell × Option Cell) (g := gN 9) (f := B_everywhere_2) (fun acc c => [sd S, si l, c2, c3, c4, c5, some (.ow (.lst acc)), si a, si b, c.1, c.2]) D.int (fun d => G (a, b, d)) 20000 (rgI (-l) (l + 1)) acc (c9, w) (by
      have := flat_len (k := 1) (F := fun d => G (a, b, d)) (rgI (-l) (l + 1)) (fun x _ => G1 _)
      omega) fun x _ acc c hl => by
        obtain ⟨w', e⟩ := turn a b x c2 c3 c4 c5 c.2 acc ha hb (by omega)
        exact ⟨_, (si x, w'), rfl, e⟩
    refine ⟨c', ?_⟩
    unfold B_everywhere_3
    simp only [sFor]
    rw [iR2_lim h0 h1 (by rfl), rngD_eq]
    exact e
  have plane : ∀ (a : Int) (acc : List D) (c2 c3 c4 c5 c8 c9 w : Option Cell), (-l ≤ a ∧ a ≤ l) → acc.length ≤ 5000 → ∃ c : Option Cell × Option Cell × Option Cell, B_everywhere_4 [sd S, si l, c2, c3, c4, c5, some (.ow (.lst acc)), si a, c8, c9, w] = some (.nx [sd S, si l, c2, c3, c4, c5, some (.ow (.lst (acc ++ (rgI (-l) (l + 1)).flatMap fun b => (rgI (-l) (l + 1)).flatMap fun d => G (a, b, d)))), si a, c.1, c.2.1, c.2.2]) := fun a acc c2 c3 c4 c5 c8 c9 w ha hl => by
    obtain ⟨c', e⟩ := for_acc (γ := Option Cell × Option Cell × Option Cell) (g := gN 8) (f := B_everywhere_3) (fun acc c => [sd S, si l, c2, c3, c4, c5, some (.ow (.lst acc)), si a, c.1, c.2.1, c.2.2]) D.int (fun b => (rgI (-l) (l + 1)).flatMap fun d => G (a, b, d)) 9000 (rgI (-l) (l + 1)) acc (c8, c9, w) (by
      have := flat_len (k := 11) (F := fun b => (rgI (-l) (l + 1)).flatMap fun d => G (a, b, d)) (rgI (-l) (l + 1)) (fun x _ => by
        have := flat_len (k := 1) (F := fun d => G (a, x, d)) (rgI (-l) (l + 1)) (fun x _ => G1 _)
        omega)
      omega) fun x hx acc c hl => by
        have hx' := rgI_mem hx
        obtain ⟨c', e⟩ := row a x acc c2 c3 c4 c5 c.2.1 c.2.2 ha (by omega) (by omega)
        exact ⟨_, (si x, c'.1, c'.2), rfl, e⟩
    refine ⟨c', ?_⟩
    unfold B_everywhere_4
    simp only [sFor]
    rw [iR2_lim h0 h1 (by rfl), rngD_eq]
    exact e
  have first : ∃ c2 c3 c4 c5, forD (gT 4 (gsCons (gN 2) (gsCons (gN 3) (gsCons (gN 4) (gsCons (gN 5) gsNil))))) B_everywhere_1 (seen.map en4) [sd S, si l, none, none, none, none, none, none, none, none, none] = some (.nx [sd S, si l, c2, c3, c4, c5, none, none, none, none, none]) := by
    obtain ⟨τ', e, c2, c3, c4, c5, h⟩ := for_lst (g := gT 4 (gsCons (gN 2) (gsCons (gN 3) (gsCons (gN 4) (gsCons (gN 5) gsNil))))) (f := B_everywhere_1) (fun τ => ∃ c2 c3 c4 c5, τ = [sd S, si l, c2, c3, c4, c5, none, none, none, none, none]) (seen.map en4) _ ⟨none, none, none, none, rfl⟩ fun d τ hd ⟨c2, c3, c4, c5, e⟩ => by
      subst e
      obtain ⟨q, hq, rfl⟩ := List.mem_map.mp hd
      refine ⟨[sd S, si l, si q.1, si q.2.1, si q.2.2.1, si q.2.2.2, none, none, none, none, none], .nx [sd S, si l, si q.1, si q.2.1, si q.2.2.1, si q.2.2.2, none, none, none, none, none], rfl, ?_, _, .inl rfl, _, _, _, _, rfl⟩
      simp [B_everywhere_1, runF, ini, finF, resOp, ioOut, owAt, sSeq, sSet, stOp, sPar, setAll, sUnp, sAug, sIf, sRet, sRetN, sExpr, sNext, sNo, sBrk, sCnt, aNil, aCons, pNil, pCons, fVar, fC, fBin, fUn, fCB, fCall, ioCall, fCallIo, mkOp, deref, derefL, fz, gI, J.gAdd, J.gSub, gMul, gDiv, gMod, gPow, gLt, gLe, gGt, gGe, gNeg, gIx, fTB, fAnd, fOr, fNot, fIfE, fAndV, fOrV, fNotV, fChain, fTup, fLst, gT, gsCons, gsNil, gN, fMake, fMeth, fMethIo, insOk, insC, fProp, fPropIo, fFld, sFldS, putAt, putD, fIsi, gIsi, tyn, subTy, gAbs, gInt, gMax2, gMin2, gLen, gList, gIs, gIsN, iSq, iR1, iR2, tAll, fApp, owL, setAt, sSetIx, sFor, fLc, pk, aPk, gEq_int, gNe_int, atI_0, atI_1, atI_2, ixN_0, List.lookup, fBinF, gM2, gEqM, gNeM, gIsC, fIsC, insC, seen_ok (hs q hq)]
    subst h
    exact ⟨c2, c3, c4, c5, e⟩
  obtain ⟨c2, c3, c4, c5, e1⟩ := first
  obtain ⟨c', e⟩ := for_acc (γ := Option Cell × Option Cell × Option Cell × Option Cell) (g := gN 7) (f := B_everywhere_4) (fun acc c => [sd S, si l, c2, c3, c4, c5, some (.ow (.lst acc)), c.1, c.2.1, c.2.2.1, c.2.2.2]) D.int (fun a => (rgI (-l) (l + 1)).flatMap fun b => (rgI (-l) (l + 1)).flatMap fun d => G (a, b, d)) 4000 (rgI (-l) (l + 1)) [] (none, none, none, none) (by
      have := flat_len (k := 121) (F := fun a => (rgI (-l) (l + 1)).flatMap fun b => (rgI (-l) (l + 1)).flatMap fun d => G (a, b, d)) (rgI (-l) (l + 1)) (fun x _ => by
        have := flat_len (k := 11) (F := fun b => (rgI (-l) (l + 1)).flatMap fun d => G (x, b, d)) (rgI (-l) (l + 1)) (fun y _ => by
          have := flat_len (k := 1) (F := fun d => G (x, y, d)) (rgI (-l) (l + 1)) (fun x _ => G1 _)
          omega)
        omega)
      simp only [List.length_nil]
      omega) fun x hx acc c hl => by
        have hx' := rgI_mem hx
        obtain ⟨c', e⟩ := plane x acc c2 c3 c4 c5 c.2.1 c.2.2.1 c.2.2.2 (by omega) (by omega)
        exact ⟨_, (si x, c'), rfl, e⟩
  have eT : ((rgI (-l) (l + 1)).flatMap fun a => (rgI (-l) (l + 1)).flatMap fun b => (rgI (-l) (l + 1)).flatMap fun d => G (a, b, d)) = ((trips l).filter (okT seen)).map en3 := by
    rw [← flat_if]
    unfold trips
    rw [flat_flat]
    congr 1
    funext a
    rw [flat_flat]
    congr 1
    funext b
    rw [flat_map]
  rw [List.nil_append, eT] at e
  refine run_rt (τ' := [sd S, si l, c2, c3, c4, c5, some (.ow (.lst (((trips l).filter (okT seen)).map en3))), c'.1, c'.2.1, c'.2.2.1, c'.2.2.2]) (τ := [sd S, si l, none, none, none, none, none, none, none, none, none]) (o := .slot 6) rfl (by rw [← hS]; rfl) ?_ rfl
  unfold F_everywhere
  refine seq_nx (τ1 := [sd S, si l, c2, c3, c4, c5, none, none, none, none, none]) ?_ ?_
  · rw [← hS] at e1 ⊢
    exact e1
  refine seq_nx (τ1 := [sd S, si l, c2, c3, c4, c5, some (.ow (.lst [])), none, none, none, none]) (by simp [runF, ini, finF, resOp, ioOut, owAt, sSeq, sSet, stOp, sPar, setAll, sUnp, sAug, sIf, sRet, sRetN, sExpr, sNext, sNo, sBrk, sCnt, aNil, aCons, pNil, pCons, fVar, fC, fBin, fUn, fCB, fCall, ioCall, fCallIo, mkOp, deref, derefL, fz, gI, J.gAdd, J.gSub, gMul, gDiv, gMod, gPow, gLt, gLe, gGt, gGe, gNeg, gIx, fTB, fAnd, fOr, fNot, fIfE, fAndV, fOrV, fNotV, fChain, fTup, fLst, gT, gsCons, gsNil, gN, fMake, fMeth, fMethIo, insOk, insC, fProp, fPropIo, fFld, sFldS, putAt, putD, fIsi, gIsi, tyn, subTy, gAbs, gInt, gMax2, gMin2, gLen, gList, gIs, gIsN, iSq, iR1, iR2, tAll, fApp, owL, setAt, sSetIx, sFor, fLc, pk, aPk, gEq_int, gNe_int, atI_0, atI_1, atI_2, ixN_0, List.lookup, fBinF, gM2, gEqM, gNeM, gIsC, fIsC, insC]) ?_
  refine seq_nx (τ1 := [sd S, si l, c2, c3, c4, c5, some (.ow (.lst (((trips l).filter (okT seen)).map en3))), c'.1, c'.2.1, c'.2.2.1, c'.2.2.2]) ?_ (by simp [runF, ini, finF, resOp, ioOut, owAt, sSeq, sSet, stOp, sPar, setAll, sUnp, sAug, sIf, sRet, sRetN, sExpr, sNext, sNo, sBrk, sCnt, aNil, aCons, pNil, pCons, fVar, fC, fBin, fUn, fCB, fCall, ioCall, fCallIo, mkOp, deref, derefL, fz, gI, J.gAdd, J.gSub, gMul, gDiv, gMod, gPow, gLt, gLe, gGt, gGe, gNeg, gIx, fTB, fAnd, fOr, fNot, fIfE, fAndV, fOrV, fNotV, fChain, fTup, fLst, gT, gsCons, gsNil, gN, fMake, fMeth, fMethIo, insOk, insC, fProp, fPropIo, fFld, sFldS, putAt, putD, fIsi, gIsi, tyn, subTy, gAbs, gInt, gMax2, gMin2, gLen, gList, gIs, gIsN, iSq, iR1, iR2, tAll, fApp, owL, setAt, sSetIx, sFor, fLc, pk, aPk, gEq_int, gNe_int, atI_0, atI_1, atI_2, ixN_0, List.lookup, fBinF, gM2, gEqM, gNeM, gIsC, fIsC, insC])
  simp only [sFor]
  rw [iR2_lim h0 h1 (by rfl), rngD_eq]
  exact e
theorem pl3 (t : T3) : Pl 1 (en3 t) := .tup fun x hx => by
  simp only [List.mem_cons, List.not_mem_nil, or_false] at hx
  rcases hx with rfl | rfl | rfl <;> exact .int _ _
theorem pl3s (ts : List T3) : Pl 64 (.lst (ts.map en3)) := .lst fun x hx => by
  obtain ⟨t, _, rfl⟩ := List.mem_map.mp hx
  exact (pl3 t).up _ (by decide)
theorem pl4s (ts : List Q4) : Pl 64 (.lst (ts.map en4)) := .lst fun x hx => by
  obtain ⟨t, _, rfl⟩ := List.mem_map.mp hx
  refine .tup fun x hx => ?_
  simp only [List.mem_cons, List.not_mem_nil, or_false] at hx
  rcases hx with rfl | rfl | rfl | rfl <;> exact .int _ _
theorem same_m (ts : List T3) : m_law_same [.lst (ts.map en3), .lst (ts.map en3)] = some (false, .bl true, .non) := by
  have ne := gNe_refl (pl3s ts)
  obtain ⟨S, hS⟩ : ∃ S, D.lst (ts.map en3) = S := ⟨_, rfl⟩
  have hi : fIsi "list" (fVar 0) [sd S, sd S, none, none] = some (.val (.bl true), [sd S, sd S, none, none]) := by
    rw [← hS]; simp [runF, ini, finF, resOp, ioOut, owAt, sSeq, sSet, stOp, sPar, setAll, sUnp, sAug, sIf, sRet, sRetN, sExpr, sNext, sNo, sBrk, sCnt, aNil, aCons, pNil, pCons, fVar, fC, fBin, fUn, fCB, fCall, ioCall, fCallIo, mkOp, deref, derefL, fz, gI, J.gAdd, J.gSub, gMul, gDiv, gMod, gPow, gLt, gLe, gGt, gGe, gNeg, gIx, fTB, fAnd, fOr, fNot, fIfE, fAndV, fOrV, fNotV, fChain, fTup, fLst, gT, gsCons, gsNil, gN, fMake, fMeth, fMethIo, insOk, insC, fProp, fPropIo, fFld, sFldS, putAt, putD, fIsi, gIsi, tyn, subTy, gAbs, gInt, gMax2, gMin2, gLen, gList, gIs, gIsN, iSq, iR1, iR2, tAll, fApp, owL, setAt, sSetIx, sFor, fLc, pk, aPk, gEq_int, gNe_int, atI_0, atI_1, atI_2, ixN_0, List.lookup, fBinF, gM2, gEqM, gNeM, gIsC, fIsC, insC]
  obtain ⟨τ', e, c2, c3, h⟩ := for_lst (g := gN 2) (f := B_law_same_1) (fun τ => ∃ c2 c3, τ = [sd S, sd S, c2, c3]) (ts.map en3) [sd S, sd S, none, none] ⟨_, _, rfl⟩ fun d τ hd ⟨c2, c3, e⟩ => by
    subst e
    obtain ⟨t, _, rfl⟩ := List.mem_map.mp hd
    have e : lcD [3] (gN 3) C_law_same_1 X_law_same_1 [.int t.1, .int t.2.1, .int t.2.2] [] [sd S, sd S, sd (en3 t), c3] = some ([], [sd S, sd S, sd (en3 t), c3]) := by
      refine lcD_none _ _ fun x hx => ?_
      have hx' : x ∈ [t.1, t.2.1, t.2.2].map D.int := hx
      obtain ⟨n, _, rfl⟩ := List.mem_map.mp hx'
      refine ⟨_, [sd S, sd S, sd (en3 t), si n], rfl, ?_, rfl⟩
      simp [C_law_same_1, wipeT, runF, ini, finF, resOp, ioOut, owAt, sSeq, sSet, stOp, sPar, setAll, sUnp, sAug, sIf, sRet, sRetN, sExpr, sNext, sNo, sBrk, sCnt, aNil, aCons, pNil, pCons, fVar, fC, fBin, fUn, fCB, fCall, ioCall, fCallIo, mkOp, deref, derefL, fz, gI, J.gAdd, J.gSub, gMul, gDiv, gMod, gPow, gLt, gLe, gGt, gGe, gNeg, gIx, fTB, fAnd, fOr, fNot, fIfE, fAndV, fOrV, fNotV, fChain, fTup, fLst, gT, gsCons, gsNil, gN, fMake, fMeth, fMethIo, insOk, insC, fProp, fPropIo, fFld, sFldS, putAt, putD, fIsi, gIsi, tyn, subTy, gAbs, gInt, gMax2, gMin2, gLen, gList, gIs, gIsN, iSq, iR1, iR2, tAll, fApp, owL, setAt, sSetIx, sFor, fLc, pk, aPk, gEq_int, gNe_int, atI_0, atI_1, atI_2, ixN_0, List.lookup, fBinF, gM2, gEqM, gNeM, gIsC, fIsC, insC, whole_m]
    have e0 := gNe_ints [] []
    simp only [List.map_nil] at e0
    refine ⟨[sd S, sd S, sd (en3 t), c3], .nx [sd S, sd S, sd (en3 t), c3], rfl, ?_, _, .inl rfl, _, _, rfl⟩
    simp [B_law_same_1, runF, ini, finF, resOp, ioOut, owAt, sSeq, sSet, stOp, sPar, setAll, sUnp, sAug, sIf, sRet, sRetN, sExpr, sNext, sNo, sBrk, sCnt, aNil, aCons, pNil, pCons, fVar, fC, fBin, fUn, fCB, fCall, ioCall, fCallIo, mkOp, deref, derefL, fz, gI, J.gAdd, J.gSub, gMul, gDiv, gMod, gPow, gLt, gLe, gGt, gGe, gNeg, gIx, fTB, fAnd, fOr, fNot, fIfE, fAndV, fOrV, fNotV, fChain, fTup, fLst, gT, gsCons, gsNil, gN, fMake, fMeth, fMethIo, insOk, insC, fProp, fPropIo, fFld, sFldS, putAt, putD, fIsi, gIsi, tyn, subTy, gAbs, gInt, gMax2, gMin2, gLen, gList, gIs, gIsN, iSq, iR1, iR2, tAll, fApp, owL, setAt, sSetIx, sFor, fLc, pk, aPk, gEq_int, gNe_int, atI_0, atI_1, atI_2, ixN_0, List.lookup, fBinF, gM2, gEqM, gNeM, gIsC, fIsC, insC, e, e0]
  subst h
  rw [hS] at ne ⊢
  refine run_rt (τ' := [sd S, sd S, c2, c3]) (τ := [sd S, sd S, none, none]) (o := .val (.bl true)) rfl rfl ?_ rfl
  unfold F_law_same
  refine seq_nx (τ1 := [sd S, sd S, none, none]) ?_ (seq_nx (τ1 := [sd S, sd S, c2, c3]) ?_ (by simp [runF, ini, finF, resOp, ioOut, owAt, sSeq, sSet, stOp, sPar, setAll, sUnp, sAug, sIf, sRet, sRetN, sExpr, sNext, sNo, sBrk, sCnt, aNil, aCons, pNil, pCons, fVar, fC, fBin, fUn, fCB, fCall, ioCall, fCallIo, mkOp, deref, derefL, fz, gI, J.gAdd, J.gSub, gMul, gDiv, gMod, gPow, gLt, gLe, gGt, gGe, gNeg, gIx, fTB, fAnd, fOr, fNot, fIfE, fAndV, fOrV, fNotV, fChain, fTup, fLst, gT, gsCons, gsNil, gN, fMake, fMeth, fMethIo, insOk, insC, fProp, fPropIo, fFld, sFldS, putAt, putD, fIsi, gIsi, tyn, subTy, gAbs, gInt, gMax2, gMin2, gLen, gList, gIs, gIsN, iSq, iR1, iR2, tAll, fApp, owL, setAt, sSetIx, sFor, fLc, pk, aPk, gEq_int, gNe_int, atI_0, atI_1, atI_2, ixN_0, List.lookup, fBinF, gM2, gEqM, gNeM, gIsC, fIsC, insC]))
  · simp only [sIf, fOr, fNot, fTB, hi, Option.bind_some, deref]
    simp [runF, ini, finF, resOp, ioOut, owAt, sSeq, sSet, stOp, sPar, setAll, sUnp, sAug, sIf, sRet, sRetN, sExpr, sNext, sNo, sBrk, sCnt, aNil, aCons, pNil, pCons, fVar, fC, fBin, fUn, fCB, fCall, ioCall, fCallIo, mkOp, deref, derefL, fz, gI, J.gAdd, J.gSub, gMul, gDiv, gMod, gPow, gLt, gLe, gGt, gGe, gNeg, gIx, fTB, fAnd, fOr, fNot, fIfE, fAndV, fOrV, fNotV, fChain, fTup, fLst, gT, gsCons, gsNil, gN, fMake, fMeth, fMethIo, insOk, insC, fProp, fPropIo, fFld, sFldS, putAt, putD, fIsi, gIsi, tyn, subTy, gAbs, gInt, gMax2, gMin2, gLen, gList, gIs, gIsN, iSq, iR1, iR2, tAll, fApp, owL, setAt, sSetIx, sFor, fLc, pk, aPk, gEq_int, gNe_int, atI_0, atI_1, atI_2, ixN_0, List.lookup, fBinF, gM2, gEqM, gNeM, gIsC, fIsC, insC, ne]
  · rw [← hS] at e ⊢
    exact e
theorem fits_m {l : Int} (h1 : l ≤ 5) {t : T3} (ha : -l ≤ t.1 ∧ t.1 ≤ l) (hb : -l ≤ t.2.1 ∧ t.2.1 ≤ l) {q : Q4} (hq : GoodQ q) : m_law_fits [en3 t, en4 q] = some (false, .bl (!bad t q), .non) := by
  have m1 : mulOk t.1 q.2.1 = true := mulOk_small (smT h1 ha)
  have m2 : mulOk t.2.1 q.2.2.1 = true := mulOk_small (smT h1 hb)
  have n0 : 0 < q.1 := by have := hq.n0; omega
  simp [m_law_fits, F_law_fits, runF, ini, finF, resOp, ioOut, owAt, sSeq, sSet, stOp, sPar, setAll, sUnp, sAug, sIf, sRet, sRetN, sExpr, sNext, sNo, sBrk, sCnt, aNil, aCons, pNil, pCons, fVar, fC, fBin, fUn, fCB, fCall, ioCall, fCallIo, mkOp, deref, derefL, fz, gI, J.gAdd, J.gSub, gMul, gDiv, gMod, gPow, gLt, gLe, gGt, gGe, gNeg, gIx, fTB, fAnd, fOr, fNot, fIfE, fAndV, fOrV, fNotV, fChain, fTup, fLst, gT, gsCons, gsNil, gN, fMake, fMeth, fMethIo, insOk, insC, fProp, fPropIo, fFld, sFldS, putAt, putD, fIsi, gIsi, tyn, subTy, gAbs, gInt, gMax2, gMin2, gLen, gList, gIs, gIsN, iSq, iR1, iR2, tAll, fApp, owL, setAt, sSetIx, sFor, fLc, pk, aPk, gEq_int, gNe_int, atI_0, atI_1, atI_2, ixN_0, List.lookup, fBinF, gM2, gEqM, gNeM, gIsC, fIsC, insC, m1, m2, n0, bad]
theorem cell0_m {ns : List Int} (h : Good ns) : ∃ c, m_law_cell_2 [.lst (ns.map D.int), .int 0] = some (false, .int c, .non) ∧ Builtin.Int.intBits c ≤ 1048576 := by
  cases ns with
  | nil => exact ⟨0, by simp [m_law_cell_2, F_law_cell_2, runF, ini, finF, resOp, ioOut, owAt, sSeq, sSet, stOp, sPar, setAll, sUnp, sAug, sIf, sRet, sRetN, sExpr, sNext, sNo, sBrk, sCnt, aNil, aCons, pNil, pCons, fVar, fC, fBin, fUn, fCB, fCall, ioCall, fCallIo, mkOp, deref, derefL, fz, gI, J.gAdd, J.gSub, gMul, gDiv, gMod, gPow, gLt, gLe, gGt, gGe, gNeg, gIx, fTB, fAnd, fOr, fNot, fIfE, fAndV, fOrV, fNotV, fChain, fTup, fLst, gT, gsCons, gsNil, gN, fMake, fMeth, fMethIo, insOk, insC, fProp, fPropIo, fFld, sFldS, putAt, putD, fIsi, gIsi, tyn, subTy, gAbs, gInt, gMax2, gMin2, gLen, gList, gIs, gIsN, iSq, iR1, iR2, tAll, fApp, owL, setAt, sSetIx, sFor, fLc, pk, aPk, gEq_int, gNe_int, atI_0, atI_1, atI_2, ixN_0, List.lookup, fBinF, gM2, gEqM, gNeM, gIsC, fIsC, insC], by decide⟩
  | cons n ns =>
    refine ⟨n, ?_, h.2 n List.mem_cons_self⟩
    have e : (0 : Int) < (ns.length : Int) + 1 := by omega
    simp [m_law_cell_2, F_law_cell_2, runF, ini, finF, resOp, ioOut, owAt, sSeq, sSet, stOp, sPar, setAll, sUnp, sAug, sIf, sRet, sRetN, sExpr, sNext, sNo, sBrk, sCnt, aNil, aCons, pNil, pCons, fVar, fC, fBin, fUn, fCB, fCall, ioCall, fCallIo, mkOp, deref, derefL, fz, gI, J.gAdd, J.gSub, gMul, gDiv, gMod, gPow, gLt, gLe, gGt, gGe, gNeg, gIx, fTB, fAnd, fOr, fNot, fIfE, fAndV, fOrV, fNotV, fChain, fTup, fLst, gT, gsCons, gsNil, gN, fMake, fMeth, fMethIo, insOk, insC, fProp, fPropIo, fFld, sFldS, putAt, putD, fIsi, gIsi, tyn, subTy, gAbs, gInt, gMax2, gMin2, gLen, gList, gIs, gIsN, iSq, iR1, iR2, tAll, fApp, owL, setAt, sSetIx, sFor, fLc, pk, aPk, gEq_int, gNe_int, atI_0, atI_1, atI_2, ixN_0, List.lookup, fBinF, gM2, gEqM, gNeM, gIsC, fIsC, insC, e]
theorem atI_last {α : Type} (xs : List α) (x : α) : atI (xs ++ [x]) (-1) = some x := by
  have h : ixN (xs ++ [x]).length (-1) = some xs.length := by
    unfold ixN
    rw [if_neg (by decide), if_pos (by rw [List.length_append, List.length_singleton]; omega), List.length_append, List.length_singleton]
    congr 1
    omega
  unfold atI
  rw [h]
  simp
theorem okT_nil (l : Int) : (trips l).filter (okT []) = trips l := List.filter_eq_self.mpr fun _ _ => rfl
theorem okT_snoc (seen : List Q4) (q : Q4) (ts : List T3) : (ts.filter (okT seen)).filter (fun t => !bad t q) = ts.filter (okT (seen ++ [q])) := by
  rw [List.filter_filter]
  congr 1
  funext t
  simp [okT, Bool.and_comm]
abbrev top49 (S : D) (s l a b d : Int) (h0 h1 h2 : Int) (r : Option Cell) (seen : List Q4) (c : List (Option Cell)) : Tau := [sd S, si s, si l, si a, si b, si d, some (.ow (.lst [.int h0, .int h1, .int h2])), r, some (.ow (.lst (seen.map en4)))] ++ c
theorem turn49 {S : D} {s l a b d h0 h1 h2 cell : Int} {r : Option Cell} {seen : List Q4} {c10 c11 c12 c13 c14 c15 c16 c17 c18 c19 : Option Cell} (l0 : 0 ≤ l) (l1 : l ≤ 5) (s0 : 0 ≤ s) (H0 : -l ≤ h0 ∧ h0 ≤ l) (H1 : -l ≤ h1 ∧ h1 ≤ l) (hs : ∀ q ∈ seen, GoodQ q) (hl : seen.length ≤ 900)
    (hr : r = some (.ow (.lst (((trips l).filter (okT seen)).map en3))) ∨ r = some (.sh (.lst (((trips l).filter (okT seen)).map en3)))) (hc : Builtin.Int.intBits cell ≤ 1048576) :
    ∃ q r' d10 d11 d12 d13 d14 d15 d16, GoodQ q ∧ (r' = some (.ow (.lst (((trips l).filter (okT (seen ++ [q]))).map en3))) ∨ r' = some (.sh (.lst (((trips l).filter (okT (seen ++ [q]))).map en3)))) ∧
      B_law_k49_1 [sd S, si s, si l, si a, si b, si d, some (.ow (.lst [.int h0, .int h1, .int h2])), r, some (.ow (.lst (seen.map en4))), si cell, c10, c11, c12, c13, c14, c15, c16, c17, c18, c19] =
        some (.nx [sd S, si s, si l, si a, si b, si d, some (.ow (.lst [.int h0, .int h1, .int h2])), r', some (.ow (.lst ((seen ++ [q]).map en4))), si cell, d10, d11, d12, d13, d14, d15, d16, c17, c18, c19]) := by
  have p30 : powOk 10 30 = true := by decide +kernel
  have dk : ∀ t ∈ [(6 : Int), 3, 1000000000000000000000000000000, 1000000000000000000000000000000, 1000000000000000000000000000000, 1000000000000000000000000000000], divOk t = true := by
    intro t ht
    simp only [List.mem_cons, List.not_mem_nil, or_false] at ht
    rcases ht with rfl | rfl | rfl | rfl | rfl | rfl <;> decide +kernel
  obtain ⟨fs, e1, hlen, hfs⟩ := draws_m hc [6, 3, 1000000000000000000000000000000, 1000000000000000000000000000000, 1000000000000000000000000000000, 1000000000000000000000000000000] dk (by decide)
  obtain ⟨kind, large, size, row, col, sign, rfl⟩ : ∃ k la si ro co sg, fs = [k, la, si, ro, co, sg] := by
    match fs, hlen with
    | [k, la, si, ro, co, sg], _ => exact ⟨k, la, si, ro, co, sg, rfl⟩
  obtain ⟨k0, k1⟩ := hfs 0 kind 6 rfl rfl
  obtain ⟨z0, z1⟩ := hfs 2 size _ rfl rfl
  simp only [List.map_cons, List.map_nil] at e1
  obtain ⟨n, hn, n0, n1⟩ : ∃ n, (if 0 < large then 1 + size % 12 else 1 + size) = n ∧ 1 ≤ n ∧ n ≤ 1000000000000000000000000000000 := ⟨_, rfl, by split <;> omega, by split <;> omega⟩
  have np : 0 < n := by omega
  obtain ⟨ro, hro, r0, r1⟩ : ∃ x, row % n = x ∧ 0 ≤ x ∧ x < n := ⟨_, rfl, Int.emod_nonneg _ (by omega), Int.emod_lt_of_pos _ np⟩
  obtain ⟨co, hco, q0, q1⟩ : ∃ x, col % n = x ∧ 0 ≤ x ∧ x < n := ⟨_, rfl, Int.emod_nonneg _ (by omega), Int.emod_lt_of_pos _ np⟩
  obtain ⟨sg, hsg⟩ : ∃ x, (if 0 < kind ∨ s = 0 then h0 * ro + h1 * co + h2 else sign) = x := ⟨_, rfl⟩
  obtain ⟨sn, hsn, t0, t1⟩ : ∃ x, sg % n = x ∧ 0 ≤ x ∧ x < n := ⟨_, rfl, Int.emod_nonneg _ (by omega), Int.emod_lt_of_pos _ np⟩
  have m1 : mulOk h0 ro = true := mulOk_small (smT l1 H0)
  have m2 : mulOk h1 co = true := mulOk_small (smT l1 H1)
  have hq : GoodQ (n, ro, co, sn) := ⟨n0, n1, r0, r1, q0, q1, t0, t1⟩
  have hl' : (seen.map en4).length < 16777216 := by rw [List.length_map]; omega
  have lst : seen.map en4 ++ [en4 (n, ro, co, sn)] = (seen ++ [(n, ro, co, sn)]).map en4 := by rw [List.map_append]; rfl
  obtain ⟨R, hR⟩ : ∃ R, ((trips l).filter (okT (seen ++ [(n, ro, co, sn)]))).map en3 = R := ⟨_, rfl⟩
  obtain ⟨C, hC⟩ : ∃ C, (seen ++ [(n, ro, co, sn)]).map en4 = C := ⟨_, rfl⟩
  have last : gIx (.lst C) (.int (-1)) = some (.val (en4 (n, ro, co, sn))) := by
    rw [← hC, ← lst]
    simp only [gIx, atI_last, Option.map_some]
  have sift : ∀ r0 : List D, lcD [19] (gN 19) C_law_k49_1 X_law_k49_2 (((trips l).filter (okT seen)).map en3) [] [sd S, si s, si l, si a, si b, si d, some (.ow (.lst [.int h0, .int h1, .int h2])), sd (.lst (((trips l).filter (okT seen)).map en3)), some (.ow (.lst C)), si cell, si kind, si large, si size, si ro, si co, si sg, si n, c17, c18, c19] = some (R, [sd S, si s, si l, si a, si b, si d, some (.ow (.lst [.int h0, .int h1, .int h2])), sd (.lst (((trips l).filter (okT seen)).map en3)), some (.ow (.lst C)), si cell, si kind, si large, si size, si ro, si co, si sg, si n, c17, c18, c19]) := fun _ => by
    have := lcD_sift (own := [19]) (g := gN 19) (ft := C_law_k49_1) (fe := X_law_k49_2) (τ := [sd S, si s, si l, si a, si b, si d, some (.ow (.lst [.int h0, .int h1, .int h2])), sd (.lst (((trips l).filter (okT seen)).map en3)), some (.ow (.lst C)), si cell, si kind, si large, si size, si ro, si co, si sg, si n, c17, c18, c19]) en3 (fun t => !bad t (n, ro, co, sn)) en3 ((trips l).filter (okT seen)) [] (by
      have h1 := List.length_filter_le (okT seen) (trips l)
      have h2 : (trips l).length ≤ 1331 := by
        unfold trips
        have L := rg_len l1
        have := flat_len (k := 121) (F := fun a => (rgI (-l) (l + 1)).flatMap fun b => (rgI (-l) (l + 1)).map fun d => ((a, b, d) : T3)) (rgI (-l) (l + 1)) (fun x _ => by
          have := flat_len (k := 11) (F := fun b => (rgI (-l) (l + 1)).map fun d => ((x, b, d) : T3)) (rgI (-l) (l + 1)) (fun x _ => by rw [List.length_map]; exact L)
          omega)
        omega
      rw [List.length_nil]; omega) fun t ht => by
        obtain ⟨ta, tb, td⟩ := trips_mem (List.mem_filter.mp ht).1
        have ef := fits_m l1 ta tb hq
        refine ⟨[sd S, si s, si l, si a, si b, si d, some (.ow (.lst [.int h0, .int h1, .int h2])), sd (.lst (((trips l).filter (okT seen)).map en3)), some (.ow (.lst C)), si cell, si kind, si large, si size, si ro, si co, si sg, si n, c17, c18, sd (en3 t)], [sd S, si s, si l, si a, si b, si d, some (.ow (.lst [.int h0, .int h1, .int h2])), sd (.lst (((trips l).filter (okT seen)).map en3)), some (.ow (.lst C)), si cell, si kind, si large, si size, si ro, si co, si sg, si n, c17, c18, sd (en3 t)], rfl, ?_, fun _ => rfl, fun _ => ⟨_, _, _, rfl, rfl, rfl⟩⟩
        simp [C_law_k49_1, runF, ini, finF, resOp, ioOut, owAt, sSeq, sSet, stOp, sPar, setAll, sUnp, sAug, sIf, sRet, sRetN, sExpr, sNext, sNo, sBrk, sCnt, aNil, aCons, pNil, pCons, fVar, fC, fBin, fUn, fCB, fCall, ioCall, fCallIo, mkOp, deref, derefL, fz, gI, J.gAdd, J.gSub, gMul, gDiv, gMod, gPow, gLt, gLe, gGt, gGe, gNeg, fTB, fAnd, fOr, fNot, fIfE, fAndV, fOrV, fNotV, fChain, fTup, fLst, gT, gsCons, gsNil, gN, fMake, fMeth, fMethIo, insOk, insC, fProp, fPropIo, fFld, sFldS, putAt, putD, fIsi, gIsi, tyn, subTy, gAbs, gInt, gMax2, gMin2, gLen, gList, gIs, gIsN, iSq, iR1, iR2, tAll, fApp, owL, setAt, sSetIx, sFor, fLc, pk, aPk, gEq_int, gNe_int, ixN_0, List.lookup, fBinF, gM2, gEqM, gNeM, gIsC, fIsC, insC, last, ef]
    rw [this, List.nil_append, okT_snoc, hR]
  have ev := everywhere_m (l := l) (seen := seen ++ [(n, ro, co, sn)]) l0 l1 (fun q hq' => by
    rcases List.mem_append.mp hq' with h | h
    · exact hs q h
    · rw [List.mem_singleton.mp h]; exact hq) (by rw [List.length_append, List.length_singleton]; omega)
  have sm := same_m ((trips l).filter (okT (seen ++ [(n, ro, co, sn)])))
  rw [hR, hC] at ev
  rw [hR] at sm
  have step1 : ∀ r : Option Cell, (r = some (.ow (.lst (((trips l).filter (okT seen)).map en3))) ∨ r = some (.sh (.lst (((trips l).filter (okT seen)).map en3)))) → iSq (fVar 7) [sd S, si s, si l, si a, si b, si d, some (.ow (.lst [.int h0, .int h1, .int h2])), r, some (.ow (.lst C)), si cell, si kind, si large, si size, si ro, si co, si sg, si n, c17, c18, c19] = some (((trips l).filter (okT seen)).map en3, [sd S, si s, si l, si a, si b, si d, some (.ow (.lst [.int h0, .int h1, .int h2])), sd (.lst (((trips l).filter (okT seen)).map en3)), some (.ow (.lst C)), si cell, si kind, si large, si size, si ro, si co, si sg, si n, c17, c18, c19]) := fun r hr => by
    rcases hr with rfl | rfl <;> rfl
  have key : ∃ r', (r' = some (.ow (.lst R)) ∨ r' = some (.sh (.lst R))) ∧ B_law_k49_1 [sd S, si s, si l, si a, si b, si d, some (.ow (.lst [.int h0, .int h1, .int h2])), r, some (.ow (.lst (seen.map en4))), si cell, c10, c11, c12, c13, c14, c15, c16, c17, c18, c19] =
        some (.nx [sd S, si s, si l, si a, si b, si d, some (.ow (.lst [.int h0, .int h1, .int h2])), r', some (.ow (.lst C)), si cell, si kind, si large, si size, si ro, si co, si sg, si n, c17, c18, c19]) := by
    unfold B_law_k49_1
    refine ⟨if l < 3 then some (.sh (.lst R)) else some (.ow (.lst R)), by split <;> simp, ?_⟩
    refine seq_nx (τ1 := [sd S, si s, si l, si a, si b, si d, some (.ow (.lst [.int h0, .int h1, .int h2])), r, some (.ow (.lst (seen.map en4))), si cell, si kind, si large, si size, si row, si col, si sign, c16, c17, c18, c19]) (by simp [runF, ini, finF, resOp, ioOut, owAt, sSeq, sSet, stOp, sPar, setAll, sUnp, sAug, sIf, sRet, sRetN, sExpr, sNext, sNo, sBrk, sCnt, aNil, aCons, pNil, pCons, fVar, fC, fBin, fUn, fCB, fCall, ioCall, fCallIo, mkOp, deref, derefL, fz, gI, J.gAdd, J.gSub, gMul, gDiv, gMod, gPow, gLt, gLe, gGt, gGe, gNeg, gIx, fTB, fAnd, fOr, fNot, fIfE, fAndV, fOrV, fNotV, fChain, fTup, fLst, gT, gsCons, gsNil, gN, fMake, fMeth, fMethIo, insOk, insC, fProp, fPropIo, fFld, sFldS, putAt, putD, fIsi, gIsi, tyn, subTy, gAbs, gInt, gMax2, gMin2, gLen, gList, gIs, gIsN, iSq, iR1, iR2, tAll, fApp, owL, setAt, sSetIx, sFor, fLc, pk, aPk, gEq_int, gNe_int, atI_0, atI_1, atI_2, ixN_0, List.lookup, fBinF, gM2, gEqM, gNeM, gIsC, fIsC, insC, p30, e1]) ?_
    refine seq_nx (τ1 := [sd S, si s, si l, si a, si b, si d, some (.ow (.lst [.int h0, .int h1, .int h2])), r, some (.ow (.lst (seen.map en4))), si cell, si kind, si large, si size, si row, si col, si sign, si (1 + size), c17, c18, c19]) (by simp [runF, ini, finF, resOp, ioOut, owAt, sSeq, sSet, stOp, sPar, setAll, sUnp, sAug, sIf, sRet, sRetN, sExpr, sNext, sNo, sBrk, sCnt, aNil, aCons, pNil, pCons, fVar, fC, fBin, fUn, fCB, fCall, ioCall, fCallIo, mkOp, deref, derefL, fz, gI, J.gAdd, J.gSub, gMul, gDiv, gMod, gPow, gLt, gLe, gGt, gGe, gNeg, gIx, fTB, fAnd, fOr, fNot, fIfE, fAndV, fOrV, fNotV, fChain, fTup, fLst, gT, gsCons, gsNil, gN, fMake, fMeth, fMethIo, insOk, insC, fProp, fPropIo, fFld, sFldS, putAt, putD, fIsi, gIsi, tyn, subTy, gAbs, gInt, gMax2, gMin2, gLen, gList, gIs, gIsN, iSq, iR1, iR2, tAll, fApp, owL, setAt, sSetIx, sFor, fLc, pk, aPk, gEq_int, gNe_int, atI_0, atI_1, atI_2, ixN_0, List.lookup, fBinF, gM2, gEqM, gNeM, gIsC, fIsC, insC]) ?_
    refine seq_nx (τ1 := [sd S, si s, si l, si a, si b, si d, some (.ow (.lst [.int h0, .int h1, .int h2])), r, some (.ow (.lst (seen.map en4))), si cell, si kind, si large, si size, si row, si col, si sign, si n, c17, c18, c19]) (by
      by_cases hb : 0 < large
      · rw [if_pos hb] at hn; simp [runF, ini, finF, resOp, ioOut, owAt, sSeq, sSet, stOp, sPar, setAll, sUnp, sAug, sIf, sRet, sRetN, sExpr, sNext, sNo, sBrk, sCnt, aNil, aCons, pNil, pCons, fVar, fC, fBin, fUn, fCB, fCall, ioCall, fCallIo, mkOp, deref, derefL, fz, gI, J.gAdd, J.gSub, gMul, gDiv, gMod, gPow, gLt, gLe, gGt, gGe, gNeg, gIx, fTB, fAnd, fOr, fNot, fIfE, fAndV, fOrV, fNotV, fChain, fTup, fLst, gT, gsCons, gsNil, gN, fMake, fMeth, fMethIo, insOk, insC, fProp, fPropIo, fFld, sFldS, putAt, putD, fIsi, gIsi, tyn, subTy, gAbs, gInt, gMax2, gMin2, gLen, gList, gIs, gIsN, iSq, iR1, iR2, tAll, fApp, owL, setAt, sSetIx, sFor, fLc, pk, aPk, gEq_int, gNe_int, atI_0, atI_1, atI_2, ixN_0, List.lookup, fBinF, gM2, gEqM, gNeM, gIsC, fIsC, insC, hb, hn]
      · rw [if_neg hb] at hn; simp [runF, ini, finF, resOp, ioOut, owAt, sSeq, sSet, stOp, sPar, setAll, sUnp, sAug, sIf, sRet, sRetN, sExpr, sNext, sNo, sBrk, sCnt, aNil, aCons, pNil, pCons, fVar, fC, fBin, fUn, fCB, fCall, ioCall, fCallIo, mkOp, deref, derefL, fz, gI, J.gAdd, J.gSub, gMul, gDiv, gMod, gPow, gLt, gLe, gGt, gGe, gNeg, gIx, fTB, fAnd, fOr, fNot, fIfE, fAndV, fOrV, fNotV, fChain, fTup, fLst, gT, gsCons, gsNil, gN, fMake, fMeth, fMethIo, insOk, insC, fProp, fPropIo, fFld, sFldS, putAt, putD, fIsi, gIsi, tyn, subTy, gAbs, gInt, gMax2, gMin2, gLen, gList, gIs, gIsN, iSq, iR1, iR2, tAll, fApp, owL, setAt, sSetIx, sFor, fLc, pk, aPk, gEq_int, gNe_int, atI_0, atI_1, atI_2, ixN_0, List.lookup, fBinF, gM2, gEqM, gNeM, gIsC, fIsC, insC, hb, hn]) ?_
    refine seq_nx (τ1 := [sd S, si s, si l, si a, si b, si d, some (.ow (.lst [.int h0, .int h1, .int h2])), r, some (.ow (.lst (seen.map en4))), si cell, si kind, si large, si size, si ro, si col, si sign, si n, c17, c18, c19]) (by simp [runF, ini, finF, resOp, ioOut, owAt, sSeq, sSet, stOp, sPar, setAll, sUnp, sAug, sIf, sRet, sRetN, sExpr, sNext, sNo, sBrk, sCnt, aNil, aCons, pNil, pCons, fVar, fC, fBin, fUn, fCB, fCall, ioCall, fCallIo, mkOp, deref, derefL, fz, gI, J.gAdd, J.gSub, gMul, gDiv, gMod, gPow, gLt, gLe, gGt, gGe, gNeg, gIx, fTB, fAnd, fOr, fNot, fIfE, fAndV, fOrV, fNotV, fChain, fTup, fLst, gT, gsCons, gsNil, gN, fMake, fMeth, fMethIo, insOk, insC, fProp, fPropIo, fFld, sFldS, putAt, putD, fIsi, gIsi, tyn, subTy, gAbs, gInt, gMax2, gMin2, gLen, gList, gIs, gIsN, iSq, iR1, iR2, tAll, fApp, owL, setAt, sSetIx, sFor, fLc, pk, aPk, gEq_int, gNe_int, atI_0, atI_1, atI_2, ixN_0, List.lookup, fBinF, gM2, gEqM, gNeM, gIsC, fIsC, insC, np, hro]) ?_
    refine seq_nx (τ1 := [sd S, si s, si l, si a, si b, si d, some (.ow (.lst [.int h0, .int h1, .int h2])), r, some (.ow (.lst (seen.map en4))), si cell, si kind, si large, si size, si ro, si co, si sign, si n, c17, c18, c19]) (by simp [runF, ini, finF, resOp, ioOut, owAt, sSeq, sSet, stOp, sPar, setAll, sUnp, sAug, sIf, sRet, sRetN, sExpr, sNext, sNo, sBrk, sCnt, aNil, aCons, pNil, pCons, fVar, fC, fBin, fUn, fCB, fCall, ioCall, fCallIo, mkOp, deref, derefL, fz, gI, J.gAdd, J.gSub, gMul, gDiv, gMod, gPow, gLt, gLe, gGt, gGe, gNeg, gIx, fTB, fAnd, fOr, fNot, fIfE, fAndV, fOrV, fNotV, fChain, fTup, fLst, gT, gsCons, gsNil, gN, fMake, fMeth, fMethIo, insOk, insC, fProp, fPropIo, fFld, sFldS, putAt, putD, fIsi, gIsi, tyn, subTy, gAbs, gInt, gMax2, gMin2, gLen, gList, gIs, gIsN, iSq, iR1, iR2, tAll, fApp, owL, setAt, sSetIx, sFor, fLc, pk, aPk, gEq_int, gNe_int, atI_0, atI_1, atI_2, ixN_0, List.lookup, fBinF, gM2, gEqM, gNeM, gIsC, fIsC, insC, np, hco]) ?_
    refine seq_nx (τ1 := [sd S, si s, si l, si a, si b, si d, some (.ow (.lst [.int h0, .int h1, .int h2])), r, some (.ow (.lst (seen.map en4))), si cell, si kind, si large, si size, si ro, si co, si sg, si n, c17, c18, c19]) (by
      by_cases hb : 0 < kind
      · rw [if_pos (.inl hb)] at hsg; simp [runF, ini, finF, resOp, ioOut, owAt, sSeq, sSet, stOp, sPar, setAll, sUnp, sAug, sIf, sRet, sRetN, sExpr, sNext, sNo, sBrk, sCnt, aNil, aCons, pNil, pCons, fVar, fC, fBin, fUn, fCB, fCall, ioCall, fCallIo, mkOp, deref, derefL, fz, gI, J.gAdd, J.gSub, gMul, gDiv, gMod, gPow, gLt, gLe, gGt, gGe, gNeg, gIx, fTB, fAnd, fOr, fNot, fIfE, fAndV, fOrV, fNotV, fChain, fTup, fLst, gT, gsCons, gsNil, gN, fMake, fMeth, fMethIo, insOk, insC, fProp, fPropIo, fFld, sFldS, putAt, putD, fIsi, gIsi, tyn, subTy, gAbs, gInt, gMax2, gMin2, gLen, gList, gIs, gIsN, iSq, iR1, iR2, tAll, fApp, owL, setAt, sSetIx, sFor, fLc, pk, aPk, gEq_int, gNe_int, atI_0, atI_1, atI_2, ixN_0, List.lookup, fBinF, gM2, gEqM, gNeM, gIsC, fIsC, insC, hb, m1, m2, hsg]
      · by_cases hz : s = 0
        · rw [if_pos (.inr hz)] at hsg; simp [runF, ini, finF, resOp, ioOut, owAt, sSeq, sSet, stOp, sPar, setAll, sUnp, sAug, sIf, sRet, sRetN, sExpr, sNext, sNo, sBrk, sCnt, aNil, aCons, pNil, pCons, fVar, fC, fBin, fUn, fCB, fCall, ioCall, fCallIo, mkOp, deref, derefL, fz, gI, J.gAdd, J.gSub, gMul, gDiv, gMod, gPow, gLt, gLe, gGt, gGe, gNeg, gIx, fTB, fAnd, fOr, fNot, fIfE, fAndV, fOrV, fNotV, fChain, fTup, fLst, gT, gsCons, gsNil, gN, fMake, fMeth, fMethIo, insOk, insC, fProp, fPropIo, fFld, sFldS, putAt, putD, fIsi, gIsi, tyn, subTy, gAbs, gInt, gMax2, gMin2, gLen, gList, gIs, gIsN, iSq, iR1, iR2, tAll, fApp, owL, setAt, sSetIx, sFor, fLc, pk, aPk, gEq_int, gNe_int, atI_0, atI_1, atI_2, ixN_0, List.lookup, fBinF, gM2, gEqM, gNeM, gIsC, fIsC, insC, hb, hz, m1, m2, hsg]
        · rw [if_neg (fun z => z.elim hb hz)] at hsg; simp [runF, ini, finF, resOp, ioOut, owAt, sSeq, sSet, stOp, sPar, setAll, sUnp, sAug, sIf, sRet, sRetN, sExpr, sNext, sNo, sBrk, sCnt, aNil, aCons, pNil, pCons, fVar, fC, fBin, fUn, fCB, fCall, ioCall, fCallIo, mkOp, deref, derefL, fz, gI, J.gAdd, J.gSub, gMul, gDiv, gMod, gPow, gLt, gLe, gGt, gGe, gNeg, gIx, fTB, fAnd, fOr, fNot, fIfE, fAndV, fOrV, fNotV, fChain, fTup, fLst, gT, gsCons, gsNil, gN, fMake, fMeth, fMethIo, insOk, insC, fProp, fPropIo, fFld, sFldS, putAt, putD, fIsi, gIsi, tyn, subTy, gAbs, gInt, gMax2, gMin2, gLen, gList, gIs, gIsN, iSq, iR1, iR2, tAll, fApp, owL, setAt, sSetIx, sFor, fLc, pk, aPk, gEq_int, gNe_int, atI_0, atI_1, atI_2, ixN_0, List.lookup, fBinF, gM2, gEqM, gNeM, gIsC, fIsC, insC, hb, hz, hsg]) ?_
    refine seq_nx (τ1 := [sd S, si s, si l, si a, si b, si d, some (.ow (.lst [.int h0, .int h1, .int h2])), r, some (.ow (.lst C)), si cell, si kind, si large, si size, si ro, si co, si sg, si n, c17, c18, c19]) (by
      simp only [List.length_map] at hl'
      rw [← hC, ← lst]
      simp [runF, ini, finF, resOp, ioOut, owAt, sSeq, sSet, stOp, sPar, setAll, sUnp, sAug, sIf, sRet, sRetN, sExpr, sNext, sNo, sBrk, sCnt, aNil, aCons, pNil, pCons, fVar, fC, fBin, fUn, fCB, fCall, ioCall, fCallIo, mkOp, deref, derefL, fz, gI, J.gAdd, J.gSub, gMul, gDiv, gMod, gPow, gLt, gLe, gGt, gGe, gNeg, gIx, fTB, fAnd, fOr, fNot, fIfE, fAndV, fOrV, fNotV, fChain, fTup, fLst, gT, gsCons, gsNil, gN, fMake, fMeth, fMethIo, insOk, insC, fProp, fPropIo, fFld, sFldS, putAt, putD, fIsi, gIsi, tyn, subTy, gAbs, gInt, gMax2, gMin2, gLen, gList, gIs, gIsN, iSq, iR1, iR2, tAll, fApp, owL, setAt, sSetIx, sFor, fLc, pk, aPk, gEq_int, gNe_int, atI_0, atI_1, atI_2, ixN_0, List.lookup, fBinF, gM2, gEqM, gNeM, gIsC, fIsC, insC, np, hsn, hl']) ?_
    refine seq_nx (τ1 := [sd S, si s, si l, si a, si b, si d, some (.ow (.lst [.int h0, .int h1, .int h2])), some (.ow (.lst R)), some (.ow (.lst C)), si cell, si kind, si large, si size, si ro, si co, si sg, si n, c17, c18, c19]) (by
      simp only [sSet, fLc]
      rw [step1 r hr]
      show ((lcD _ _ _ _ _ _ _).bind _).bind _ = _
      rw [sift []]
      rfl) ?_
    by_cases hb : l < 3
    · simp [runF, ini, finF, resOp, ioOut, owAt, sSeq, sSet, stOp, sPar, setAll, sUnp, sAug, sIf, sRet, sRetN, sExpr, sNext, sNo, sBrk, sCnt, aNil, aCons, pNil, pCons, fVar, fC, fBin, fUn, fCB, fCall, ioCall, fCallIo, mkOp, deref, derefL, fz, gI, J.gAdd, J.gSub, gMul, gDiv, gMod, gPow, gLt, gLe, gGt, gGe, gNeg, gIx, fTB, fAnd, fOr, fNot, fIfE, fAndV, fOrV, fNotV, fChain, fTup, fLst, gT, gsCons, gsNil, gN, fMake, fMeth, fMethIo, insOk, insC, fProp, fPropIo, fFld, sFldS, putAt, putD, fIsi, gIsi, tyn, subTy, gAbs, gInt, gMax2, gMin2, gLen, gList, gIs, gIsN, iSq, iR1, iR2, tAll, fApp, owL, setAt, sSetIx, sFor, fLc, pk, aPk, gEq_int, gNe_int, atI_0, atI_1, atI_2, ixN_0, List.lookup, fBinF, gM2, gEqM, gNeM, gIsC, fIsC, insC, hb, ev, sm]
    · simp [runF, ini, finF, resOp, ioOut, owAt, sSeq, sSet, stOp, sPar, setAll, sUnp, sAug, sIf, sRet, sRetN, sExpr, sNext, sNo, sBrk, sCnt, aNil, aCons, pNil, pCons, fVar, fC, fBin, fUn, fCB, fCall, ioCall, fCallIo, mkOp, deref, derefL, fz, gI, J.gAdd, J.gSub, gMul, gDiv, gMod, gPow, gLt, gLe, gGt, gGe, gNeg, gIx, fTB, fAnd, fOr, fNot, fIfE, fAndV, fOrV, fNotV, fChain, fTup, fLst, gT, gsCons, gsNil, gN, fMake, fMeth, fMethIo, insOk, insC, fProp, fPropIo, fFld, sFldS, putAt, putD, fIsi, gIsi, tyn, subTy, gAbs, gInt, gMax2, gMin2, gLen, gList, gIs, gIsN, iSq, iR1, iR2, tAll, fApp, owL, setAt, sSetIx, sFor, fLc, pk, aPk, gEq_int, gNe_int, atI_0, atI_1, atI_2, ixN_0, List.lookup, fBinF, gM2, gEqM, gNeM, gIsC, fIsC, insC, hb]
  obtain ⟨r', hr', e⟩ := key
  exact ⟨(n, ro, co, sn), r', si kind, si large, si size, si ro, si co, si sg, si n, hq, by rw [hR]; exact hr', by rw [hC]; exact e⟩
theorem law_true_k49 (ns : List Int) (h : Good ns) : ∃ z, m_law_k49 [.lst (ns.map D.int)] = some (false, .bl true, z) := by
  obtain ⟨c, e0, hc⟩ := cell0_m h
  have dk : ∀ t ∈ [(2 : Int), 6, 11, 11, 11], divOk t = true := by
    intro t ht
    simp only [List.mem_cons, List.not_mem_nil, or_false] at ht
    rcases ht with rfl | rfl | rfl | rfl | rfl <;> decide +kernel
  obtain ⟨fs, e1, hlen, hfs⟩ := draws_m hc [2, 6, 11, 11, 11] dk (by decide)
  obtain ⟨s, l, a, b, d, rfl⟩ : ∃ s l a b d, fs = [s, l, a, b, d] := by
    match fs, hlen with
    | [s, l, a, b, d], _ => exact ⟨s, l, a, b, d, rfl⟩
  obtain ⟨s0, _⟩ := hfs 0 s 2 rfl rfl
  obtain ⟨l0, l1⟩ := hfs 1 l 6 rfl rfl
  have l5 : l ≤ 5 := by omega
  simp only [List.map_cons, List.map_nil] at e1
  have b0 : ∀ x : Int, -l ≤ x % (2 * l + 1) - l ∧ x % (2 * l + 1) - l ≤ l := fun x => by
    have := Int.emod_nonneg x (show 2 * l + 1 ≠ 0 by omega)
    have := Int.emod_lt_of_pos x (show 0 < 2 * l + 1 by omega)
    omega
  obtain ⟨h0, g0, H0⟩ : ∃ x, a % (2 * l + 1) - l = x ∧ (-l ≤ x ∧ x ≤ l) := ⟨_, rfl, b0 a⟩
  obtain ⟨h1, g1, H1⟩ : ∃ x, b % (2 * l + 1) - l = x ∧ (-l ≤ x ∧ x ≤ l) := ⟨_, rfl, b0 b⟩
  obtain ⟨h2, g2, H2⟩ : ∃ x, d % (2 * l + 1) - l = x ∧ (-l ≤ x ∧ x ≤ l) := ⟨_, rfl, b0 d⟩
  obtain ⟨N, hN⟩ : ∃ N, ns.map D.int = N := ⟨_, rfl⟩
  obtain ⟨S, hS⟩ : ∃ S, D.lst N = S := ⟨_, rfl⟩
  rw [hN, hS] at e0
  obtain ⟨Z, hZ, hz1, hz2⟩ : ∃ Z, cutD N (some 1) (some 13) = Z ∧ Z.length ≤ 63 ∧ ∀ z ∈ Z, ∃ i : Int, z = .int i ∧ Builtin.Int.intBits i ≤ 1048576 := by
    refine ⟨_, rfl, ?_, fun z hz => ?_⟩
    · unfold cutD
      rw [List.length_take, List.length_drop, ← hN, List.length_map]
      have := h.1
      omega
    · have h1 := List.mem_of_mem_drop (List.mem_of_mem_take hz)
      rw [← hN] at h1
      obtain ⟨i, hi, rfl⟩ := List.mem_map.mp h1
      exact ⟨i, rfl, h.2 i hi⟩
  have hid : lcD [18] (gN 18) tAll X_law_k49_1 [.int a, .int b, .int d] [] [sd S, si s, si l, si a, si b, si d, none, none, none, none, none, none, none, none, none, none, none, none, none, none] = some ([.int h0, .int h1, .int h2], [sd S, si s, si l, si a, si b, si d, none, none, none, none, none, none, none, none, none, none, none, none, none, none]) := by
    have := lcD_map (own := [18]) (g := gN 18) (ft := tAll) (fe := X_law_k49_1) (τ := [sd S, si s, si l, si a, si b, si d, none, none, none, none, none, none, none, none, none, none, none, none, none, none]) (fun x => .int (iD x % (2 * l + 1) - l)) [.int a, .int b, .int d] [] (by simp) fun x hx => by
      have hx' : x ∈ [a, b, d].map D.int := hx
      obtain ⟨n, _, rfl⟩ := List.mem_map.mp hx'
      have m2 : mulOk 2 l = true := mulOk_small (.of (by decide) (by decide))
      have lp : 0 < 2 * l + 1 := by omega
      refine ⟨_, [sd S, si s, si l, si a, si b, si d, none, none, none, none, none, none, none, none, none, none, none, none, si n, none], .val (.int (n % (2 * l + 1) - l)), [sd S, si s, si l, si a, si b, si d, none, none, none, none, none, none, none, none, none, none, none, none, si n, none], [sd S, si s, si l, si a, si b, si d, none, none, none, none, none, none, none, none, none, none, none, none, si n, none], rfl, rfl, ?_, rfl, rfl⟩
      simp [X_law_k49_1, runF, ini, finF, resOp, ioOut, owAt, sSeq, sSet, stOp, sPar, setAll, sUnp, sAug, sIf, sRet, sRetN, sExpr, sNext, sNo, sBrk, sCnt, aNil, aCons, pNil, pCons, fVar, fC, fBin, fUn, fCB, fCall, ioCall, fCallIo, mkOp, deref, derefL, fz, gI, J.gAdd, J.gSub, gMul, gDiv, gMod, gPow, gLt, gLe, gGt, gGe, gNeg, gIx, fTB, fAnd, fOr, fNot, fIfE, fAndV, fOrV, fNotV, fChain, fTup, fLst, gT, gsCons, gsNil, gN, fMake, fMeth, fMethIo, insOk, insC, fProp, fPropIo, fFld, sFldS, putAt, putD, fIsi, gIsi, tyn, subTy, gAbs, gInt, gMax2, gMin2, gLen, gList, gIs, gIsN, iSq, iR1, iR2, tAll, fApp, owL, setAt, sSetIx, sFor, fLc, pk, aPk, gEq_int, gNe_int, atI_0, atI_1, atI_2, ixN_0, List.lookup, fBinF, gM2, gEqM, gNeM, gIsC, fIsC, insC, m2, lp]
    rw [this, ← g0, ← g1, ← g2]
    rfl
  have t3 := triples_m l0 l5
  have ev0 := everywhere_m (l := l) (seen := []) l0 l5 (fun _ h => nomatch h) (by decide)
  rw [okT_nil, List.map_nil] at ev0
  have sm0 := same_m (trips l)
  obtain ⟨R, hR⟩ : ∃ R, (trips l).map en3 = R := ⟨_, rfl⟩
  rw [hR] at t3 ev0 sm0
  obtain ⟨τ', ef, seen, r, c9, c10, c11, c12, c13, c14, c15, c16, c17, c18, c19, ht, hs, hlen', hr⟩ := forD_inv (g := gN 9) (f := B_law_k49_1) (fun k τ => ∃ (seen : List Q4) (r c9 c10 c11 c12 c13 c14 c15 c16 c17 c18 c19 : Option Cell), τ = [sd S, si s, si l, si a, si b, si d, some (.ow (.lst [.int h0, .int h1, .int h2])), r, some (.ow (.lst (seen.map en4))), c9, c10, c11, c12, c13, c14, c15, c16, c17, c18, c19] ∧ (∀ q ∈ seen, GoodQ q) ∧ seen.length = k ∧
      (r = some (.ow (.lst (((trips l).filter (okT seen)).map en3))) ∨ r = some (.sh (.lst (((trips l).filter (okT seen)).map en3))))) Z 0 [sd S, si s, si l, si a, si b, si d, some (.ow (.lst [.int h0, .int h1, .int h2])), sd (.lst R), some (.ow (.lst [])), none, none, none, none, none, none, none, none, none, none, none]
      ⟨[], _, _, _, _, _, _, _, _, _, _, _, _, rfl, fun _ h => (nomatch h), rfl, .inr (by rw [okT_nil, hR])⟩ fun k z τ hz ⟨seen, r, c9, c10, c11, c12, c13, c14, c15, c16, c17, c18, c19, e, hs, hl, hr⟩ => by
    subst e
    obtain ⟨i, rfl, hi⟩ := hz2 z (List.mem_of_getElem? hz)
    have hk : k < Z.length := (List.getElem?_eq_some_iff.mp hz).1
    obtain ⟨q, r', d10, d11, d12, d13, d14, d15, d16, hq, hr', e⟩ := turn49 (S := S) (s := s) (a := a) (b := b) (d := d) (h2 := h2) (r := r) (c10 := c10) (c11 := c11) (c12 := c12) (c13 := c13) (c14 := c14) (c15 := c15) (c16 := c16) (c17 := c17) (c18 := c18) (c19 := c19) l0 l5 s0 H0 H1 hs (by omega) hr hi
    exact ⟨_, _, rfl, e, _, .inl rfl, seen ++ [q], r', si i, d10, d11, d12, d13, d14, d15, d16, c17, c18, c19, rfl, fun x hx => by
      rcases List.mem_append.mp hx with h | h
      · exact hs x h
      · rw [List.mem_singleton.mp h]; exact hq, by rw [List.length_append, List.length_singleton]; omega, hr'⟩
  subst ht
  have ev := everywhere_m (l := l) (seen := seen) l0 l5 hs (by omega)
  have sm := same_m ((trips l).filter (okT seen))
  have ge := gEq_refl (pl4s seen)
  obtain ⟨R', hR'⟩ : ∃ R', ((trips l).filter (okT seen)).map en3 = R' := ⟨_, rfl⟩
  obtain ⟨C, hC⟩ : ∃ C, seen.map en4 = C := ⟨_, rfl⟩
  rw [hR', hC] at ev
  rw [hR'] at sm
  rw [hC] at ge
  rw [hR'] at hr
  have main : F_law_k49 [sd S, none, none, none, none, none, none, none, none, none, none, none, none, none, none, none, none, none, none, none] = some (.rt (.val (.bl true)) [sd S, si s, si l, si a, si b, si d, some (.ow (.lst [.int h0, .int h1, .int h2])), sd (.lst R'), some (.ow (.lst C)), c9, c10, c11, c12, c13, c14, c15, c16, sd (.lst C), c18, c19]) := by
    unfold F_law_k49
    refine seq_nx (τ1 := [sd S, si s, si l, si a, si b, si d, none, none, none, none, none, none, none, none, none, none, none, none, none, none]) (by simp [runF, ini, finF, resOp, ioOut, owAt, sSeq, sSet, stOp, sPar, setAll, sUnp, sAug, sIf, sRet, sRetN, sExpr, sNext, sNo, sBrk, sCnt, aNil, aCons, pNil, pCons, fVar, fC, fBin, fUn, fCB, fCall, ioCall, fCallIo, mkOp, deref, derefL, fz, gI, J.gAdd, J.gSub, gMul, gDiv, gMod, gPow, gLt, gLe, gGt, gGe, gNeg, gIx, fTB, fAnd, fOr, fNot, fIfE, fAndV, fOrV, fNotV, fChain, fTup, fLst, gT, gsCons, gsNil, gN, fMake, fMeth, fMethIo, insOk, insC, fProp, fPropIo, fFld, sFldS, putAt, putD, fIsi, gIsi, tyn, subTy, gAbs, gInt, gMax2, gMin2, gLen, gList, gIs, gIsN, iSq, iR1, iR2, tAll, fApp, owL, setAt, sSetIx, sFor, fLc, pk, aPk, gEq_int, gNe_int, atI_0, atI_1, atI_2, ixN_0, List.lookup, fBinF, gM2, gEqM, gNeM, gIsC, fIsC, insC, e0, e1]) ?_
    refine seq_nx (τ1 := [sd S, si s, si l, si a, si b, si d, some (.ow (.lst [.int h0, .int h1, .int h2])), none, none, none, none, none, none, none, none, none, none, none, none, none]) (by simp [runF, ini, finF, resOp, ioOut, owAt, sSeq, sSet, stOp, sPar, setAll, sUnp, sAug, sIf, sRet, sRetN, sExpr, sNext, sNo, sBrk, sCnt, aNil, aCons, pNil, pCons, fVar, fC, fBin, fUn, fCB, fCall, ioCall, fCallIo, mkOp, deref, derefL, fz, gI, J.gAdd, J.gSub, gMul, gDiv, gMod, gPow, gLt, gLe, gGt, gGe, gNeg, gIx, fTB, fAnd, fOr, fNot, fIfE, fAndV, fOrV, fNotV, fChain, fTup, fLst, gT, gsCons, gsNil, gN, fMake, fMeth, fMethIo, insOk, insC, fProp, fPropIo, fFld, sFldS, putAt, putD, fIsi, gIsi, tyn, subTy, gAbs, gInt, gMax2, gMin2, gLen, gList, gIs, gIsN, iSq, iR1, iR2, tAll, fApp, owL, setAt, sSetIx, sFor, fLc, pk, aPk, gEq_int, gNe_int, atI_0, atI_1, atI_2, ixN_0, List.lookup, fBinF, gM2, gEqM, gNeM, gIsC, fIsC, insC, hid]) ?_
    refine seq_nx (τ1 := [sd S, si s, si l, si a, si b, si d, some (.ow (.lst [.int h0, .int h1, .int h2])), some (.ow (.lst R)), none, none, none, none, none, none, none, none, none, none, none, none]) (by simp [runF, ini, finF, resOp, ioOut, owAt, sSeq, sSet, stOp, sPar, setAll, sUnp, sAug, sIf, sRet, sRetN, sExpr, sNext, sNo, sBrk, sCnt, aNil, aCons, pNil, pCons, fVar, fC, fBin, fUn, fCB, fCall, ioCall, fCallIo, mkOp, deref, derefL, fz, gI, J.gAdd, J.gSub, gMul, gDiv, gMod, gPow, gLt, gLe, gGt, gGe, gNeg, gIx, fTB, fAnd, fOr, fNot, fIfE, fAndV, fOrV, fNotV, fChain, fTup, fLst, gT, gsCons, gsNil, gN, fMake, fMeth, fMethIo, insOk, insC, fProp, fPropIo, fFld, sFldS, putAt, putD, fIsi, gIsi, tyn, subTy, gAbs, gInt, gMax2, gMin2, gLen, gList, gIs, gIsN, iSq, iR1, iR2, tAll, fApp, owL, setAt, sSetIx, sFor, fLc, pk, aPk, gEq_int, gNe_int, atI_0, atI_1, atI_2, ixN_0, List.lookup, fBinF, gM2, gEqM, gNeM, gIsC, fIsC, insC, t3]) ?_
    refine seq_nx (τ1 := [sd S, si s, si l, si a, si b, si d, some (.ow (.lst [.int h0, .int h1, .int h2])), some (.ow (.lst R)), some (.ow (.lst [])), none, none, none, none, none, none, none, none, none, none, none]) (by simp [runF, ini, finF, resOp, ioOut, owAt, sSeq, sSet, stOp, sPar, setAll, sUnp, sAug, sIf, sRet, sRetN, sExpr, sNext, sNo, sBrk, sCnt, aNil, aCons, pNil, pCons, fVar, fC, fBin, fUn, fCB, fCall, ioCall, fCallIo, mkOp, deref, derefL, fz, gI, J.gAdd, J.gSub, gMul, gDiv, gMod, gPow, gLt, gLe, gGt, gGe, gNeg, gIx, fTB, fAnd, fOr, fNot, fIfE, fAndV, fOrV, fNotV, fChain, fTup, fLst, gT, gsCons, gsNil, gN, fMake, fMeth, fMethIo, insOk, insC, fProp, fPropIo, fFld, sFldS, putAt, putD, fIsi, gIsi, tyn, subTy, gAbs, gInt, gMax2, gMin2, gLen, gList, gIs, gIsN, iSq, iR1, iR2, tAll, fApp, owL, setAt, sSetIx, sFor, fLc, pk, aPk, gEq_int, gNe_int, atI_0, atI_1, atI_2, ixN_0, List.lookup, fBinF, gM2, gEqM, gNeM, gIsC, fIsC, insC]) ?_
    refine seq_nx (τ1 := [sd S, si s, si l, si a, si b, si d, some (.ow (.lst [.int h0, .int h1, .int h2])), sd (.lst R), some (.ow (.lst [])), none, none, none, none, none, none, none, none, none, none, none]) (by simp [runF, ini, finF, resOp, ioOut, owAt, sSeq, sSet, stOp, sPar, setAll, sUnp, sAug, sIf, sRet, sRetN, sExpr, sNext, sNo, sBrk, sCnt, aNil, aCons, pNil, pCons, fVar, fC, fBin, fUn, fCB, fCall, ioCall, fCallIo, mkOp, deref, derefL, fz, gI, J.gAdd, J.gSub, gMul, gDiv, gMod, gPow, gLt, gLe, gGt, gGe, gNeg, gIx, fTB, fAnd, fOr, fNot, fIfE, fAndV, fOrV, fNotV, fChain, fTup, fLst, gT, gsCons, gsNil, gN, fMake, fMeth, fMethIo, insOk, insC, fProp, fPropIo, fFld, sFldS, putAt, putD, fIsi, gIsi, tyn, subTy, gAbs, gInt, gMax2, gMin2, gLen, gList, gIs, gIsN, iSq, iR1, iR2, tAll, fApp, owL, setAt, sSetIx, sFor, fLc, pk, aPk, gEq_int, gNe_int, atI_0, atI_1, atI_2, ixN_0, List.lookup, fBinF, gM2, gEqM, gNeM, gIsC, fIsC, insC, ev0, sm0]) ?_
    refine seq_nx (τ1 := [sd S, si s, si l, si a, si b, si d, some (.ow (.lst [.int h0, .int h1, .int h2])), r, some (.ow (.lst C)), c9, c10, c11, c12, c13, c14, c15, c16, c17, c18, c19]) (by
      have hsl : iSq (fSl (fVar 0) (oSome (fC (.int 1))) (oSome (fC (.int 13)))) [sd S, si s, si l, si a, si b, si d, some (.ow (.lst [.int h0, .int h1, .int h2])), sd (.lst R), some (.ow (.lst [])), none, none, none, none, none, none, none, none, none, none, none] = some (Z, [sd S, si s, si l, si a, si b, si d, some (.ow (.lst [.int h0, .int h1, .int h2])), sd (.lst R), some (.ow (.lst [])), none, none, none, none, none, none, none, none, none, none, none]) := by
        rw [← hS, ← hZ]; rfl
      simp only [sFor]
      rw [hsl]
      rw [hC] at ef
      exact ef) ?_
    refine seq_nx (τ1 := [sd S, si s, si l, si a, si b, si d, some (.ow (.lst [.int h0, .int h1, .int h2])), r, some (.ow (.lst C)), c9, c10, c11, c12, c13, c14, c15, c16, some (.ow (.lst C)), c18, c19]) (by simp [runF, ini, finF, resOp, ioOut, owAt, sSeq, sSet, stOp, sPar, setAll, sUnp, sAug, sIf, sRet, sRetN, sExpr, sNext, sNo, sBrk, sCnt, aNil, aCons, pNil, pCons, fVar, fC, fBin, fUn, fCB, fCall, ioCall, fCallIo, mkOp, deref, derefL, fz, gI, J.gAdd, J.gSub, gMul, gDiv, gMod, gPow, gLt, gLe, gGt, gGe, gNeg, gIx, fTB, fAnd, fOr, fNot, fIfE, fAndV, fOrV, fNotV, fChain, fTup, fLst, gT, gsCons, gsNil, gN, fMake, fMeth, fMethIo, insOk, insC, fProp, fPropIo, fFld, sFldS, putAt, putD, fIsi, gIsi, tyn, subTy, gAbs, gInt, gMax2, gMin2, gLen, gList, gIs, gIsN, iSq, iR1, iR2, tAll, fApp, owL, setAt, sSetIx, sFor, fLc, pk, aPk, gEq_int, gNe_int, atI_0, atI_1, atI_2, ixN_0, List.lookup, fBinF, gM2, gEqM, gNeM, gIsC, fIsC, insC]) ?_
    rcases hr with rfl | rfl <;> simp [runF, ini, finF, resOp, ioOut, owAt, sSeq, sSet, stOp, sPar, setAll, sUnp, sAug, sIf, sRet, sRetN, sExpr, sNext, sNo, sBrk, sCnt, aNil, aCons, pNil, pCons, fVar, fC, fBin, fUn, fCB, fCall, ioCall, fCallIo, mkOp, deref, derefL, fz, gI, J.gAdd, J.gSub, gMul, gDiv, gMod, gPow, gLt, gLe, gGt, gGe, gNeg, gIx, fTB, fAnd, fOr, fNot, fIfE, fAndV, fOrV, fNotV, fChain, fTup, fLst, gT, gsCons, gsNil, gN, fMake, fMeth, fMethIo, insOk, insC, fProp, fPropIo, fFld, sFldS, putAt, putD, fIsi, gIsi, tyn, subTy, gAbs, gInt, gMax2, gMin2, gLen, gList, gIs, gIsN, iSq, iR1, iR2, tAll, fApp, owL, setAt, sSetIx, sFor, fLc, pk, aPk, gEq_int, gNe_int, atI_0, atI_1, atI_2, ixN_0, List.lookup, fBinF, gM2, gEqM, gNeM, gIsC, fIsC, insC, ev, sm, ge]
  refine ⟨.non, ?_⟩
  rw [hN, hS]
  exact run_rt (τ := [sd S, none, none, none, none, none, none, none, none, none, none, none, none, none, none, none, none, none, none, none]) rfl rfl main rfl
end J
namespace Wk49
open PySem PySem.Spec PyProof.Rows L2 J
def top (i : Nat) : Stmt := PySem.Challenge.pw_rulesquares_k49_small_rules_for_seen_cel.main.body.getD i (.Pass ⟨0, 0, 0, 0⟩)
structure Txt (K : PySem.W.Frag) (mg : Mg) : Prop where
  z_bool : mg "bool" = none
  z_int : mg "int" = none
  z_isinstance : mg "isinstance" = none
  z_len : mg "len" = none
  z_list : mg "list" = none
  z_range : mg "range" = none
  z_tuple : mg "tuple" = none
section
variable {P : Program} {w : World} {K : PySem.W.Frag} {mg : Mg} {base : Heap}
abbrev N_law_draws : List PySem.Str := ["cell", "tops", "found", "rest", "k", "stir"]
theorem sc_law_draws : FnScope N_law_draws ["cell", "tops"] (defScope (top 13)) := ⟨rfl, rfl, rfl, by decide +kernel, rfl, by decide +kernel, by decide +kernel⟩
theorem ok_law_draws {f : Addr} {fd : FuncData} (T : Txt K mg) (Fn : Fun K "_law_draws" "_law_draws" (top 13) f fd) : FnOk P w K mg base CX0 1 f fd ["cell", "tops"] (spM K mg false m_law_draws) :=
  jfun (n := 6) (np := 2) (F := F_law_draws) rfl rfl rfl Fn sc_law_draws (fun cdv A outer s H E hr => ⟨_, (jss_cons (js_set sc_law_draws.nd (.inl rfl) (je_lst ja_nil))
  (jss_cons (js_set sc_law_draws.nd (.inl rfl) (je_var 0))
  (jss_cons (js_for PassesOwn.never rfl (.inl rfl) (ji_r1 (by rfl) T.z_range (jp_cons (je_len (K := K) (by rfl) T.z_len (jp_cons (je_var 1) jp_nil)) jp_nil)) (jg_name sc_law_draws.nd) (jss_cons (js_set sc_law_draws.nd (.inl rfl) (je_mod (je_int1 (by rfl) T.z_int (jp_cons (je_add (je_add (je_add (je_mul (je_var 0) (je_var 0)) (je_mul (je_add (je_mul je_int (je_var 4)) je_int) (je_var 0))) (je_mul (je_mul je_int (je_var 4)) (je_var 4))) je_int) jp_nil)) je_int))
  (jss_cons (js_set sc_law_draws.nd (.inl rfl) (je_mod (je_int1 (by rfl) T.z_int (jp_cons (je_add (je_add (je_mul (je_var 5) (je_var 5)) (je_mul je_int (je_var 4))) je_int) jp_nil)) je_int))
  (jss_cons (js_set sc_law_draws.nd (.inl rfl) (je_mod (je_int1 (by rfl) T.z_int (jp_cons (je_add (je_mul (je_var 5) je_int) (je_mul (je_mul (je_var 4) (je_var 4)) (je_var 4))) jp_nil)) je_int))
  (jss_one (js_if (jt_ge (je_var 0) (je_pow je_int je_int)) (jss_cons (js_expr (je_app (K := K) (je_var 2) (je_mod (je_int1 (by rfl) T.z_int (jp_cons (je_var 3) jp_nil)) (je_ix (K := K) (je_var 1) (je_var 4)))))
  (jss_one (js_set sc_law_draws.nd (.inl rfl) (je_div (je_var 3) (je_ix (K := K) (je_var 1) (je_var 4)))))) (jss_one (js_expr (je_app (K := K) (je_var 2) (je_mod (je_int1 (by rfl) T.z_int (jp_cons (je_add (je_div (je_var 5) je_int) (je_mul je_int (je_pow (je_var 5) je_int))) jp_nil)) (je_ix (K := K) (je_var 1) (je_var 4))))))))))))
  (jss_one (js_ret (je_var 2))))))⟩)
abbrev N_law_cell_2 : List PySem.Str := ["script", "k"]
theorem sc_law_cell_2 : FnScope N_law_cell_2 ["script", "k"] (defScope (top 12)) := ⟨rfl, rfl, rfl, by decide +kernel, rfl, by decide +kernel, by decide +kernel⟩
theorem ok_law_cell_2 {f : Addr} {fd : FuncData} (T : Txt K mg) (Fn : Fun K "_law_cell" "_law_cell" (top 12) f fd) : FnOk P w K mg base CX0 1 f fd ["script", "k"] (spM K mg false m_law_cell_2) :=
  jfun (n := 2) (np := 2) (F := F_law_cell_2) rfl rfl rfl Fn sc_law_cell_2 (fun cdv A outer s H E hr => ⟨_, (jss_cons (js_if (jt_lt (je_var 1) (je_len (K := K) (by rfl) T.z_len (jp_cons (je_var 0) jp_nil))) (jss_one (js_ret (je_ix (K := K) (je_var 0) (je_var 1)))) jss_nil)
  (jss_one (js_ret je_int)))⟩)
abbrev N_law_triples : List PySem.Str := ["limit", "found", "a", "b", "d"]
theorem sc_law_triples : FnScope N_law_triples ["limit"] (defScope (top 15)) := ⟨rfl, rfl, rfl, by decide +kernel, rfl, by decide +kernel, by decide +kernel⟩
theorem ok_law_triples {f : Addr} {fd : FuncData} (T : Txt K mg) (Fn : Fun K "_law_triples" "_law_triples" (top 15) f fd) : FnOk P w K mg base CX0 1 f fd ["limit"] (spM K mg false m_law_triples) :=
  jfun (n := 5) (np := 1) (F := F_law_triples) rfl rfl rfl Fn sc_law_triples (fun cdv A outer s H E hr => ⟨_, (jss_cons (js_set sc_law_triples.nd (.inl rfl) (je_lst ja_nil))
  (jss_cons (js_for PassesOwn.never rfl (.inl rfl) (ji_r2 (by rfl) T.z_range (jp_cons (je_neg (je_var 0)) (jp_cons (je_add (je_var 0) je_int) jp_nil))) (jg_name sc_law_triples.nd) (jss_one (js_for PassesOwn.never rfl (.inl rfl) (ji_r2 (by rfl) T.z_range (jp_cons (je_neg (je_var 0)) (jp_cons (je_add (je_var 0) je_int) jp_nil))) (jg_name sc_law_triples.nd) (jss_one (js_for PassesOwn.never rfl (.inl rfl) (ji_r2 (by rfl) T.z_range (jp_cons (je_neg (je_var 0)) (jp_cons (je_add (je_var 0) je_int) jp_nil))) (jg_name sc_law_triples.nd) (jss_one (js_expr (je_app (K := K) (je_var 1) (je_tup (ja_cons (je_var 2) (ja_cons (je_var 3) (ja_cons (je_var 4) ja_nil))))))))))))
  (jss_one (js_ret (je_var 1)))))⟩)
abbrev N_law_whole : List PySem.Str := ["found"]
theorem sc_law_whole : FnScope N_law_whole ["found"] (defScope (top 14)) := ⟨rfl, rfl, rfl, by decide +kernel, rfl, by decide +kernel, by decide +kernel⟩
theorem ok_law_whole {f : Addr} {fd : FuncData} (T : Txt K mg) (Fn : Fun K "_law_whole" "_law_whole" (top 14) f fd) : FnOk P w K mg base CX0 1 f fd ["found"] (spM K mg false m_law_whole) :=
  jfun (n := 1) (np := 1) (F := F_law_whole) rfl rfl rfl Fn sc_law_whole (fun cdv A outer s H E hr => ⟨_, (jss_one (js_ret (je_and (je_isi (K := K) (by rfl) T.z_isinstance (by rfl) T.z_int (je_var 0) (by decide) (by decide +kernel)) (je_one (je_not (je_isi (K := K) (by rfl) T.z_isinstance (by rfl) T.z_bool (je_var 0) (by decide) (by decide +kernel)))))))⟩)
abbrev N_law_same : List PySem.Str := ["found", "due", "rule", "one"]
theorem sc_law_same : FnScope N_law_same ["found", "due"] (defScope (top 17)) := ⟨rfl, rfl, rfl, by decide +kernel, rfl, by decide +kernel, by decide +kernel⟩
theorem ok_law_same {f : Addr} {fd : FuncData} (T : Txt K mg) {f_law_whole : Addr} {fd_law_whole : FuncData} (h_law_whole : KnF P w K mg base f_law_whole fd_law_whole "_law_whole" ["found"] false 1 m_law_whole) (Fn : Fun K "_law_same" "_law_same" (top 17) f fd) : FnOk P w K mg base CX0 2 f fd ["found", "due"] (spM K mg false m_law_same) :=
  jfun (n := 4) (np := 2) (F := F_law_same) rfl rfl rfl Fn sc_law_same (fun cdv A outer s H E hr => ⟨_, (jss_cons (js_if (jt_w (jw_or (jt_not (jt_val (je_isi (K := K) (by rfl) T.z_isinstance (by rfl) T.z_list (je_var 0) (by decide) (by decide +kernel)))) (jw_or1 (jt_ne (K := K) hr (je_var 0) (je_var 1))))) (jss_one (js_ret je_bl)) jss_nil)
  (jss_cons (js_for PassesOwn.never rfl (.inl rfl) (ji_seq (K := K) (je_var 0)) (jg_name sc_law_same.nd) (jss_one (js_if (jt_w (jw_or (jt_not (jt_val (je_isi (K := K) (by rfl) T.z_isinstance (by rfl) T.z_tuple (je_var 2) (by decide) (by decide +kernel)))) (jw_or1 (jt_ne (K := K) hr (je_lc (own := [("one", 3)]) rfl sc_law_same.nd (ji_seq (K := K) (je_var 2)) (blkOk_by (N := N_law_same) (sc := (defScope (top 17))) (own := [("one", 3)]) (by decide +kernel)) (by decide) (fun _ _ _ _ _ => (jg_name sc_law_same.nd)) (fun _ _ _ _ _ => (jts_one (jt_not (jt_val (kf_call h_law_whole hr (ja_cons (je_var 3) ja_nil)))))) (fun _ _ _ _ _ => (je_var 3))) (je_lst ja_nil))))) (jss_one (js_ret je_bl)) jss_nil)))
  (jss_one (js_ret je_bl))))⟩)
abbrev N_check_size : List PySem.Str := ["n"]
theorem sc_check_size : FnScope N_check_size ["n"] (defScope (top 6)) := ⟨rfl, rfl, rfl, by decide +kernel, rfl, by decide +kernel, by decide +kernel⟩
theorem ok_check_size {f : Addr} {fd : FuncData} (T : Txt K mg) (Fn : Fun K "check_size" "check_size" (top 6) f fd) : FnOk P w K mg base CX0 1 f fd ["n"] (spM K mg false m_check_size) :=
  jfun (n := 1) (np := 1) (F := F_check_size) rfl rfl rfl Fn sc_check_size (fun cdv A outer s H E hr => ⟨_, (jss_one (js_if (jt_lt (je_var 0) je_int) (jss_one js_never) jss_nil))⟩)
abbrev N_check_cell : List PySem.Str := ["n", "row", "column"]
theorem sc_check_cell : FnScope N_check_cell ["n", "row", "column"] (defScope (top 7)) := ⟨rfl, rfl, rfl, by decide +kernel, rfl, by decide +kernel, by decide +kernel⟩
theorem ok_check_cell {f : Addr} {fd : FuncData} (T : Txt K mg) {f_check_size : Addr} {fd_check_size : FuncData} (h_check_size : KnF P w K mg base f_check_size fd_check_size "check_size" ["n"] false 1 m_check_size) (Fn : Fun K "check_cell" "check_cell" (top 7) f fd) : FnOk P w K mg base CX0 2 f fd ["n", "row", "column"] (spM K mg false m_check_cell) :=
  jfun (n := 3) (np := 3) (F := F_check_cell) rfl rfl rfl Fn sc_check_cell (fun cdv A outer s H E hr => ⟨_, (jss_cons (js_expr (kf_call h_check_size hr (ja_cons (je_var 0) ja_nil)))
  (jss_one (js_if (jt_w (jw_or (jt_not (jt_chain op_le op_lt rb_le rb_lt je_int (je_var 1) (je_var 0))) (jw_or1 (jt_not (jt_chain op_le op_lt rb_le rb_lt je_int (je_var 2) (je_var 0)))))) (jss_one js_never) jss_nil)))⟩)
abbrev N_check_seen : List PySem.Str := ["n", "row", "column", "sign"]
theorem sc_check_seen : FnScope N_check_seen ["n", "row", "column", "sign"] (defScope (top 9)) := ⟨rfl, rfl, rfl, by decide +kernel, rfl, by decide +kernel, by decide +kernel⟩
theorem ok_check_seen {f : Addr} {fd : FuncData} (T : Txt K mg) {f_check_cell : Addr} {fd_check_cell : FuncData} (h_check_cell : KnF P w K mg base f_check_cell fd_check_cell "check_cell" ["n", "row", "column"] false 2 m_check_cell) (Fn : Fun K "check_seen" "check_seen" (top 9) f fd) : FnOk P w K mg base CX0 3 f fd ["n", "row", "column", "sign"] (spM K mg false m_check_seen) :=
  jfun (n := 4) (np := 4) (F := F_check_seen) rfl rfl rfl Fn sc_check_seen (fun cdv A outer s H E hr => ⟨_, (jss_cons (js_expr (kf_call h_check_cell hr (ja_cons (je_var 0) (ja_cons (je_var 1) (ja_cons (je_var 2) ja_nil)))))
  (jss_one (js_if (jt_not (jt_chain op_le op_lt rb_le rb_lt je_int (je_var 3) (je_var 0))) (jss_one js_never) jss_nil)))⟩)
abbrev N_everywhere : List PySem.Str := ["seen", "most", "n", "row", "column", "sign", "found", "a", "b", "d", "wrong"]
theorem sc_everywhere : FnScope N_everywhere ["seen", "most"] (defScope (top 10)) := ⟨rfl, rfl, rfl, by decide +kernel, rfl, by decide +kernel, by decide +kernel⟩
theorem ok_everywhere {f : Addr} {fd : FuncData} (T : Txt K mg) {f_check_seen : Addr} {fd_check_seen : FuncData} (h_check_seen : KnF P w K mg base f_check_seen fd_check_seen "check_seen" ["n", "row", "column", "sign"] false 3 m_check_seen) (Fn : Fun K "everywhere" "everywhere" (top 10) f fd) : FnOk P w K mg base CX0 4 f fd ["seen", "most"] (spM K mg false m_everywhere) :=
  jfun (n := 11) (np := 2) (F := F_everywhere) rfl rfl rfl Fn sc_everywhere (fun cdv A outer s H E hr => ⟨_, (jss_cons (js_for PassesOwn.never rfl (.inl rfl) (ji_seq (K := K) (je_var 0)) (jg_tup (K := K) rfl (jgs_cons (jg_name sc_everywhere.nd) (jgs_cons (jg_name sc_everywhere.nd) (jgs_cons (jg_name sc_everywhere.nd) (jgs_cons (jg_name sc_everywhere.nd) jgs_nil))))) (jss_one (js_expr (kf_call h_check_seen hr (ja_cons (je_var 2) (ja_cons (je_var 3) (ja_cons (je_var 4) (ja_cons (je_var 5) ja_nil))))))))
  (jss_cons (js_set sc_everywhere.nd (.inl rfl) (je_lst ja_nil))
  (jss_cons (js_for PassesOwn.never rfl (.inl rfl) (ji_r2 (by rfl) T.z_range (jp_cons (je_neg (je_var 1)) (jp_cons (je_add (je_var 1) je_int) jp_nil))) (jg_name sc_everywhere.nd) (jss_one (js_for PassesOwn.never rfl (.inl rfl) (ji_r2 (by rfl) T.z_range (jp_cons (je_neg (je_var 1)) (jp_cons (je_add (je_var 1) je_int) jp_nil))) (jg_name sc_everywhere.nd) (jss_one (js_for PassesOwn.never rfl (.inl rfl) (ji_r2 (by rfl) T.z_range (jp_cons (je_neg (je_var 1)) (jp_cons (je_add (je_var 1) je_int) jp_nil))) (jg_name sc_everywhere.nd) (jss_cons (js_setLc (own := [("n", 2), ("row", 3), ("column", 4), ("sign", 5)]) (.inl rfl) rfl sc_everywhere.nd rfl (sw_true rfl rfl rfl (by decide +kernel)) (ji_seq (K := K) (je_var 0)) (blkOk_by (N := N_everywhere) (sc := (defScope (top 10))) (own := [("n", 2), ("row", 3), ("column", 4), ("sign", 5)]) (by decide +kernel)) (by decide) (fun _ _ _ _ _ => (jg_tup (K := K) rfl (jgs_cons (jg_name sc_everywhere.nd) (jgs_cons (jg_name sc_everywhere.nd) (jgs_cons (jg_name sc_everywhere.nd) (jgs_cons (jg_name sc_everywhere.nd) jgs_nil)))))) (fun _ _ _ _ _ => (jts_one (jt_ne (K := K) hr (je_mod (je_sub (je_add (je_add (je_mul (je_var 7) (je_var 3)) (je_mul (je_var 8) (je_var 4))) (je_var 9)) (je_var 5)) (je_var 2)) je_int))) (fun _ _ _ _ _ => (je_var 2)))
  (jss_one (js_if (jt_eq (K := K) hr (je_var 10) (je_lst ja_nil)) (jss_one (js_expr (je_app (K := K) (je_var 6) (je_tup (ja_cons (je_var 7) (ja_cons (je_var 8) (ja_cons (je_var 9) ja_nil))))))) jss_nil))))))))
  (jss_one (js_ret (je_var 6))))))⟩)
abbrev N_law_fits : List PySem.Str := ["rule", "cell", "n", "row", "column", "sign"]
theorem sc_law_fits : FnScope N_law_fits ["rule", "cell"] (defScope (top 16)) := ⟨rfl, rfl, rfl, by decide +kernel, rfl, by decide +kernel, by decide +kernel⟩
theorem ok_law_fits {f : Addr} {fd : FuncData} (T : Txt K mg) (Fn : Fun K "_law_fits" "_law_fits" (top 16) f fd) : FnOk P w K mg base CX0 1 f fd ["rule", "cell"] (spM K mg false m_law_fits) :=
  jfun (n := 6) (np := 2) (F := F_law_fits) rfl rfl rfl Fn sc_law_fits (fun cdv A outer s H E hr => ⟨_, (jss_cons (js_unp (.inl rfl) (je_var 1) (jg_tup (K := K) rfl (jgs_cons (jg_name sc_law_fits.nd) (jgs_cons (jg_name sc_law_fits.nd) (jgs_cons (jg_name sc_law_fits.nd) (jgs_cons (jg_name sc_law_fits.nd) jgs_nil))))))
  (jss_one (js_ret (je_eq (K := K) hr (je_mod (je_int1 (by rfl) T.z_int (jp_cons (je_sub (je_add (je_add (je_mul (je_ix (K := K) (je_var 0) je_int) (je_var 3)) (je_mul (je_ix (K := K) (je_var 0) je_int) (je_var 4))) (je_ix (K := K) (je_var 0) je_int)) (je_var 5)) jp_nil)) (je_var 2)) je_int))))⟩)
abbrev N_law_k49 : List PySem.Str := ["script", "spoilt", "limit", "a", "b", "d", "hidden", "rules", "cells", "cell", "kind", "large", "size", "row", "column", "sign", "n", "handed", "one", "rule"]
theorem sc_law_k49 : FnScope N_law_k49 ["script"] (defScope (top 18)) := ⟨rfl, rfl, rfl, by decide +kernel, rfl, by decide +kernel, by decide +kernel⟩
theorem ok_law_k49 {f : Addr} {fd : FuncData} (T : Txt K mg) {f_law_draws : Addr} {fd_law_draws : FuncData} (h_law_draws : KnF P w K mg base f_law_draws fd_law_draws "_law_draws" ["cell", "tops"] false 1 m_law_draws) {f_law_cell_2 : Addr} {fd_law_cell_2 : FuncData} (h_law_cell_2 : KnF P w K mg base f_law_cell_2 fd_law_cell_2 "_law_cell" ["script", "k"] false 1 m_law_cell_2) {f_law_triples : Addr} {fd_law_triples : FuncData} (h_law_triples : KnF P w K mg base f_law_triples fd_law_triples "_law_triples" ["limit"] false 1 m_law_triples) {f_law_same : Addr} {fd_law_same : FuncData} (h_law_same : KnF P w K mg base f_law_same fd_law_same "_law_same" ["found", "due"] false 2 m_law_same) {f_everywhere : Addr} {fd_everywhere : FuncData} (h_everywhere : KnF P w K mg base f_everywhere fd_everywhere "everywhere" ["seen", "most"] false 4 m_everywhere) {f_law_fits : Addr} {fd_law_fits : FuncData} (h_law_fits : KnF P w K mg base f_law_fits fd_law_fits "_law_fits" ["rule", "cell"] false 1 m_law_fits) (w_everywhere_0_most_seen : KwB K fd_everywhere ["seen", "most"] ["most", "seen"] 0 [1, 0]) (Fn : Fun K "law" "law" (top 18) f fd) : FnOk P w K mg base CX0 5 f fd ["script"] (spM K mg false m_law_k49) :=
  jfun (n := 20) (np := 1) (F := F_law_k49) rfl rfl rfl Fn sc_law_k49 (fun cdv A outer s H E hr => ⟨_, (jss_cons (js_unp (.inl rfl) (kf_call h_law_draws hr (ja_cons (kf_call h_law_cell_2 hr (ja_cons (je_var 0) (ja_cons je_int ja_nil))) (ja_cons (je_lst (ja_cons je_int (ja_cons je_int (ja_cons je_int (ja_cons je_int (ja_cons je_int ja_nil)))))) ja_nil))) (jg_tup (K := K) rfl (jgs_cons (jg_name sc_law_k49.nd) (jgs_cons (jg_name sc_law_k49.nd) (jgs_cons (jg_name sc_law_k49.nd) (jgs_cons (jg_name sc_law_k49.nd) (jgs_cons (jg_name sc_law_k49.nd) jgs_nil)))))))
  (jss_cons (js_setLc (own := [("one", 18)]) (.inl rfl) rfl sc_law_k49.nd rfl (sw_true rfl rfl rfl (by decide +kernel)) (ji_seq (K := K) (je_lst (ja_cons (je_var 3) (ja_cons (je_var 4) (ja_cons (je_var 5) ja_nil))))) (blkOk_by (N := N_law_k49) (sc := (defScope (top 18))) (own := [("one", 18)]) (by decide +kernel)) (by decide) (fun _ _ _ _ _ => (jg_name sc_law_k49.nd)) (fun _ _ _ _ _ => jts_nil) (fun _ _ _ _ _ => (je_sub (je_mod (je_int1 (by rfl) T.z_int (jp_cons (je_var 18) jp_nil)) (je_add (je_mul je_int (je_var 2)) je_int)) (je_var 2))))
  (jss_cons (js_set sc_law_k49.nd (.inl rfl) (kf_call h_law_triples hr (ja_cons (je_var 2) ja_nil)))
  (jss_cons (js_set sc_law_k49.nd (.inl rfl) (je_lst ja_nil))
  (jss_cons (js_if (jt_not (jt_val (kf_call h_law_same hr (ja_cons (kf_call h_everywhere hr (ja_cons (je_list1 (K := K) (by rfl) T.z_list (jp_cons (je_var 8) jp_nil)) (ja_cons (je_var 2) ja_nil))) (ja_cons (je_var 7) ja_nil))))) (jss_one (js_ret je_bl)) jss_nil)
  (jss_cons (js_for PassesOwn.never rfl (.inl rfl) (ji_seq (K := K) (je_sl (K := K) (je_var 0) (jo_some je_int) (jo_some je_int))) (jg_name sc_law_k49.nd) (jss_cons (js_unp (.inl rfl) (kf_call h_law_draws hr (ja_cons (je_var 9) (ja_cons (je_lst (ja_cons je_int (ja_cons je_int (ja_cons (je_pow je_int je_int) (ja_cons (je_pow je_int je_int) (ja_cons (je_pow je_int je_int) (ja_cons (je_pow je_int je_int) ja_nil))))))) ja_nil))) (jg_tup (K := K) rfl (jgs_cons (jg_name sc_law_k49.nd) (jgs_cons (jg_name sc_law_k49.nd) (jgs_cons (jg_name sc_law_k49.nd) (jgs_cons (jg_name sc_law_k49.nd) (jgs_cons (jg_name sc_law_k49.nd) (jgs_cons (jg_name sc_law_k49.nd) jgs_nil))))))))
  (jss_cons (js_set sc_law_k49.nd (.inl rfl) (je_add je_int (je_var 12)))
  (jss_cons (js_if (jt_gt (je_var 11) je_int) (jss_one (js_set sc_law_k49.nd (.inl rfl) (je_add je_int (je_mod (je_int1 (by rfl) T.z_int (jp_cons (je_var 12) jp_nil)) je_int)))) jss_nil)
  (jss_cons (js_set sc_law_k49.nd (.inl rfl) (je_mod (je_int1 (by rfl) T.z_int (jp_cons (je_var 13) jp_nil)) (je_var 16)))
  (jss_cons (js_set sc_law_k49.nd (.inl rfl) (je_mod (je_int1 (by rfl) T.z_int (jp_cons (je_var 14) jp_nil)) (je_var 16)))
  (jss_cons (js_if (jt_w (jw_or (jt_gt (je_var 10) je_int) (jw_or1 (jt_eq (K := K) hr (je_var 1) je_int)))) (jss_one (js_set sc_law_k49.nd (.inl rfl) (je_add (je_add (je_mul (je_ix (K := K) (je_var 6) je_int) (je_var 13)) (je_mul (je_ix (K := K) (je_var 6) je_int) (je_var 14))) (je_ix (K := K) (je_var 6) je_int)))) jss_nil)
  (jss_cons (js_expr (je_app (K := K) (je_var 8) (je_tup (ja_cons (je_var 16) (ja_cons (je_var 13) (ja_cons (je_var 14) (ja_cons (je_mod (je_int1 (by rfl) T.z_int (jp_cons (je_var 15) jp_nil)) (je_var 16)) ja_nil)))))))
  (jss_cons (js_setLc (own := [("rule", 19)]) (.inl rfl) rfl sc_law_k49.nd rfl (sw_true rfl rfl rfl (by decide +kernel)) (ji_seq (K := K) (je_var 7)) (blkOk_by (N := N_law_k49) (sc := (defScope (top 18))) (own := [("rule", 19)]) (by decide +kernel)) (by decide) (fun _ _ _ _ _ => (jg_name sc_law_k49.nd)) (fun _ _ _ _ _ => (jts_one (jt_val (kf_call h_law_fits hr (ja_cons (je_var 19) (ja_cons (je_ix (K := K) (je_var 8) (je_neg je_int)) ja_nil)))))) (fun _ _ _ _ _ => (je_var 19)))
  (jss_one (js_if (jt_w (jw_and (jt_lt (je_var 2) je_int) (jw_and1 (jt_not (jt_val (kf_call h_law_same hr (ja_cons (kf_call h_everywhere hr (ja_cons (je_list1 (K := K) (by rfl) T.z_list (jp_cons (je_var 8) jp_nil)) (ja_cons (je_var 2) ja_nil))) (ja_cons (je_var 7) ja_nil)))))))) (jss_one (js_ret je_bl)) jss_nil)))))))))))
  (jss_cons (js_set sc_law_k49.nd (.inl rfl) (je_list1 (K := K) (by rfl) T.z_list (jp_cons (je_var 8) jp_nil)))
  (jss_one (js_ret (je_and (kf_call h_law_same hr (ja_cons (kf_callN0 (pm := [1, 0]) h_everywhere w_everywhere_0_most_seen hr  (jk_cons (je_var 2) (jk_cons (je_var 17) jk_nil))) (ja_cons (je_var 7) ja_nil))) (je_one (je_eq (K := K) hr (je_var 17) (je_var 8)))))))))))))⟩)
end
theorem all_mk {l : PySem.W.OpenLaw} {w : World} {K : PySem.W.Frag} {h : Heap} {mg : Mg} {good : List Int → Prop} (law : ∀ ns : List Int, good ns → ∃ z, m_law_k49 [.lst (ns.map D.int)] = some (false, .bl true, z)) {fa f_law_draws f_law_cell_2 f_law_triples f_law_whole f_law_same f_check_size f_check_cell f_check_seen f_everywhere f_law_fits f_law_k49 : Addr} (X : K.In h) (G : h.Ns mainGlobals mg) (hfa : mg "law" = some (.ref fa))
    {od_law_draws an_law_draws od_law_cell_2 an_law_cell_2 od_law_triples an_law_triples od_law_whole an_law_whole od_law_same an_law_same od_check_size an_check_size od_check_cell an_check_cell od_check_seen an_check_seen od_everywhere an_everywhere od_law_fits an_law_fits od_law_k49 an_law_k49 : Option Addr} {sl_law_draws sl_law_cell_2 sl_law_triples sl_law_whole sl_law_same sl_check_size sl_check_cell sl_check_seen sl_everywhere sl_law_fits sl_law_k49 : Array (Option Value)} {oc_law_draws kV_law_draws dc_law_draws pm_law_draws cd_law_draws ct_law_draws oc_law_cell_2 kV_law_cell_2 dc_law_cell_2 pm_law_cell_2 cd_law_cell_2 ct_law_cell_2 oc_law_triples kV_law_triples dc_law_triples pm_law_triples cd_law_triples ct_law_triples oc_law_whole kV_law_whole dc_law_whole pm_law_whole cd_law_whole ct_law_whole oc_law_same kV_law_same dc_law_same pm_law_same cd_law_same ct_law_same oc_check_size kV_check_size dc_check_size pm_check_size cd_check_size ct_check_size oc_check_cell kV_check_cell dc_check_cell pm_check_cell cd_check_cell ct_check_cell oc_check_seen kV_check_seen dc_check_seen pm_check_seen cd_check_seen ct_check_seen oc_everywhere kV_everywhere dc_everywhere pm_everywhere cd_everywhere ct_everywhere oc_law_fits kV_law_fits dc_law_fits pm_law_fits cd_law_fits ct_law_fits oc_law_k49 kV_law_k49 dc_law_k49 pm_law_k49 cd_law_k49 ct_law_k49 : Value}
    (a_law_draws : PySem.W.nsIn K mainGlobals "_law_draws" = some (some (.ref f_law_draws)))
    (l_law_draws : K.lookup f_law_draws = some ⟨oc_law_draws, od_law_draws, .func (PySem.W.fnOf "_law_draws" "_law_draws" (defArgs (top 13)) (defBody (top 13)) (defScope (top 13)) .none kV_law_draws dc_law_draws pm_law_draws an_law_draws cd_law_draws ct_law_draws), sl_law_draws⟩)
    (c_law_draws' : PySem.W.codeIn K cd_law_draws "_law_draws" = true)
    (k_law_draws : PySem.W.keepIn K (.ref f_law_draws) = true)
    (a_law_cell_2 : PySem.W.nsIn K mainGlobals "_law_cell" = some (some (.ref f_law_cell_2)))
    (l_law_cell_2 : K.lookup f_law_cell_2 = some ⟨oc_law_cell_2, od_law_cell_2, .func (PySem.W.fnOf "_law_cell" "_law_cell" (defArgs (top 12)) (defBody (top 12)) (defScope (top 12)) .none kV_law_cell_2 dc_law_cell_2 pm_law_cell_2 an_law_cell_2 cd_law_cell_2 ct_law_cell_2), sl_law_cell_2⟩)
    (c_law_cell_2' : PySem.W.codeIn K cd_law_cell_2 "_law_cell" = true)
    (k_law_cell_2 : PySem.W.keepIn K (.ref f_law_cell_2) = true)
    (a_law_triples : PySem.W.nsIn K mainGlobals "_law_triples" = some (some (.ref f_law_triples)))
    (l_law_triples : K.lookup f_law_triples = some ⟨oc_law_triples, od_law_triples, .func (PySem.W.fnOf "_law_triples" "_law_triples" (defArgs (top 15)) (defBody (top 15)) (defScope (top 15)) .none kV_law_triples dc_law_triples pm_law_triples an_law_triples cd_law_triples ct_law_triples), sl_law_triples⟩)
    (c_law_triples' : PySem.W.codeIn K cd_law_triples "_law_triples" = true)
    (k_law_triples : PySem.W.keepIn K (.ref f_law_triples) = true)
    (a_law_whole : PySem.W.nsIn K mainGlobals "_law_whole" = some (some (.ref f_law_whole)))
    (l_law_whole : K.lookup f_law_whole = some ⟨oc_law_whole, od_law_whole, .func (PySem.W.fnOf "_law_whole" "_law_whole" (defArgs (top 14)) (defBody (top 14)) (defScope (top 14)) .none kV_law_whole dc_law_whole pm_law_whole an_law_whole cd_law_whole ct_law_whole), sl_law_whole⟩)
    (c_law_whole' : PySem.W.codeIn K cd_law_whole "_law_whole" = true)
    (k_law_whole : PySem.W.keepIn K (.ref f_law_whole) = true)
    (a_law_same : PySem.W.nsIn K mainGlobals "_law_same" = some (some (.ref f_law_same)))
    (l_law_same : K.lookup f_law_same = some ⟨oc_law_same, od_law_same, .func (PySem.W.fnOf "_law_same" "_law_same" (defArgs (top 17)) (defBody (top 17)) (defScope (top 17)) .none kV_law_same dc_law_same pm_law_same an_law_same cd_law_same ct_law_same), sl_law_same⟩)
    (c_law_same' : PySem.W.codeIn K cd_law_same "_law_same" = true)
    (k_law_same : PySem.W.keepIn K (.ref f_law_same) = true)
    (a_check_size : PySem.W.nsIn K mainGlobals "check_size" = some (some (.ref f_check_size)))
    (l_check_size : K.lookup f_check_size = some ⟨oc_check_size, od_check_size, .func (PySem.W.fnOf "check_size" "check_size" (defArgs (top 6)) (defBody (top 6)) (defScope (top 6)) .none kV_check_size dc_check_size pm_check_size an_check_size cd_check_size ct_check_size), sl_check_size⟩)
    (c_check_size' : PySem.W.codeIn K cd_check_size "check_size" = true)
    (k_check_size : PySem.W.keepIn K (.ref f_check_size) = true)
    (a_check_cell : PySem.W.nsIn K mainGlobals "check_cell" = some (some (.ref f_check_cell)))
    (l_check_cell : K.lookup f_check_cell = some ⟨oc_check_cell, od_check_cell, .func (PySem.W.fnOf "check_cell" "check_cell" (defArgs (top 7)) (defBody (top 7)) (defScope (top 7)) .none kV_check_cell dc_check_cell pm_check_cell an_check_cell cd_check_cell ct_check_cell), sl_check_cell⟩)
    (c_check_cell' : PySem.W.codeIn K cd_check_cell "check_cell" = true)
    (k_check_cell : PySem.W.keepIn K (.ref f_check_cell) = true)
    (a_check_seen : PySem.W.nsIn K mainGlobals "check_seen" = some (some (.ref f_check_seen)))
    (l_check_seen : K.lookup f_check_seen = some ⟨oc_check_seen, od_check_seen, .func (PySem.W.fnOf "check_seen" "check_seen" (defArgs (top 9)) (defBody (top 9)) (defScope (top 9)) .none kV_check_seen dc_check_seen pm_check_seen an_check_seen cd_check_seen ct_check_seen), sl_check_seen⟩)
    (c_check_seen' : PySem.W.codeIn K cd_check_seen "check_seen" = true)
    (k_check_seen : PySem.W.keepIn K (.ref f_check_seen) = true)
    (a_everywhere : PySem.W.nsIn K mainGlobals "everywhere" = some (some (.ref f_everywhere)))
    (l_everywhere : K.lookup f_everywhere = some ⟨oc_everywhere, od_everywhere, .func (PySem.W.fnOf "everywhere" "everywhere" (defArgs (top 10)) (defBody (top 10)) (defScope (top 10)) .none kV_everywhere dc_everywhere pm_everywhere an_everywhere cd_everywhere ct_everywhere), sl_everywhere⟩)
    (c_everywhere' : PySem.W.codeIn K cd_everywhere "everywhere" = true)
    (k_everywhere : PySem.W.keepIn K (.ref f_everywhere) = true)
    (a_law_fits : PySem.W.nsIn K mainGlobals "_law_fits" = some (some (.ref f_law_fits)))
    (l_law_fits : K.lookup f_law_fits = some ⟨oc_law_fits, od_law_fits, .func (PySem.W.fnOf "_law_fits" "_law_fits" (defArgs (top 16)) (defBody (top 16)) (defScope (top 16)) .none kV_law_fits dc_law_fits pm_law_fits an_law_fits cd_law_fits ct_law_fits), sl_law_fits⟩)
    (c_law_fits' : PySem.W.codeIn K cd_law_fits "_law_fits" = true)
    (k_law_fits : PySem.W.keepIn K (.ref f_law_fits) = true)
    (a_law_k49 : PySem.W.nsIn K mainGlobals "law" = some (some (.ref f_law_k49)))
    (l_law_k49 : K.lookup f_law_k49 = some ⟨oc_law_k49, od_law_k49, .func (PySem.W.fnOf "law" "law" (defArgs (top 18)) (defBody (top 18)) (defScope (top 18)) .none kV_law_k49 dc_law_k49 pm_law_k49 an_law_k49 cd_law_k49 ct_law_k49), sl_law_k49⟩)
    (c_law_k49' : PySem.W.codeIn K cd_law_k49 "law" = true)
    (k_law_k49 : PySem.W.keepIn K (.ref f_law_k49) = true)
    (z_bool : PySem.W.nsIn K mainGlobals "bool" = some none)
    (z_int : PySem.W.nsIn K mainGlobals "int" = some none)
    (z_isinstance : PySem.W.nsIn K mainGlobals "isinstance" = some none)
    (z_len : PySem.W.nsIn K mainGlobals "len" = some none)
    (z_list : PySem.W.nsIn K mainGlobals "list" = some none)
    (z_range : PySem.W.nsIn K mainGlobals "range" = some none)
    (z_tuple : PySem.W.nsIn K mainGlobals "tuple" = some none) :
    ∃ fd : FuncData, (∀ (s : Shared) (v : Value), BindsTo s fd ⟨[v], []⟩ [("script", v)]) ∧ ∀ base : Heap, K.In base → base.Ns mainGlobals mg → FnOk l.prog w K mg base CX0 5 fa fd ["script"] (spLaw K good) := by
  have e := hfa.symm.trans (PySem.W.mg_of X G a_law_k49)
  cases e
  have T : Txt K mg := ⟨PySem.W.mg_none_of X G z_bool, PySem.W.mg_none_of X G z_int, PySem.W.mg_none_of X G z_isinstance, PySem.W.mg_none_of X G z_len, PySem.W.mg_none_of X G z_list, PySem.W.mg_none_of X G z_range, PySem.W.mg_none_of X G z_tuple⟩
  have F_law_draws := fun_mk (st := (top 13)) l_law_draws c_law_draws' k_law_draws
  have b_law_draws := F_law_draws.binds (ps := ["cell", "tops"]) fun _ _ _ _ _ _ us hl => match us, hl with | [_, _], _ => rfl
  have F_law_cell_2 := fun_mk (st := (top 12)) l_law_cell_2 c_law_cell_2' k_law_cell_2
  have b_law_cell_2 := F_law_cell_2.binds (ps := ["script", "k"]) fun _ _ _ _ _ _ us hl => match us, hl with | [_, _], _ => rfl
  have F_law_triples := fun_mk (st := (top 15)) l_law_triples c_law_triples' k_law_triples
  have b_law_triples := F_law_triples.binds (ps := ["limit"]) fun _ _ _ _ _ _ us hl => match us, hl with | [_], _ => rfl
  have F_law_whole := fun_mk (st := (top 14)) l_law_whole c_law_whole' k_law_whole
  have b_law_whole := F_law_whole.binds (ps := ["found"]) fun _ _ _ _ _ _ us hl => match us, hl with | [_], _ => rfl
  have F_law_same := fun_mk (st := (top 17)) l_law_same c_law_same' k_law_same
  have b_law_same := F_law_same.binds (ps := ["found", "due"]) fun _ _ _ _ _ _ us hl => match us, hl with | [_, _], _ => rfl
  have F_check_size := fun_mk (st := (top 6)) l_check_size c_check_size' k_check_size
  have b_check_size := F_check_size.binds (ps := ["n"]) fun _ _ _ _ _ _ us hl => match us, hl with | [_], _ => rfl
  have F_check_cell := fun_mk (st := (top 7)) l_check_cell c_check_cell' k_check_cell
  have b_check_cell := F_check_cell.binds (ps := ["n", "row", "column"]) fun _ _ _ _ _ _ us hl => match us, hl with | [_, _, _], _ => rfl
  have F_check_seen := fun_mk (st := (top 9)) l_check_seen c_check_seen' k_check_seen
  have b_check_seen := F_check_seen.binds (ps := ["n", "row", "column", "sign"]) fun _ _ _ _ _ _ us hl => match us, hl with | [_, _, _, _], _ => rfl
  have F_everywhere := fun_mk (st := (top 10)) l_everywhere c_everywhere' k_everywhere
  have b_everywhere := F_everywhere.binds (ps := ["seen", "most"]) fun _ _ _ _ _ _ us hl => match us, hl with | [_, _], _ => rfl
  have F_law_fits := fun_mk (st := (top 16)) l_law_fits c_law_fits' k_law_fits
  have b_law_fits := F_law_fits.binds (ps := ["rule", "cell"]) fun _ _ _ _ _ _ us hl => match us, hl with | [_, _], _ => rfl
  have F_law_k49 := fun_mk (st := (top 18)) l_law_k49 c_law_k49' k_law_k49
  have b_law_k49 := F_law_k49.binds (ps := ["script"]) fun _ _ _ _ _ _ us hl => match us, hl with | [_], _ => rfl
  refine ⟨PySem.W.fnOf "law" "law" (defArgs (top 18)) (defBody (top 18)) (defScope (top 18)) .none kV_law_k49 dc_law_k49 pm_law_k49 an_law_k49 cd_law_k49 ct_law_k49, fun s v => .of_eq rfl, fun base _ _ => ?_⟩
  have o_law_draws := ok_law_draws (P := l.prog) (w := w) (base := base) T F_law_draws
  have h_law_draws : KnF l.prog w K mg base f_law_draws _ "_law_draws" ["cell", "tops"] false 1 m_law_draws := ⟨o_law_draws, PySem.W.mg_of X G a_law_draws, k_law_draws, b_law_draws⟩
  have o_law_cell_2 := ok_law_cell_2 (P := l.prog) (w := w) (base := base) T F_law_cell_2
  have h_law_cell_2 : KnF l.prog w K mg base f_law_cell_2 _ "_law_cell" ["script", "k"] false 1 m_law_cell_2 := ⟨o_law_cell_2, PySem.W.mg_of X G a_law_cell_2, k_law_cell_2, b_law_cell_2⟩
  have o_law_triples := ok_law_triples (P := l.prog) (w := w) (base := base) T F_law_triples
  have h_law_triples : KnF l.prog w K mg base f_law_triples _ "_law_triples" ["limit"] false 1 m_law_triples := ⟨o_law_triples, PySem.W.mg_of X G a_law_triples, k_law_triples, b_law_triples⟩
  have o_law_whole := ok_law_whole (P := l.prog) (w := w) (base := base) T F_law_whole
  have h_law_whole : KnF l.prog w K mg base f_law_whole _ "_law_whole" ["found"] false 1 m_law_whole := ⟨o_law_whole, PySem.W.mg_of X G a_law_whole, k_law_whole, b_law_whole⟩
  have o_law_same := ok_law_same (P := l.prog) (w := w) (base := base) T h_law_whole F_law_same
  have h_law_same : KnF l.prog w K mg base f_law_same _ "_law_same" ["found", "due"] false 2 m_law_same := ⟨o_law_same, PySem.W.mg_of X G a_law_same, k_law_same, b_law_same⟩
  have o_check_size := ok_check_size (P := l.prog) (w := w) (base := base) T F_check_size
  have h_check_size : KnF l.prog w K mg base f_check_size _ "check_size" ["n"] false 1 m_check_size := ⟨o_check_size, PySem.W.mg_of X G a_check_size, k_check_size, b_check_size⟩
  have o_check_cell := ok_check_cell (P := l.prog) (w := w) (base := base) T h_check_size F_check_cell
  have h_check_cell : KnF l.prog w K mg base f_check_cell _ "check_cell" ["n", "row", "column"] false 2 m_check_cell := ⟨o_check_cell, PySem.W.mg_of X G a_check_cell, k_check_cell, b_check_cell⟩
  have o_check_seen := ok_check_seen (P := l.prog) (w := w) (base := base) T h_check_cell F_check_seen
  have h_check_seen : KnF l.prog w K mg base f_check_seen _ "check_seen" ["n", "row", "column", "sign"] false 3 m_check_seen := ⟨o_check_seen, PySem.W.mg_of X G a_check_seen, k_check_seen, b_check_seen⟩
  have o_everywhere := ok_everywhere (P := l.prog) (w := w) (base := base) T h_check_seen F_everywhere
  have w_everywhere_0_most_seen := kwb_mk (ps := ["seen", "most"]) (ks := ["most", "seen"]) (n := 0) (pm := [1, 0]) F_everywhere fun _ _ _ _ _ _ us ws l1 l2 => match us, ws, l1, l2 with | [], [_, _], _, _ => rfl
  have h_everywhere : KnF l.prog w K mg base f_everywhere _ "everywhere" ["seen", "most"] false 4 m_everywhere := ⟨o_everywhere, PySem.W.mg_of X G a_everywhere, k_everywhere, b_everywhere⟩
  have o_law_fits := ok_law_fits (P := l.prog) (w := w) (base := base) T F_law_fits
  have h_law_fits : KnF l.prog w K mg base f_law_fits _ "_law_fits" ["rule", "cell"] false 1 m_law_fits := ⟨o_law_fits, PySem.W.mg_of X G a_law_fits, k_law_fits, b_law_fits⟩
  have o_law_k49 := ok_law_k49 (P := l.prog) (w := w) (base := base) T h_law_draws h_law_cell_2 h_law_triples h_law_same h_everywhere h_law_fits w_everywhere_0_most_seen F_law_k49
  exact law_imp o_law_k49 law
end Wk49

open PySem PySem.W PyProof.Rows
set_option maxRecDepth 100000 in
set_option maxHeartbeats 0 in
theorem PySem.Challenge.cw_rulesquares_k49_small_rules_for_seen_cel_holds : PySem.Challenge.rw_rulesquares_k49_small_rules_for_seen_cel.Holds := by
  w_on; o_law; k_head; (case hw => w_witness2)
  k_fill
  refine L2.walk_ofB (l := PySem.Challenge.rw_rulesquares_k49_small_rules_for_seen_cel) (n := 63) (k := 5) (x := "script") (CX := fun _ => L2.CX0) (sp := fun w => J.spLaw _ J.Good) rfl (by decide) rfl ⟨rfl, by decide, by decide⟩ (fun w h Y => PySem.W.kIn_of Y) ?F (fun _ _ a ns hl hb _ hS => ⟨a, ns, rfl, hS, ⟨hl, hb⟩, fun _ => rfl⟩) (fun _ _ _ _ _ h => h)
  case F =>
    intro w mg fa h KX G hmg
    refine' Wk49.all_mk J.law_true_k49 KX G hmg ?a_law_draws ?l_law_draws ?c_law_draws' ?k_law_draws ?a_law_cell_2 ?l_law_cell_2 ?c_law_cell_2' ?k_law_cell_2 ?a_law_triples ?l_law_triples ?c_law_triples' ?k_law_triples ?a_law_whole ?l_law_whole ?c_law_whole' ?k_law_whole ?a_law_same ?l_law_same ?c_law_same' ?k_law_same ?a_check_size ?l_check_size ?c_check_size' ?k_check_size ?a_check_cell ?l_check_cell ?c_check_cell' ?k_check_cell ?a_check_seen ?l_check_seen ?c_check_seen' ?k_check_seen ?a_everywhere ?l_everywhere ?c_everywhere' ?k_everywhere ?a_law_fits ?l_law_fits ?c_law_fits' ?k_law_fits ?a_law_k49 ?l_law_k49 ?c_law_k49' ?k_law_k49 ?z_bool ?z_int ?z_isinstance ?z_len ?z_list ?z_range ?z_tuple
    (case a_law_draws => k_is)
    (case l_law_draws => k_is)
    (case c_law_draws' => k_is)
    (case k_law_draws => k_is)
    (case a_law_cell_2 => k_is)
    (case l_law_cell_2 => k_is)
    (case c_law_cell_2' => k_is)
    (case k_law_cell_2 => k_is)
    (case a_law_triples => k_is)
    (case l_law_triples => k_is)
    (case c_law_triples' => k_is)
    (case k_law_triples => k_is)
    (case a_law_whole => k_is)
    (case l_law_whole => k_is)
    (case c_law_whole' => k_is)
    (case k_law_whole => k_is)
    (case a_law_same => k_is)
    (case l_law_same => k_is)
    (case c_law_same' => k_is)
    (case k_law_same => k_is)
    (case a_check_size => k_is)
    (case l_check_size => k_is)
    (case c_check_size' => k_is)
    (case k_check_size => k_is)
    (case a_check_cell => k_is)
    (case l_check_cell => k_is)
    (case c_check_cell' => k_is)
    (case k_check_cell => k_is)
    (case a_check_seen => k_is)
    (case l_check_seen => k_is)
    (case c_check_seen' => k_is)
    (case k_check_seen => k_is)
    (case a_everywhere => k_is)
    (case l_everywhere => k_is)
    (case c_everywhere' => k_is)
    (case k_everywhere => k_is)
    (case a_law_fits => k_is)
    (case l_law_fits => k_is)
    (case c_law_fits' => k_is)
    (case k_law_fits => k_is)
    (case a_law_k49 => k_is)
    (case l_law_k49 => k_is)
    (case c_law_k49' => k_is)
    (case k_law_k49 => k_is)
    (case z_bool => k_is)
    (case z_int => k_is)
    (case z_isinstance => k_is)
    (case z_len => k_is)
    (case z_list => k_is)
    (case z_range => k_is)
    (case z_tuple => k_is)
