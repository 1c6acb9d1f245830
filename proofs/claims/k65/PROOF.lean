import PyProof.Rows.All
import Wide.All
import OpenK.AllK
import Wide.FinOn
import PyProof.EqAt
import PyProof.EqKinds
import PyProof.TupleCall
import HandS.ForMost
import HandS.ForExc
import HandS.IsInst
import HandS.Property
import HandS.Wide
import HandS.NoneIn
import HandS.Style
import HandS.MakeKw
import HandS.SortInts
import HandS.Iter
import OpenK.KMeth
import HandS.Conv
import HandS.SetFor
import HandS.TryMany
import HandS.ExcInit
import HandS.ExcField
import HandS.ExcIs
import KE.KExcIs
import PyProof.Rows.ListMulArg
import HandS.DictComp
import HandS.SortKw
import KE.KOpsOwn
import HandS.WideBits
import HandS.More
import HandS.TupLe
import HandS.SortRule
import PyProof.SumAny
import HandS.OwnEq
import HandS.SortOrd
import HandS.Text
import HandS.Codes
import HandS.FStr
import HandS.EndBits
import PySem.Challenge.RW_rulesquares_k65_rules_are_read
set_option Elab.async false
set_option linter.all false
set_option maxRecDepth 100000
set_option maxHeartbeats 1000000
namespace J
open PySem PySem.Spec PyProof.Rows L2

/-! ### data trees, cells, operands -/
inductive D where
  | non | bl (b : Bool) | int (i : Int) | str (x : PySem.Str)
  | lst (xs : List D) | tup (xs : List D) | dic (kvs : List (Key × D)) | ins (c : String) (fs : List (String × D))
  | exc (a dx : Addr) (c : String) (v : D)
  | dicL (kvs : List (Key × D))
inductive Cell where
  | sh (d : D) | ow (d : D)
abbrev Tau := List (Option Cell)
inductive Op where
  | val (d : D) | tmp (d : D) | slot (i : Nat)

abbrev os (s : String) : PySem.Str := PySem.Str.ofString s
theorem os_inj {s t : String} (h : os s = os t) : s = t := by
  have h' : PySem.Str.ofString s = PySem.Str.ofString t := h
  rw [PySem.Str.ofString_eq_toList, PySem.Str.ofString_eq_toList] at h'
  injection h' with h'
  have h2 : s.toList.map Char.toNat = t.toList.map Char.toNat := by simpa using h'
  have h3 : s.toList = t.toList := by
    refine List.map_inj_right (f := Char.toNat) ?_ |>.mp h2
    intro a b e
    exact Char.toNat_inj.mp e
  exact String.ext h3

section
variable (K : PySem.W.Frag) (mg : PySem.Str → Option Value) (G : Hp)
mutual
inductive Rp : V → D → Prop
  | non : Rp .non .non
  | bl (b : Bool) : Rp (.bl b) (.bl b)
  | int (i : Int) : Rp (.int i) (.int i)
  | str (x : PySem.Str) : Rp (.str x) (.str x)
  | lst {a : Addr} {vs : List V} {ds : List D} : SqL K G a vs → RpL vs ds → Rp (.ref a) (.lst ds)
  | tup {a : Addr} {vs : List V} {ds : List D} : SqT K G a vs → RpL vs ds → Rp (.ref a) (.tup ds)
  | dic {a : Addr} {vs : List (Key × V)} {ds : List (Key × D)} : G a = some (.dK vs) → RpK vs ds → Rp (.ref a) (.dic ds)
  | ins {a C dx : Addr} {c : String} {fs : List (PySem.Str × V)} {ds : List (String × D)} : mg (os c) = some (.ref C) → G a = some (.ins C dx fs) → RpF fs ds → Rp (.ref a) (.ins c ds)
  | dicL {a : Addr} {o : Obj} {vs : List (Key × V)} {ds : List (Key × D)} : G a = some (.frz o (.dK vs)) → RpK vs ds → Rp (.ref a) (.dicL ds)
  | exc {a dx : Addr} {c : String} {w : V} {d : D} : G dx = some (.xd [(os "value", w)]) → Rp w d → Rp (.ref a) (.exc a dx c d)
inductive RpL : List V → List D → Prop
  | nil : RpL [] []
  | cons {v : V} {d : D} {vs : List V} {ds : List D} : Rp v d → RpL vs ds → RpL (v :: vs) (d :: ds)
inductive RpK : List (Key × V) → List (Key × D) → Prop
  | nil : RpK [] []
  | cons {k : Key} {v : V} {d : D} {vs : List (Key × V)} {ds : List (Key × D)} : Rp v d → RpK vs ds → RpK ((k, v) :: vs) ((k, d) :: ds)
inductive RpF : List (PySem.Str × V) → List (String × D) → Prop
  | nil : RpF [] []
  | cons {k : String} {v : V} {d : D} {vs : List (PySem.Str × V)} {ds : List (String × D)} : Rp v d → RpF vs ds → RpF ((os k, v) :: vs) ((k, d) :: ds)
end
/-- what stands at an owned root -/
inductive Rt : HO → D → Prop
  | lst {vs : List V} {ds : List D} : RpL K mg G vs ds → Rt (.lst vs) (.lst ds)
  | dic {vs : List (Key × V)} {ds : List (Key × D)} : RpK K mg G vs ds → Rt (.dK vs) (.dic ds)
  | ins {C dx : Addr} {c : String} {fs : List (PySem.Str × V)} {ds : List (String × D)} : mg (os c) = some (.ref C) → RpF K mg G fs ds → Rt (.ins C dx fs) (.ins c ds)
end

section
variable {K : PySem.W.Frag} {mg : PySem.Str → Option Value} {G G' H H' H0 G0 : Hp}
theorem same_rd {a : Addr} {u : HO} (s : Same G G') (h : Rd G a u) : Rd G' a u := by
  rcases h with h | ⟨o, h⟩
  · exact .inl (s _ _ h)
  · exact .inr ⟨o, s _ _ h⟩
theorem same_sql {a : Addr} {xs : List V} (s : Same G G') (h : SqL K G a xs) : SqL K G' a xs := by
  rcases h with h | h
  · exact .inl (same_rd s h)
  · exact .inr h
theorem same_sqt {a : Addr} {xs : List V} (s : Same G G') (h : SqT K G a xs) : SqT K G' a xs := by
  rcases h with h | h
  · exact .inl (same_rd s h)
  · exact .inr h
mutual
theorem Rp.mono (s : Same G G') : ∀ {v : V} {d : D}, Rp K mg G v d → Rp K mg G' v d
  | _, _, .non => .non
  | _, _, .bl b => .bl b
  | _, _, .int i => .int i
  | _, _, .str x => .str x
  | _, _, .lst h r => .lst (same_sql s h) (RpL.mono s r)
  | _, _, .tup h r => .tup (same_sqt s h) (RpL.mono s r)
  | _, _, .dic h r => .dic (s _ _ h) (RpK.mono s r)
  | _, _, .ins m h r => .ins m (s _ _ h) (RpF.mono s r)
  | _, _, .exc h r => .exc (s _ _ h) (Rp.mono s r)
  | _, _, .dicL h r => .dicL (s _ _ h) (RpK.mono s r)
theorem RpL.mono (s : Same G G') : ∀ {v : List V} {d : List D}, RpL K mg G v d → RpL K mg G' v d
  | _, _, .nil => .nil
  | _, _, .cons h r => .cons (Rp.mono s h) (RpL.mono s r)
theorem RpK.mono (s : Same G G') : ∀ {v : List (Key × V)} {d : List (Key × D)}, RpK K mg G v d → RpK K mg G' v d
  | _, _, .nil => .nil
  | _, _, .cons h r => .cons (Rp.mono s h) (RpK.mono s r)
theorem RpF.mono (s : Same G G') : ∀ {v : List (PySem.Str × V)} {d : List (String × D)}, RpF K mg G v d → RpF K mg G' v d
  | _, _, .nil => .nil
  | _, _, .cons h r => .cons (Rp.mono s h) (RpF.mono s r)
end
theorem Rt.mono {o : HO} {d : D} (s : Same G G') (h : Rt K mg G o d) : Rt K mg G' o d := by
  cases h with
  | lst r => exact .lst (r.mono s)
  | dic r => exact .dic (r.mono s)
  | ins m r => exact .ins m (r.mono s)
theorem Rt.frz {o : HO} {d : D} {p : Addr} (h : Rt K mg G o d) (s : Same G G') (e : G' p = some o) : Rp K mg G' (.ref p) d := by
  cases h with
  | lst r => exact .lst (SqL.of e) (r.mono s)
  | dic r => exact .dic e (r.mono s)
  | ins m r => exact .ins m e (r.mono s)
theorem RpL.length : ∀ {vs : List V} {ds : List D}, RpL K mg G vs ds → vs.length = ds.length
  | _, _, .nil => rfl
  | _, _, .cons _ r => congrArg (· + 1) (RpL.length r)
theorem RpL.get : ∀ {vs : List V} {ds : List D} {i : Nat} {d : D}, RpL K mg G vs ds → ds[i]? = some d → ∃ v, vs[i]? = some v ∧ Rp K mg G v d
  | _, _, _, _, .nil, e => by simp at e
  | _, _, 0, _, .cons h _, e => by simp at e; subst e; exact ⟨_, rfl, h⟩
  | _, _, i + 1, d, .cons _ r, e => by
    obtain ⟨v, h1, h2⟩ := RpL.get (i := i) (d := d) r (by simpa using e)
    exact ⟨v, by simpa using h1, h2⟩
theorem RpL.get' : ∀ {vs : List V} {ds : List D} {i : Nat} {v : V}, RpL K mg G vs ds → vs[i]? = some v → ∃ d, ds[i]? = some d ∧ Rp K mg G v d
  | _, _, _, _, .nil, e => by simp at e
  | _, _, 0, _, .cons h _, e => by simp at e; subst e; exact ⟨_, rfl, h⟩
  | _, _, i + 1, d, .cons _ r, e => by
    obtain ⟨v, h1, h2⟩ := RpL.get' (i := i) r (by simpa using e)
    exact ⟨v, by simpa using h1, h2⟩
theorem RpL.append : ∀ {vs : List V} {ds : List D} {ws : List V} {es : List D}, RpL K mg G vs ds → RpL K mg G ws es → RpL K mg G (vs ++ ws) (ds ++ es)
  | _, _, _, _, .nil, s => s
  | _, _, _, _, .cons h r, s => .cons h (RpL.append r s)
theorem RpL.set {v : V} {d : D} (h : Rp K mg G v d) : ∀ {vs : List V} {ds : List D} (i : Nat), RpL K mg G vs ds → RpL K mg G (vs.set i v) (ds.set i d)
  | _, _, _, .nil => .nil
  | _, _, 0, .cons _ r => .cons h r
  | _, _, i + 1, .cons g r => .cons g (RpL.set h i r)
theorem RpL.drop : ∀ {vs : List V} {ds : List D} (i : Nat), RpL K mg G vs ds → RpL K mg G (vs.drop i) (ds.drop i)
  | _, _, 0, r => r
  | _, _, _ + 1, .nil => .nil
  | _, _, i + 1, .cons _ r => RpL.drop i r
theorem RpL.take : ∀ {vs : List V} {ds : List D} (i : Nat), RpL K mg G vs ds → RpL K mg G (vs.take i) (ds.take i)
  | _, _, 0, _ => .nil
  | _, _, _ + 1, .nil => .nil
  | _, _, i + 1, .cons h r => .cons h (RpL.take i r)
theorem RpF.look : ∀ {fs : List (PySem.Str × V)} {ds : List (String × D)} {n : String} {d : D}, RpF K mg G fs ds → ds.lookup n = some d → ∃ v, fs.lookup (os n) = some v ∧ Rp K mg G v d
  | _, _, _, _, .nil, e => by simp at e
  | _, _, n, d, .cons (k := k) h r, e => by
    rw [List.lookup_cons] at e ⊢
    by_cases hk : n = k
    · subst hk
      simp at e
      subst e
      exact ⟨_, by simp, h⟩
    · have h1 : (n == k) = false := by simpa using hk
      have h2 : (os n == os k) = false := by simpa using fun z => hk (os_inj z)
      rw [h1] at e
      rw [h2]
      exact RpF.look r e
theorem RpF.look0 : ∀ {fs : List (PySem.Str × V)} {ds : List (String × D)} {n : String}, RpF K mg G fs ds → ds.lookup n = none → fs.lookup (os n) = none
  | _, _, _, .nil, e => rfl
  | _, _, n, .cons (k := k) h r, e => by
    rw [List.lookup_cons] at e ⊢
    by_cases hk : n = k
    · subst hk
      simp at e
    · have h1 : (n == k) = false := by simpa using hk
      have h2 : (os n == os k) = false := by simpa using fun z => hk (os_inj z)
      rw [h1] at e
      rw [h2]
      exact RpF.look0 r e
theorem RpF.length : ∀ {fs : List (PySem.Str × V)} {ds : List (String × D)}, RpF K mg G fs ds → fs.length = ds.length
  | _, _, .nil => rfl
  | _, _, .cons _ r => congrArg (· + 1) (RpF.length r)
end

/-- an attribute stored -/
def putD (f : String) (v : D) : List (String × D) → List (String × D)
  | [] => [(f, v)]
  | (g, x) :: r => if g = f then (g, v) :: r else (g, x) :: putD f v r
theorem RpF.put {K : PySem.W.Frag} {mg : PySem.Str → Option Value} {G : Hp} {f : String} {v : V} {d : D} (h : Rp K mg G v d) : ∀ {fs : List (PySem.Str × V)} {ds : List (String × D)}, RpF K mg G fs ds → RpF K mg G (putF (os f) v fs) (putD f d ds)
  | _, _, .nil => .cons h .nil
  | _, _, .cons (k := k) g r => by
    unfold putF putD
    by_cases hk : k = f
    · subst hk
      rw [if_pos rfl, if_pos rfl]
      exact .cons h r
    · rw [if_neg hk, if_neg (fun z => hk (os_inj z))]
      exact .cons g (RpF.put h r)

/-! ### the state -/
def Ro (σ : L2.St) (τ : Tau) (p : Addr) : Prop := ∃ (i : Nat) (d : D), τ[i]? = some (some (Cell.ow d)) ∧ σ[i]? = some (some (V.ref p))
structure At (K : PySem.W.Frag) (mg : PySem.Str → Option Value) (G H : Hp) (σ : L2.St) (τ : Tau) : Prop where
  gh : Same G H
  sh : ∀ (i : Nat) (d : D), τ[i]? = some (some (Cell.sh d)) → ∃ v, σ[i]? = some (some v) ∧ Rp K mg G v d
  ow : ∀ (i : Nat) (d : D), τ[i]? = some (some (Cell.ow d)) → ∃ p o, σ[i]? = some (some (V.ref p)) ∧ G p = none ∧ H p = some o ∧ Rt K mg G o d
  ap : ∀ (i j : Nat) (p : Addr) (d e : D), τ[i]? = some (some (Cell.ow d)) → τ[j]? = some (some (Cell.ow e)) → σ[i]? = some (some (V.ref p)) → σ[j]? = some (some (V.ref p)) → i = j
  ll : τ.length ≤ σ.length
structure Go (K : PySem.W.Frag) (mg : PySem.Str → Option Value) (σ : L2.St) (τ : Tau) (G H : Hp) (τ' : Tau) (G' H' : Hp) : Prop where
  at' : At K mg G' H' σ τ'
  gg : Same G G'
  kp : ∀ b, H' b = none → H b = none
  hh : ∀ b o, ¬ Ro σ τ b → H b = some o → H' b = some o
  gf : ∀ b o, ¬ Ro σ τ b → H b = some o → G b = none → G' b = none
  ri : ∀ (j : Nat) (d : D), τ'[j]? = some (some (Cell.ow d)) → ∃ d', τ[j]? = some (some (Cell.ow d'))
  tl : τ'.length = τ.length
section
variable {K : PySem.W.Frag} {mg : PySem.Str → Option Value} {G G' G1 G2 H H' H0 H1 H2 G0 : Hp} {σ : L2.St} {τ τ' τ1 τ2 : Tau}
theorem Go.rr {K : PySem.W.Frag} {mg : PySem.Str → Option Value} {σ : L2.St} {τ τ' : Tau} {G H G' H' : Hp} (g : Go K mg σ τ G H τ' G' H') : ∀ b, Ro σ τ' b → Ro σ τ b := fun b ⟨j, d, h, p⟩ => let ⟨d', h'⟩ := g.ri j d h; ⟨j, d', h', p⟩
theorem Go.refl (A : At K mg G H σ τ) : Go K mg σ τ G H τ G H := ⟨A, Same.refl G, fun _ h => h, fun _ _ _ h => h, fun _ _ _ _ h => h, fun _ d h => ⟨d, h⟩, rfl⟩
theorem Go.trans (a : Go K mg σ τ G H τ1 G1 H1) (b : Go K mg σ τ1 G1 H1 τ2 G2 H2) : Go K mg σ τ G H τ2 G2 H2 where
  at' := b.at'
  gg := a.gg.trans b.gg
  kp := fun p h => a.kp p (b.kp p h)
  hh := fun p o n h => b.hh p o (fun z => n (a.rr p z)) (a.hh p o n h)
  gf := fun p o n h g => b.gf p o (fun z => n (a.rr p z)) (a.hh p o n h) (a.gf p o n h g)
  ri := fun j d h => let ⟨d', h'⟩ := b.ri j d h; a.ri j d' h'
  tl := b.tl.trans a.tl
theorem At.root (A : At K mg G H σ τ) {p : Addr} (h : Ro σ τ p) : G p = none ∧ ∃ o, H p = some o := by
  obtain ⟨i, d, h1, h2⟩ := h
  obtain ⟨q, o, e, g, hq, _⟩ := A.ow i d h1
  rw [h2] at e
  cases e
  exact ⟨g, o, hq⟩
/-- nothing but new objects -/
theorem At.grow (A : At K mg G H σ τ) (s : Same H H') : At K mg G H' σ τ :=
  ⟨A.gh.trans s, A.sh, fun i d h => let ⟨p, o, a, b, c, e⟩ := A.ow i d h; ⟨p, o, a, b, s _ _ c, e⟩, A.ap, A.ll⟩
theorem Go.new (A : At K mg G H σ τ) {p : Addr} {o : HO} (h : H p = none) : Go K mg σ τ G H τ G (upd H p o) := by
  have s : Same H (upd H p o) := fun b x e => by rw [upd_ne (ne_of_none e h)]; exact e
  exact ⟨A.grow s, Same.refl G, fun b hb => s.free hb, fun b x _ e => s b x e, fun _ _ _ _ g => g, fun _ d h => ⟨d, h⟩, rfl⟩
/-- a new object, frozen at once -/
theorem Go.newF (A : At K mg G H σ τ) {p : Addr} {o : HO} (h : H p = none) : Go K mg σ τ G H τ (upd G p o) (upd H p o) := by
  have s : Same H (upd H p o) := fun b x e => by rw [upd_ne (ne_of_none e h)]; exact e
  have g0 : G p = none := A.gh.free h
  have s2 : Same G (upd G p o) := fun b x e => by rw [upd_ne (ne_of_none e g0)]; exact e
  refine ⟨⟨fun b x e => ?_, fun i d q => ?_, fun i d q => ?_, A.ap, A.ll⟩, s2, fun b hb => s.free hb, fun b x _ e => s b x e, fun b x _ e g => ?_, fun _ d h => ⟨d, h⟩, rfl⟩
  · by_cases hb : b = p
    · subst hb; rw [upd_same] at e ⊢; exact e
    · rw [upd_ne hb] at e ⊢; exact A.gh _ _ e
  · obtain ⟨v, a, r⟩ := A.sh i d q
    exact ⟨v, a, r.mono s2⟩
  · obtain ⟨r, x, a, b, c, e⟩ := A.ow i d q
    exact ⟨r, x, a, by rw [upd_ne (ne_of_none c h)]; exact b, s _ _ c, e.mono s2⟩
  · rw [upd_ne (ne_of_none e h)]; exact g

/-- an operand's value -/
inductive Or (K : PySem.W.Frag) (mg : PySem.Str → Option Value) (H0 G H : Hp) (σ : L2.St) (τ : Tau) : V → Op → Prop
  | val {v : V} {d : D} : Rp K mg G v d → Or K mg H0 G H σ τ v (.val d)
  | tmp {p : Addr} {o : HO} {d : D} : H0 p = none → G p = none → H p = some o → Rt K mg G o d → ¬ Ro σ τ p → Or K mg H0 G H σ τ (.ref p) (.tmp d)
  | slot {v : V} {i : Nat} : σ[i]? = some (some v) → Or K mg H0 G H σ τ v (.slot i)
theorem Or.step {v : V} {op : Op} (h : Or K mg H0 G H σ τ v op) (g : Go K mg σ τ G H τ' G' H') : Or K mg H0 G' H' σ τ' v op := by
  cases h with
  | val r => exact .val (r.mono g.gg)
  | tmp a b c d n => exact .tmp a (g.gf _ _ n c b) (g.hh _ _ n c) (d.mono g.gg) fun z => n (g.rr _ z)
  | slot h => exact .slot h
theorem Or.weak {v : V} {op : Op} (h : Or K mg H1 G H σ τ v op) (k : ∀ b, H1 b = none → H0 b = none) : Or K mg H0 G H σ τ v op := by
  cases h with
  | val r => exact .val r
  | tmp a b c d n => exact .tmp (k _ a) b c d n
  | slot h => exact .slot h
/-- what may be read now -/
inductive Pk (K : PySem.W.Frag) (mg : PySem.Str → Option Value) (G H : Hp) : V → D → Prop
  | frz {v : V} {d : D} : Rp K mg G v d → Pk K mg G H v d
  | root {p : Addr} {o : HO} {d : D} : H p = some o → Rt K mg G o d → Pk K mg G H (.ref p) d
def deref (τ : Tau) : Op → Option D
  | .val d => some d
  | .tmp d => some d
  | .slot i => match τ[i]? with
    | some (some (.sh d)) => some d
    | some (some (.ow d)) => some d
    | _ => none
theorem Or.pk {v : V} {op : Op} {d : D} (A : At K mg G H σ τ) (h : Or K mg H0 G H σ τ v op) (e : deref τ op = some d) : Pk K mg G H v d := by
  cases h with
  | val r => cases e; exact .frz r
  | tmp a b c r n => cases e; exact .root c r
  | slot h =>
    unfold deref at e
    dsimp only at e
    split at e
    · rename_i q
      cases e
      obtain ⟨v', a, r⟩ := A.sh _ _ q
      rw [h] at a
      cases a
      exact .frz r
    · rename_i q
      cases e
      obtain ⟨p, o, a, _, c, r⟩ := A.ow _ _ q
      rw [h] at a
      cases a
      exact .root c r
    · cases e
/-- an operand is put away: it is frozen -/
def fz (τ : Tau) : Op → Option (D × Tau)
  | .val d => some (d, τ)
  | .tmp d => some (d, τ)
  | .slot i => match τ[i]? with
    | some (some (.sh d)) => some (d, τ)
    | some (some (.ow d)) => some (d, τ.set i (some (.sh d)))
    | _ => none
theorem get_set {α : Type} {l : List α} {i j : Nat} {x y : α} (h : (l.set i x)[j]? = some y) : (j = i ∧ y = x) ∨ (j ≠ i ∧ l[j]? = some y) := by
  by_cases hj : i = j
  · subst hj
    by_cases hl : i < l.length
    · rw [List.getElem?_set_self hl] at h
      cases h
      exact .inl ⟨rfl, rfl⟩
    · rw [List.getElem?_eq_none (by simpa using hl)] at h
      cases h
  · rw [List.getElem?_set_ne hj] at h
    exact .inr ⟨fun z => hj z.symm, h⟩
theorem Or.fz {v : V} {op : Op} {d : D} (g : Go K mg σ τ G H τ1 G1 H1) (h : Or K mg H G1 H1 σ τ1 v op) (e : fz τ1 op = some (d, τ2)) : ∃ G2, Go K mg σ τ G H τ2 G2 H1 ∧ Same G1 G2 ∧ Rp K mg G2 v d := by
  have A := g.at'
  have key : ∀ {p : Addr} {o : HO}, G1 p = none → H1 p = some o → Rt K mg G1 o d → Same G1 (upd G1 p o) ∧ Rp K mg (upd G1 p o) (.ref p) d ∧ Same (upd G1 p o) H1 := fun {p o} b c r => by
    have s : Same G1 (upd G1 p o) := fun b' x e' => by rw [upd_ne (ne_of_none e' b)]; exact e'
    refine ⟨s, r.frz s upd_same, fun b' x e' => ?_⟩
    by_cases hb : b' = p
    · subst hb; rw [upd_same] at e'; cases e'; exact c
    · rw [upd_ne hb] at e'; exact A.gh _ _ e'
  cases h with
  | val r =>
    cases e
    exact ⟨G1, g, Same.refl _, r⟩
  | @tmp p o d' a b c r n =>
    cases e
    obtain ⟨s, rp, s2⟩ := key b c r
    refine ⟨upd G1 p o, ⟨⟨s2, fun i x q => ?_, fun i x q => ?_, A.ap, A.ll⟩, g.gg.trans s, g.kp, g.hh, fun b' x n' e' g' => ?_, g.ri, g.tl⟩, s, rp⟩
    · obtain ⟨v, a', r'⟩ := A.sh i x q
      exact ⟨v, a', r'.mono s⟩
    · obtain ⟨q', o', a', b', c', e'⟩ := A.ow i x q
      refine ⟨q', o', a', ?_, c', e'.mono s⟩
      rw [upd_ne (fun z => n ⟨i, x, q, by rw [← z]; exact a'⟩)]
      exact b'
    · rw [upd_ne (ne_of_none e' a)]
      exact g.gf _ _ n' e' g'
  | @slot _ i h =>
    unfold J.fz at e
    dsimp only at e
    split at e
    · rename_i q
      cases e
      obtain ⟨v', a, r⟩ := A.sh _ _ q
      rw [h] at a
      cases a
      exact ⟨G1, g, Same.refl _, r⟩
    · rename_i d' q
      cases e
      obtain ⟨p, o, a, b, c, r⟩ := A.ow _ _ q
      rw [h] at a
      cases a
      obtain ⟨s, rp, s2⟩ := key b c r
      have sub : ∀ b', Ro σ (τ1.set i (some (.sh d))) b' → Ro σ τ1 b' ∧ b' ≠ p := fun b' ⟨j, x, hj, hσ⟩ => by
        rcases get_set hj with ⟨_, z⟩ | ⟨nj, z⟩
        · cases z
        · exact ⟨⟨j, x, z, hσ⟩, fun zz => nj (A.ap j i p x d z q (by rw [← zz]; exact hσ) h)⟩
      refine ⟨upd G1 p o, ⟨⟨s2, fun j x hj => ?_, fun j x hj => ?_, fun j k p' x y hj hk => ?_, by rw [List.length_set]; exact A.ll⟩, g.gg.trans s, g.kp, g.hh, fun b' x n' e' g' => ?_, fun j x hj => ?_, by rw [List.length_set]; exact g.tl⟩, s, rp⟩
      · rcases get_set hj with ⟨z1, z⟩ | ⟨_, z⟩
        · cases z
          subst z1
          exact ⟨_, h, rp⟩
        · obtain ⟨v, a', r'⟩ := A.sh j x z
          exact ⟨v, a', r'.mono s⟩
      · rcases get_set hj with ⟨_, z⟩ | ⟨nj, z⟩
        · cases z
        · obtain ⟨q', o', a', b', c', e'⟩ := A.ow j x z
          refine ⟨q', o', a', ?_, c', e'.mono s⟩
          rw [upd_ne (fun zz => nj (A.ap j i p x d z q (by rw [← zz]; exact a') h))]
          exact b'
      · rcases get_set hj with ⟨_, z⟩ | ⟨_, z⟩
        · cases z
        · rcases get_set hk with ⟨_, z'⟩ | ⟨_, z'⟩
          · cases z'
          · exact A.ap j k p' x y z z'
      · have nb : b' ≠ p := fun z => n' (g.rr p ⟨i, d, q, h⟩ |> fun w => by rw [z]; exact w)
        rw [upd_ne nb]
        exact g.gf _ _ n' e' g'
      · rcases get_set hj with ⟨_, z⟩ | ⟨_, z⟩
        · cases z
        · exact g.ri j x z
    · cases e
end
end J
namespace J
open PySem PySem.Spec PyProof.Rows L2

abbrev FE := Tau → Option (Op × Tau)
abbrev FT := Tau → Option (Bool × Tau)
abbrev FA := Tau → Option (List D × Tau)
abbrev FP := Tau → Option (List Op × Tau)
abbrev Mg := PySem.Str → Option Value

section
variable (K : PySem.W.Frag) (mg : Mg)
/-- a reading carries out what the mirror says -/
def RE (t : TE) (f : FE) : Prop := ∀ (σ : L2.St) (τ : Tau) (G H : Hp) (op : Op) (τ' : Tau) (Q : VK), At K mg G H σ τ → f τ = some (op, τ') →
  (∀ v G' H', Go K mg σ τ G H τ' G' H' → Or K mg H G' H' σ τ' v op → Q v H') → t σ H Q
def RT (t : TT) (f : FT) : Prop := ∀ (σ : L2.St) (τ : Tau) (G H : Hp) (b : Bool) (τ' : Tau) (Q : Bool → Hp → Prop), At K mg G H σ τ → f τ = some (b, τ') →
  (∀ G' H', Go K mg σ τ G H τ' G' H' → Q b H') → t σ H Q
def RA (t : TA) (f : FA) : Prop := ∀ (σ : L2.St) (τ : Tau) (G H : Hp) (ds : List D) (τ' : Tau) (Q : List V → Hp → Prop), At K mg G H σ τ → f τ = some (ds, τ') →
  (∀ vs G' H', Go K mg σ τ G H τ' G' H' → RpL K mg G' vs ds → Q vs H') → t σ H Q
inductive OrL (H0 G H : Hp) (σ : L2.St) (τ : Tau) : List V → List Op → Prop
  | nil : OrL H0 G H σ τ [] []
  | cons {v : V} {op : Op} {vs : List V} {ops : List Op} : Or K mg H0 G H σ τ v op → OrL H0 G H σ τ vs ops → OrL H0 G H σ τ (v :: vs) (op :: ops)
def RPa (t : TA) (f : FP) : Prop := ∀ (σ : L2.St) (τ : Tau) (G H : Hp) (ops : List Op) (τ' : Tau) (Q : List V → Hp → Prop), At K mg G H σ τ → f τ = some (ops, τ') →
  (∀ vs G' H', Go K mg σ τ G H τ' G' H' → OrL K mg H G' H' σ τ' vs ops → Q vs H') → t σ H Q
end
structure JE (X : Cx) (e : Expr) (t : TE) (f : FE) : Prop where
  pe : PE X e t
  re : RE X.K X.mg t f
structure JT (X : Cx) (e : Expr) (t : TT) (f : FT) : Prop where
  pt : PT X e t
  rt : RT X.K X.mg t f
structure JW (X : Cx) (e : Expr) (t : TT) (f : FT) : Prop where
  pw : PW X e t
  rt : RT X.K X.mg t f
structure JA (X : Cx) (es : List Expr) (t : TA) (f : FA) : Prop where
  pa : PA X es t
  ra : RA X.K X.mg t f
structure JP (X : Cx) (es : List Expr) (t : TA) (f : FP) : Prop where
  pa : PA X es t
  rp : RPa X.K X.mg t f

section
variable {K : PySem.W.Frag} {mg : Mg} {G G' G1 G2 H H' H0 H1 H2 G0 : Hp} {σ : L2.St} {τ τ' τ1 τ2 : Tau}
theorem OrL.step : ∀ {vs : List V} {ops : List Op}, OrL K mg H0 G H σ τ vs ops → Go K mg σ τ G H τ' G' H' → OrL K mg H0 G' H' σ τ' vs ops
  | _, _, .nil, _ => .nil
  | _, _, .cons h r, g => .cons (h.step g) (OrL.step r g)
theorem OrL.weak : ∀ {vs : List V} {ops : List Op}, OrL K mg H1 G H σ τ vs ops → (∀ b, H1 b = none → H0 b = none) → OrL K mg H0 G H σ τ vs ops
  | _, _, .nil, _ => .nil
  | _, _, .cons h r, g => .cons (h.weak g) (OrL.weak r g)
inductive PkL (K : PySem.W.Frag) (mg : Mg) (G H : Hp) : List V → List D → Prop
  | nil : PkL K mg G H [] []
  | cons {v : V} {d : D} {vs : List V} {ds : List D} : Pk K mg G H v d → PkL K mg G H vs ds → PkL K mg G H (v :: vs) (d :: ds)
def derefL (τ : Tau) : List Op → Option (List D)
  | [] => some []
  | o :: r => match deref τ o, derefL τ r with
    | some d, some ds => some (d :: ds)
    | _, _ => none
theorem OrL.pk (A : At K mg G H σ τ) : ∀ {vs : List V} {ops : List Op} {ds : List D}, OrL K mg H0 G H σ τ vs ops → derefL τ ops = some ds → PkL K mg G H vs ds
  | _, _, _, .nil, e => by cases e; exact .nil
  | _, _, _, .cons h r, e => by
    unfold derefL at e
    split at e
    · rename_i a b
      cases e
      exact .cons (h.pk A a) (OrL.pk A r b)
    · cases e
/-- what an operation on values does: new objects, some of them frozen -/
structure Nw (K : PySem.W.Frag) (mg : Mg) (G H G' H' : Hp) : Prop where
  gg : Same G G'
  hh : Same H H'
  gh : Same G' H'
  gf : ∀ b o, H b = some o → G b = none → G' b = none
theorem Nw.refl (h : Same G H) : Nw K mg G H G H := ⟨Same.refl _, Same.refl _, h, fun _ _ _ g => g⟩
theorem Nw.trans (a : Nw K mg G H G1 H1) (b : Nw K mg G1 H1 G2 H2) : Nw K mg G H G2 H2 := ⟨a.gg.trans b.gg, a.hh.trans b.hh, b.gh, fun p o h g => b.gf p o (a.hh _ _ h) (a.gf p o h g)⟩
theorem same_new {p : Addr} {o : HO} (h : H p = none) : Same H (upd H p o) := fun b x e => by rw [upd_ne (ne_of_none e h)]; exact e
theorem Nw.new (h : Same G H) {p : Addr} {o : HO} (n : H p = none) : Nw K mg G H G (upd H p o) := ⟨Same.refl _, same_new n, h.trans (same_new n), fun _ _ _ g => g⟩
theorem Nw.newF (h : Same G H) {p : Addr} {o : HO} (n : H p = none) : Nw K mg G H (upd G p o) (upd H p o) := by
  refine ⟨same_new (h.free n), same_new n, fun b x e => ?_, fun b x e g => ?_⟩
  · by_cases hb : b = p
    · subst hb; rw [upd_same] at e ⊢; exact e
    · rw [upd_ne hb] at e ⊢; exact h _ _ e
  · rw [upd_ne (ne_of_none e n)]; exact g
theorem Nw.go (n : Nw K mg G H G' H') (A : At K mg G H σ τ) : Go K mg σ τ G H τ G' H' :=
  ⟨⟨n.gh, fun i d q => let ⟨v, a, r⟩ := A.sh i d q; ⟨v, a, r.mono n.gg⟩, fun i d q => let ⟨p, o, a, b, c, r⟩ := A.ow i d q; ⟨p, o, a, n.gf _ _ c b, n.hh _ _ c, r.mono n.gg⟩, A.ap, A.ll⟩,
   n.gg, fun b h => n.hh.free h, fun b o _ h => n.hh _ _ h, fun b o _ h g => n.gf b o h g, fun _ d h => ⟨d, h⟩, rfl⟩
/-- an operation's result: a frozen value, or a new root -/
inductive On (K : PySem.W.Frag) (mg : Mg) (H G' H' : Hp) : V → Op → Prop
  | val {v : V} {d : D} : Rp K mg G' v d → On K mg H G' H' v (.val d)
  | tmp {p : Addr} {o : HO} {d : D} : H p = none → G' p = none → H' p = some o → Rt K mg G' o d → On K mg H G' H' (.ref p) (.tmp d)
theorem On.or {v : V} {op : Op} (h : On K mg H G' H' v op) (A : At K mg G H σ τ) : Or K mg H G' H' σ τ v op := by
  cases h with
  | val r => exact .val r
  | tmp a b c r =>
    refine .tmp a b c r fun z => ?_
    obtain ⟨_, o, e⟩ := A.root z
    rw [a] at e
    cases e
theorem On.new (h : Same G H) {p : Addr} {o : HO} {d : D} (n : H p = none) (r : Rt K mg G o d) : On K mg H G (upd H p o) (.ref p) (.tmp d) := .tmp n (h.free n) upd_same r

theorem Pk.int {v : V} {i : Int} (h : Pk K mg G H v (.int i)) : v = .int i := by
  cases h with
  | frz r => cases r; rfl
  | root e r => cases r
theorem Pk.bl {v : V} {i : Bool} (h : Pk K mg G H v (.bl i)) : v = .bl i := by
  cases h with
  | frz r => cases r; rfl
  | root e r => cases r
theorem Pk.str {v : V} {i : PySem.Str} (h : Pk K mg G H v (.str i)) : v = .str i := by
  cases h with
  | frz r => cases r; rfl
  | root e r => cases r
theorem Pk.non {v : V} (h : Pk K mg G H v .non) : v = .non := by
  cases h with
  | frz r => cases r; rfl
  | root e r => cases r
theorem Pk.lst {v : V} {ds : List D} (s : Same G H) (h : Pk K mg G H v (.lst ds)) : ∃ a vs, v = .ref a ∧ SqL K H a vs ∧ RpL K mg G vs ds := by
  cases h with
  | frz r => cases r with | lst q r => exact ⟨_, _, rfl, same_sql s q, r⟩
  | root e r => cases r with | lst r => exact ⟨_, _, rfl, SqL.of e, r⟩
theorem Pk.tup {v : V} {ds : List D} (s : Same G H) (h : Pk K mg G H v (.tup ds)) : ∃ a vs, v = .ref a ∧ SqT K H a vs ∧ RpL K mg G vs ds := by
  cases h with
  | frz r => cases r with | tup q r => exact ⟨_, _, rfl, same_sqt s q, r⟩
  | root e r => cases r
theorem Pk.dic {v : V} {ds : List (Key × D)} (s : Same G H) (h : Pk K mg G H v (.dic ds)) : ∃ a vs, v = .ref a ∧ H a = some (.dK vs) ∧ RpK K mg G vs ds := by
  cases h with
  | frz r => cases r with | dic q r => exact ⟨_, _, rfl, s _ _ q, r⟩
  | root e r => cases r with | dic r => exact ⟨_, _, rfl, e, r⟩
theorem Pk.ins {v : V} {c : String} {ds : List (String × D)} (s : Same G H) (h : Pk K mg G H v (.ins c ds)) : ∃ a C dx fs, v = .ref a ∧ mg (os c) = some (.ref C) ∧ H a = some (.ins C dx fs) ∧ RpF K mg G fs ds := by
  cases h with
  | frz r => cases r with | ins m q r => exact ⟨_, _, _, _, rfl, m, s _ _ q, r⟩
  | root e r => cases r with | ins m r => exact ⟨_, _, _, _, rfl, m, e, r⟩
end

/-! ### names, constants -/
def fC (d : D) (τ : Tau) : Option (Op × Tau) := some (.val d, τ)
def fVar (i : Nat) (τ : Tau) : Option (Op × Tau) := match τ[i]? with
  | some (some (.sh d)) => some (.val d, τ)
  | some (some (.ow _)) => some (.slot i, τ)
  | _ => none
section
variable {K : PySem.W.Frag} {mg : Mg}
theorem re_c {v : V} {d : D} (h : ∀ G, Rp K mg G v d) : RE K mg (tC v) (fC d) := fun σ τ G H op τ' Q A e q => by
  cases e
  exact q v G H (Go.refl A) (.val (h G))
theorem re_var (i : Nat) : RE K mg (tVar i) (fVar i) := fun σ τ G H op τ' Q A e q => by
  unfold fVar at e
  split at e
  · rename_i d h
    cases e
    obtain ⟨v, hv, r⟩ := A.sh i d h
    exact ⟨v, hv, q v G H (Go.refl A) (.val r)⟩
  · rename_i d h
    cases e
    obtain ⟨p, o, hv, _⟩ := A.ow i d h
    exact ⟨_, hv, q _ G H (Go.refl A) (.slot hv)⟩
  · cases e
end
section
variable {X : Cx} {pos : Pos} {j : Option String}
theorem je_var (i : Nat) {x : PySem.Str} {pos : Pos} (hN : X.N[i]? = some x := by rfl) (hv : Vis X.env.scope x := by first | exact Or.inl rfl | exact Or.inr (Or.inl rfl) | exact Or.inr (Or.inr rfl)) (hd : (x == ("__debug__" : PySem.Str)) = false := by decide)
    (hcd : (x == ("__classdict__" : PySem.Str)) = false := by decide) : JE X (.Name x pos) (tVar i) (fVar i) := ⟨pe_var hN hv hd hcd, re_var i⟩
theorem je_int {i j pos} : JE X (.Constant (.int i) j pos) (tC (.int i)) (fC (.int i)) := ⟨pe_int, re_c fun _ => .int i⟩
theorem je_bl {b j pos} : JE X (.Constant (.bool b) j pos) (tC (.bl b)) (fC (.bl b)) := ⟨pe_bl, re_c fun _ => .bl b⟩
theorem je_non {j pos} : JE X (.Constant .none j pos) (tC .non) (fC .non) := ⟨pe_non, re_c fun _ => .non⟩
theorem je_str {x j pos} : JE X (.Constant (.str x) j pos) (tC (.str x)) (fC (.str x)) := ⟨pe_str, re_c fun _ => .str x⟩
end

/-! ### two operands -/
abbrev G2 := D → D → Option Op
def fBin (g : G2) (fa fb : FE) (τ : Tau) : Option (Op × Tau) := (fa τ).bind fun a => (fb a.2).bind fun b => (deref b.2 a.1).bind fun x => (deref b.2 b.1).bind fun y => (g x y).bind fun z => some (z, b.2)
def fUn (g : D → Option Op) (fa : FE) (τ : Tau) : Option (Op × Tau) := (fa τ).bind fun a => (deref a.2 a.1).bind fun x => (g x).bind fun z => some (z, a.2)
def RB (K : PySem.W.Frag) (mg : Mg) (r : R2) (g : G2) : Prop := ∀ (G H : Hp) (x y : V) (d e : D) (op : Op) (Q : VK), Same G H → Pk K mg G H x d → Pk K mg G H y e → g d e = some op →
  (∀ v G' H', Nw K mg G H G' H' → On K mg H G' H' v op → Q v H') → r x y H Q
def RU (K : PySem.W.Frag) (mg : Mg) (r : V → Hp → VK → Prop) (g : D → Option Op) : Prop := ∀ (G H : Hp) (x : V) (d : D) (op : Op) (Q : VK), Same G H → Pk K mg G H x d → g d = some op →
  (∀ v G' H', Nw K mg G H G' H' → On K mg H G' H' v op → Q v H') → r x H Q
theorem bind_some' {α β : Type} {x : Option α} {f : α → Option β} {b : β} (h : x.bind f = some b) : ∃ a, x = some a ∧ f a = some b := by
  cases x with
  | none => cases h
  | some a => exact ⟨a, rfl, h⟩
section
variable {K : PySem.W.Frag} {mg : Mg} {ta tb : TE} {fa fb : FE}
theorem re_bin {r : R2} {g : G2} (hr : RB K mg r g) (ha : RE K mg ta fa) (hb : RE K mg tb fb) : RE K mg (tOp r ta tb) (fBin g fa fb) := fun σ τ G H op τ' Q A e q => by
  obtain ⟨⟨oa, τ1⟩, e1, e⟩ := bind_some' e
  obtain ⟨⟨ob, τ2⟩, e2, e⟩ := bind_some' e
  obtain ⟨d, e3, e⟩ := bind_some' e
  obtain ⟨d', e4, e⟩ := bind_some' e
  obtain ⟨z, e5, e⟩ := bind_some' e
  cases e
  refine ha σ τ G H oa τ1 _ A e1 fun x G1 H1 g1 o1 => ?_
  refine hb σ τ1 G1 H1 ob τ2 _ g1.at' e2 fun y G2 H2 g2 o2 => ?_
  have o1' := o1.step g2
  refine hr G2 H2 x y d d' _ Q g2.at'.gh (o1'.pk g2.at' e3) (o2.pk g2.at' e4) e5 fun v G3 H3 n o => ?_
  have g12 := g1.trans g2
  exact q v G3 H3 (g12.trans (n.go g2.at')) ((o.or g2.at').weak g12.kp)
theorem re_un {r : V → Hp → VK → Prop} {g : D → Option Op} (hr : RU K mg r g) (ha : RE K mg ta fa) : RE K mg (tUn r ta) (fUn g fa) := fun σ τ G H op τ' Q A e q => by
  obtain ⟨⟨oa, τ1⟩, e1, e⟩ := bind_some' e
  obtain ⟨d, e3, e⟩ := bind_some' e
  obtain ⟨z, e5, e⟩ := bind_some' e
  cases e
  refine ha σ τ G H oa τ1 _ A e1 fun x G1 H1 g1 o1 => ?_
  refine hr G1 H1 x d _ Q g1.at'.gh (o1.pk g1.at' e3) e5 fun v G3 H3 n o => ?_
  exact q v G3 H3 (g1.trans (n.go g1.at')) ((o.or g1.at').weak g1.kp)
/-- ints in, a scalar out -/
def gI (f : Int → Int → Option D) : G2
  | .int i, .int j => (f i j).map Op.val
  | _, _ => none
theorem rb_I0 {g : Int → Int → V} {f : Int → Int → D} (h : ∀ i j G, Rp K mg G (g i j) (f i j)) : RB K mg (rI0 g) (gI fun i j => some (f i j)) := fun G H x y d e op Q s p1 p2 eq q => by
  cases d <;> cases e <;> first | (cases eq; done) | skip
  rename_i i j
  cases eq
  cases p1.int
  cases p2.int
  exact ⟨i, j, rfl, rfl, q _ G H (Nw.refl s) (.val (h i j G))⟩
theorem rb_I {C : Int → Int → Prop} {g : Int → Int → V} {f : Int → Int → Option D} (h : ∀ i j d G, f i j = some d → C i j ∧ Rp K mg G (g i j) d) : RB K mg (rI C g) (gI f) := fun G H x y d e op Q s p1 p2 eq q => by
  cases d <;> cases e <;> first | (cases eq; done) | skip
  rename_i i j
  have eq' : (f i j).map Op.val = some op := eq
  cases hf : f i j with
  | none => rw [hf] at eq'; cases eq'
  | some z =>
    rw [hf] at eq'
    cases eq'
    cases p1.int
    cases p2.int
    obtain ⟨hc, hr⟩ := h i j z G hf
    exact ⟨i, j, rfl, rfl, hc, q _ G H (Nw.refl s) (.val hr)⟩
end

/-! #### arithmetic -/
def gAdd (d e : D) : Option Op := gI (fun i j => some (.int (i + j))) d e
def gSub (d e : D) : Option Op := gI (fun i j => some (.int (i - j))) d e
def mulOk (a b : Int) : Bool := !(decide (Builtin.Int.intBits a > shortFactorBits) && decide (Builtin.Int.intBits b > shortFactorBits) && Builtin.Int.intTooBig (Builtin.Int.intBits a + Builtin.Int.intBits b))
theorem mulOk_ok {a b : Int} (h : mulOk a b = true) : IntMulOk a b := by
  unfold IntMulOk
  unfold mulOk at h
  intro z
  rw [z] at h
  cases h
def gMul (d e : D) : Option Op := gI (fun i j => if mulOk i j = true then some (.int (i * j)) else none) d e
def divOk (j : Int) : Bool := decide (0 < j) && decide (j.natAbs.log2 < 9000)
def gDiv (d e : D) : Option Op := gI (fun i j => if divOk j = true then some (.int (i / j)) else none) d e
def gMod (d e : D) : Option Op := gI (fun i j => if 0 < j then some (.int (i % j)) else none) d e
def powOk (i j : Int) : Bool := decide (0 ≤ j) && decide (j ≤ 1000000) && decide (i.natAbs < 2 ^ 64)
def gPow (d e : D) : Option Op := gI (fun i j => if powOk i j = true then some (.int (i ^ j.toNat)) else none) d e
def gLt (d e : D) : Option Op := gI (fun i j => some (.bl (decide (i < j)))) d e
def gLe (d e : D) : Option Op := gI (fun i j => some (.bl (decide (i ≤ j)))) d e
def gGt (d e : D) : Option Op := gI (fun i j => some (.bl (decide (j < i)))) d e
def gGe (d e : D) : Option Op := gI (fun i j => some (.bl (decide (j ≤ i)))) d e
abbrev qAdd : R2 := rI0 fun i j => .int (i + j)
abbrev qSub : R2 := rI0 fun i j => .int (i - j)
abbrev qMul : R2 := rI IntMulOk fun i j => .int (i * j)
abbrev qDiv : R2 := rI CDivW fun i j => .int (i / j)
abbrev qMod : R2 := rI (fun _ j => 0 < j) fun i j => .int (i % j)
abbrev qPow : R2 := rI CPow fun i j => .int (i ^ j.toNat)
abbrev qLt : R2 := rI0 fun i j => .bl (decide (i < j))
abbrev qLe : R2 := rI0 fun i j => .bl (decide (i ≤ j))
abbrev qGt : R2 := rI0 fun i j => .bl (decide (j < i))
abbrev qGe : R2 := rI0 fun i j => .bl (decide (j ≤ i))
abbrev qNeg : V → Hp → VK → Prop := rU fun i => .int (-i)
def gNeg : D → Option Op
  | .int i => some (.val (.int (-i)))
  | _ => none
theorem if_get {α : Type} {c : Prop} [Decidable c] {x y : α} (h : (if c then some x else none) = some y) : c ∧ x = y := by
  by_cases hc : c
  · rw [if_pos hc] at h; exact ⟨hc, Option.some.inj h⟩
  · rw [if_neg hc] at h; cases h
section
variable {X : Cx} {a b c : Expr} {ta tb tc : TE} {fa fb fc : FE} {pos : Pos}
theorem je_bin {op : Operator} {r : R2} {g : G2} (ho : OpR X (binaryOp op) r) (hr : RB X.K X.mg r g) (ha : JE X a ta fa) (hb : JE X b tb fb) : JE X (.BinOp a op b pos) (tOp r ta tb) (fBin g fa fb) := ⟨pe_op ho ha.pe hb.pe, re_bin hr ha.re hb.re⟩
theorem je_cmp {op : CmpOp} {r : R2} {g : G2} (ho : OpR X (compareOp op) r) (hr : RB X.K X.mg r g) (ha : JE X a ta fa) (hb : JE X b tb fb) (hm : behindInMarks op b = false) : JE X (.Compare a [op] [b] pos) (tOp r ta tb) (fBin g fa fb) := ⟨pe_cmpR ho ha.pe hb.pe hm, re_bin hr ha.re hb.re⟩
theorem op_mulX : OpR X (binaryOp .Mult) qMul := opI fun _ _ _ _ _ _ _ hc q => mul_int q hc
theorem je_add (ha : JE X a ta fa) (hb : JE X b tb fb) : JE X (.BinOp a .Add b pos) (tOp qAdd ta tb) (fBin gAdd fa fb) := je_bin op_add (rb_I0 fun i j G => .int (i + j)) ha hb
theorem je_sub (ha : JE X a ta fa) (hb : JE X b tb fb) : JE X (.BinOp a .Sub b pos) (tOp qSub ta tb) (fBin gSub fa fb) := je_bin op_sub (rb_I0 fun i j G => .int (i - j)) ha hb
theorem je_mul (ha : JE X a ta fa) (hb : JE X b tb fb) : JE X (.BinOp a .Mult b pos) (tOp qMul ta tb) (fBin gMul fa fb) :=
  je_bin op_mulX (rb_I fun i j d G h => by obtain ⟨h1, rfl⟩ := if_get h; exact ⟨mulOk_ok h1, .int _⟩) ha hb
theorem je_div (ha : JE X a ta fa) (hb : JE X b tb fb) : JE X (.BinOp a .FloorDiv b pos) (tOp qDiv ta tb) (fBin gDiv fa fb) :=
  je_bin op_fdivW (rb_I fun i j d G h => by
    obtain ⟨h1, rfl⟩ := if_get h
    unfold divOk at h1
    simp only [Bool.and_eq_true, decide_eq_true_eq] at h1
    exact ⟨h1, .int _⟩) ha hb
theorem je_mod (ha : JE X a ta fa) (hb : JE X b tb fb) : JE X (.BinOp a .Mod b pos) (tOp qMod ta tb) (fBin gMod fa fb) :=
  je_bin op_mod (rb_I fun i j d G h => by obtain ⟨h1, rfl⟩ := if_get h; exact ⟨h1, .int _⟩) ha hb
theorem je_pow (ha : JE X a ta fa) (hb : JE X b tb fb) : JE X (.BinOp a .Pow b pos) (tOp qPow ta tb) (fBin gPow fa fb) :=
  je_bin op_pow (rb_I fun i j d G h => by
    obtain ⟨h1, rfl⟩ := if_get h
    unfold powOk at h1
    simp only [Bool.and_eq_true, decide_eq_true_eq] at h1
    exact ⟨⟨h1.1.1, h1.1.2, h1.2⟩, .int _⟩) ha hb
theorem ru_neg {K : PySem.W.Frag} {mg : Mg} : RU K mg qNeg gNeg := fun G H x d op Q s p eq q => by
  cases d <;> first | (cases eq; done) | skip
  cases eq
  cases p.int
  exact ⟨_, rfl, q _ G H (Nw.refl s) (.val (.int _))⟩
theorem je_neg (ha : JE X a ta fa) : JE X (.UnaryOp .USub a pos) (tUn qNeg ta) (fUn gNeg fa) := ⟨pe_un un_neg ha.pe, re_un ru_neg ha.re⟩
theorem rb_lt {K : PySem.W.Frag} {mg : Mg} : RB K mg qLt gLt := rb_I0 fun i j G => .bl _
theorem rb_le {K : PySem.W.Frag} {mg : Mg} : RB K mg qLe gLe := rb_I0 fun i j G => .bl _
theorem rb_gt {K : PySem.W.Frag} {mg : Mg} : RB K mg qGt gGt := rb_I0 fun i j G => .bl _
theorem rb_ge {K : PySem.W.Frag} {mg : Mg} : RB K mg qGe gGe := rb_I0 fun i j G => .bl _
theorem je_lt (ha : JE X a ta fa) (hb : JE X b tb fb) : JE X (.Compare a [.Lt] [b] pos) (tOp qLt ta tb) (fBin gLt fa fb) := je_cmp op_lt rb_lt ha hb (nomark _)
theorem je_le (ha : JE X a ta fa) (hb : JE X b tb fb) : JE X (.Compare a [.LtE] [b] pos) (tOp qLe ta tb) (fBin gLe fa fb) := je_cmp op_le rb_le ha hb (nomark _)
theorem je_gt (ha : JE X a ta fa) (hb : JE X b tb fb) : JE X (.Compare a [.Gt] [b] pos) (tOp qGt ta tb) (fBin gGt fa fb) := je_cmp op_gt rb_gt ha hb (nomark _)
theorem je_ge (ha : JE X a ta fa) (hb : JE X b tb fb) : JE X (.Compare a [.GtE] [b] pos) (tOp qGe ta tb) (fBin gGe fa fb) := je_cmp op_ge rb_ge ha hb (nomark _)
end
end J
namespace J
open PySem PySem.Spec PyProof.Rows L2

/-! ### == and != of data -/
mutual
def toPy : D → Option PyData
  | .non => some .none
  | .bl b => some (.bool b)
  | .int i => some (.int i)
  | .str x => some (.str x)
  | .lst xs => (toPyL xs).map PyData.list
  | .tup xs => (toPyL xs).map PyData.tuple
  | .dic _ => none
  | .ins _ _ => none
  | .exc _ _ _ _ => none
  | .dicL _ => none
def toPyL : List D → Option (List PyData)
  | [] => some []
  | x :: xs => (toPy x).bind fun y => (toPyL xs).map fun ys => y :: ys
end
section
variable {K : PySem.W.Frag} {mg : Mg} {G H : Hp}
mutual
theorem Rp.dp (s : Same G H) : ∀ {v : V} {d : D} {p : PyData}, Rp K mg G v d → toPy d = some p → Dp K H v p
  | _, _, _, .non, e => by simp only [toPy] at e; cases e; exact .non
  | _, _, _, .bl b, e => by simp only [toPy] at e; cases e; exact .bl b
  | _, _, _, .int b, e => by simp only [toPy] at e; cases e; exact .int b
  | _, _, _, .str b, e => by simp only [toPy] at e; cases e; exact .str b
  | _, _, _, .lst q r, e => by
    simp only [toPy] at e
    obtain ⟨ps, e1, rfl⟩ := Option.map_eq_some_iff.mp e
    exact .lst (same_sql s q) (RpL.dp s r e1)
  | _, _, _, .tup q r, e => by
    simp only [toPy] at e
    obtain ⟨ps, e1, rfl⟩ := Option.map_eq_some_iff.mp e
    exact .tup (same_sqt s q) (RpL.dp s r e1)
  | _, _, _, .dic _ _, e => by simp only [toPy] at e; cases e
  | _, _, _, .ins _ _ _, e => by simp only [toPy] at e; cases e
  | _, _, _, .exc _ _, e => by simp only [toPy] at e; cases e
  | _, _, _, .dicL _ _, e => by simp only [toPy] at e; cases e
theorem RpL.dp (s : Same G H) : ∀ {v : List V} {d : List D} {p : List PyData}, RpL K mg G v d → toPyL d = some p → DpAll K H v p
  | _, _, _, .nil, e => by simp only [toPyL] at e; cases e; exact .nil
  | _, _, _, .cons h r, e => by
    simp only [toPyL] at e
    obtain ⟨y, e1, e⟩ := bind_some' e
    obtain ⟨ys, e2, rfl⟩ := Option.map_eq_some_iff.mp e
    exact .cons (Rp.dp s h e1) (RpL.dp s r e2)
end
theorem Pk.dp (s : Same G H) {v : V} {d : D} {p : PyData} (h : Pk K mg G H v d) (e : toPy d = some p) : Dp K H v p := by
  cases h with
  | frz r => exact r.dp s e
  | root q r =>
    cases r with
    | lst r =>
      simp only [toPy] at e
      obtain ⟨ps, e1, rfl⟩ := Option.map_eq_some_iff.mp e
      exact .lst (SqL.of q) (r.dp s e1)
    | dic r => simp only [toPy] at e; cases e
    | ins m r => simp only [toPy] at e; cases e
end
def dEq (d e : D) : Option Bool := (toPy d).bind fun p => (toPy e).bind fun q => if SeqAt.shaped p = true ∧ SeqAt.shaped q = true then some (PyData.eqv p q) else none
def gEq (d e : D) : Option Op := (dEq d e).map fun b => .val (.bl b)
def gNe (d e : D) : Option Op := (dEq d e).map fun b => .val (.bl !b)
section
variable {X : Cx} {a b c : Expr} {ta tb tc : TE} {fa fb fc : FE} {pos : Pos}
theorem rb_eq {K : PySem.W.Frag} {mg : Mg} : RB K mg (rEqD K) gEq := fun G H x y d e op Q s p1 p2 eq q => by
  obtain ⟨b, e1, rfl⟩ := Option.map_eq_some_iff.mp eq
  obtain ⟨p, e2, e1⟩ := bind_some' e1
  obtain ⟨p', e3, e1⟩ := bind_some' e1
  obtain ⟨⟨s1, s2⟩, rfl⟩ := if_get e1
  exact ⟨p, p', p1.dp s e2, p2.dp s e3, s1, s2, q _ G H (Nw.refl s) (.val (.bl _))⟩
theorem rb_ne {K : PySem.W.Frag} {mg : Mg} : RB K mg (rNeD K) gNe := fun G H x y d e op Q s p1 p2 eq q => by
  obtain ⟨b, e1, rfl⟩ := Option.map_eq_some_iff.mp eq
  obtain ⟨p, e2, e1⟩ := bind_some' e1
  obtain ⟨p', e3, e1⟩ := bind_some' e1
  obtain ⟨⟨s1, s2⟩, rfl⟩ := if_get e1
  exact ⟨p, p', p1.dp s e2, p2.dp s e3, s1, s2, q _ G H (Nw.refl s) (.val (.bl _))⟩
theorem je_eq {K : PySem.W.Frag} {k : Nat} (hr : Room k X.A) (ha : JE X a ta fa) (hb : JE X b tb fb) (hK : X.K = K := by rfl) : JE X (.Compare a [.Eq] [b] pos) (tOp (rEqD K) ta tb) (fBin gEq fa fb) := by
  subst hK
  exact je_cmp (op_eqD hr.units) rb_eq ha hb (nomark _)
theorem je_ne {K : PySem.W.Frag} {k : Nat} (hr : Room k X.A) (ha : JE X a ta fa) (hb : JE X b tb fb) (hK : X.K = K := by rfl) : JE X (.Compare a [.NotEq] [b] pos) (tOp (rNeD K) ta tb) (fBin gNe fa fb) := by
  subst hK
  exact je_cmp (op_neD hr.units) rb_ne ha hb (nomark _)
end

/-! ### is None -/
def gIsN (d : D) : Option Op := match d with | .non => some (.val (.bl true)) | _ => some (.val (.bl false))
end J
namespace J
open PySem PySem.Spec PyProof.Rows L2
abbrev qIsN (neg : Bool) : R2 := fun x y H Q => y = .non ∧ Q (.bl (if neg then !decide (x = .non) else decide (x = .non))) H
def gIs (neg : Bool) (d e : D) : Option Op := match e with
  | .non => (gIsN d).bind fun o => match o with | .val (.bl b) => some (.val (.bl (if neg then !b else b))) | _ => none
  | _ => none
section
variable {X : Cx} {a b c : Expr} {ta tb tc : TE} {fa fb fc : FE} {pos : Pos}
theorem rb_is {neg : Bool} {K : PySem.W.Frag} {mg : Mg} : RB K mg (qIsN neg) (gIs neg) := fun G H x y d e op Q s p1 p2 eq q => by
  unfold gIs at eq
  split at eq
  · cases p2.non
    refine ⟨rfl, ?_⟩
    have key : ∀ b : Bool, decide (x = .non) = b → gIsN d = some (.val (.bl b)) → Q (.bl (if neg then !decide (x = .non) else decide (x = .non))) H := fun b h1 h2 => by
      rw [h2] at eq
      cases eq
      rw [h1]
      exact q _ G H (Nw.refl s) (.val (.bl _))
    cases d with
    | non => cases p1.non; exact key true rfl rfl
    | bl _ => cases p1.bl; exact key false rfl rfl
    | int _ => cases p1.int; exact key false rfl rfl
    | str _ => cases p1.str; exact key false rfl rfl
    | lst _ => obtain ⟨_, _, rfl, _⟩ := p1.lst s; exact key false rfl rfl
    | tup _ => obtain ⟨_, _, rfl, _⟩ := p1.tup s; exact key false rfl rfl
    | dic _ => obtain ⟨_, _, rfl, _⟩ := p1.dic s; exact key false rfl rfl
    | ins _ _ => obtain ⟨_, _, _, _, rfl, _⟩ := p1.ins s; exact key false rfl rfl
    | dicL _ => cases p1 with | frz r => cases r; exact key false rfl rfl | root e r => cases r
    | exc _ _ _ _ => cases p1 with | frz r => cases r; exact key false rfl rfl | root e r => cases r
  · cases eq
theorem je_is (ha : JE X a ta fa) (hb : JE X b tb fb) : JE X (.Compare a [.Is] [b] pos) (tOp (qIsN false) ta tb) (fBin (gIs false) fa fb) := je_cmp (fun pins s σ H x y v u Q I rx ry h => op_isN pins s σ H x y v u Q I rx ry h) rb_is ha hb (nomark _)
theorem je_isn (ha : JE X a ta fa) (hb : JE X b tb fb) : JE X (.Compare a [.IsNot] [b] pos) (tOp (qIsN true) ta tb) (fBin (gIs true) fa fb) := je_cmp (fun pins s σ H x y v u Q I rx ry h => op_notN pins s σ H x y v u Q I rx ry h) rb_is ha hb (nomark _)
end

/-! ### tests -/
def fTB (f : FE) (τ : Tau) : Option (Bool × Tau) := (f τ).bind fun a => (deref a.2 a.1).bind fun d => match d with | .bl b => some (b, a.2) | _ => none
def fAnd (f g : FT) (τ : Tau) : Option (Bool × Tau) := (f τ).bind fun a => if a.1 = true then g a.2 else some (false, a.2)
def fOr (f g : FT) (τ : Tau) : Option (Bool × Tau) := (f τ).bind fun a => if a.1 = true then some (true, a.2) else g a.2
def fNot (f : FT) (τ : Tau) : Option (Bool × Tau) := (f τ).bind fun a => some (!a.1, a.2)
def fIfE (ft : FT) (f g : FE) (τ : Tau) : Option (Op × Tau) := (ft τ).bind fun a => if a.1 = true then f a.2 else g a.2
def fAndV (f g : FE) (τ : Tau) : Option (Op × Tau) := (f τ).bind fun a => (deref a.2 a.1).bind fun d => match d with | .bl b => if b = true then g a.2 else some (.val (.bl false), a.2) | _ => none
def fOrV (f g : FE) (τ : Tau) : Option (Op × Tau) := (f τ).bind fun a => (deref a.2 a.1).bind fun d => match d with | .bl b => if b = true then some (.val (.bl true), a.2) else g a.2 | _ => none
def fNotV (f : FE) (τ : Tau) : Option (Op × Tau) := (f τ).bind fun a => (deref a.2 a.1).bind fun d => match d with | .bl b => some (.val (.bl !b), a.2) | _ => none
section
variable {K : PySem.W.Frag} {mg : Mg} {ta tb : TE} {fa fb : FE} {t u : TT} {f g : FT}
theorem re_testE (ha : RE K mg ta fa) : RT K mg (tTest ta) (fTB fa) := fun σ τ G H b τ' Q A e q => by
  obtain ⟨⟨oa, τ1⟩, e1, e⟩ := bind_some' e
  obtain ⟨d, e2, e⟩ := bind_some' e
  dsimp only at e2 e
  cases d <;> first | (cases e; done) | skip
  cases e
  refine ha σ τ G H oa _ _ A e1 fun x G1 H1 g1 o1 => ?_
  cases (o1.pk g1.at' e2).bl
  exact ⟨_, rfl, q G1 H1 g1⟩
theorem re_testB (ha : RE K mg ta fa) : RT K mg (tB ta) (fTB fa) := re_testE ha
theorem rt_and (ha : RT K mg t f) (hb : RT K mg u g) : RT K mg (tAnd t u) (fAnd f g) := fun σ τ G H b τ' Q A e q => by
  obtain ⟨⟨a, τ1⟩, e1, e⟩ := bind_some' e
  refine ha σ τ G H a τ1 _ A e1 fun G1 H1 g1 => ?_
  cases a with
  | true =>
    rw [if_pos rfl] at e ⊢
    exact hb σ τ1 G1 H1 b τ' Q g1.at' e fun G2 H2 g2 => q G2 H2 (g1.trans g2)
  | false =>
    rw [if_neg Bool.false_ne_true] at e ⊢
    cases e
    exact q G1 H1 g1
theorem rt_or (ha : RT K mg t f) (hb : RT K mg u g) : RT K mg (tOr t u) (fOr f g) := fun σ τ G H b τ' Q A e q => by
  obtain ⟨⟨a, τ1⟩, e1, e⟩ := bind_some' e
  refine ha σ τ G H a τ1 _ A e1 fun G1 H1 g1 => ?_
  cases a with
  | true =>
    rw [if_pos rfl] at e ⊢
    cases e
    exact q G1 H1 g1
  | false =>
    rw [if_neg Bool.false_ne_true] at e ⊢
    exact hb σ τ1 G1 H1 b τ' Q g1.at' e fun G2 H2 g2 => q G2 H2 (g1.trans g2)
theorem rt_not (ha : RT K mg t f) : RT K mg (tNot t) (fNot f) := fun σ τ G H b τ' Q A e q => by
  obtain ⟨⟨a, τ1⟩, e1, e⟩ := bind_some' e
  cases e
  exact ha σ τ G H a _ _ A e1 fun G1 H1 g1 => q G1 H1 g1
theorem re_if (ht : RT K mg t f) (ha : RE K mg ta fa) (hb : RE K mg tb fb) : RE K mg (tIf t ta tb) (fIfE f fa fb) := fun σ τ G H op τ' Q A e q => by
  obtain ⟨⟨a, τ1⟩, e1, e⟩ := bind_some' e
  refine ht σ τ G H a τ1 _ A e1 fun G1 H1 g1 => ?_
  cases a with
  | true =>
    rw [if_pos rfl] at e ⊢
    exact ha σ τ1 G1 H1 op τ' Q g1.at' e fun v G2 H2 g2 o => q v G2 H2 (g1.trans g2) (o.weak g1.kp)
  | false =>
    rw [if_neg Bool.false_ne_true] at e ⊢
    exact hb σ τ1 G1 H1 op τ' Q g1.at' e fun v G2 H2 g2 o => q v G2 H2 (g1.trans g2) (o.weak g1.kp)
theorem re_andV (ha : RE K mg ta fa) (hb : RE K mg tb fb) : RE K mg (tAndV ta tb) (fAndV fa fb) := fun σ τ G H op τ' Q A e q => by
  obtain ⟨⟨oa, τ1⟩, e1, e⟩ := bind_some' e
  obtain ⟨d, e2, e⟩ := bind_some' e
  dsimp only at e2 e
  cases d <;> first | (cases e; done) | skip
  rename_i bb
  refine ha σ τ G H oa τ1 _ A e1 fun x G1 H1 g1 o1 => ?_
  cases (o1.pk g1.at' e2).bl
  refine ⟨bb, rfl, ?_⟩
  cases bb with
  | true =>
    dsimp only at e
    rw [if_pos rfl] at e ⊢
    exact hb σ τ1 G1 H1 op τ' Q g1.at' e fun v G2 H2 g2 o => q v G2 H2 (g1.trans g2) (o.weak g1.kp)
  | false =>
    dsimp only at e
    rw [if_neg Bool.false_ne_true] at e ⊢
    cases e
    exact q _ G1 H1 g1 (.val (.bl _))
theorem re_orV (ha : RE K mg ta fa) (hb : RE K mg tb fb) : RE K mg (tOrV ta tb) (fOrV fa fb) := fun σ τ G H op τ' Q A e q => by
  obtain ⟨⟨oa, τ1⟩, e1, e⟩ := bind_some' e
  obtain ⟨d, e2, e⟩ := bind_some' e
  dsimp only at e2 e
  cases d <;> first | (cases e; done) | skip
  rename_i bb
  refine ha σ τ G H oa τ1 _ A e1 fun x G1 H1 g1 o1 => ?_
  cases (o1.pk g1.at' e2).bl
  refine ⟨bb, rfl, ?_⟩
  cases bb with
  | true =>
    dsimp only at e
    rw [if_pos rfl] at e ⊢
    cases e
    exact q _ G1 H1 g1 (.val (.bl _))
  | false =>
    dsimp only at e
    rw [if_neg Bool.false_ne_true] at e ⊢
    exact hb σ τ1 G1 H1 op τ' Q g1.at' e fun v G2 H2 g2 o => q v G2 H2 (g1.trans g2) (o.weak g1.kp)
theorem re_notV (ha : RE K mg ta fa) : RE K mg (tNotV ta) (fNotV fa) := fun σ τ G H op τ' Q A e q => by
  obtain ⟨⟨oa, τ1⟩, e1, e⟩ := bind_some' e
  obtain ⟨d, e2, e⟩ := bind_some' e
  dsimp only at e2 e
  cases d <;> first | (cases e; done) | skip
  cases e
  refine ha σ τ G H oa _ _ A e1 fun x G1 H1 g1 o1 => ?_
  cases (o1.pk g1.at' e2).bl
  exact ⟨_, rfl, q _ G1 H1 g1 (.val (.bl _))⟩
end
section
variable {X : Cx} {a b c : Expr} {ta tb tc : TE} {fa fb fc : FE} {pos : Pos} {t u : TT} {f g : FT} {rest : List Expr}
theorem jt_val (h : JE X a ta fa) (he : ∀ whole, isTrue a X.env whole = (do let v ← whole; standAt a.pos; holding [v] (truthy v)) := by intro _; rfl) : JT X a (tB ta) (fTB fa) := ⟨pt_val h.pe he, re_testB h.re⟩
theorem jt_cmp {op : CmpOp} {r : R2} {g : G2} (ho : OpR X (compareOp op) r) (hr : RB X.K X.mg r g) (ha : JE X a ta fa) (hb : JE X b tb fb) (hm : behindInMarks op b = false) : JT X (.Compare a [op] [b] pos) (tTest (tOp r ta tb)) (fTB (fBin g fa fb)) :=
  ⟨pt_cmpR ho ha.pe hb.pe hm, re_testE (re_bin hr ha.re hb.re)⟩
theorem jt_lt (ha : JE X a ta fa) (hb : JE X b tb fb) : JT X (.Compare a [.Lt] [b] pos) (tTest (tOp qLt ta tb)) (fTB (fBin gLt fa fb)) := jt_cmp op_lt rb_lt ha hb (nomark _)
theorem jt_le (ha : JE X a ta fa) (hb : JE X b tb fb) : JT X (.Compare a [.LtE] [b] pos) (tTest (tOp qLe ta tb)) (fTB (fBin gLe fa fb)) := jt_cmp op_le rb_le ha hb (nomark _)
theorem jt_gt (ha : JE X a ta fa) (hb : JE X b tb fb) : JT X (.Compare a [.Gt] [b] pos) (tTest (tOp qGt ta tb)) (fTB (fBin gGt fa fb)) := jt_cmp op_gt rb_gt ha hb (nomark _)
theorem jt_ge (ha : JE X a ta fa) (hb : JE X b tb fb) : JT X (.Compare a [.GtE] [b] pos) (tTest (tOp qGe ta tb)) (fTB (fBin gGe fa fb)) := jt_cmp op_ge rb_ge ha hb (nomark _)
theorem jt_eq {K : PySem.W.Frag} {k : Nat} (hr : Room k X.A) (ha : JE X a ta fa) (hb : JE X b tb fb) (hK : X.K = K := by rfl) : JT X (.Compare a [.Eq] [b] pos) (tTest (tOp (rEqD K) ta tb)) (fTB (fBin gEq fa fb)) := by
  subst hK
  exact jt_cmp (op_eqD hr.units) rb_eq ha hb (nomark _)
theorem jt_ne {K : PySem.W.Frag} {k : Nat} (hr : Room k X.A) (ha : JE X a ta fa) (hb : JE X b tb fb) (hK : X.K = K := by rfl) : JT X (.Compare a [.NotEq] [b] pos) (tTest (tOp (rNeD K) ta tb)) (fTB (fBin gNe fa fb)) := by
  subst hK
  exact jt_cmp (op_neD hr.units) rb_ne ha hb (nomark _)
theorem jt_is (ha : JE X a ta fa) (hb : JE X b tb fb) : JT X (.Compare a [.Is] [b] pos) (tTest (tOp (qIsN false) ta tb)) (fTB (fBin (gIs false) fa fb)) := jt_cmp (fun pins s σ H x y v u Q I rx ry h => op_isN pins s σ H x y v u Q I rx ry h) rb_is ha hb (nomark _)
theorem jt_isn (ha : JE X a ta fa) (hb : JE X b tb fb) : JT X (.Compare a [.IsNot] [b] pos) (tTest (tOp (qIsN true) ta tb)) (fTB (fBin (gIs true) fa fb)) := jt_cmp (fun pins s σ H x y v u Q I rx ry h => op_notN pins s σ H x y v u Q I rx ry h) rb_is ha hb (nomark _)
theorem jt_not (h : JT X a t f) : JT X (.UnaryOp .Not a pos) (tNot t) (fNot f) := ⟨pt_not h.pt, rt_not h.rt⟩
theorem jw_and1 (h : JT X a t f) : JW X (.BoolOp .And [a] pos) t f := ⟨pw_and1 h.pt, h.rt⟩
theorem jw_or1 (h : JT X a t f) : JW X (.BoolOp .Or [a] pos) t f := ⟨pw_or1 h.pt, h.rt⟩
theorem jw_and (h : JT X a t f) (h2 : JW X (.BoolOp .And (b :: rest) pos) u g) : JW X (.BoolOp .And (a :: b :: rest) pos) (tAnd t u) (fAnd f g) := ⟨pw_and h.pt h2.pw, rt_and h.rt h2.rt⟩
theorem jw_or (h : JT X a t f) (h2 : JW X (.BoolOp .Or (b :: rest) pos) u g) : JW X (.BoolOp .Or (a :: b :: rest) pos) (tOr t u) (fOr f g) := ⟨pw_or h.pt h2.pw, rt_or h.rt h2.rt⟩
theorem jt_w (h : JW X a t f) : JT X a t f := ⟨h.pw.pt, h.rt⟩
theorem je_ifE (hc : JT X c t f) (ha : JE X a ta fa) (hb : JE X b tb fb) : JE X (.IfExp c a b pos) (tIf t ta tb) (fIfE f fa fb) := ⟨pe_ifExp hc.pt ha.pe hb.pe, re_if hc.rt ha.re hb.re⟩
theorem je_one {op} (h : JE X a ta fa) : JE X (.BoolOp op [a] pos) ta fa := ⟨pe_one h.pe, h.re⟩
theorem je_and (ha : JE X a ta fa) (hb : JE X (.BoolOp .And (b :: rest) pos) tb fb) : JE X (.BoolOp .And (a :: b :: rest) pos) (tAndV ta tb) (fAndV fa fb) := ⟨pe_and ha.pe hb.pe, re_andV ha.re hb.re⟩
theorem je_or (ha : JE X a ta fa) (hb : JE X (.BoolOp .Or (b :: rest) pos) tb fb) : JE X (.BoolOp .Or (a :: b :: rest) pos) (tOrV ta tb) (fOrV fa fb) := ⟨pe_or ha.pe hb.pe, re_orV ha.re hb.re⟩
theorem je_not (ha : JE X a ta fa) : JE X (.UnaryOp .Not a pos) (tNotV ta) (fNotV fa) := ⟨pe_not ha.pe, re_notV ha.re⟩
end

/-! ### chains: a op b op' c over ints -/
def fChain (g g' : G2) (fa fb fc : FE) (τ : Tau) : Option (Op × Tau) := (fa τ).bind fun a => (fb a.2).bind fun b => (deref b.2 a.1).bind fun x => (deref b.2 b.1).bind fun y => (g x y).bind fun z => match z with
  | .val (.bl true) => (fc b.2).bind fun c => (deref c.2 b.1).bind fun y' => (deref c.2 c.1).bind fun w => (g' y' w).bind fun z' => some (z', c.2)
  | .val (.bl false) => some (.val (.bl false), b.2)
  | _ => none
section
variable {K : PySem.W.Frag} {mg : Mg} {ta tb tc : TE} {fa fb fc : FE}
theorem re_chain {r r' : R2} {g g' : G2} (hr : RB K mg r g) (hr' : RB K mg r' g') (ha : RE K mg ta fa) (hb : RE K mg tb fb) (hc : RE K mg tc fc) : RE K mg (tChain r r' ta tb tc) (fChain g g' fa fb fc) := fun σ τ G H op τ' Q A e q => by
  obtain ⟨⟨oa, τ1⟩, e1, e⟩ := bind_some' e
  obtain ⟨⟨ob, τ2⟩, e2, e⟩ := bind_some' e
  obtain ⟨d, e3, e⟩ := bind_some' e
  obtain ⟨d', e4, e⟩ := bind_some' e
  obtain ⟨z, e5, e⟩ := bind_some' e
  dsimp only at e2 e3 e4 e
  refine ha σ τ G H oa τ1 _ A e1 fun x G1 H1 g1 o1 => ?_
  refine hb σ τ1 G1 H1 ob τ2 _ g1.at' e2 fun y G2 H2 g2 o2 => ?_
  have o1' := o1.step g2
  refine hr G2 H2 x y d d' z _ g2.at'.gh (o1'.pk g2.at' e3) (o2.pk g2.at' e4) e5 fun v G3 H3 n o => ?_
  have g3 := (g1.trans g2).trans (n.go g2.at')
  split at e
  · cases o with
    | val rv =>
      cases rv
      refine ⟨true, rfl, ?_⟩
      rw [if_pos rfl]
      obtain ⟨⟨oc, τ3⟩, e6, e⟩ := bind_some' e
      obtain ⟨d3, e7, e⟩ := bind_some' e
      obtain ⟨d4, e8, e⟩ := bind_some' e
      obtain ⟨z', e9, e⟩ := bind_some' e
      cases e
      refine hc σ τ2 G3 H3 oc _ _ g3.at' e6 fun w G4 H4 g4 o4 => ?_
      have o2' := (o2.step (n.go g2.at')).step g4
      refine hr' G4 H4 y w d3 d4 _ Q g4.at'.gh (o2'.pk g4.at' e7) (o4.pk g4.at' e8) e9 fun v' G5 H5 n' o' => ?_
      have g5 := g3.trans g4
      exact q v' G5 H5 (g5.trans (n'.go g4.at')) ((o'.or g4.at').weak g5.kp)
  · cases o with
    | val rv =>
      cases rv
      refine ⟨false, rfl, ?_⟩
      rw [if_neg Bool.false_ne_true]
      cases e
      exact q _ G3 H3 g3 (.val (.bl _))
  · cases e
end
section
variable {X : Cx} {a b c : Expr} {ta tb tc : TE} {fa fb fc : FE} {pos : Pos}
theorem je_chain {op op' : CmpOp} {r r' : R2} {g g' : G2} (ho : OpR X (compareOp op) r) (ho' : OpR X (compareOp op') r') (hr : RB X.K X.mg r g) (hr' : RB X.K X.mg r' g') (ha : JE X a ta fa) (hb : JE X b tb fb) (hc : JE X c tc fc)
    (hm : lastMarks [op, op'] [b, c] = false := by with_unfolding_all rfl) : JE X (.Compare a [op, op'] [b, c] pos) (tChain r r' ta tb tc) (fChain g g' fa fb fc) := ⟨pe_chain ho ho' ha.pe hb.pe hc.pe hm, re_chain hr hr' ha.re hb.re hc.re⟩
theorem jt_chain {op op' : CmpOp} {r r' : R2} {g g' : G2} (ho : OpR X (compareOp op) r) (ho' : OpR X (compareOp op') r') (hr : RB X.K X.mg r g) (hr' : RB X.K X.mg r' g') (ha : JE X a ta fa) (hb : JE X b tb fb) (hc : JE X c tc fc)
    (hm : lastMarks [op, op'] [b, c] = false := by with_unfolding_all rfl) : JT X (.Compare a [op, op'] [b, c] pos) (tTest (tChain r r' ta tb tc)) (fTB (fChain g g' fa fb fc)) := ⟨pt_chain ho ho' ha.pe hb.pe hc.pe hm, re_testE (re_chain hr hr' ha.re hb.re hc.re)⟩
end

/-! ### argument lists, displays -/
def aNil (τ : Tau) : Option (List D × Tau) := some ([], τ)
def aCons (f : FE) (r : FA) (τ : Tau) : Option (List D × Tau) := (f τ).bind fun a => (fz a.2 a.1).bind fun d => (r d.2).bind fun ds => some (d.1 :: ds.1, ds.2)
def pNil (τ : Tau) : Option (List Op × Tau) := some ([], τ)
def pCons (f : FE) (r : FP) (τ : Tau) : Option (List Op × Tau) := (f τ).bind fun a => (r a.2).bind fun ds => some (a.1 :: ds.1, ds.2)
def fTup (f : FA) (τ : Tau) : Option (Op × Tau) := (f τ).bind fun a => if a.1.length ≤ 16777216 then some (.val (.tup a.1), a.2) else none
def fLst (f : FA) (τ : Tau) : Option (Op × Tau) := (f τ).bind fun a => if a.1.length ≤ 16777216 then some (.tmp (.lst a.1), a.2) else none
section
variable {K : PySem.W.Frag} {mg : Mg} {te : TE} {fe : FE} {t : TA} {f : FA} {fp : FP}
theorem ra_nil : RA K mg tNil aNil := fun σ τ G H ds τ' Q A e q => by
  cases e
  exact q [] G H (Go.refl A) .nil
theorem ra_cons (he : RE K mg te fe) (hr : RA K mg t f) : RA K mg (tCons te t) (aCons fe f) := fun σ τ G H ds τ' Q A e q => by
  obtain ⟨⟨oa, τ1⟩, e1, e⟩ := bind_some' e
  obtain ⟨⟨d, τ2⟩, e2, e⟩ := bind_some' e
  obtain ⟨⟨ds', τ3⟩, e3, e⟩ := bind_some' e
  cases e
  refine he σ τ G H oa τ1 _ A e1 fun x G1 H1 g1 o1 => ?_
  obtain ⟨G2, g2, s2, r2⟩ := o1.fz g1 e2
  refine hr σ τ2 G2 H1 ds' _ _ g2.at' e3 fun xs G3 H3 g3 r3 => ?_
  exact q (x :: xs) G3 H3 (g2.trans g3) (.cons (r2.mono g3.gg) r3)
theorem rp_nil : RPa K mg tNil pNil := fun σ τ G H ds τ' Q A e q => by
  cases e
  exact q [] G H (Go.refl A) .nil
theorem rp_cons (he : RE K mg te fe) (hr : RPa K mg t fp) : RPa K mg (tCons te t) (pCons fe fp) := fun σ τ G H ds τ' Q A e q => by
  obtain ⟨⟨oa, τ1⟩, e1, e⟩ := bind_some' e
  obtain ⟨⟨ds', τ3⟩, e3, e⟩ := bind_some' e
  cases e
  refine he σ τ G H oa τ1 _ A e1 fun x G1 H1 g1 o1 => ?_
  refine hr σ τ1 G1 H1 ds' _ _ g1.at' e3 fun xs G3 H3 g3 r3 => ?_
  exact q (x :: xs) G3 H3 (g1.trans g3) (.cons (o1.step g3) (r3.weak g1.kp))
theorem re_tup (hr : RA K mg t f) : RE K mg (tTup t) (fTup f) := fun σ τ G H op τ' Q A e q => by
  obtain ⟨⟨ds, τ1⟩, e1, e⟩ := bind_some' e
  obtain ⟨hl, e⟩ := if_get e
  cases e
  refine hr σ τ G H ds _ _ A e1 fun vs G1 H1 g1 r1 => ⟨by rw [sizeLine_eq, r1.length]; exact hl, fun p hp => ?_⟩
  have n := Nw.newF (K := K) (mg := mg) (o := .tup vs) g1.at'.gh hp
  exact q _ _ _ (g1.trans (n.go g1.at')) (.val (.tup (SqT.of upd_same) (r1.mono n.gg)))
theorem re_lst (hr : RA K mg t f) : RE K mg (tLst t) (fLst f) := fun σ τ G H op τ' Q A e q => by
  obtain ⟨⟨ds, τ1⟩, e1, e⟩ := bind_some' e
  obtain ⟨hl, e⟩ := if_get e
  cases e
  refine hr σ τ G H ds _ _ A e1 fun vs G1 H1 g1 r1 => ⟨by rw [sizeLine_eq, r1.length]; exact hl, fun p hp => ?_⟩
  have n := Nw.new (K := K) (mg := mg) (o := .lst vs) g1.at'.gh hp
  exact q _ _ _ (g1.trans (n.go g1.at')) (((On.new g1.at'.gh hp (.lst r1)).or g1.at').weak g1.kp)
end
section
variable {X : Cx} {e : Expr} {es : List Expr} {te : TE} {fe : FE} {t : TA} {f : FA} {fp : FP} {pos : Pos}
theorem ja_nil : JA X [] tNil aNil := ⟨pa_nil, ra_nil⟩
theorem ja_cons (he : JE X e te fe) (hr : JA X es t f) (hs : starEach (e :: es) X.env = (false, eval e X.env) :: starEach es X.env := by rfl) : JA X (e :: es) (tCons te t) (aCons fe f) := ⟨pa_cons he.pe hr.pa hs, ra_cons he.re hr.ra⟩
theorem jp_nil : JP X [] tNil pNil := ⟨pa_nil, rp_nil⟩
theorem jp_cons (he : JE X e te fe) (hr : JP X es t fp) (hs : starEach (e :: es) X.env = (false, eval e X.env) :: starEach es X.env := by rfl) : JP X (e :: es) (tCons te t) (pCons fe fp) := ⟨pa_cons he.pe hr.pa hs, rp_cons he.re hr.rp⟩
theorem je_tup {x1} (h : JA X es t f) : JE X (.Tuple es x1 pos) (tTup t) (fTup f) := ⟨pe_tup h.pa, re_tup h.ra⟩
theorem je_lst (h : JA X es t f) : JE X (.List es pos) (tLst t) (fLst f) := ⟨pe_lst h.pa, re_lst h.ra⟩
end
end J
namespace J
open PySem PySem.Spec PyProof.Rows L2

inductive Flow where
  | nx (τ : Tau) | rt (op : Op) (τ : Tau) | bk (τ : Tau) | ct (τ : Tau)
abbrev FS := Tau → Option Flow

/-- the state of a def's body, against its entry -/
structure Fr (K : PySem.W.Frag) (mg : Mg) (io : Option V) (R0 : Addr → Prop) (G0 H0 : Hp) (G H : Hp) (σ : L2.St) (τ : Tau) : Prop where
  at' : At K mg G H σ τ
  gg : Same G0 G
  kp : ∀ b, H b = none → H0 b = none
  hh : ∀ b o, ¬ R0 b → H0 b = some o → H b = some o
  gf : ∀ b o, ¬ R0 b → H0 b = some o → G0 b = none → G b = none
  rr : ∀ b, Ro σ τ b → R0 b ∨ H0 b = none
  pr : ∀ v, io = some v → σ[0]? = some (some v)
  ll : τ.length ≤ σ.length
section
variable {K : PySem.W.Frag} {mg : Mg} {io : Option V} {R0 : Addr → Prop} {G0 H0 G H G' H' : Hp} {σ σ' : L2.St} {τ τ' : Tau}
theorem Fr.go (F : Fr K mg io R0 G0 H0 G H σ τ) (g : Go K mg σ τ G H τ' G' H') : Fr K mg io R0 G0 H0 G' H' σ τ' := by
  have nr : ∀ b o, ¬ R0 b → H0 b = some o → ¬ Ro σ τ b := fun b o n e z => by
    rcases F.rr b z with h | h
    · exact n h
    · rw [e] at h; cases h
  exact ⟨g.at', F.gg.trans g.gg, fun b h => F.kp b (g.kp b h), fun b o n e => g.hh b o (nr b o n e) (F.hh b o n e), fun b o n e z => g.gf b o (nr b o n e) (F.hh b o n e) (F.gf b o n e z), fun b h => F.rr b (g.rr b h), F.pr, by rw [g.tl]; exact F.ll⟩
/-- the slots changed, the heaps not -/
theorem Fr.slots (F : Fr K mg io R0 G0 H0 G H σ τ) (A : At K mg G H σ' τ') (r : ∀ b, Ro σ' τ' b → R0 b ∨ H0 b = none) (p : ∀ v, io = some v → σ'[0]? = some (some v)) (l : τ'.length ≤ σ'.length) : Fr K mg io R0 G0 H0 G H σ' τ' :=
  ⟨A, F.gg, F.kp, F.hh, F.gf, r, p, l⟩
end
def Kn (K : PySem.W.Frag) (mg : Mg) (io : Option V) (R0 : Addr → Prop) (G0 H0 : Hp) (D : Ends) : Flow → Prop
  | .nx τ' => ∀ σ' G' H', Fr K mg io R0 G0 H0 G' H' σ' τ' → D.nx σ' H'
  | .bk τ' => ∀ σ' G' H', Fr K mg io R0 G0 H0 G' H' σ' τ' → D.bk σ' H'
  | .ct τ' => ∀ σ' G' H', Fr K mg io R0 G0 H0 G' H' σ' τ' → D.ct σ' H'
  | .rt op τ' => ∀ v σ' G' H', Fr K mg io R0 G0 H0 G' H' σ' τ' → Or K mg H0 G' H' σ' τ' v op → D.rt v H'
def RS (K : PySem.W.Frag) (mg : Mg) (b : Bool) (t : TS) (F : FS) : Prop := ∀ (io : Option V) (R0 : Addr → Prop) (G0 H0 G H : Hp) (σ : L2.St) (τ : Tau) (D : Ends) (fl : Flow), (b = false → io = none) → Fr K mg io R0 G0 H0 G H σ τ →
  F τ = some fl → Kn K mg io R0 G0 H0 D fl → t D σ H
structure JS (X : Cx) (b : Bool) (st : Stmt) (t : TS) (F : FS) : Prop where
  ps : PS X st t
  rs : RS X.K X.mg b t F
structure JSs (X : Cx) (b : Bool) (st : List Stmt) (t : TS) (F : FS) : Prop where
  ps : PSs X st t
  rs : RS X.K X.mg b t F

def sNext (τ : Tau) : Option Flow := some (.nx τ)
def sSeq (f g : FS) (τ : Tau) : Option Flow := (f τ).bind fun fl => match fl with
  | .nx τ1 => g τ1
  | fl => some fl
def sExpr (f : FE) (τ : Tau) : Option Flow := (f τ).bind fun a => some (.nx a.2)
def sRet (f : FE) (τ : Tau) : Option Flow := (f τ).bind fun a => some (.rt a.1 a.2)
def sIf (c : FT) (f g : FS) (τ : Tau) : Option Flow := (c τ).bind fun a => if a.1 = true then f a.2 else g a.2
/-- name = e: a new root is owned, all else is put away -/
def stOp (i : Nat) (o : Op) (τ : Tau) : Option Tau := match o with
  | .tmp d => some (τ.set i (some (.ow d)))
  | .val d => some (τ.set i (some (.sh d)))
  | .slot j => (fz τ (.slot j)).bind fun d => some (d.2.set i (some (.sh d.1)))
def sSet (i : Nat) (f : FE) (τ : Tau) : Option Flow := (f τ).bind fun a => (stOp i a.1 a.2).bind fun τ' => some (.nx τ')
section
variable {K : PySem.W.Frag} {mg : Mg} {b : Bool} {t u : TS} {f g : FS} {te : TE} {fe : FE} {tc : TT} {fc : FT}
theorem rs_next : RS K mg b tNext sNext := fun io R0 G0 H0 G H σ τ D fl hb F e k => by
  cases e
  exact k σ G H F
theorem rs_seq (h1 : RS K mg b t f) (h2 : RS K mg b u g) : RS K mg b (tSeq t u) (sSeq f g) := fun io R0 G0 H0 G H σ τ D fl hb F e k => by
  obtain ⟨fl1, e1, e⟩ := bind_some' e
  refine h1 io R0 G0 H0 G H σ τ { D with nx := u D } fl1 hb F e1 ?_
  cases fl1 with
  | nx τ1 => exact fun σ' G' H' F' => h2 io R0 G0 H0 G' H' σ' τ1 D fl hb F' e k
  | rt op τ1 => cases e; exact k
  | bk τ1 => cases e; exact k
  | ct τ1 => cases e; exact k
theorem rs_drop (h : RE K mg te fe) : RS K mg b (tDrop te) (sExpr fe) := fun io R0 G0 H0 G H σ τ D fl hb F e k => by
  obtain ⟨⟨oa, τ1⟩, e1, e⟩ := bind_some' e
  cases e
  exact h σ τ G H oa τ1 _ F.at' e1 fun v G1 H1 g1 o1 => k σ G1 H1 (F.go g1)
theorem rs_ret (h : RE K mg te fe) : RS K mg b (tRet te) (sRet fe) := fun io R0 G0 H0 G H σ τ D fl hb F e k => by
  obtain ⟨⟨oa, τ1⟩, e1, e⟩ := bind_some' e
  cases e
  exact h σ τ G H oa τ1 _ F.at' e1 fun v G1 H1 g1 o1 => k v σ G1 H1 (F.go g1) (o1.weak F.kp)
theorem rs_if (hc : RT K mg tc fc) (h1 : RS K mg b t f) (h2 : RS K mg b u g) : RS K mg b (tIfS tc t u) (sIf fc f g) := fun io R0 G0 H0 G H σ τ D fl hb F e k => by
  obtain ⟨⟨c, τ1⟩, e1, e⟩ := bind_some' e
  refine hc σ τ G H c τ1 _ F.at' e1 fun G1 H1 g1 => ?_
  cases c with
  | true =>
    rw [if_pos rfl] at e ⊢
    exact h1 io R0 G0 H0 G1 H1 σ τ1 D fl hb (F.go g1) e k
  | false =>
    rw [if_neg Bool.false_ne_true] at e ⊢
    exact h2 io R0 G0 H0 G1 H1 σ τ1 D fl hb (F.go g1) e k

/-- a slot is set to a frozen value -/
theorem At.setSh {G H : Hp} {σ : L2.St} {τ : Tau} (A : At K mg G H σ τ) {i : Nat} {v : V} {d : D} (hi : τ.length ≤ σ.length) (r : Rp K mg G v d) : At K mg G H (σ.set i (some v)) (τ.set i (some (.sh d))) ∧ (∀ b, Ro (σ.set i (some v)) (τ.set i (some (.sh d))) b → Ro σ τ b) := by
  have keep : ∀ {j : Nat} {c : Cell}, (τ.set i (some (.sh d)))[j]? = some (some c) → (j = i ∧ c = .sh d ∧ i < τ.length) ∨ (j ≠ i ∧ τ[j]? = some (some c)) := fun {j c} h => by
    have hl : j < (τ.set i (some (.sh d))).length := by
      rcases Nat.lt_or_ge j (τ.set i (some (.sh d))).length with z | z
      · exact z
      · rw [List.getElem?_eq_none z] at h; cases h
    rcases get_set h with ⟨z1, z2⟩ | z
    · rw [List.length_set] at hl
      exact .inl ⟨z1, by cases z2; rfl, by omega⟩
    · exact .inr z
  refine ⟨⟨A.gh, fun j x h => ?_, fun j x h => ?_, fun j k p x y hj hk pj pk => ?_, by rw [List.length_set, List.length_set]; exact hi⟩, fun b ⟨j, x, hj, pj⟩ => ?_⟩
  · rcases keep h with ⟨rfl, z, hl⟩ | ⟨n, z⟩
    · cases z
      exact ⟨v, List.getElem?_set_self (by omega), r⟩
    · obtain ⟨w, a, c⟩ := A.sh j x z
      exact ⟨w, by rw [List.getElem?_set_ne (Ne.symm n)]; exact a, c⟩
  · rcases keep h with ⟨rfl, z, hl⟩ | ⟨n, z⟩
    · cases z
    · obtain ⟨p, o, a, c⟩ := A.ow j x z
      exact ⟨p, o, by rw [List.getElem?_set_ne (Ne.symm n)]; exact a, c⟩
  · rcases keep hj with ⟨rfl, z, hl⟩ | ⟨n, z⟩
    · cases z
    · rcases keep hk with ⟨rfl, z', hl⟩ | ⟨n', z'⟩
      · cases z'
      · rw [List.getElem?_set_ne (Ne.symm n)] at pj
        rw [List.getElem?_set_ne (Ne.symm n')] at pk
        exact A.ap j k p x y z z' pj pk
  · rcases keep hj with ⟨rfl, z, hl⟩ | ⟨n, z⟩
    · cases z
    · rw [List.getElem?_set_ne (Ne.symm n)] at pj
      exact ⟨j, x, z, pj⟩
/-- a slot is set to a new root -/
theorem At.setOw {G H : Hp} {σ : L2.St} {τ : Tau} (A : At K mg G H σ τ) {i : Nat} {p : Addr} {o : HO} {d : D} (hi : τ.length ≤ σ.length) (h1 : G p = none) (h2 : H p = some o) (r : Rt K mg G o d) (n0 : ¬ Ro σ τ p) :
    At K mg G H (σ.set i (some (.ref p))) (τ.set i (some (.ow d))) ∧ (∀ b, Ro (σ.set i (some (.ref p))) (τ.set i (some (.ow d))) b → b = p ∨ Ro σ τ b) := by
  have keep : ∀ {j : Nat} {c : Cell}, (τ.set i (some (.ow d)))[j]? = some (some c) → (j = i ∧ c = .ow d ∧ i < τ.length) ∨ (j ≠ i ∧ τ[j]? = some (some c)) := fun {j c} h => by
    have hl : j < (τ.set i (some (.ow d))).length := by
      rcases Nat.lt_or_ge j (τ.set i (some (.ow d))).length with z | z
      · exact z
      · rw [List.getElem?_eq_none z] at h; cases h
    rcases get_set h with ⟨z1, z2⟩ | z
    · rw [List.length_set] at hl
      exact .inl ⟨z1, by cases z2; rfl, by omega⟩
    · exact .inr z
  refine ⟨⟨A.gh, fun j x h => ?_, fun j x h => ?_, fun j k q x y hj hk pj pk => ?_, by rw [List.length_set, List.length_set]; exact hi⟩, fun b ⟨j, x, hj, pj⟩ => ?_⟩
  · rcases keep h with ⟨rfl, z, hl⟩ | ⟨n, z⟩
    · cases z
    · obtain ⟨w, a, c⟩ := A.sh j x z
      exact ⟨w, by rw [List.getElem?_set_ne (Ne.symm n)]; exact a, c⟩
  · rcases keep h with ⟨rfl, z, hl⟩ | ⟨n, z⟩
    · cases z
      exact ⟨p, o, List.getElem?_set_self (by omega), h1, h2, r⟩
    · obtain ⟨q, o', a, c⟩ := A.ow j x z
      exact ⟨q, o', by rw [List.getElem?_set_ne (Ne.symm n)]; exact a, c⟩
  · rcases keep hj with ⟨rfl, z, hl⟩ | ⟨n, z⟩
    · rcases keep hk with ⟨rfl, z', hl'⟩ | ⟨n', z'⟩
      · rfl
      · rw [List.getElem?_set_self (by omega)] at pj
        rw [List.getElem?_set_ne (Ne.symm n')] at pk
        cases pj
        exact absurd ⟨k, y, z', pk⟩ n0
    · rcases keep hk with ⟨rfl, z', hl'⟩ | ⟨n', z'⟩
      · rw [List.getElem?_set_self (by omega)] at pk
        rw [List.getElem?_set_ne (Ne.symm n)] at pj
        cases pk
        exact absurd ⟨j, x, z, pj⟩ n0
      · rw [List.getElem?_set_ne (Ne.symm n)] at pj
        rw [List.getElem?_set_ne (Ne.symm n')] at pk
        exact A.ap j k q x y z z' pj pk
  · rcases keep hj with ⟨rfl, z, hl⟩ | ⟨n, z⟩
    · rw [List.getElem?_set_self (by omega)] at pj
      cases pj
      exact .inl rfl
    · rw [List.getElem?_set_ne (Ne.symm n)] at pj
      exact .inr ⟨j, x, z, pj⟩
theorem pr_set {io : Option V} {σ : L2.St} {i : Nat} {w : Option V} (hb : b = false → io = none) (hi : b = false ∨ i ≠ 0) (h : ∀ v, io = some v → σ[0]? = some (some v)) : ∀ v, io = some v → (σ.set i w)[0]? = some (some v) := fun v e => by
  rcases hi with z | z
  · rw [hb z] at e; cases e
  · rw [List.getElem?_set_ne z]; exact h v e
/-- an operand is stored -/
theorem st_op {io : Option V} {R0 : Addr → Prop} {G0 H0 G H G1 H1 : Hp} {σ : L2.St} {τ τ1 τ2 : Tau} {i : Nat} {v : V} {o : Op} (hb : b = false → io = none) (hi : b = false ∨ i ≠ 0) (F : Fr K mg io R0 G0 H0 G H σ τ) (g : Go K mg σ τ G H τ1 G1 H1) (r : Or K mg H G1 H1 σ τ1 v o) (e : stOp i o τ1 = some τ2) :
    ∃ G2, Fr K mg io R0 G0 H0 G2 H1 (σ.set i (some v)) τ2 := by
  have F1 := F.go g
  have sh : ∀ {d τ3}, fz τ1 o = some (d, τ3) → τ2 = τ3.set i (some (.sh d)) → ∃ G2, Fr K mg io R0 G0 H0 G2 H1 (σ.set i (some v)) τ2 := fun {d τ3} e1 e2 => by
    subst e2
    obtain ⟨G2, g2, s2, r2⟩ := r.fz g e1
    have F2 := F.go g2
    obtain ⟨A, ro⟩ := F2.at'.setSh (i := i) F2.ll r2
    exact ⟨G2, F2.slots A (fun b h => F2.rr b (ro b h)) (pr_set hb hi F2.pr) (by rw [List.length_set, List.length_set]; exact F2.ll)⟩
  cases r with
  | tmp a b' c r' n =>
    cases e
    obtain ⟨A, ro⟩ := F1.at'.setOw (i := i) F1.ll b' c r' n
    refine ⟨G1, F1.slots A (fun b h => ?_) (pr_set hb hi F1.pr) (by rw [List.length_set, List.length_set]; exact F1.ll)⟩
    rcases ro b h with rfl | h
    · exact .inr (F.kp _ a)
    · exact F1.rr b h
  | val r' =>
    cases e
    exact sh (τ3 := τ1) rfl rfl
  | slot h =>
    obtain ⟨⟨d, τ3⟩, e1, e⟩ := bind_some' e
    cases e
    exact sh e1 rfl
theorem rs_set {i : Nat} (hi : b = false ∨ i ≠ 0) (h : RE K mg te fe) : RS K mg b (tAsg te (gName i)) (sSet i fe) := fun io R0 G0 H0 G H σ τ D fl hb F e k => by
  obtain ⟨⟨oa, τ1⟩, e1, e⟩ := bind_some' e
  obtain ⟨τ2, e2, e⟩ := bind_some' e
  cases e
  refine h σ τ G H oa τ1 _ F.at' e1 fun v G1 H1 g1 o1 => ?_
  obtain ⟨G2, F2⟩ := st_op hb hi F g1 o1 e2
  exact k _ G2 H1 F2
end

/-! ### while -/
def whN (c : FT) (f : FS) : Nat → Tau → Option Flow
  | 0, _ => none
  | n + 1, τ => (c τ).bind fun a => if a.1 = true then (f a.2).bind fun fl => match fl with
      | .nx τ2 => whN c f n τ2
      | .ct τ2 => whN c f n τ2
      | .bk τ2 => some (.nx τ2)
      | .rt o τ2 => some (.rt o τ2)
    else some (.nx a.2)
theorem whN_mono {c : FT} {f : FS} : ∀ {n m : Nat} {τ : Tau} {fl : Flow}, n ≤ m → whN c f n τ = some fl → whN c f m τ = some fl
  | 0, _, _, _, _, h => by cases h
  | n + 1, 0, _, _, hl, _ => absurd hl (Nat.not_succ_le_zero n)
  | n + 1, m + 1, τ, fl, hl, h => by
    unfold whN at h ⊢
    obtain ⟨a, e1, h⟩ := bind_some' h
    rw [e1]
    show (if a.1 = true then _ else _) = _
    by_cases ha : a.1 = true
    · rw [if_pos ha] at h ⊢
      obtain ⟨fl1, e2, h⟩ := bind_some' h
      rw [e2]
      cases fl1 with
      | nx τ2 => exact whN_mono (Nat.le_of_succ_le_succ hl) h
      | ct τ2 => exact whN_mono (Nat.le_of_succ_le_succ hl) h
      | bk τ2 => exact h
      | rt o τ2 => exact h
    · rw [if_neg ha] at h ⊢
      exact h
open Classical in
noncomputable def sWh (c : FT) (f : FS) (τ : Tau) : Option Flow := if h : ∃ p : Nat × Flow, whN c f p.1 τ = some p.2 then some (Classical.choose h).2 else none
theorem sWh_get {c : FT} {f : FS} {τ : Tau} {fl : Flow} (h : sWh c f τ = some fl) : ∃ n, whN c f n τ = some fl := by
  unfold sWh at h
  split at h
  · rename_i z
    have := Classical.choose_spec z
    cases h
    exact ⟨_, this⟩
  · cases h
theorem sWh_of {c : FT} {f : FS} {τ : Tau} {fl : Flow} {n : Nat} (h : whN c f n τ = some fl) : sWh c f τ = some fl := by
  unfold sWh
  have z : ∃ p : Nat × Flow, whN c f p.1 τ = some p.2 := ⟨(n, fl), h⟩
  rw [dif_pos z]
  have q := Classical.choose_spec z
  have h1 := whN_mono (Nat.le_max_left n (Classical.choose z).1) h
  have h2 := whN_mono (Nat.le_max_right n (Classical.choose z).1) q
  rw [h1] at h2
  exact h2.symm
section
variable {K : PySem.W.Frag} {mg : Mg} {b : Bool} {t u : TS} {f g : FS} {te : TE} {fe : FE} {tc : TT} {fc : FT}
theorem rs_wh (hc : RT K mg tc fc) (h1 : RS K mg b t f) : RS K mg b (tWhile tc t) (sWh fc f) := fun io R0 G0 H0 G H σ τ D fl hb F e k => by
  obtain ⟨n, e⟩ := sWh_get e
  refine ⟨fun m σ H => ∃ G τ, Fr K mg io R0 G0 H0 G H σ τ ∧ whN fc f m τ = some fl, ⟨n, G, τ, F, e⟩, ?_⟩
  rintro m σ H ⟨G, τ, F, e⟩
  cases m with
  | zero => cases e
  | succ m =>
    unfold whN at e
    obtain ⟨⟨c, τ1⟩, e1, e⟩ := bind_some' e
    refine hc σ τ G H c τ1 _ F.at' e1 fun G1 H1 g1 => ?_
    cases c with
    | true =>
      rw [if_pos rfl] at e ⊢
      obtain ⟨fl1, e2, e⟩ := bind_some' e
      refine ⟨fun σ H => ∃ G τ, Fr K mg io R0 G0 H0 G H σ τ ∧ whN fc f m τ = some fl, fun σ' H' w => ⟨m, Nat.lt_succ_self m, w⟩, ?_⟩
      refine h1 io R0 G0 H0 G1 H1 σ τ1 _ fl1 hb (F.go g1) e2 ?_
      cases fl1 with
      | nx τ2 => exact fun σ' G' H' F' => ⟨G', τ2, F', e⟩
      | ct τ2 => exact fun σ' G' H' F' => ⟨G', τ2, F', e⟩
      | bk τ2 => cases e; exact k
      | rt o τ2 => cases e; exact k
    | false =>
      rw [if_neg Bool.false_ne_true] at e ⊢
      cases e
      exact k σ G1 H1 (F.go g1)
end

/-! ### what a loop walks -/
abbrev FI := Tau → Option (List D × Tau)
/-- an iterator that yields these -/
def ItR (K : PySem.W.Frag) (mg : Mg) (J : It) (G : Hp) (ds : List D) : Prop := ∀ G2 H2, Same G G2 → Same G2 H2 → (∀ i, ds.length ≤ i → J.stop i H2) ∧
  (∀ i d, ds[i]? = some d → J.go i H2 ∧ ∀ x H', J.yld i H2 x H' → ∃ G', Nw K mg G2 H2 G' H' ∧ Rp K mg G' x d)
def RI (K : PySem.W.Frag) (mg : Mg) (w : TI) (f : FI) : Prop := ∀ (σ : L2.St) (τ : Tau) (G H : Hp) (ds : List D) (τ' : Tau) (R : It → Hp → Prop), At K mg G H σ τ → f τ = some (ds, τ') →
  (∀ J G' H', Go K mg σ τ G H τ' G' H' → ItR K mg J G' ds → R J H') → w σ H R
structure JI (X : Cx) (tg e : Expr) (w : TI) (f : FI) : Prop where
  pi : PI X tg e w
  ri : RI X.K X.mg w f
/-- a target of a loop or an unpacking -/
abbrev FG := D → Tau → Option Tau
def RG (K : PySem.W.Frag) (mg : Mg) (is : List Nat) (t : TG) (f : FG) : Prop := ∀ (G H : Hp) (σ : L2.St) (τ : Tau) (v : V) (d : D) (τ' : Tau) (Q : L2.St → Hp → Prop), At K mg G H σ τ → τ.length ≤ σ.length → Rp K mg G v d → f d τ = some τ' →
  (∀ σ', At K mg G H σ' τ' → τ'.length ≤ σ'.length → (∀ b, Ro σ' τ' b → Ro σ τ b) → (∀ j, j ∉ is → σ'[j]? = σ[j]?) → τ'.length = τ.length → (∀ j, j ∉ is → τ'[j]? = τ[j]?) → σ'.length = σ.length → Q σ' H) → t v σ H Q
structure JG (X : Cx) (tg : Expr) (is : List Nat) (t : TG) (f : FG) : Prop where
  pg : PG X tg t
  rg : RG X.K X.mg is t f
def RGs (K : PySem.W.Frag) (mg : Mg) (is : List Nat) (t : TGs) (f : List D → Tau → Option Tau) : Prop := ∀ (G H : Hp) (σ : L2.St) (τ : Tau) (v : List V) (d : List D) (τ' : Tau) (Q : L2.St → Hp → Prop), At K mg G H σ τ → τ.length ≤ σ.length → RpL K mg G v d → f d τ = some τ' →
  (∀ σ', At K mg G H σ' τ' → τ'.length ≤ σ'.length → (∀ b, Ro σ' τ' b → Ro σ τ b) → (∀ j, j ∉ is → σ'[j]? = σ[j]?) → τ'.length = τ.length → (∀ j, j ∉ is → τ'[j]? = τ[j]?) → σ'.length = σ.length → Q σ' H) → t v σ H Q
structure JGs (X : Cx) (tg : List Expr) (is : List Nat) (t : TGs) (f : List D → Tau → Option Tau) : Prop where
  pg : PGs X tg t
  rg : RGs X.K X.mg is t f
def gN (i : Nat) (d : D) (τ : Tau) : Option Tau := some (τ.set i (some (.sh d)))
def gsNil (ds : List D) (τ : Tau) : Option Tau := match ds with | [] => some τ | _ => none
def gsCons (f : FG) (r : List D → Tau → Option Tau) (ds : List D) (τ : Tau) : Option Tau := match ds with | d :: ds => (f d τ).bind fun τ1 => r ds τ1 | [] => none
def gT (n : Nat) (r : List D → Tau → Option Tau) (d : D) (τ : Tau) : Option Tau := match d with
  | .tup ds => if ds.length = n then r ds τ else none
  | .lst ds => if ds.length = n then r ds τ else none
  | _ => none
/-- a tuple or a list is unpacked -/
def gSq (K : PySem.W.Frag) (n : Nat) (t : TGs) : TG := fun v σ H Q => gTup K n t v σ H Q ∨ gUnl K n t v σ H Q
section
variable {K : PySem.W.Frag} {mg : Mg}
theorem if_get' {α : Type} {c : Prop} [Decidable c] {x : Option α} {y : α} (h : (if c then x else none) = some y) : c ∧ x = some y := by
  by_cases hc : c
  · rw [if_pos hc] at h; exact ⟨hc, h⟩
  · rw [if_neg hc] at h; cases h
theorem rg_name (i : Nat) : RG K mg [i] (gName i) (gN i) := fun G H σ τ v d τ' Q A hl r e q => by
  cases e
  obtain ⟨A', ro⟩ := A.setSh (i := i) hl r
  refine q _ A' (by rw [List.length_set, List.length_set]; exact hl) ro (fun j hj => ?_) (List.length_set ..) (fun j hj => ?_) (List.length_set ..)
  · rw [List.getElem?_set_ne (fun z => hj (by rw [z]; exact List.mem_singleton.mpr rfl))]
  · rw [List.getElem?_set_ne (fun z => hj (by rw [z]; exact List.mem_singleton.mpr rfl))]
theorem rgs_nil : RGs K mg [] gNil gsNil := fun G H σ τ v d τ' Q A hl r e q => by
  cases r with
  | nil => cases e; exact ⟨rfl, q σ A hl (fun _ h => h) (fun _ _ => rfl) rfl (fun _ _ => rfl) rfl⟩
  | cons _ _ => cases e
theorem rgs_cons {is js : List Nat} {t : TG} {u : TGs} {f : FG} {g : List D → Tau → Option Tau} (h1 : RG K mg is t f) (h2 : RGs K mg js u g) : RGs K mg (is ++ js) (gCons t u) (gsCons f g) := fun G H σ τ v d τ' Q A hl r e q => by
  cases r with
  | nil => cases e
  | cons r rr =>
    obtain ⟨τ1, e1, e⟩ := bind_some' e
    refine ⟨_, _, rfl, h1 G H σ τ _ _ τ1 _ A hl r e1 fun σ1 A1 l1 ro1 k1 t1 kt1 ls1 => ?_⟩
    refine h2 G H σ1 τ1 _ _ τ' Q A1 l1 rr e fun σ2 A2 l2 ro2 k2 t2 kt2 ls2 => ?_
    refine q σ2 A2 l2 (fun b h => ro1 b (ro2 b h)) (fun j hj => ?_) (t2.trans t1) (fun j hj => ?_) (ls2.trans ls1)
    · rw [k2 j (fun z => hj (List.mem_append_right _ z)), k1 j (fun z => hj (List.mem_append_left _ z))]
    · rw [kt2 j (fun z => hj (List.mem_append_right _ z)), kt1 j (fun z => hj (List.mem_append_left _ z))]
theorem rg_tup {is : List Nat} {n : Nat} {t : TGs} {f : List D → Tau → Option Tau} (h : RGs K mg is t f) : RG K mg is (gSq K n t) (gT n f) := fun G H σ τ v d τ' Q A hl r e q => by
  cases r <;> first | (cases e; done) | skip
  · rename_i a vs ds hs r
    obtain ⟨hn, e⟩ := if_get' e
    exact .inr ⟨a, vs, rfl, same_sql A.gh hs, by rw [r.length]; exact hn, h G H σ τ vs ds τ' Q A hl r e q⟩
  · rename_i a vs ds hs r
    obtain ⟨hn, e⟩ := if_get' e
    exact .inl ⟨a, vs, rfl, same_sqt A.gh hs, by rw [r.length]; exact hn, h G H σ τ vs ds τ' Q A hl r e q⟩
end
section
variable {X : Cx} {pos : Pos}
theorem jg_name {i : Nat} {x : PySem.Str} (hN : X.N.Nodup) (hi : X.N[i]? = some x := by rfl) (hx : Loc X.env.scope x := by first | exact Or.inl rfl | exact Or.inr rfl) (hf : X.fn x = true ∨ X.env.scope.names.lookup x = some .local := by first | exact .inl rfl | exact .inr rfl | assumption) : JG X (.Name x pos) [i] (gName i) (gN i) := ⟨pg_name hN hi hx hf, rg_name i⟩
theorem jgs_nil : JGs X [] [] gNil gsNil := ⟨pgs_nil, rgs_nil⟩
theorem jgs_cons {e : Expr} {es : List Expr} {is js : List Nat} {t : TG} {u : TGs} {f : FG} {g : List D → Tau → Option Tau} (h1 : JG X e is t f) (h2 : JGs X es js u g)
    (hs : (assignEach (e :: es) X.env).map (·.2) = assign e X.env :: (assignEach es X.env).map (·.2) := by rfl) : JGs X (e :: es) (is ++ js) (gCons t u) (gsCons f g) := ⟨pgs_cons h1.pg h2.pg hs, rgs_cons h1.rg h2.rg⟩
theorem jg_tup {K : PySem.W.Frag} {es : List Expr} {k : Nat} {is : List Nat} {t : TGs} {f : List D → Tau → Option Tau} {n : Nat} (hc : X.calm = true) (h : JGs X es is t f)
    (hn : (assignEach es X.env).length = n := by rfl) (hst : (assignEach es X.env).findIdx? (·.1) = none := by rfl) (hK : X.K = K := by rfl) : JG X (.Tuple es k pos) is (gSq K n t) (gT n f) := by
  subst hK
  exact ⟨⟨fun pins s σ H v u Q I r hw => hw.elim ((pg_tup hc h.pg hn hst).run pins s σ H v u Q I r) ((pg_unl hc h.pg hn hst).run pins s σ H v u Q I r)⟩, rg_tup h.rg⟩
end

/-! ### for -/
def forD (g : FG) (f : FS) : List D → Tau → Option Flow
  | [], τ => some (.nx τ)
  | d :: ds, τ => (g d τ).bind fun τ1 => (f τ1).bind fun fl => match fl with
    | .nx τ2 => forD g f ds τ2
    | .ct τ2 => forD g f ds τ2
    | .bk τ2 => some (.nx τ2)
    | .rt o τ2 => some (.rt o τ2)
def sFor (w : FI) (g : FG) (f : FS) (τ : Tau) : Option Flow := (w τ).bind fun a => forD g f a.1 a.2
section
variable {K : PySem.W.Frag} {mg : Mg} {b : Bool} {t u : TS} {f : FS} {wi : TI} {w : FI} {tg : TG} {g : FG} {is : List Nat}
theorem rs_for (hi : b = false ∨ 0 ∉ is) (hw : RI K mg wi w) (hg : RG K mg is tg g) (h1 : RS K mg b t f) : RS K mg b (tFor wi tg t) (sFor w g f) := fun io R0 G0 H0 G H σ τ D fl hb F e k => by
  obtain ⟨⟨ds, τ1⟩, e1, e⟩ := bind_some' e
  refine hw σ τ G H ds τ1 _ F.at' e1 fun J G1 H1 g1 it => ?_
  have F1 := F.go g1
  refine ⟨fun i m σ H => ∃ G τ, Fr K mg io R0 G0 H0 G H σ τ ∧ Same G1 G ∧ m = ds.length - i ∧ i ≤ ds.length ∧ forD g f (ds.drop i) τ = some fl, ⟨ds.length, G1, τ1, F1, Same.refl _, by simp, Nat.zero_le _, e⟩, ?_⟩
  rintro i m σ H ⟨G, τ, F, s, rfl, hle, e⟩
  obtain ⟨st, gn⟩ := it G H s F.at'.gh
  by_cases hlt : i < ds.length
  · have hd : ds[i]? = some ds[i] := List.getElem?_eq_getElem hlt
    obtain ⟨go, yl⟩ := gn i _ hd
    rw [List.drop_eq_getElem_cons hlt] at e
    obtain ⟨τ2, e2, e⟩ := bind_some' e
    obtain ⟨fl1, e3, e⟩ := bind_some' e
    refine .inr ⟨go, fun σ H => ∃ G τ, Fr K mg io R0 G0 H0 G H σ τ ∧ Same G1 G ∧ forD g f (ds.drop (i + 1)) τ = some fl, fun σ' H' ⟨G', τ', F', s', e'⟩ => ⟨_, by omega, G', τ', F', s', rfl, hlt, e'⟩, fun x H' y => ?_⟩
    obtain ⟨G', n, r⟩ := yl x H' y
    have F2 := F.go (n.go F.at')
    refine hg G' H' σ τ x _ τ2 _ F2.at' F2.ll r e2 fun σ3 A3 l3 ro3 k3 t3 kt3 ls3 => ?_
    have F3 : Fr K mg io R0 G0 H0 G' H' σ3 τ2 := F2.slots A3 (fun b h => F2.rr b (ro3 b h)) (fun v hv => by
      rcases hi with z | z
      · rw [hb z] at hv; cases hv
      · rw [k3 0 z]; exact F2.pr v hv) l3
    have s2 : Same G1 G' := s.trans n.gg
    -- the body keeps G growing: against the loop's own entry
    have F4 : Fr K mg io (fun b => Ro σ3 τ2 b) G' H' G' H' σ3 τ2 := ⟨A3, Same.refl _, fun _ h => h, fun _ _ _ h => h, fun _ _ _ _ h => h, fun _ h => .inl h, F3.pr, l3⟩
    have conv : ∀ {σ4 G4 H4 τ4}, Fr K mg io (fun b => Ro σ3 τ2 b) G' H' G4 H4 σ4 τ4 → Fr K mg io R0 G0 H0 G4 H4 σ4 τ4 ∧ Same G1 G4 := fun {σ4 G4 H4 τ4} F4 => by
      have nr : ∀ b o, ¬ R0 b → H0 b = some o → ¬ Ro σ3 τ2 b := fun b o n e z => by
        rcases F3.rr b z with h | h
        · exact n h
        · rw [e] at h; cases h
      refine ⟨⟨F4.at', F3.gg.trans F4.gg, fun b h => F3.kp b (F4.kp b h), fun b o n e => F4.hh b o (nr b o n e) (F3.hh b o n e), fun b o n e z => F4.gf b o (nr b o n e) (F3.hh b o n e) (F3.gf b o n e z), fun b h => ?_, F4.pr, F4.ll⟩, s2.trans F4.gg⟩
      rcases F4.rr b h with z | z
      · exact F3.rr b z
      · exact .inr (F3.kp b z)
    refine h1 io _ G' H' G' H' σ3 τ2 _ fl1 hb F4 e3 ?_
    cases fl1 with
    | nx τ4 => exact fun σ' G' H' F' => ⟨G', τ4, (conv F').1, (conv F').2, e⟩
    | ct τ4 => exact fun σ' G' H' F' => ⟨G', τ4, (conv F').1, (conv F').2, e⟩
    | bk τ4 => cases e; exact fun σ' G' H' F' => k σ' G' H' (conv F').1
    | rt o τ4 => cases e; exact fun v σ' G' H' F' o' => k v σ' G' H' (conv F').1 (o'.weak F3.kp)
  · have z : i = ds.length := by omega
    subst z
    rw [List.drop_length] at e
    cases e
    exact .inl ⟨st _ (Nat.le_refl _), k σ G H F⟩
end
section
variable {X : Cx} {b : Bool} {st : Stmt} {rest : List Stmt} {t u : TS} {f g : FS} {e : Expr} {te : TE} {fe : FE} {pos : Pos}
theorem jss_nil : JSs X b [] tNext sNext := ⟨pss_nil, rs_next⟩
theorem jss_cons (h1 : JS X b st t f) (h2 : JSs X b rest u g) : JSs X b (st :: rest) (tSeq t u) (sSeq f g) := ⟨pss_cons h1.ps h2.ps, rs_seq h1.rs h2.rs⟩
theorem jss_one (h1 : JS X b st t f) : JSs X b [st] t f := ⟨pss_one h1.ps, h1.rs⟩
theorem js_pass : JS X b (.Pass pos) tNext sNext := ⟨ps_pass, rs_next⟩
def sBrk (τ : Tau) : Option Flow := some (.bk τ)
def sCnt (τ : Tau) : Option Flow := some (.ct τ)
theorem js_break : JS X b (.Break pos) tBreak sBrk := ⟨ps_break, fun io R0 G0 H0 G H σ τ D fl hb F e k => by cases e; exact k σ G H F⟩
theorem js_cont : JS X b (.Continue pos) tCont sCnt := ⟨ps_continue, fun io R0 G0 H0 G H σ τ D fl hb F e k => by cases e; exact k σ G H F⟩
theorem js_doc {x j pos pos'} : JS X b (.Expr (.Constant (.str x) j pos) pos') tNext sNext := ⟨ps_doc, rs_next⟩
theorem js_expr (he : JE X e te fe) (hs : swapsWith e none pos.line X.env = pure false := by rfl) : JS X b (.Expr e pos) (tDrop te) (sExpr fe) := ⟨ps_expr he.pe hs, rs_drop he.re⟩
theorem js_ret (he : JE X e te fe) : JS X b (.Return (some e) pos) (tRet te) (sRet fe) := ⟨ps_ret he.pe, rs_ret he.re⟩
def sRetN (τ : Tau) : Option Flow := some (.rt (.val .non) τ)
theorem js_retN : JS X b (.Return none pos) tRetN sRetN := ⟨ps_retN, fun io R0 G0 H0 G H σ τ D fl hb F e k => by cases e; exact k _ σ G H F (.val .non)⟩
theorem js_if {c : Expr} {s1 s2 : List Stmt} {tc : TT} {fc : FT} (hc : JT X c tc fc) (h1 : JSs X b s1 t f) (h2 : JSs X b s2 u g) : JS X b (.If c s1 s2 pos) (tIfS tc t u) (sIf fc f g) := ⟨ps_if hc.pt h1.ps h2.ps, rs_if hc.rt h1.rs h2.rs⟩
def sNo (_ : Tau) : Option Flow := none
theorem js_never : JS X b st tNever sNo := ⟨ps_never, fun io R0 G0 H0 G H σ τ D fl hb F e k => by cases e⟩
theorem jss_never : JSs X b rest tNever sNo := ⟨pss_never, fun io R0 G0 H0 G H σ τ D fl hb F e k => by cases e⟩
theorem js_set {i : Nat} {x : PySem.Str} {pos' : Pos} (hN : X.N.Nodup) (hb : b = false ∨ i ≠ 0) (he : JE X e te fe) (hi : X.N[i]? = some x := by rfl) (hx : Loc X.env.scope x := by first | exact Or.inl rfl | exact Or.inr rfl)
    (hs : swapsWith e (some (.Name x pos')) pos.line X.env = pure false := by rfl) (hf : X.fn x = true ∨ X.env.scope.names.lookup x = some .local := by first | exact .inl rfl | exact .inr rfl | assumption) :
    JS X b (.Assign [.Name x pos'] e pos) (tAsg te (gName i)) (sSet i fe) := ⟨ps_set hN hi hx he.pe hs hf, rs_set hb he.re⟩
theorem js_while {c : Expr} {body : List Stmt} {tc : TT} {fc : FT} (hp : PassesOwn (model X.prog X.w) X.A X.env X.xe) (hc : JT X c tc fc) (hb : JSs X b body t f) : JS X b (.While c body [] pos) (tWhile tc t) (sWh fc f) := ⟨ps_while hp hc.pt hb.ps, rs_wh hc.rt hb.rs⟩
theorem js_for {tgt iter : Expr} {body : List Stmt} {wi : TI} {w : FI} {tg : TG} {gg : FG} {is : List Nat} (hp : PassesOwn (model X.prog X.w) X.A X.env X.xe) (hc : X.calm = true) (h0 : b = false ∨ 0 ∉ is) (hi : JI X tgt iter wi w) (hg : JG X tgt is tg gg) (hb : JSs X b body t f)
    (hs : ∀ x, foldedSetIterable iter X.env x = pure x := by intro _; rfl) : JS X b (.For tgt iter body [] pos) (tFor wi tg t) (sFor w gg f) := ⟨ps_for hp hc hi.pi hg.pg hb.ps hs, rs_for h0 hi.ri hg.rg hb.rs⟩
end
end J
namespace J
open PySem PySem.Spec PyProof.Rows L2

/-- what a def is: arguments to (is the result a new root?, the result, the first argument behind the call) -/
abbrev Mir := List D → Option (Bool × D × D)
def Rv (b : Bool) (vs : List V) (p : Addr) : Prop := b = true ∧ vs.head? = some (.ref p)
inductive Ar (K : PySem.W.Frag) (mg : Mg) (G H : Hp) : Bool → List V → List D → Prop
  | pure {vs : List V} {ds : List D} : RpL K mg G vs ds → Ar K mg G H false vs ds
  | io {p : Addr} {o : HO} {d : D} {vs : List V} {ds : List D} : G p = none → H p = some o → Rt K mg G o d → RpL K mg G vs ds → Ar K mg G H true (.ref p :: vs) (d :: ds)
inductive Rs (K : PySem.W.Frag) (mg : Mg) (H G' H' : Hp) (v : V) : Bool → D → Prop
  | old {z : D} : Rp K mg G' v z → Rs K mg H G' H' v false z
  | new {p : Addr} {o : HO} {z : D} : v = .ref p → H p = none → G' p = none → H' p = some o → Rt K mg G' o z → Rs K mg H G' H' v true z
structure Bk (K : PySem.W.Frag) (mg : Mg) (b : Bool) (vs : List V) (G H : Hp) (own : Bool) (z z0 : D) (v : V) (G' H' : Hp) : Prop where
  gg : Same G G'
  gh : Same G' H'
  kp : ∀ p, H' p = none → H p = none
  hh : ∀ p o, ¬ Rv b vs p → H p = some o → H' p = some o
  gf : ∀ p o, ¬ Rv b vs p → H p = some o → G p = none → G' p = none
  io : b = true → ∃ p o, vs.head? = some (.ref p) ∧ G' p = none ∧ H' p = some o ∧ Rt K mg G' o z0
  rs : Rs K mg H G' H' v own z
def spM (K : PySem.W.Frag) (mg : Mg) (b : Bool) (m : Mir) : Sp := fun vs H Q _ => ∃ G ds own z z0, Same G H ∧ Ar K mg G H b vs ds ∧ m ds = some (own, z, z0) ∧ ∀ v G' H', Bk K mg b vs G H own z z0 v G' H' → Q v H'
theorem Ar.length {K : PySem.W.Frag} {mg : Mg} {G H : Hp} {b : Bool} {vs : List V} {ds : List D} (h : Ar K mg G H b vs ds) : vs.length = ds.length := by
  cases h with
  | pure r => exact r.length
  | io _ _ _ r => rw [List.length_cons, List.length_cons, r.length]

def ini (b : Bool) (n : Nat) (ds : List D) : Tau := (match b, ds with
  | true, d :: ds => some (.ow d) :: ds.map fun d => some (.sh d)
  | _, ds => ds.map fun d => some (.sh d)) ++ List.replicate (n - ds.length) none
def resOp (b : Bool) (τ : Tau) : Op → Option (Bool × D)
  | .val d => some (false, d)
  | .tmp d => some (true, d)
  | .slot i => match τ[i]? with
    | some (some (.ow d)) => if b = true ∧ i = 0 then none else some (true, d)
    | some (some (.sh d)) => some (false, d)
    | _ => none
def owAt (τ : Tau) (i : Nat) : Option D := match τ[i]? with
  | some (some (.ow z)) => some z
  | _ => none
def ioOut (b : Bool) (τ : Tau) : Option D := if b = true then owAt τ 0 else some .non
def finF (b : Bool) (τ : Tau) (op : Op) : Option (Bool × D × D) := (resOp b τ op).bind fun r => (ioOut b τ).bind fun z => some (r.1, r.2, z)
def runF (b : Bool) (n k : Nat) (F : FS) (ds : List D) : Option (Bool × D × D) := if ds.length = k then (F (ini b n ds)).bind fun fl => match fl with
  | .nx τ => finF b τ (.val .non)
  | .rt op τ => finF b τ op
  | _ => none
  else none
theorem runF_len {b : Bool} {n k : Nat} {F : FS} {ds : List D} {r : Bool × D × D} (h : runF b n k F ds = some r) : ds.length = k := by
  unfold runF at h
  by_cases e : ds.length = k
  · exact e
  · rw [if_neg e] at h; cases h
section
variable {K : PySem.W.Frag} {mg : Mg}
theorem start_get {N : List PySem.Str} {vs : List V} {i : Nat} {v : V} (h : vs[i]? = some v) : (L2.start N vs)[i]? = some (some v) := by
  unfold L2.start
  have hl : i < vs.length := by
    rcases Nat.lt_or_ge i vs.length with z | z
    · exact z
    · rw [List.getElem?_eq_none z] at h; cases h
  rw [List.getElem?_append_left (by rw [List.length_map]; exact hl), List.getElem?_map, h]
  rfl
theorem shs_get {ds : List D} {i n : Nat} {c : Cell} (h : (ds.map (fun d => some (Cell.sh d)) ++ List.replicate n none)[i]? = some (some c)) : ∃ d, ds[i]? = some d ∧ c = .sh d := by
  rcases Nat.lt_or_ge i ds.length with z | z
  · rw [List.getElem?_append_left (by rw [List.length_map]; exact z), List.getElem?_map] at h
    rw [List.getElem?_eq_getElem z] at h ⊢
    have h' : some (some (Cell.sh ds[i])) = some (some c) := h
    cases h'
    exact ⟨_, rfl, rfl⟩
  · rw [List.getElem?_append_right (by rw [List.length_map]; exact z), List.getElem?_replicate] at h
    split at h <;> cases h
theorem at_ini {N : List PySem.Str} {b : Bool} {G H : Hp} {vs : List V} {ds : List D} (s : Same G H) (a : Ar K mg G H b vs ds) (hl : vs.length ≤ N.length) :
    Fr K mg (if b = true then vs.head? else none) (Rv b vs) G H G H (L2.start N vs) (ini b N.length ds) := by
  have ll : (ini b N.length ds).length ≤ (L2.start N vs).length := by
    have e := a.length
    unfold L2.start ini
    cases a with
    | pure r => simp only [List.length_append, List.length_map, List.length_replicate]; omega
    | io _ _ _ r => simp only [List.length_append, List.length_map, List.length_replicate, List.length_cons] at e hl ⊢; omega
  have key : At K mg G H (L2.start N vs) (ini b N.length ds) ∧ ∀ p, Ro (L2.start N vs) (ini b N.length ds) p → Rv b vs p := by
    cases a with
    | pure r =>
      have get : ∀ {i : Nat} {c : Cell}, (ini false N.length ds)[i]? = some (some c) → ∃ d, ds[i]? = some d ∧ c = .sh d := fun {i c} h => shs_get (by unfold ini at h; exact h)
      refine ⟨⟨s, fun i d h => ?_, fun i d h => ?_, fun i j p d e h => ?_, ll⟩, fun p ⟨i, d, h, _⟩ => ?_⟩
      · obtain ⟨d', h1, h2⟩ := get h
        cases h2
        obtain ⟨v, h3, h4⟩ := r.get h1
        exact ⟨v, start_get h3, h4⟩
      · obtain ⟨_, _, z⟩ := get h; cases z
      · obtain ⟨_, _, z⟩ := get h; cases z
      · obtain ⟨_, _, z⟩ := get h; cases z
    | @io p o d0 vs ds g h rt r =>
      have get : ∀ {i : Nat} {c : Cell}, (ini true N.length (d0 :: ds))[i]? = some (some c) → (i = 0 ∧ c = .ow d0) ∨ ∃ j d, i = j + 1 ∧ ds[j]? = some d ∧ c = .sh d := fun {i c} h => by
        unfold ini at h
        cases i with
        | zero => cases h; exact .inl ⟨rfl, rfl⟩
        | succ j =>
          obtain ⟨d, h1, h2⟩ := shs_get (ds := ds) (i := j) (n := N.length - (d0 :: ds).length) (c := c) h
          exact .inr ⟨j, d, rfl, h1, h2⟩
      have z0 : (L2.start N (V.ref p :: vs))[0]? = some (some (.ref p)) := start_get rfl
      refine ⟨⟨s, fun i d h => ?_, fun i d hi => ?_, fun i j q d e hi hj pi pj => ?_, ll⟩, fun q ⟨i, d, hi, pi⟩ => ?_⟩
      · rcases get h with ⟨_, z⟩ | ⟨j, d', rfl, h1, h2⟩
        · cases z
        · cases h2
          obtain ⟨v, h3, h4⟩ := r.get h1
          exact ⟨v, start_get (by simpa using h3), h4⟩
      · rcases get hi with ⟨rfl, z⟩ | ⟨j, d', rfl, h1, h2⟩
        · cases z
          exact ⟨p, o, z0, g, h, rt⟩
        · cases h2
      · rcases get hi with ⟨rfl, z⟩ | ⟨k, d', rfl, h1, h2⟩
        · rcases get hj with ⟨rfl, z⟩ | ⟨k, d', rfl, h1, h2⟩
          · rfl
          · cases h2
        · cases h2
      · rcases get hi with ⟨rfl, z⟩ | ⟨k, d', rfl, h1, h2⟩
        · rw [z0] at pi
          cases pi
          exact ⟨rfl, rfl⟩
        · cases h2
  obtain ⟨A, ro⟩ := key
  refine ⟨A, Same.refl _, fun _ h => h, fun _ _ _ h => h, fun _ _ _ _ h => h, fun q h => .inl (ro q h), fun v e => ?_, ll⟩
  by_cases hb : b = true
  · rw [if_pos hb] at e
    cases vs with
    | nil => cases e
    | cons w ws => cases e; exact start_get rfl
  · rw [if_neg hb] at e; cases e
theorem fin_bk {b : Bool} {G H G' H' : Hp} {vs : List V} {σ : L2.St} {τ : Tau} {op : Op} {own : Bool} {z z0 : D} {v : V} (F : Fr K mg (if b = true then vs.head? else none) (Rv b vs) G H G' H' σ τ) (hv : b = true → ∃ w, vs.head? = some w)
    (o : Or K mg H G' H' σ τ v op) (e : finF b τ op = some (own, z, z0)) : Bk K mg b vs G H own z z0 v G' H' := by
  obtain ⟨⟨own', z'⟩, e1, e⟩ := bind_some' e
  obtain ⟨z0', e2, e⟩ := bind_some' e
  cases e
  have slot0 : b = true → ∃ p o, vs.head? = some (.ref p) ∧ σ[0]? = some (some (.ref p)) ∧ τ[0]? = some (some (.ow z0)) ∧ G' p = none ∧ H' p = some o ∧ Rt K mg G' o z0 := fun hb => by
    unfold ioOut at e2
    rw [if_pos hb] at e2
    unfold owAt at e2
    split at e2
    · rename_i h0
      cases e2
      obtain ⟨p, o, a1, a2, a3, a4⟩ := F.at'.ow 0 _ h0
      obtain ⟨w, hw⟩ := hv hb
      have := F.pr w (by rw [if_pos hb]; exact hw)
      rw [a1] at this
      cases this
      exact ⟨p, o, hw, a1, h0, a2, a3, a4⟩
    · cases e2
  refine ⟨F.gg, F.at'.gh, F.kp, F.hh, F.gf, fun hb => let ⟨p, o, h1, _, _, h2, h3, h4⟩ := slot0 hb; ⟨p, o, h1, h2, h3, h4⟩, ?_⟩
  cases o with
  | val r => cases e1; exact .old r
  | tmp a1 a2 a3 a4 n => cases e1; exact .new rfl a1 a2 a3 a4
  | @slot _ i h =>
    unfold resOp at e1
    dsimp only at e1
    split at e1
    · rename_i d hi
      split at e1
      · cases e1
      · rename_i nb
        cases e1
        obtain ⟨p, o, a1, a2, a3, a4⟩ := F.at'.ow i _ hi
        rw [h] at a1
        cases a1
        refine .new rfl ?_ a2 a3 a4
        rcases F.rr p ⟨i, _, hi, h⟩ with ⟨hb, hp⟩ | hp
        · obtain ⟨q, o', h1, h2, h3, _⟩ := slot0 hb
          rw [h1] at hp
          cases hp
          exact absurd ⟨hb, F.at'.ap i 0 _ _ _ hi h3 h h2⟩ nb
        · exact hp
    · rename_i d hi
      cases e1
      obtain ⟨w, a1, a2⟩ := F.at'.sh i _ hi
      rw [h] at a1
      cases a1
      exact .old a2
    · cases e1
/-- A DEF: its body by rules; its promise is its mirror -/
theorem jfun {P : Program} {w : World} {base : Heap} {x qual : PySem.Str} {st : Stmt} {f : Addr} {fd : FuncData} {N ps : List PySem.Str} {k n np : Nat} {b : Bool} {F : FS} {m : Mir} (hm : m = runF b n np F) (hn : n = N.length) (hnp : np = ps.length) (Fn : Fun K x qual st f fd) (S : FnScope N ps (defScope st))
    (body : ∀ (cdv : Value) (A : Around) (outer : List Env) (s : Shared) (H : Hp) (E : XK), Room k (A.deeper (envOfC qual (defScope st) s.heap.objs.size f cdv)) →
      ∃ t, JSs (cxOf CX0 P w K mg base N qual (defScope st) f cdv A outer s H E).nox b (defBody st) t F) :
    FnOk P w K mg base CX0 (k + 1) f fd ps (spM K mg b m) := by
  subst hm hn hnp
  have hN : ps.length ≤ N.length := by
    have h := congrArg List.length S.pre
    rw [List.length_take] at h
    omega
  refine Fn.ok S (fun vs H Q E h => ?_) (fun cdv A outer s H vs Q E hr h => ?_)
  · obtain ⟨G, ds, own, z, z0, _, a, e, _⟩ := h
    rw [a.length, runF_len e]
  · obtain ⟨G, ds, own, z, z0, sm, a, e, q⟩ := h
    obtain ⟨t, hs⟩ := body cdv A outer s H E hr
    have hlen := runF_len e
    have hb : b = true → ∃ w, vs.head? = some w := fun hb => by
      subst hb
      cases a with
      | io _ _ _ _ => exact ⟨_, rfl⟩
    unfold runF at e
    rw [if_pos hlen] at e
    obtain ⟨fl, e1, e⟩ := bind_some' e
    have F0 := at_ini (N := N) sm a (by rw [a.length, hlen]; exact hN)
    refine ⟨t, hs.ps, hs.rs _ _ _ _ _ _ _ _ _ fl (fun hb' => by rw [hb']; rfl) F0 e1 ?_⟩
    cases fl with
    | nx τ' => exact fun σ' G' H' F' => q _ G' H' (fin_bk F' hb (.val .non) e)
    | rt op τ' => exact fun v σ' G' H' F' o => q v G' H' (fin_bk F' hb o e)
    | bk τ' => cases e
    | ct τ' => cases e
end

/-! ### calls -/
def mkOp (own : Bool) (z : D) : Op := if own = true then .tmp z else .val z
def fCall (m : Mir) (fa : FA) (τ : Tau) : Option (Op × Tau) := (fa τ).bind fun a => (m a.1).bind fun r => some (mkOp r.1 r.2.1, a.2)
/-- the first argument is handed over to be changed -/
def ioCall (m : Mir) (o : Op) (ds : List D) (τ : Tau) : Option (Op × Tau) := match o with
  | .slot i => match τ[i]? with
    | some (some (.ow d0)) => (m (d0 :: ds)).bind fun r => some (mkOp r.1 r.2.1, τ.set i (some (.ow r.2.2)))
    | _ => none
  | .tmp d0 => (m (d0 :: ds)).bind fun r => some (mkOp r.1 r.2.1, τ)
  | .val _ => none
def fCallIo (m : Mir) (fe : FE) (fa : FA) (τ : Tau) : Option (Op × Tau) := (fe τ).bind fun o => (fa o.2).bind fun a => ioCall m o.1 a.1 a.2
section
variable {K : PySem.W.Frag} {mg : Mg} {m : Mir}
theorem rs_or {G H G' H' : Hp} {σ : L2.St} {τ τ' : Tau} {v : V} {own : Bool} {z : D} (A : At K mg G H σ τ) (ro : ∀ b, Ro σ τ' b → Ro σ τ b) (r : Rs K mg H G' H' v own z) : Or K mg H G' H' σ τ' v (mkOp own z) := by
  cases r with
  | old r => exact .val r
  | new e a1 a2 a3 a4 =>
    subst e
    refine .tmp a1 a2 a3 a4 fun h => ?_
    obtain ⟨_, o, e⟩ := A.root (ro _ h)
    rw [a1] at e
    cases e
/-- behind a call that changes nothing -/
theorem bk_go {vs : List V} {G H G' H' : Hp} {σ : L2.St} {τ : Tau} {own : Bool} {z z0 : D} {v : V} (A : At K mg G H σ τ) (B : Bk K mg false vs G H own z z0 v G' H') : Go K mg σ τ G H τ G' H' := by
  have nr : ∀ p, ¬ Rv false vs p := fun p ⟨h, _⟩ => nomatch h
  exact ⟨⟨B.gh, fun i d h => let ⟨v, a, r⟩ := A.sh i d h; ⟨v, a, r.mono B.gg⟩, fun i d h => let ⟨p, o, a, g, c, r⟩ := A.ow i d h; ⟨p, o, a, B.gf _ _ (nr _) c g, B.hh _ _ (nr _) c, r.mono B.gg⟩, A.ap, A.ll⟩,
    B.gg, B.kp, fun b o _ h => B.hh b o (nr b) h, fun b o _ h g => B.gf b o (nr b) h g, fun _ d h => ⟨d, h⟩, rfl⟩
/-- behind a call that changes the root of slot i -/
theorem bk_goIo {p : Addr} {vs : List V} {G H G' H' : Hp} {σ : L2.St} {τ : Tau} {own : Bool} {d z z0 : D} {v : V} {i : Nat} (A : At K mg G H σ τ) (hi : τ[i]? = some (some (.ow d))) (hp : σ[i]? = some (some (.ref p))) (B : Bk K mg true (.ref p :: vs) G H own z z0 v G' H') :
    Go K mg σ τ G H (τ.set i (some (.ow z0))) G' H' ∧ ∀ b, Ro σ (τ.set i (some (.ow z0))) b → Ro σ τ b := by
  have nr : ∀ q, q ≠ p → ¬ Rv true (V.ref p :: vs) q := fun q n ⟨_, h⟩ => by cases h; exact n rfl
  obtain ⟨q, o', e, b1, b2, b3⟩ := B.io rfl
  cases e
  have sub : ∀ b, Ro σ (τ.set i (some (.ow z0))) b → Ro σ τ b := fun b ⟨j, x, hj, pj⟩ => by
    rcases get_set hj with ⟨rfl, z⟩ | ⟨n, z⟩
    · exact ⟨j, d, hi, pj⟩
    · exact ⟨j, x, z, pj⟩
  refine ⟨⟨⟨B.gh, fun j x h => ?_, fun j x h => ?_, fun j k q x y hj hk pj pk => ?_, by rw [List.length_set]; exact A.ll⟩, B.gg, B.kp, fun b o n h => B.hh b o (nr b fun e => n ⟨i, d, hi, by rw [e]; exact hp⟩) h, fun b o n h g => B.gf b o (nr b fun e => n ⟨i, d, hi, by rw [e]; exact hp⟩) h g, fun j x hj => ?_, List.length_set ..⟩, sub⟩
  · rcases get_set h with ⟨rfl, z⟩ | ⟨n, z⟩
    · cases z
    · obtain ⟨v, a, r⟩ := A.sh j x z
      exact ⟨v, a, r.mono B.gg⟩
  · rcases get_set h with ⟨rfl, z⟩ | ⟨n, z⟩
    · cases z
      exact ⟨p, o', hp, b1, b2, b3⟩
    · obtain ⟨q, o, a, g, c, r⟩ := A.ow j x z
      have nq : q ≠ p := fun e => n (A.ap j i p x d z hi (by rw [← e]; exact a) hp)
      exact ⟨q, o, a, B.gf _ _ (nr q nq) c g, B.hh _ _ (nr q nq) c, r.mono B.gg⟩
  · have back : ∀ {j : Nat} {x : D}, (τ.set i (some (.ow z0)))[j]? = some (some (Cell.ow x)) → ∃ x', τ[j]? = some (some (Cell.ow x')) := fun {j x} h => by
      rcases get_set h with ⟨rfl, z⟩ | ⟨n, z⟩
      · exact ⟨d, hi⟩
      · exact ⟨x, z⟩
    obtain ⟨x', hj'⟩ := back hj
    obtain ⟨y', hk'⟩ := back hk
    exact A.ap j k q x' y' hj' hk' pj pk
  · rcases get_set hj with ⟨rfl, z⟩ | ⟨n, z⟩
    · exact ⟨d, hi⟩
    · exact ⟨x, z⟩
/-- behind a call that changes a new root that is then dropped -/
theorem bk_goTmp {p : Addr} {vs : List V} {G0 H0 G H G' H' : Hp} {σ : L2.St} {τ0 τ : Tau} {own : Bool} {z z0 : D} {v : V} (g : Go K mg σ τ0 G0 H0 τ G H) (h0 : H0 p = none) (n0 : ¬ Ro σ τ p) (B : Bk K mg true (.ref p :: vs) G H own z z0 v G' H') :
    Go K mg σ τ0 G0 H0 τ G' H' := by
  have A := g.at'
  have nr : ∀ q, q ≠ p → ¬ Rv true (V.ref p :: vs) q := fun q n ⟨_, h⟩ => by cases h; exact n rfl
  have np : ∀ b o, H0 b = some o → b ≠ p := fun b o h e => by rw [e, h0] at h; cases h
  refine ⟨⟨B.gh, fun j x h => ?_, fun j x h => ?_, A.ap, A.ll⟩, g.gg.trans B.gg, fun b h => g.kp b (B.kp b h), fun b o n h => B.hh b o (nr b (np b o h)) (g.hh b o n h), fun b o n h e => B.gf b o (nr b (np b o h)) (g.hh b o n h) (g.gf b o n h e), g.ri, g.tl⟩
  · obtain ⟨v, a, r⟩ := A.sh j x h
    exact ⟨v, a, r.mono B.gg⟩
  · obtain ⟨q, o, a, g1, c, r⟩ := A.ow j x h
    have nq : q ≠ p := fun e => n0 ⟨j, x, h, by rw [← e]; exact a⟩
    exact ⟨q, o, a, B.gf _ _ (nr q nq) c g1, B.hh _ _ (nr q nq) c, r.mono B.gg⟩
/-- THE CALL with a first argument that may be changed: op's value x, the rest vs -/
theorem io_call {G0 H0 G H : Hp} {σ : L2.St} {τ0 τ τ' : Tau} {x : V} {vs : List V} {o op : Op} {ds : List D} {Q : VK} {E : XK} (g : Go K mg σ τ0 G0 H0 τ G H) (ox : Or K mg H0 G H σ τ x o) (r : RpL K mg G vs ds) (e : ioCall m o ds τ = some (op, τ'))
    (q : ∀ v G' H', Go K mg σ τ0 G0 H0 τ' G' H' → Or K mg H0 G' H' σ τ' v op → Q v H') : spM K mg true m (x :: vs) H Q E := by
  have A := g.at'
  cases ox with
  | val _ => cases e
  | tmp a b c rt n =>
    obtain ⟨⟨own, z, z0⟩, e1, e⟩ := bind_some' e
    cases e
    exact ⟨G, _, own, z, z0, A.gh, .io b c rt r, e1, fun v G' H' B => q v G' H' (bk_goTmp g a n B) ((rs_or A (fun _ h => h) B.rs).weak g.kp)⟩
  | @slot _ i h =>
    unfold ioCall at e
    dsimp only at e
    split at e
    · rename_i d0 hi
      obtain ⟨⟨own, z, z0⟩, e1, e⟩ := bind_some' e
      cases e
      obtain ⟨p, o', a, b, c, rt⟩ := A.ow i d0 hi
      rw [h] at a
      cases a
      refine ⟨G, _, own, z, z0, A.gh, .io b c rt r, e1, fun v G' H' B => ?_⟩
      obtain ⟨g2, ro⟩ := bk_goIo A hi h B
      exact q v G' H' (g.trans g2) ((rs_or A ro B.rs).weak g.kp)
    · cases e
theorem re_call {E : XK} {t : TA} {f : FA} (hr : RA K mg t f) : RE K mg (tCall (spM K mg false m) [] E t) (fCall m f) := fun σ τ G H op τ' Q A e q => by
  obtain ⟨⟨ds, τ1⟩, e1, e⟩ := bind_some' e
  obtain ⟨⟨own, z, z0⟩, e2, e⟩ := bind_some' e
  cases e
  refine hr σ τ G H ds _ _ A e1 fun vs G1 H1 g1 r1 => ?_
  rw [List.append_nil]
  refine ⟨G1, ds, own, z, z0, g1.at'.gh, .pure r1, e2, fun v G2 H2 B => ?_⟩
  exact q v G2 H2 (g1.trans (bk_go g1.at' B)) ((rs_or g1.at' (fun _ h => h) B.rs).weak g1.kp)
theorem re_callIo {E : XK} {te : TE} {fe : FE} {t : TA} {f : FA} (he : RE K mg te fe) (hr : RA K mg t f) : RE K mg (tCall (spM K mg true m) [] E (tCons te t)) (fCallIo m fe f) := fun σ τ G H op τ' Q A e q => by
  obtain ⟨⟨o, τ1⟩, e1, e⟩ := bind_some' e
  obtain ⟨⟨ds, τ2⟩, e2, e⟩ := bind_some' e
  refine he σ τ G H o τ1 _ A e1 fun x G1 H1 g1 o1 => ?_
  refine hr σ τ1 G1 H1 ds τ2 _ g1.at' e2 fun vs G2 H2 g2 r2 => ?_
  show spM K mg true m ((x :: vs) ++ []) H2 Q E
  rw [List.append_nil]
  exact io_call (g1.trans g2) (o1.step g2) r2 e q
end
section
variable {X : Cx} {k : Nat} {f : Addr} {fd : FuncData} {ps : List PySem.Str} {m : Mir} {x : PySem.Str} {p pos apos : Pos} {e o : Expr} {es : List Expr} {t : TA} {fa : FA} {te : TE} {fe : FE}
theorem je_call (F : FnOk X.prog X.w X.K X.mg X.base CX0 k f fd ps (spM X.K X.mg false m)) (hr : Room k X.A) (hg : Gl X x) (hm : X.mg x = some (.ref f)) (hk : PySem.W.keepIn X.K (.ref f) = true) (hb : Binds X.K fd ps [])
    (ha : JA X (e :: es) t fa) (hdb : (x == ("__debug__" : PySem.Str)) = false := by decide) (he : starEach (e :: es) X.env = (false, eval e X.env) :: starEach es X.env := by rfl) (hpl : (backTo pos (starEach es X.env)).any (·.1) = false := by rfl) :
    JE X (.Call (.Name x p) (e :: es) [] pos) (tCall (spM X.K X.mg false m) [] E0 t) (fCall m fa) := ⟨pe_call F hr hg hm hk hb .nil pass0 ha.pa hdb he hpl, re_call ha.ra⟩
theorem je_call0 (F : FnOk X.prog X.w X.K X.mg X.base CX0 k f fd ps (spM X.K X.mg false m)) (hr : Room k X.A) (hg : Gl X x) (hm : X.mg x = some (.ref f)) (hk : PySem.W.keepIn X.K (.ref f) = true) (hb : Binds X.K fd ps [])
    (hdb : (x == ("__debug__" : PySem.Str)) = false := by decide) : JE X (.Call (.Name x p) [] [] pos) (tCall (spM X.K X.mg false m) [] E0 tNil) (fCall m aNil) := ⟨pe_call0 F hr hg hm hk hb .nil pass0 hdb, re_call ra_nil⟩
theorem je_callIo (F : FnOk X.prog X.w X.K X.mg X.base CX0 k f fd ps (spM X.K X.mg true m)) (hr : Room k X.A) (hg : Gl X x) (hm : X.mg x = some (.ref f)) (hk : PySem.W.keepIn X.K (.ref f) = true) (hb : Binds X.K fd ps [])
    (he1 : JE X e te fe) (ha : JA X es t fa) (hdb : (x == ("__debug__" : PySem.Str)) = false := by decide) (he : starEach (e :: es) X.env = (false, eval e X.env) :: starEach es X.env := by rfl) (hpl : (backTo pos (starEach es X.env)).any (·.1) = false := by rfl) :
    JE X (.Call (.Name x p) (e :: es) [] pos) (tCall (spM X.K X.mg true m) [] E0 (tCons te t)) (fCallIo m fe fa) := ⟨pe_call F hr hg hm hk hb .nil pass0 (pa_cons he1.pe ha.pa he) hdb he hpl, re_callIo he1.re ha.ra⟩
end

/-! ### built-in calls -/
def fCB (g : List D → Option Op) (fp : FP) (τ : Tau) : Option (Op × Tau) := (fp τ).bind fun a => (derefL a.2 a.1).bind fun ds => (g ds).bind fun op => some (op, a.2)
def RC (K : PySem.W.Frag) (mg : Mg) (r : List V → Hp → VK → Prop) (g : List D → Option Op) : Prop := ∀ (G H : Hp) (xs : List V) (ds : List D) (op : Op) (Q : VK), Same G H → PkL K mg G H xs ds → g ds = some op →
  (∀ v G' H', Nw K mg G H G' H' → On K mg H G' H' v op → Q v H') → r xs H Q
theorem re_cb {K : PySem.W.Frag} {mg : Mg} {r : List V → Hp → VK → Prop} {g : List D → Option Op} {t : TA} {fp : FP} (hr : RC K mg r g) (ha : RPa K mg t fp) : RE K mg (tCB r t) (fCB g fp) := fun σ τ G H op τ' Q A e q => by
  obtain ⟨⟨ops, τ1⟩, e1, e⟩ := bind_some' e
  obtain ⟨ds, e2, e⟩ := bind_some' e
  obtain ⟨z, e3, e⟩ := bind_some' e
  cases e
  refine ha σ τ G H ops _ _ A e1 fun vs G1 H1 g1 o1 => ?_
  refine hr G1 H1 vs ds _ Q g1.at'.gh (o1.pk g1.at' e2) e3 fun v G3 H3 n o => ?_
  exact q v G3 H3 (g1.trans (n.go g1.at')) ((o.or g1.at').weak g1.kp)
section
variable {X : Cx} {id T : String} {r : List V → Hp → VK → Prop} {g : List D → Option Op} {x : PySem.Str} {p pos : Pos} {e : Expr} {es : List Expr} {t : TA} {fp : FP}
theorem je_cb (hc : CallR X (.builtin id) r) (hr : RC X.K X.mg r g) (hg : Gl X x) (hm : X.mg x = none) (hv : bootBuiltins x = some (.builtin id)) (ha : JP X (e :: es) t fp) (hn : x ≠ "__name__" := by decide) (hdb : (x == ("__debug__" : PySem.Str)) = false := by decide)
    (he : starEach (e :: es) X.env = (false, eval e X.env) :: starEach es X.env := by rfl) (hpl : (backTo pos (starEach es X.env)).any (·.1) = false := by rfl) : JE X (.Call (.Name x p) (e :: es) [] pos) (tCB r t) (fCB g fp) := ⟨pe_callB hc hg hm hv ha.pa hn hdb he hpl, re_cb hr ha.rp⟩
theorem je_ct (hc : CallR X (.type T) r) (hr : RC X.K X.mg r g) (hg : Gl X x) (hm : X.mg x = none) (hv : bootBuiltins x = some (.type T)) (ha : JP X (e :: es) t fp) (hn : x ≠ "__name__" := by decide) (hdb : (x == ("__debug__" : PySem.Str)) = false := by decide)
    (he : starEach (e :: es) X.env = (false, eval e X.env) :: starEach es X.env := by rfl) (hpl : (backTo pos (starEach es X.env)).any (·.1) = false := by rfl) : JE X (.Call (.Name x p) (e :: es) [] pos) (tCB r t) (fCB g fp) := ⟨pe_callTy hc hg hm hv ha.pa hn hdb he hpl, re_cb hr ha.rp⟩
end
end J
namespace J
open PySem PySem.Spec PyProof.Rows L2

/-! ### methods, new instances, properties, attributes -/
def insOk (cn mn : String) : D → Bool
  | .ins c fds => decide (c = cn) && (fds.lookup mn).isNone
  | _ => false
def fMeth (cn mn : String) (m : Mir) (fe : FE) (fa : FA) (τ : Tau) : Option (Op × Tau) := (fe τ).bind fun o => (fz o.2 o.1).bind fun d => if insOk cn mn d.1 = true then (fa d.2).bind fun a => (m (d.1 :: a.1)).bind fun r => some (mkOp r.1 r.2.1, a.2) else none
def fMethIo (cn mn : String) (m : Mir) (fe : FE) (fa : FA) (τ : Tau) : Option (Op × Tau) := (fe τ).bind fun o => (deref o.2 o.1).bind fun d => if insOk cn mn d = true then (fa o.2).bind fun a => ioCall m o.1 a.1 a.2 else none
def fMake (cn : String) (m : Mir) (fa : FA) (τ : Tau) : Option (Op × Tau) := (fa τ).bind fun a => (m (.ins cn [] :: a.1)).bind fun r => match r with
  | (false, .non, z) => some (.tmp z, a.2)
  | _ => none
def insC (cn : String) : D → Bool
  | .ins c _ => decide (c = cn)
  | _ => false
def fProp (cn : String) (m : Mir) (fe : FE) (τ : Tau) : Option (Op × Tau) := (fe τ).bind fun o => (fz o.2 o.1).bind fun d => if insC cn d.1 = true then (m [d.1]).bind fun r => some (mkOp r.1 r.2.1, d.2) else none
def fPropIo (cn : String) (m : Mir) (fe : FE) (τ : Tau) : Option (Op × Tau) := (fe τ).bind fun o => (deref o.2 o.1).bind fun d => if insC cn d = true then ioCall m o.1 [] o.2 else none
def fFld (cs : List String) (n : String) (fe : FE) (τ : Tau) : Option (Op × Tau) := (fe τ).bind fun o => (deref o.2 o.1).bind fun d => match d with
  | .ins c fds => if c ∈ cs then (fds.lookup n).bind fun z => some (.val z, o.2) else none
  | _ => none
/-- o.n = e, o an owned root -/
def putAt (cs : List String) (n : String) (d : D) (o : Op) (τ : Tau) : Option Tau := match o with
  | .slot i => match τ[i]? with
    | some (some (.ow (.ins c fds))) => if c ∈ cs ∧ fds.length < 1000 then some (τ.set i (some (.ow (.ins c (putD n d fds))))) else none
    | _ => none
  | _ => none
def sFldS (cs : List String) (n : String) (fo fe : FE) (τ : Tau) : Option Flow := (fe τ).bind fun a => (fz a.2 a.1).bind fun d => (fo d.2).bind fun o => (putAt cs n d.1 o.1 o.2).bind fun τ' => some (.nx τ')
section
variable {K : PySem.W.Frag} {mg : Mg} {m : Mir} {cn mn : String} {C : Addr} {E : XK} {te : TE} {fe : FE} {t : TA} {f : FA}
theorem insOk_ok {G H : Hp} {x : V} {d : D} (gC : mg (os cn) = some (.ref C)) (s : Same G H) (p : Pk K mg G H x d) (h : insOk cn mn d = true) : ∃ a dx fs, x = .ref a ∧ H a = some (.ins C dx fs) ∧ fs.lookup (os mn) = none := by
  cases d <;> first | (cases h; done) | skip
  rename_i c fds
  unfold insOk at h
  simp only [Bool.and_eq_true, decide_eq_true_eq, Option.isNone_iff_eq_none] at h
  obtain ⟨rfl, h⟩ := h
  obtain ⟨a, C', dx, fs, rfl, hm, ha, r⟩ := p.ins s
  rw [gC] at hm
  cases hm
  exact ⟨a, dx, fs, rfl, ha, r.look0 h⟩
theorem insC_ok {G H : Hp} {x : V} {d : D} (gC : mg (os cn) = some (.ref C)) (s : Same G H) (p : Pk K mg G H x d) (h : insC cn d = true) : ∃ a dx fs, x = .ref a ∧ H a = some (.ins C dx fs) := by
  cases d <;> first | (cases h; done) | skip
  rename_i c fds
  unfold insC at h
  obtain rfl := of_decide_eq_true h
  obtain ⟨a, C', dx, fs, rfl, hm, ha, r⟩ := p.ins s
  rw [gC] at hm
  cases hm
  exact ⟨a, dx, fs, rfl, ha⟩
theorem re_meth (gC : mg (os cn) = some (.ref C)) (he : RE K mg te fe) (hr : RA K mg t f) : RE K mg (tMeth C (os mn) (spM K mg false m) [] E te t) (fMeth cn mn m fe f) := fun σ τ G H op τ' Q A e q => by
  obtain ⟨⟨o, τ1⟩, e1, e⟩ := bind_some' e
  obtain ⟨⟨d, τ2⟩, e2, e⟩ := bind_some' e
  by_cases hi : insOk cn mn d = true
  · rw [if_pos hi] at e
    obtain ⟨⟨ds, τ3⟩, e3, e⟩ := bind_some' e
    obtain ⟨⟨own, z, z0⟩, e4, e⟩ := bind_some' e
    cases e
    refine he σ τ G H o τ1 _ A e1 fun x G1 H1 g1 o1 => ?_
    obtain ⟨G2, g2, s2, r2⟩ := o1.fz g1 e2
    obtain ⟨a, dx, fs, rfl, ha, hl⟩ := insOk_ok gC g2.at'.gh (Pk.frz r2 : Pk K mg G2 H1 x d) hi
    refine ⟨a, dx, fs, rfl, ha, hl, ?_⟩
    refine hr σ τ2 G2 H1 ds _ _ g2.at' e3 fun vs G3 H3 g3 r3 => ?_
    show spM K mg false m (.ref a :: (vs ++ [])) H3 Q E
    rw [List.append_nil]
    have g := g2.trans g3
    exact ⟨G3, d :: ds, own, z, z0, g3.at'.gh, .pure (.cons (r2.mono g3.gg) r3), e4, fun v G4 H4 B => q v G4 H4 (g.trans (bk_go g3.at' B)) ((rs_or g3.at' (fun _ h => h) B.rs).weak g.kp)⟩
  · rw [if_neg hi] at e
    cases e
theorem re_methIo (gC : mg (os cn) = some (.ref C)) (he : RE K mg te fe) (hr : RA K mg t f) : RE K mg (tMeth C (os mn) (spM K mg true m) [] E te t) (fMethIo cn mn m fe f) := fun σ τ G H op τ' Q A e q => by
  obtain ⟨⟨o, τ1⟩, e1, e⟩ := bind_some' e
  obtain ⟨d, e2, e⟩ := bind_some' e
  by_cases hi : insOk cn mn d = true
  · rw [if_pos hi] at e
    obtain ⟨⟨ds, τ3⟩, e3, e⟩ := bind_some' e
    refine he σ τ G H o τ1 _ A e1 fun x G1 H1 g1 o1 => ?_
    obtain ⟨a, dx, fs, rfl, ha, hl⟩ := insOk_ok gC g1.at'.gh (o1.pk g1.at' e2) hi
    refine ⟨a, dx, fs, rfl, ha, hl, ?_⟩
    refine hr σ τ1 G1 H1 ds τ3 _ g1.at' e3 fun vs G3 H3 g3 r3 => ?_
    show spM K mg true m (.ref a :: (vs ++ [])) H3 Q E
    rw [List.append_nil]
    exact io_call (g1.trans g3) (o1.step g3) r3 e q
  · rw [if_neg hi] at e
    cases e
theorem re_make (gC : mg (os cn) = some (.ref C)) (hr : RA K mg t f) : RE K mg (tMake C (spM K mg true m) [] E t) (fMake cn m f) := fun σ τ G H op τ' Q A e q => by
  obtain ⟨⟨ds, τ1⟩, e1, e⟩ := bind_some' e
  obtain ⟨r, e2, e⟩ := bind_some' e
  dsimp only at e2 e
  split at e
  · rename_i z0
    cases e
    refine hr σ τ G H ds _ _ A e1 fun vs G1 H1 g1 r1 x dx nx ndx nex => ?_
    rw [List.append_nil]
    have s1 : Same H1 (upd (upd H1 dx (.own x)) x (.ins C dx [])) := fun b o h => by
      rw [upd_ne (ne_of_none h nx), upd_ne (ne_of_none h ndx)]; exact h
    have A1 := g1.at'
    refine ⟨G1, _, false, .non, z0, A1.gh.trans s1, .io (A1.gh.free nx) upd_same (.ins gC .nil) r1, e2, fun v G2 H2 B => ?_⟩
    have ev : v = .non := by
      have h := B.rs
      cases h with
      | old r => cases r; rfl
    refine ⟨ev, ?_⟩
    obtain ⟨q', o', e', b1, b2, b3⟩ := B.io rfl
    cases e'
    have nr : ∀ b o, H1 b = some o → ¬ Rv true (V.ref x :: vs) b := fun b o h ⟨_, z⟩ => by
      cases z
      rw [nx] at h; cases h
    have g2 : Go K mg σ _ G1 H1 _ G2 H2 :=
      ⟨⟨B.gh, fun i d h => let ⟨v, a, r⟩ := A1.sh i d h; ⟨v, a, r.mono B.gg⟩, fun i d h => let ⟨p, o, a, g, c, r⟩ := A1.ow i d h; ⟨p, o, a, B.gf _ _ (nr _ _ c) (s1 _ _ c) g, B.hh _ _ (nr _ _ c) (s1 _ _ c), r.mono B.gg⟩, A1.ap, A1.ll⟩,
        B.gg, fun b h => s1.free (B.kp b h), fun b o _ h => B.hh b o (nr b o h) (s1 _ _ h), fun b o _ h g => B.gf b o (nr b o h) (s1 _ _ h) g, fun _ d h => ⟨d, h⟩, rfl⟩
    refine q _ G2 H2 (g1.trans g2) (.tmp (g1.kp _ nx) b1 b2 b3 fun z => ?_)
    obtain ⟨_, o, e⟩ := A1.root z
    rw [nx] at e; cases e
  · cases e
theorem re_prop (gC : mg (os cn) = some (.ref C)) (he : RE K mg te fe) : RE K mg (tProp C (spM K mg false m) [] E te) (fProp cn m fe) := fun σ τ G H op τ' Q A e q => by
  obtain ⟨⟨o, τ1⟩, e1, e⟩ := bind_some' e
  obtain ⟨⟨d, τ2⟩, e2, e⟩ := bind_some' e
  by_cases hi : insC cn d = true
  · rw [if_pos hi] at e
    obtain ⟨⟨own, z, z0⟩, e4, e⟩ := bind_some' e
    cases e
    refine he σ τ G H o τ1 _ A e1 fun x G1 H1 g1 o1 => ?_
    obtain ⟨G2, g2, s2, r2⟩ := o1.fz g1 e2
    obtain ⟨a, dx, fs, rfl, ha⟩ := insC_ok gC g2.at'.gh (Pk.frz r2 : Pk K mg G2 H1 x d) hi
    exact ⟨a, dx, fs, rfl, ha, G2, [d], own, z, z0, g2.at'.gh, .pure (.cons r2 .nil), e4, fun v G4 H4 B => q v G4 H4 (g2.trans (bk_go g2.at' B)) ((rs_or g2.at' (fun _ h => h) B.rs).weak g2.kp)⟩
  · rw [if_neg hi] at e
    cases e
theorem re_propIo (gC : mg (os cn) = some (.ref C)) (he : RE K mg te fe) : RE K mg (tProp C (spM K mg true m) [] E te) (fPropIo cn m fe) := fun σ τ G H op τ' Q A e q => by
  obtain ⟨⟨o, τ1⟩, e1, e⟩ := bind_some' e
  obtain ⟨d, e2, e⟩ := bind_some' e
  by_cases hi : insC cn d = true
  · rw [if_pos hi] at e
    refine he σ τ G H o τ1 _ A e1 fun x G1 H1 g1 o1 => ?_
    obtain ⟨a, dx, fs, rfl, ha⟩ := insC_ok gC g1.at'.gh (o1.pk g1.at' e2) hi
    exact ⟨a, dx, fs, rfl, ha, io_call g1 o1 .nil e q⟩
  · rw [if_neg hi] at e
    cases e
/-- what the text's classes are -/
def ClsOk (K : PySem.W.Frag) (mg : Mg) (cs : List String) (n : String) : Prop := ∀ c ∈ cs, ∀ C, mg (os c) = some (.ref C) → Cls K C ∧ NoAttr K C (os n)
theorem re_fld {cs : List String} {n : String} (T : ClsOk K mg cs n) (he : RE K mg te fe) : RE K mg (tFld K te (os n)) (fFld cs n fe) := fun σ τ G H op τ' Q A e q => by
  obtain ⟨⟨o, τ1⟩, e1, e⟩ := bind_some' e
  obtain ⟨d, e2, e⟩ := bind_some' e
  dsimp only at e2 e
  cases d <;> first | (cases e; done) | skip
  rename_i c fds
  dsimp only at e
  by_cases hc : c ∈ cs
  · rw [if_pos hc] at e
    obtain ⟨z, e3, e⟩ := bind_some' e
    cases e
    refine he σ τ G H o _ _ A e1 fun x G1 H1 g1 o1 => ?_
    obtain ⟨a, C, dx, fs, rfl, hm, ha, r⟩ := (o1.pk g1.at' e2).ins g1.at'.gh
    obtain ⟨v, hv, rv⟩ := r.look e3
    obtain ⟨T1, T2⟩ := T c hc C hm
    exact ⟨a, C, dx, fs, v, rfl, ha, T1, T2, hv, q v G1 H1 g1 (.val rv)⟩
  · rw [if_neg hc] at e; cases e
/-- an owned root is changed in place -/
theorem At.put {G H : Hp} {σ : L2.St} {τ : Tau} (A : At K mg G H σ τ) {i : Nat} {p : Addr} {d d' : D} {o' : HO} (hi : τ[i]? = some (some (.ow d))) (hp : σ[i]? = some (some (.ref p))) (r : Rt K mg G o' d') : At K mg G (upd H p o') σ (τ.set i (some (.ow d'))) ∧ ∀ b, Ro σ (τ.set i (some (.ow d'))) b → Ro σ τ b := by
  obtain ⟨g0, _⟩ := A.root ⟨i, d, hi, hp⟩
  have np : ∀ b o, G b = some o → b ≠ p := fun b o h e => by rw [e, g0] at h; cases h
  have sub : ∀ b, Ro σ (τ.set i (some (.ow d'))) b → Ro σ τ b := fun b ⟨j, x, hj, pj⟩ => by
    rcases get_set hj with ⟨rfl, z⟩ | ⟨n, z⟩
    · exact ⟨j, d, hi, pj⟩
    · exact ⟨j, x, z, pj⟩
  refine ⟨⟨fun b o h => by rw [upd_ne (np b o h)]; exact A.gh _ _ h, fun j x h => ?_, fun j x h => ?_, fun j k q x y hj hk pj pk => ?_, by rw [List.length_set]; exact A.ll⟩, sub⟩
  · rcases get_set h with ⟨rfl, z⟩ | ⟨n, z⟩
    · cases z
    · exact A.sh j x z
  · rcases get_set h with ⟨rfl, z⟩ | ⟨n, z⟩
    · cases z
      exact ⟨p, o', hp, g0, upd_same, r⟩
    · obtain ⟨q, o, a, g, c, r⟩ := A.ow j x z
      exact ⟨q, o, a, g, by rw [upd_ne (fun e => n (A.ap j i p x d z hi (by rw [← e]; exact a) hp))]; exact c, r⟩
  · have back : ∀ {j : Nat} {x : D}, (τ.set i (some (.ow d')))[j]? = some (some (Cell.ow x)) → ∃ x', τ[j]? = some (some (Cell.ow x')) := fun {j x} h => by
      rcases get_set h with ⟨rfl, z⟩ | ⟨n, z⟩
      · exact ⟨d, hi⟩
      · exact ⟨x, z⟩
    obtain ⟨x', hj'⟩ := back hj
    obtain ⟨y', hk'⟩ := back hk
    exact A.ap j k q x' y' hj' hk' pj pk
theorem Go.put {G H : Hp} {σ : L2.St} {τ : Tau} (A : At K mg G H σ τ) {i : Nat} {p : Addr} {d d' : D} {o' : HO} (hi : τ[i]? = some (some (.ow d))) (hp : σ[i]? = some (some (.ref p))) (r : Rt K mg G o' d') : Go K mg σ τ G H (τ.set i (some (.ow d'))) G (upd H p o') := by
  obtain ⟨A', sub⟩ := A.put hi hp r
  obtain ⟨_, o, ho⟩ := A.root ⟨i, d, hi, hp⟩
  have np : ∀ b, ¬ Ro σ τ b → b ≠ p := fun b n e => n ⟨i, d, hi, by rw [e]; exact hp⟩
  refine ⟨A', Same.refl _, fun b h => ?_, fun b x n h => by rw [upd_ne (np b n)]; exact h, fun _ _ _ _ h => h, fun j x hj => ?_, List.length_set ..⟩
  · by_cases e : b = p
    · rw [e, upd_same] at h; cases h
    · rwa [upd_ne e] at h
  · rcases get_set hj with ⟨rfl, z⟩ | ⟨n, z⟩
    · exact ⟨d, hi⟩
    · exact ⟨x, z⟩
theorem rs_fld {b : Bool} {cs : List String} {n : String} {to : TE} {fo : FE} (T : ClsOk K mg cs n) (ho : RE K mg to fo) (he : RE K mg te fe) : RS K mg b (sFld K to te (os n)) (sFldS cs n fo fe) := fun io R0 G0 H0 G H σ τ D fl hb F e k => by
  obtain ⟨⟨oa, τ1⟩, e1, e⟩ := bind_some' e
  obtain ⟨⟨d, τ2⟩, e2, e⟩ := bind_some' e
  obtain ⟨⟨oo, τ3⟩, e3, e⟩ := bind_some' e
  obtain ⟨τ4, e4, e⟩ := bind_some' e
  cases e
  refine he σ τ G H oa τ1 _ F.at' e1 fun y G1 H1 g1 o1 => ?_
  obtain ⟨G2, g2, s2, r2⟩ := o1.fz g1 e2
  refine ho σ τ2 G2 H1 oo τ3 _ g2.at' e3 fun x G3 H3 g3 o3 => ?_
  cases o3 with
  | val _ => cases e4
  | tmp _ _ _ _ _ => cases e4
  | @slot _ i hs =>
    unfold putAt at e4
    dsimp only at e4
    split at e4
    · rename_i c fds hi
      obtain ⟨⟨hc, hl⟩, rfl⟩ := if_get e4
      obtain ⟨p, o, a1, a2, a3, a4⟩ := g3.at'.ow i _ hi
      rw [hs] at a1
      cases a1
      cases a4 with
      | @ins C dx _ fs _ hm r =>
        obtain ⟨T1, T2⟩ := T c hc C hm
        refine ⟨p, C, dx, fs, rfl, a3, T1, T2, by rw [r.length]; exact hl, ?_⟩
        have g := g2.trans g3
        exact k σ G3 _ (F.go (g.trans (Go.put g3.at' hi hs (.ins hm (r.put (r2.mono g3.gg))))))
    · cases e4
end
section
variable {X : Cx} {k : Nat} {f C pa : Addr} {fd : FuncData} {ps : List PySem.Str} {m : Mir} {cn mn : String} {x : PySem.Str} {p pos apos : Pos} {e o : Expr} {es : List Expr} {t : TA} {fa : FA} {te to : TE} {fe fo : FE} {pl : Sem Bool}
theorem je_meth (gC : X.mg (os cn) = some (.ref C)) (he : JE X o te fe) (c : Cls X.K C) (hm : Meth X.K C (os mn) f) (F : FnOk X.prog X.w X.K X.mg X.base CX0 k f fd ps (spM X.K X.mg false m)) (hr : Room k X.A) (hb : Binds X.K fd ps []) (ha : JA X (e :: es) t fa)
    (hst : starEach (e :: es) X.env = (false, eval e X.env) :: starEach es X.env := by rfl) (hpl : (backTo pos (starEach es X.env)).any (·.1) = false := by rfl)
    (ht : eval (.Call (.Attribute o (os mn) apos) (e :: es) [] pos) X.env = (do
      let ov ← eval o X.env
      standAt apos.atName
      let (f, first) ← holding [ov] (getMethod ov (os mn) pl)
      callWith pos f first (backTo pos (starEach (e :: es) X.env)) (backToKw pos (keywordEach [] X.env))) := by rfl) :
    JE X (.Call (.Attribute o (os mn) apos) (e :: es) [] pos) (tMeth C (os mn) (spM X.K X.mg false m) [] E0 te t) (fMeth cn mn m fe fa) := ⟨pe_meth he.pe c hm F hr hb .nil pass0 ha.pa hst hpl ht, re_meth gC he.re ha.ra⟩
theorem je_methIo (gC : X.mg (os cn) = some (.ref C)) (he : JE X o te fe) (c : Cls X.K C) (hm : Meth X.K C (os mn) f) (F : FnOk X.prog X.w X.K X.mg X.base CX0 k f fd ps (spM X.K X.mg true m)) (hr : Room k X.A) (hb : Binds X.K fd ps []) (ha : JA X (e :: es) t fa)
    (hst : starEach (e :: es) X.env = (false, eval e X.env) :: starEach es X.env := by rfl) (hpl : (backTo pos (starEach es X.env)).any (·.1) = false := by rfl)
    (ht : eval (.Call (.Attribute o (os mn) apos) (e :: es) [] pos) X.env = (do
      let ov ← eval o X.env
      standAt apos.atName
      let (f, first) ← holding [ov] (getMethod ov (os mn) pl)
      callWith pos f first (backTo pos (starEach (e :: es) X.env)) (backToKw pos (keywordEach [] X.env))) := by rfl) :
    JE X (.Call (.Attribute o (os mn) apos) (e :: es) [] pos) (tMeth C (os mn) (spM X.K X.mg true m) [] E0 te t) (fMethIo cn mn m fe fa) := ⟨pe_meth he.pe c hm F hr hb .nil pass0 ha.pa hst hpl ht, re_methIo gC he.re ha.ra⟩
theorem je_meth0 (gC : X.mg (os cn) = some (.ref C)) (he : JE X o te fe) (c : Cls X.K C) (hm : Meth X.K C (os mn) f) (F : FnOk X.prog X.w X.K X.mg X.base CX0 k f fd ps (spM X.K X.mg false m)) (hr : Room k X.A) (hb : Binds X.K fd ps [])
    (ht : eval (.Call (.Attribute o (os mn) apos) [] [] pos) X.env = (do
      let ov ← eval o X.env
      standAt apos.atName
      let (f, first) ← holding [ov] (getMethod ov (os mn) pl)
      callWith pos f first (backTo pos (starEach [] X.env)) (backToKw pos (keywordEach [] X.env))) := by rfl) :
    JE X (.Call (.Attribute o (os mn) apos) [] [] pos) (tMeth C (os mn) (spM X.K X.mg false m) [] E0 te tNil) (fMeth cn mn m fe aNil) := ⟨pe_meth0 he.pe c hm F hr hb .nil pass0 ht, re_meth gC he.re ra_nil⟩
theorem je_meth0Io (gC : X.mg (os cn) = some (.ref C)) (he : JE X o te fe) (c : Cls X.K C) (hm : Meth X.K C (os mn) f) (F : FnOk X.prog X.w X.K X.mg X.base CX0 k f fd ps (spM X.K X.mg true m)) (hr : Room k X.A) (hb : Binds X.K fd ps [])
    (ht : eval (.Call (.Attribute o (os mn) apos) [] [] pos) X.env = (do
      let ov ← eval o X.env
      standAt apos.atName
      let (f, first) ← holding [ov] (getMethod ov (os mn) pl)
      callWith pos f first (backTo pos (starEach [] X.env)) (backToKw pos (keywordEach [] X.env))) := by rfl) :
    JE X (.Call (.Attribute o (os mn) apos) [] [] pos) (tMeth C (os mn) (spM X.K X.mg true m) [] E0 te tNil) (fMethIo cn mn m fe aNil) := ⟨pe_meth0 he.pe c hm F hr hb .nil pass0 ht, re_methIo gC he.re ra_nil⟩
theorem je_make (M : Mk X.K C f) (F : FnOk X.prog X.w X.K X.mg X.base CX0 k f fd ps (spM X.K X.mg true m)) (hr : Room (k + 1) X.A) (hg : Gl X (os cn)) (gC : X.mg (os cn) = some (.ref C)) (hb : Binds X.K fd ps []) (ha : JA X (e :: es) t fa)
    (hdb : (os cn == ("__debug__" : PySem.Str)) = false := by decide) (he : starEach (e :: es) X.env = (false, eval e X.env) :: starEach es X.env := by rfl) (hpl : (backTo pos (starEach es X.env)).any (·.1) = false := by rfl) :
    JE X (.Call (.Name (os cn) p) (e :: es) [] pos) (tMake C (spM X.K X.mg true m) [] E0 t) (fMake cn m fa) := ⟨pe_make M F hr hg gC hb .nil pass0 ha.pa hdb he hpl, re_make gC ha.ra⟩
theorem je_prop (gC : X.mg (os cn) = some (.ref C)) (he : JE X e te fe) (c : Cls X.K C) (hp : PropOf X.K C (os mn) pa f) (F : FnOk X.prog X.w X.K X.mg X.base CX0 k f fd ps (spM X.K X.mg false m)) (hr : Room (k + 1) X.A) (hb : Binds X.K fd ps [])
    (hab : attributeBase e (os mn) X.env (eval e X.env) = eval e X.env := by rfl) : JE X (.Attribute e (os mn) pos) (tProp C (spM X.K X.mg false m) [] E0 te) (fProp cn m fe) := ⟨pe_prop he.pe c hp F hr hb .nil pass0 hab, re_prop gC he.re⟩
theorem je_propIo (gC : X.mg (os cn) = some (.ref C)) (he : JE X e te fe) (c : Cls X.K C) (hp : PropOf X.K C (os mn) pa f) (F : FnOk X.prog X.w X.K X.mg X.base CX0 k f fd ps (spM X.K X.mg true m)) (hr : Room (k + 1) X.A) (hb : Binds X.K fd ps [])
    (hab : attributeBase e (os mn) X.env (eval e X.env) = eval e X.env := by rfl) : JE X (.Attribute e (os mn) pos) (tProp C (spM X.K X.mg true m) [] E0 te) (fPropIo cn m fe) := ⟨pe_prop he.pe c hp F hr hb .nil pass0 hab, re_propIo gC he.re⟩
theorem je_fld {K : PySem.W.Frag} {mg : Mg} {cs : List String} (T : ClsOk K mg cs mn) (he : JE X e te fe) (hab : attributeBase e (os mn) X.env (eval e X.env) = eval e X.env := by rfl) (hK : X.K = K := by rfl) (hM : X.mg = mg := by rfl) : JE X (.Attribute e (os mn) pos) (tFld K te (os mn)) (fFld cs mn fe) := by
  subst hK hM
  exact ⟨pe_fld he.pe hab, re_fld T he.re⟩
theorem js_fld {K : PySem.W.Frag} {mg : Mg} {b : Bool} {cs : List String} {pos' : Pos} (T : ClsOk K mg cs mn) (ho : JE X o to fo) (he : JE X e te fe) (hs : swapsWith e (some (.Attribute o (os mn) pos')) pos.line X.env = pure false := by rfl) (hK : X.K = K := by rfl) (hM : X.mg = mg := by rfl) :
    JS X b (.Assign [.Attribute o (os mn) pos'] e pos) (sFld K to te (os mn)) (sFldS cs mn fo fe) := by
  subst hK hM
  exact ⟨ps_fld ho.pe he.pe hs, rs_fld T ho.re he.re⟩
end
end J
namespace J
open PySem PySem.Spec PyProof.Rows L2

/-! ### what is walked -/
def iSeq (K : PySem.W.Frag) (tl : TE) : TI := fun σ H R => tl σ H fun x H1 => ∃ a, x = .ref a ∧ (((∃ xs, SqL K H1 a xs) ∧ R (Itl K a) H1) ∨ ((∃ xs, SqT K H1 a xs) ∧ R (Itt K a) H1))
theorem pi_seq {X : Cx} {tg l : Expr} {tl : TE} (hl : PE X l tl) : PI X tg l (iSeq X.K tl) := by
  refine ⟨fun pins s σ H R I h => ?_⟩
  refine thn (hl.run pins s σ H _ I h) fun v s1 ⟨x, H1, I1, r1, q1⟩ => ?_
  obtain ⟨a, e, q⟩ := q1
  subst e
  cases r1
  rcases q with ⟨⟨xs, hq⟩, q⟩ | ⟨⟨xs, hq⟩, q⟩
  · obtain ⟨its, rv, p, hz⟩ := I1.list hq
    refine wpAny_pyIter_list p.isList ?_
    refine ⟨s1.heap.objs.size, [s1.heap.objs.size], _, _, H1, rfl, I1.kept (t' := s1.toks) fun b o e => Heap.get?_push_of_some _ e, turn_list a _, ⟨_, Heap.get?_push_size _ rfl, rfl, rfl⟩, fun b hb => ?_, q⟩
    have e : b = s1.heap.objs.size := by simpa using hb
    subst e
    exact I1.fpOk (Nat.le_refl _) (I1.hok.fresh (Nat.le_refl _))
  · obtain ⟨its, rv, p, hz⟩ := I1.tuple hq
    refine wpAny_pyIter_tuple (show s1.heap.IsTuple a its.toArray from p) ?_
    refine ⟨s1.heap.objs.size, [s1.heap.objs.size], _, _, H1, rfl, I1.kept (t' := s1.toks) fun b o e => Heap.get?_push_of_some _ e, turn_tuple a _, ⟨_, Heap.get?_push_size _ rfl, rfl, rfl⟩, fun b hb => ?_, q⟩
    have e : b = s1.heap.objs.size := by simpa using hb
    subst e
    exact I1.fpOk (Nat.le_refl _) (I1.hok.fresh (Nat.le_refl _))
def iSq (fe : FE) (τ : Tau) : Option (List D × Tau) := (fe τ).bind fun o => (fz o.2 o.1).bind fun d => match d.1 with
  | .lst ds => some (ds, d.2)
  | .tup ds => some (ds, d.2)
  | _ => none
def rngD (lo hi : Int) : List D := (List.range (hi - lo).toNat).map fun (i : Nat) => .int (lo + (i : Int))
def rngOk (i : Int) : Bool := decide (-(2 ^ 62) ≤ i) && decide (i < 2 ^ 62)
def iR1 (fp : FP) (τ : Tau) : Option (List D × Tau) := (fp τ).bind fun a => (derefL a.2 a.1).bind fun ds => match ds with
  | [.int j] => if rngOk j = true then some (rngD 0 j, a.2) else none
  | _ => none
def iR2 (fp : FP) (τ : Tau) : Option (List D × Tau) := (fp τ).bind fun a => (derefL a.2 a.1).bind fun ds => match ds with
  | [.int i, .int j] => if rngOk i = true ∧ rngOk j = true then some (rngD i j, a.2) else none
  | _ => none
section
variable {K : PySem.W.Frag} {mg : Mg} {te : TE} {fe : FE} {ta : TA} {fp : FP}
theorem itr_list {a : Addr} {G : Hp} {vs : List V} {ds : List D} (h : SqL K G a vs) (r : RpL K mg G vs ds) : ItR K mg (Itl K a) G ds := fun G2 H2 s s2 => by
  have hq : SqL K H2 a vs := same_sql s2 (same_sql s h)
  refine ⟨fun i hi => ⟨vs, hq, by rw [r.length]; exact hi⟩, fun i d e => ?_⟩
  obtain ⟨v, hv, rv⟩ := r.get e
  exact ⟨⟨vs, v, hq, hv⟩, fun x H' ⟨e1, e2⟩ => by
    subst e1
    have := e2 vs hq
    rw [hv] at this
    cases this
    exact ⟨G2, Nw.refl s2, rv.mono s⟩⟩
theorem itr_tup {a : Addr} {G : Hp} {vs : List V} {ds : List D} (h : SqT K G a vs) (r : RpL K mg G vs ds) : ItR K mg (Itt K a) G ds := fun G2 H2 s s2 => by
  have hq : SqT K H2 a vs := same_sqt s2 (same_sqt s h)
  refine ⟨fun i hi => ⟨vs, hq, by rw [r.length]; exact hi⟩, fun i d e => ?_⟩
  obtain ⟨v, hv, rv⟩ := r.get e
  exact ⟨⟨vs, v, hq, hv⟩, fun x H' ⟨e1, e2⟩ => by
    subst e1
    have := e2 vs hq
    rw [hv] at this
    cases this
    exact ⟨G2, Nw.refl s2, rv.mono s⟩⟩
theorem itr_range {lo : Int} {n : Nat} {G : Hp} : ItR K mg (Itr lo n) G ((List.range n).map fun (i : Nat) => .int (lo + (i : Int))) := fun G2 H2 s s2 => by
  refine ⟨fun i hi => by rw [List.length_map, List.length_range] at hi; exact hi, fun i d e => ?_⟩
  have hi : i < n := by
    rcases Nat.lt_or_ge i n with z | z
    · exact z
    · rw [List.getElem?_eq_none (by rw [List.length_map, List.length_range]; exact z)] at e; cases e
  rw [List.getElem?_map, List.getElem?_range hi] at e
  cases e
  exact ⟨hi, fun x H' ⟨e1, e2⟩ => by
    subst e1
    subst e2
    exact ⟨G2, Nw.refl s2, .int _⟩⟩
theorem ri_seq (he : RE K mg te fe) : RI K mg (iSeq K te) (iSq fe) := fun σ τ G H ds τ' R A e q => by
  obtain ⟨⟨o, τ1⟩, e1, e⟩ := bind_some' e
  obtain ⟨⟨d, τ2⟩, e2, e⟩ := bind_some' e
  refine he σ τ G H o τ1 _ A e1 fun x G1 H1 g1 o1 => ?_
  obtain ⟨G2, g2, s2, r2⟩ := o1.fz g1 e2
  dsimp only at e
  cases d <;> first | (cases e; done) | skip
  · cases e
    cases r2 with
    | lst hq r => exact ⟨_, rfl, .inl ⟨⟨_, same_sql g2.at'.gh hq⟩, q _ G2 H1 g2 (itr_list hq r)⟩⟩
  · cases e
    cases r2 with
    | tup hq r => exact ⟨_, rfl, .inr ⟨⟨_, same_sqt g2.at'.gh hq⟩, q _ G2 H1 g2 (itr_tup hq r)⟩⟩
theorem rngOk_ok {i : Int} (h : rngOk i = true) : -(2 ^ 62) ≤ i ∧ i < 2 ^ 62 := by
  unfold rngOk at h
  simp only [Bool.and_eq_true, decide_eq_true_eq] at h
  exact h
theorem ri_r1 (ha : RPa K mg ta fp) : RI K mg (iRng1 ta) (iR1 fp) := fun σ τ G H ds τ' R A e q => by
  obtain ⟨⟨ops, τ1⟩, e1, e⟩ := bind_some' e
  obtain ⟨dd, e2, e⟩ := bind_some' e
  dsimp only at e2 e
  split at e
  · rename_i j
    obtain ⟨h, z⟩ := if_get e
    cases z
    refine ha σ τ G H ops _ _ A e1 fun vs G1 H1 g1 o1 => ?_
    have p := o1.pk g1.at' e2
    cases p with
    | cons p p' =>
      cases p'
      cases p.int
      obtain ⟨h1, h2⟩ := rngOk_ok h
      refine ⟨j, rfl, h1, h2, ?_⟩
      have it : ItR K mg (Itr 0 j.toNat) G1 (rngD 0 j) := by
        unfold rngD
        rw [Int.sub_zero]
        exact itr_range
      exact q _ G1 H1 g1 it
  · cases e
theorem ri_r2 (ha : RPa K mg ta fp) : RI K mg (iRng2 ta) (iR2 fp) := fun σ τ G H ds τ' R A e q => by
  obtain ⟨⟨ops, τ1⟩, e1, e⟩ := bind_some' e
  obtain ⟨dd, e2, e⟩ := bind_some' e
  dsimp only at e2 e
  split at e
  · rename_i i j
    obtain ⟨⟨h, h'⟩, z⟩ := if_get e
    cases z
    refine ha σ τ G H ops _ _ A e1 fun vs G1 H1 g1 o1 => ?_
    have p := o1.pk g1.at' e2
    cases p with
    | cons p p' =>
      cases p' with
      | cons p2 p3 =>
        cases p3
        cases p.int
        cases p2.int
        obtain ⟨h1, h2⟩ := rngOk_ok h
        obtain ⟨h3, h4⟩ := rngOk_ok h'
        exact ⟨i, j, rfl, ⟨h1, h2, h3, h4⟩, q _ G1 H1 g1 itr_range⟩
  · cases e
end
section
variable {X : Cx} {tg e a b : Expr} {te : TE} {fe : FE} {ta : TA} {fp : FP} {p pos : Pos}
theorem ji_seq {K : PySem.W.Frag} (he : JE X e te fe) (hK : X.K = K := by rfl) : JI X tg e (iSeq K te) (iSq fe) := by
  subst hK
  exact ⟨pi_seq he.pe, ri_seq he.re⟩
theorem ji_r1 (hg : Gl X "range") (hm : X.mg "range" = none) (ha : JP X [a] ta fp) (hs : starEach [a] X.env = [(false, eval a X.env)] := by rfl) : JI X tg (.Call (.Name "range" p) [a] [] pos) (iRng1 ta) (iR1 fp) := ⟨pi_range1 hg hm ha.pa hs, ri_r1 ha.rp⟩
theorem ji_r2 (hg : Gl X "range") (hm : X.mg "range" = none) (ha : JP X [a, b] ta fp) (hs : starEach [a, b] X.env = [(false, eval a X.env), (false, eval b X.env)] := by rfl) (hs2 : starEach [b] X.env = [(false, eval b X.env)] := by rfl) :
    JI X tg (.Call (.Name "range" p) [a, b] [] pos) (iRng2 ta) (iR2 fp) := ⟨pi_range2 hg hm ha.pa hs hs2, ri_r2 ha.rp⟩
end

/-! ### comprehensions -/
def wipeT (own : List Nat) (τ : Tau) : Tau := match own with
  | [] => τ
  | i :: r => (wipeT r τ).set i none
def backT (own : List Nat) (τ τ' : Tau) : Tau := match own with
  | [] => τ'
  | i :: r => (backT r τ τ').set i (τ[i]?.getD none)
def tAll (τ : Tau) : Option (Bool × Tau) := some (true, τ)
def lcD (own : List Nat) (g : FG) (ft : FT) (fe : FE) : List D → List D → Tau → Option (List D × Tau)
  | [], acc, τ => some (acc, τ)
  | d :: ds, acc, τ => (g d (wipeT own τ)).bind fun τ1 => (ft τ1).bind fun b => if b.1 = true then (fe b.2).bind fun o => (fz o.2 o.1).bind fun z =>
      if acc.length < 16777216 then lcD own g ft fe ds (acc ++ [z.1]) (backT own τ z.2) else none
    else lcD own g ft fe ds acc (backT own τ b.2)
def fLc (own : List Nat) (w : FI) (g : FG) (ft : FT) (fe : FE) (τ : Tau) : Option (Op × Tau) := (w τ).bind fun a => (lcD own g ft fe a.1 [] a.2).bind fun r => some (.tmp (.lst r.1), r.2)
section
variable {K : PySem.W.Frag} {mg : Mg} {G H G' H' : Hp} {σ σ2 : L2.St} {τ τ2 τ' : Tau} {own : List Nat}
theorem wipeT_length : ∀ (own : List Nat) (τ : Tau), (wipeT own τ).length = τ.length
  | [], _ => rfl
  | i :: r, τ => by unfold wipeT; rw [List.length_set, wipeT_length r]
theorem wipeT_get : ∀ {own : List Nat} {τ : Tau} {j : Nat} {c : Cell}, (wipeT own τ)[j]? = some (some c) → j ∉ own ∧ τ[j]? = some (some c)
  | [], _, _, _, h => ⟨by simp, h⟩
  | i :: r, τ, j, c, h => by
    unfold wipeT at h
    rcases get_set h with ⟨_, z⟩ | ⟨n, z⟩
    · cases z
    · obtain ⟨a, b⟩ := wipeT_get z
      exact ⟨by simp [n, a], b⟩
theorem wipeT_out : ∀ {own : List Nat} {τ : Tau} {j : Nat}, j ∉ own → (wipeT own τ)[j]? = τ[j]?
  | [], _, _, _ => rfl
  | i :: r, τ, j, h => by
    simp only [List.mem_cons, not_or] at h
    unfold wipeT
    rw [List.getElem?_set_ne (Ne.symm h.1), wipeT_out h.2]
theorem wipe_out' : ∀ {own : List Nat} {σ : L2.St} {j : Nat}, j ∉ own → (L2.wipe σ own)[j]? = σ[j]?
  | [], _, _, _ => rfl
  | i :: r, σ, j, h => by
    simp only [List.mem_cons, not_or] at h
    unfold L2.wipe
    rw [List.getElem?_set_ne (Ne.symm h.1), wipe_out' h.2]
theorem backT_length : ∀ (own : List Nat) (τ τ' : Tau), (backT own τ τ').length = τ'.length
  | [], _, _ => rfl
  | i :: r, τ, τ' => by unfold backT; rw [List.length_set, backT_length r]
theorem backT_get : ∀ {own : List Nat} {τ τ' : Tau} {j : Nat} {c : Cell}, (backT own τ τ')[j]? = some (some c) → (j ∈ own ∧ τ[j]? = some (some c)) ∨ (j ∉ own ∧ τ'[j]? = some (some c))
  | [], _, _, _, _, h => .inr ⟨by simp, h⟩
  | i :: r, τ, τ', j, c, h => by
    unfold backT at h
    rcases get_set h with ⟨e, z⟩ | ⟨n, z⟩
    · subst e
      refine .inl ⟨by simp, ?_⟩
      cases hj : τ[j]? with
      | none => rw [hj] at z; cases z
      | some x => rw [hj] at z; simp at z; rw [← z]
    · rcases backT_get z with ⟨a, b⟩ | ⟨a, b⟩
      · exact .inl ⟨by simp [a], b⟩
      · exact .inr ⟨by simp [n, a], b⟩
theorem At.wipeS (A : At K mg G H σ τ) (own : List Nat) : At K mg G H (L2.wipe σ own) (wipeT own τ) ∧ ∀ b, Ro (L2.wipe σ own) (wipeT own τ) b → Ro σ τ b := by
  have back : ∀ {j : Nat} {c : Cell}, (wipeT own τ)[j]? = some (some c) → (L2.wipe σ own)[j]? = σ[j]? ∧ τ[j]? = some (some c) := fun {j c} h => by
    obtain ⟨a, b⟩ := wipeT_get h
    exact ⟨wipe_out' a, b⟩
  refine ⟨⟨A.gh, fun i d h => ?_, fun i d h => ?_, fun i j p d e hi hj pi pj => ?_, by rw [wipeT_length, L2.wipe_length]; exact A.ll⟩, fun b ⟨i, d, h, p⟩ => ?_⟩
  · obtain ⟨a, b⟩ := back h
    rw [a]; exact A.sh i d b
  · obtain ⟨a, b⟩ := back h
    rw [a]; exact A.ow i d b
  · obtain ⟨a, b⟩ := back hi
    obtain ⟨a', b'⟩ := back hj
    exact A.ap i j p d e b b' (by rw [← a]; exact pi) (by rw [← a']; exact pj)
  · obtain ⟨a, b'⟩ := back h
    exact ⟨i, d, b', by rw [← a]; exact p⟩
/-- behind a block's step: what it did to the outer slots -/
theorem blk_go (A : At K mg G H σ τ) (hσ : ∀ j, j ∉ own → σ2[j]? = σ[j]?) (hτ : ∀ j, j ∉ own → τ2[j]? = τ[j]?) (hl : τ2.length = τ.length) (no : ∀ j d, j ∈ own → τ2[j]? ≠ some (some (Cell.ow d))) (g : Go K mg σ2 τ2 G H τ' G' H') :
    Go K mg σ τ G H (backT own τ τ') G' H' := by
  have rsub : ∀ b, Ro σ2 τ2 b → ∃ j d, j ∉ own ∧ τ[j]? = some (some (Cell.ow d)) ∧ σ[j]? = some (some (V.ref b)) := fun b ⟨j, d, h, p⟩ => by
    by_cases hj : j ∈ own
    · exact absurd h (no j d hj)
    · exact ⟨j, d, hj, by rw [← hτ j hj]; exact h, by rw [← hσ j hj]; exact p⟩
  have ro2 : ∀ b, Ro σ2 τ2 b → Ro σ τ b := fun b h => let ⟨j, d, _, a, c⟩ := rsub b h; ⟨j, d, a, c⟩
  have inown : ∀ j d p, j ∈ own → τ[j]? = some (some (Cell.ow d)) → σ[j]? = some (some (V.ref p)) → ¬ Ro σ2 τ2 p := fun j d p hj h hp z => by
    obtain ⟨k, e, nk, a, c⟩ := rsub p z
    have := A.ap j k p d e h a hp c
    subst this
    exact nk hj
  refine ⟨⟨g.at'.gh, fun j d h => ?_, fun j d h => ?_, fun i j p d e hi hj pi pj => ?_, by rw [backT_length, g.tl, hl]; exact A.ll⟩, g.gg, g.kp, fun b o n h => g.hh b o (fun z => n (ro2 b z)) h, fun b o n h e => g.gf b o (fun z => n (ro2 b z)) h e, fun j d h => ?_, by rw [backT_length, g.tl, hl]⟩
  · rcases backT_get h with ⟨a, b⟩ | ⟨a, b⟩
    · obtain ⟨v, c, r⟩ := A.sh j d b
      exact ⟨v, c, r.mono g.gg⟩
    · obtain ⟨v, c, r⟩ := g.at'.sh j d b
      exact ⟨v, by rw [← hσ j a]; exact c, r⟩
  · rcases backT_get h with ⟨a, b⟩ | ⟨a, b⟩
    · obtain ⟨p, o, c, x, y, r⟩ := A.ow j d b
      have n := inown j d p a b c
      exact ⟨p, o, c, g.gf _ _ n y x, g.hh _ _ n y, r.mono g.gg⟩
    · obtain ⟨p, o, c, r⟩ := g.at'.ow j d b
      exact ⟨p, o, by rw [← hσ j a]; exact c, r⟩
  · have key : ∀ {j : Nat} {d : D}, (backT own τ τ')[j]? = some (some (Cell.ow d)) → ∃ d', τ[j]? = some (some (Cell.ow d')) := fun {j d} h => by
      rcases backT_get h with ⟨a, b⟩ | ⟨a, b⟩
      · exact ⟨d, b⟩
      · obtain ⟨d', h'⟩ := g.ri j d b
        exact ⟨d', by rw [← hτ j a]; exact h'⟩
    obtain ⟨d1, h1⟩ := key hi
    obtain ⟨d2, h2⟩ := key hj
    exact A.ap i j p d1 d2 h1 h2 pi pj
  · rcases backT_get h with ⟨a, b⟩ | ⟨a, b⟩
    · exact ⟨d, b⟩
    · obtain ⟨d', h'⟩ := g.ri j d b
      exact ⟨d', by rw [← hτ j a]; exact h'⟩
theorem wipe_length' (own : List Nat) (σ : L2.St) : (L2.wipe σ own).length = σ.length := L2.wipe_length σ own
theorem re_lc {wi : TI} {w : FI} {tg : TG} {tgf : FG} {is : List Nat} {tt : TT} {ft : FT} {te : TE} {fe : FE} (hs : ∀ i ∈ is, i ∈ own) (hw : RI K mg wi w) (hg : RG K mg is tg tgf) (ht : RT K mg tt ft) (he : RE K mg te fe) : RE K mg (tLc wi tg tt te own) (fLc own w tgf ft fe) := fun σ τ G H op τ' Q A e q => by
  obtain ⟨⟨ds, τ1⟩, e1, e⟩ := bind_some' e
  obtain ⟨⟨res, τr⟩, e2, e⟩ := bind_some' e
  cases e
  refine hw σ τ G H ds τ1 _ A e1 fun J G1 H1 g1 it D hD => ?_
  have A1 := g1.at'
  have gD : G1 D = none := A1.gh.free hD
  have nD : ¬ Ro σ τ1 D := fun z => by
    obtain ⟨_, o, e⟩ := A1.root z
    rw [hD] at e; cases e
  refine ⟨fun i m H => ∃ G τ accV acc, Go K mg σ τ1 G1 H1 τ G H ∧ H D = some (.lst accV) ∧ G D = none ∧ RpL K mg G accV acc ∧ lcD own tgf ft fe (ds.drop i) acc τ = some (res, τr) ∧ m = ds.length - i ∧ i ≤ ds.length,
    ⟨ds.length, G1, τ1, [], [], Go.new A1 hD, upd_same, gD, .nil, e2, by simp, Nat.zero_le _⟩, ?_⟩
  rintro i m H ⟨G, τ, accV, acc, g, h1, h2, r, e, rfl, hle⟩
  have A := g.at'
  obtain ⟨st, gn⟩ := it G H g.gg A.gh
  by_cases hlt : i < ds.length
  · have hd : ds[i]? = some ds[i] := List.getElem?_eq_getElem hlt
    obtain ⟨go, yl⟩ := gn i _ hd
    rw [List.drop_eq_getElem_cons hlt] at e
    obtain ⟨τ2, e3, e⟩ := bind_some' e
    obtain ⟨⟨b, τ3⟩, e4, e⟩ := bind_some' e
    refine .inr ⟨go, fun H => ∃ G τ accV acc, Go K mg σ τ1 G1 H1 τ G H ∧ H D = some (.lst accV) ∧ G D = none ∧ RpL K mg G accV acc ∧ lcD own tgf ft fe (ds.drop (i + 1)) acc τ = some (res, τr),
      fun H' ⟨G', τ', a', c', x1, x2, x3, x4, x5⟩ => ⟨_, by omega, G', τ', a', c', x1, x2, x3, x4, x5, rfl, hlt⟩, fun x H' y => ?_⟩
    obtain ⟨G', n, rx⟩ := yl x H' y
    have g2 := g.trans (n.go A)
    have A2 := g2.at'
    have h1' := n.hh _ _ h1
    have h2' := n.gf _ _ h1 h2
    obtain ⟨Aw, row⟩ := A2.wipeS own
    refine hg G' H' (L2.wipe σ own) (wipeT own τ) x _ τ2 _ Aw Aw.ll rx e3 fun σ2 A3 l3 ro3 k3 t3 kt3 ls3 => ?_
    -- the block's slots against the outer ones
    have hσ : ∀ j, j ∉ own → σ2[j]? = σ[j]? := fun j hj => by rw [k3 j (fun z => hj (hs j z)), wipe_out' hj]
    have hτ : ∀ j, j ∉ own → τ2[j]? = τ[j]? := fun j hj => by rw [kt3 j (fun z => hj (hs j z)), wipeT_out hj]
    have hl : τ2.length = τ.length := by rw [t3, wipeT_length]
    have no : ∀ j d, j ∈ own → τ2[j]? ≠ some (some (Cell.ow d)) := fun j d hj z => by
      obtain ⟨p, o, a1, a2, a3, a4⟩ := A3.ow j d z
      obtain ⟨k, d', b1, b2⟩ := ro3 p ⟨j, d, z, a1⟩
      obtain ⟨nk, c1⟩ := wipeT_get b1
      rw [wipe_out' nk] at b2
      have := A3.ap j k p d d' z (by rw [hτ k nk]; exact c1) a1 (by rw [hσ k nk]; exact b2)
      subst this
      exact nk hj
    refine ⟨?_, ?_⟩
    · refine List.ext_getElem? fun j => ?_
      by_cases hj : j ∈ own
      · have key : ∀ (vs : List Nat) (ρ : L2.St), j ∈ vs → (L2.wipe ρ vs)[j]? = if j < ρ.length then some none else none := by
          intro vs
          induction vs with
          | nil => intro ρ h; cases h
          | cons v vs ih =>
            intro ρ h
            unfold L2.wipe
            by_cases hv : v = j
            · subst hv
              by_cases hlj : v < (L2.wipe ρ vs).length
              · rw [List.getElem?_set_self hlj, if_pos (by rw [L2.wipe_length] at hlj; exact hlj)]
              · rw [List.getElem?_eq_none (by rw [List.length_set]; omega), if_neg (by rw [L2.wipe_length] at hlj; exact hlj)]
            · rw [List.getElem?_set_ne hv]
              exact ih ρ (by rcases List.mem_cons.mp h with z | z; exact absurd z.symm hv; exact z)
        rw [key own σ2 hj, key own σ hj, ls3, wipe_length']
      · rw [wipe_out' hj, wipe_out' hj, hσ j hj]
    have nD2 : ∀ {τx : Tau} {Gx Hx : Hp}, Go K mg σ2 τ2 G' H' τx Gx Hx → Hx D = some (.lst accV) ∧ Gx D = none ∧ ¬ Ro σ2 τx D := fun {τx Gx Hx} gx => by
      have nr : ¬ Ro σ2 τ2 D := fun z => nD (g2.rr D (row D (ro3 D z)))
      exact ⟨gx.hh _ _ nr h1', gx.gf _ _ nr h1' h2', fun z => nr (gx.rr _ z)⟩
    refine ht σ2 τ2 G' H' b τ3 _ A3 e4 fun G4 H4 g4 => ?_
    dsimp only at e
    cases b with
    | false =>
      rw [if_neg Bool.false_ne_true] at e ⊢
      obtain ⟨y1, y2, _⟩ := nD2 g4
      exact ⟨G4, _, accV, acc, g2.trans (blk_go A2 hσ hτ hl no g4), y1, y2, (r.mono n.gg).mono g4.gg, e⟩
    | true =>
      rw [if_pos rfl] at e ⊢
      obtain ⟨⟨o, τ4⟩, e5, e⟩ := bind_some' e
      obtain ⟨⟨z, τ5⟩, e6, e⟩ := bind_some' e
      dsimp only at e
      by_cases hlen : acc.length < 16777216
      · rw [if_pos hlen] at e
        refine he σ2 τ3 G4 H4 o τ4 _ g4.at' e5 fun y G5 H5 g5 o5 => ?_
        have g45 := g4.trans g5
        obtain ⟨G6, g6, s6, r6⟩ := (o5.weak g4.kp).fz g45 e6
        obtain ⟨y1, y2, y3⟩ := nD2 g6
        refine ⟨accV, y1, by rw [sizeLine_eq, r.length]; exact hlen, ?_⟩
        have gg := g2.trans (blk_go A2 hσ hτ hl no g6)
        have AA := gg.at'
        have racc : RpL K mg G6 accV acc := (r.mono n.gg).mono g6.gg
        have sub : ∀ b, Ro σ (backT own τ τ5) b → b ≠ D := fun b hb z => nD (by rw [← z]; exact gg.rr b hb)
        refine ⟨G6, _, accV ++ [y], acc ++ [z], ⟨⟨fun b x hb => ?_, AA.sh, fun j d hj => ?_, AA.ap, AA.ll⟩, gg.gg, fun b hb => ?_, fun b x nb hb => ?_, fun b x nb hb he => gg.gf b x nb hb he, gg.ri, gg.tl⟩, upd_same, y2, racc.append (.cons r6 .nil), e⟩
        · rw [upd_ne (fun w => by rw [w, y2] at hb; cases hb)]; exact AA.gh _ _ hb
        · obtain ⟨p, o, c1, c2, c3, c4⟩ := AA.ow j d hj
          exact ⟨p, o, c1, c2, by rw [upd_ne (sub p ⟨j, d, hj, c1⟩)]; exact c3, c4⟩
        · by_cases w : b = D
          · rw [w]; exact hD
          · rw [upd_ne w] at hb; exact gg.kp b hb
        · rw [upd_ne (fun w => by rw [w, hD] at hb; cases hb)]; exact gg.hh b x nb hb
      · rw [if_neg hlen] at e; cases e
  · have z : i = ds.length := by omega
    subst z
    rw [List.drop_length] at e
    cases e
    exact .inl ⟨st _ (Nat.le_refl _), q _ G H (g1.trans g) (.tmp (g1.kp _ hD) h2 h1 (.lst r) fun w => nD (g.rr _ w))⟩
end
section
variable {X : Cx} {elt tgt iter : Expr} {ifs : List Expr} {scope : Scope} {own : List (PySem.Str × Nat)} {pos spos : Pos} {wi : TI} {w : FI} {tg : TG} {g : FG} {is : List Nat} {tt : TT} {ft : FT} {te : TE} {fe : FE}
structure JTs (X : Cx) (ifs : List Expr) (t : TT) (f : FT) : Prop where
  pts : PTs X ifs t
  rt : RT X.K X.mg t f
theorem jts_nil : JTs X [] tYes tAll := ⟨pts_nil, fun σ τ G H b τ' Q A e q => by cases e; exact q G H (Go.refl A)⟩
theorem jts_one {c : Expr} (h : JT X c tt ft) : JTs X [c] tt ft := ⟨pts_one h.pt, h.rt⟩
abbrev Blk (X : Cx) (scope : Scope) (J : Cx → Prop) : Prop := ∀ (s : Shared) (H : Hp) (C : Addr) (cl : List (PySem.Str × Addr)) (fp : List Addr), J (X.blk s H scope (compEnvC scope cl C X.env) fp)
theorem je_lc (hc : X.calm = true) (hN : X.N.Nodup) (hi : JI X tgt iter wi w) (ok : BlkOk X.N X.env.scope scope own) (hs : ∀ i ∈ is, i ∈ own.map (·.2)) (hg : ∀ (s : Shared) (H : Hp) (C : Addr) (cl : List (PySem.Str × Addr)) (fp : List Addr), JG (X.blk s H scope (compEnvC scope cl C X.env) fp) tgt is tg g) (ht : ∀ (s : Shared) (H : Hp) (C : Addr) (cl : List (PySem.Str × Addr)) (fp : List Addr), JTs (X.blk s H scope (compEnvC scope cl C X.env) fp) ifs tt ft) (he : ∀ (s : Shared) (H : Hp) (C : Addr) (cl : List (PySem.Str × Addr)) (fp : List Addr), JE (X.blk s H scope (compEnvC scope cl C X.env) fp) elt te fe)
    (hf : ∀ x, foldedSetIterable iter X.env x = pure x := by intro _; rfl) : JE X (.ListComp elt [⟨tgt, iter, ifs, 0⟩] scope pos) (tLc wi tg tt te (own.map (·.2))) (fLc (own.map (·.2)) w g ft fe) :=
  ⟨pe_lc hc hN hi.pi ok (fun s H C cl fp => (hg s H C cl fp).pg) (fun s H C cl fp => (ht s H C cl fp).pts) (fun s H C cl fp => (he s H C cl fp).pe) hf,
   re_lc hs hi.ri (hg X.s_0 X.H_0 0 [] []).rg (ht X.s_0 X.H_0 0 [] []).rt (he X.s_0 X.H_0 0 [] []).re⟩
/-- name = [..] on one line -/
theorem js_setLc {b : Bool} {i : Nat} {y : PySem.Str} {py : Pos} (hb : b = false ∨ i ≠ 0) (hc : X.calm = true) (hN : X.N.Nodup) (hyl : X.env.scope.names.lookup y = some .local) (hsw : swapsWith (.ListComp elt [⟨tgt, iter, ifs, 0⟩] scope pos) (some (.Name y py)) spos.line X.env = pure true)
    (hi : JI X tgt iter wi w) (ok : BlkOk X.N X.env.scope scope own) (hs : ∀ i ∈ is, i ∈ own.map (·.2)) (hg : ∀ (s : Shared) (H : Hp) (C : Addr) (cl : List (PySem.Str × Addr)) (fp : List Addr), JG (X.blk s H scope (compEnvC scope cl C X.env) fp) tgt is tg g) (ht : ∀ (s : Shared) (H : Hp) (C : Addr) (cl : List (PySem.Str × Addr)) (fp : List Addr), JTs (X.blk s H scope (compEnvC scope cl C X.env) fp) ifs tt ft) (he : ∀ (s : Shared) (H : Hp) (C : Addr) (cl : List (PySem.Str × Addr)) (fp : List Addr), JE (X.blk s H scope (compEnvC scope cl C X.env) fp) elt te fe)
    (hy : X.N[i]? = some y := by rfl) (hf : ∀ x, foldedSetIterable iter X.env x = pure x := by intro _; rfl) : JS X b (.Assign [.Name y py] (.ListComp elt [⟨tgt, iter, ifs, 0⟩] scope pos) spos) (tAsg (tLc wi tg tt te (own.map (·.2))) (gName i)) (sSet i (fLc (own.map (·.2)) w g ft fe)) :=
  ⟨ps_setLc hc hN hy hyl hsw hi.pi ok (fun s H C cl fp => (hg s H C cl fp).pg) (fun s H C cl fp => (ht s H C cl fp).pts) (fun s H C cl fp => (he s H C cl fp).pe) hf,
   rs_set hb (re_lc hs hi.ri (hg X.s_0 X.H_0 0 [] []).rg (ht X.s_0 X.H_0 0 [] []).rt (he X.s_0 X.H_0 0 [] []).re)⟩
end
end J
namespace J
open PySem PySem.Spec PyProof.Rows L2

/-! ### items, slices -/
def gIx : G2
  | .lst ds, .int i => (atI ds i).map Op.val
  | .tup ds, .int i => (atI ds i).map Op.val
  | .str z, .int i => if z.length ≤ 16777216 then (atI z.cps.toList i).map fun c => .val (.str ⟨#[c]⟩) else none
  | _, _ => none
def cutD {α : Type} (xs : List α) (lo hi : Option Int) : List α := (xs.drop (HT.sIx xs.length 0 lo)).take (HT.sIx xs.length xs.length hi - HT.sIx xs.length 0 lo)
section
variable {K : PySem.W.Frag} {mg : Mg}
theorem at_rp {G : Hp} {vs : List V} {ds : List D} {i : Int} {d : D} (r : RpL K mg G vs ds) (h : atI ds i = some d) : ∃ v, atI vs i = some v ∧ Rp K mg G v d := by
  unfold atI at h ⊢
  rw [r.length]
  obtain ⟨j, h1, h2⟩ := bind_some' h
  rw [h1]
  exact r.get h2
theorem rb_ix : RB K mg (rIx K) gIx := fun G H x y d e op Q s p1 p2 eq q => by
  cases d <;> cases e <;> first | (cases eq; done) | skip
  · rename_i z i
    obtain ⟨h1, h2⟩ : z.length ≤ 16777216 ∧ (atI z.cps.toList i).map (fun c => Op.val (.str ⟨#[c]⟩)) = some op := by
      have eq' : (if z.length ≤ 16777216 then (atI z.cps.toList i).map (fun c => Op.val (.str ⟨#[c]⟩)) else none) = some op := eq
      by_cases h : z.length ≤ 16777216
      · rw [if_pos h] at eq'; exact ⟨h, eq'⟩
      · rw [if_neg h] at eq'; cases eq'
    obtain ⟨c, h3, rfl⟩ := Option.map_eq_some_iff.mp h2
    cases p1.str
    cases p2.int
    exact .inr (.inr ⟨z, i, c, rfl, rfl, by rw [sizeLine_eq]; exact h1, h3, q _ G H (Nw.refl s) (.val (.str _))⟩)
  · rename_i ds i
    obtain ⟨z, h3, rfl⟩ := Option.map_eq_some_iff.mp (show (atI ds i).map Op.val = some op from eq)
    obtain ⟨a, vs, rfl, hq, r⟩ := p1.lst s
    cases p2.int
    obtain ⟨v, h4, r4⟩ := at_rp r h3
    exact .inl ⟨a, vs, i, v, rfl, rfl, hq, h4, q _ G H (Nw.refl s) (.val r4)⟩
  · rename_i ds i
    obtain ⟨z, h3, rfl⟩ := Option.map_eq_some_iff.mp (show (atI ds i).map Op.val = some op from eq)
    obtain ⟨a, vs, rfl, hq, r⟩ := p1.tup s
    cases p2.int
    obtain ⟨v, h4, r4⟩ := at_rp r h3
    exact .inr (.inl ⟨a, vs, i, v, rfl, rfl, hq, h4, q _ G H (Nw.refl s) (.val r4)⟩)
end
abbrev FO := Tau → Option (Option Int × Tau)
def RO (K : PySem.W.Frag) (mg : Mg) (t : TO) (f : FO) : Prop := ∀ (σ : L2.St) (τ : Tau) (G H : Hp) (o : Option Int) (τ' : Tau) (Q : Option Int → Hp → Prop), At K mg G H σ τ → f τ = some (o, τ') → (∀ G' H', Go K mg σ τ G H τ' G' H' → Q o H') → t σ H Q
structure JO (X : Cx) (e : Option Expr) (t : TO) (f : FO) : Prop where
  po : PO X e t
  ro : RO X.K X.mg t f
def oNo (τ : Tau) : Option (Option Int × Tau) := some (none, τ)
def oSome (fe : FE) (τ : Tau) : Option (Option Int × Tau) := (fe τ).bind fun o => (deref o.2 o.1).bind fun d => match d with | .int i => some (some i, o.2) | _ => none
def gSl (d : D) (lo hi : Option Int) : Option Op := match d with
  | .lst ds => some (.tmp (.lst (cutD ds lo hi)))
  | .tup ds => if HT.sIx ds.length 0 lo = 0 ∧ HT.sIx ds.length ds.length hi = ds.length then none else some (.val (.tup (cutD ds lo hi)))
  | _ => none
def fSl (fe : FE) (fl fh : FO) (τ : Tau) : Option (Op × Tau) := (fe τ).bind fun o => (fl o.2).bind fun l => (fh l.2).bind fun h => (deref h.2 o.1).bind fun d => (gSl d l.1 h.1).bind fun z => some (z, h.2)
section
variable {K : PySem.W.Frag} {mg : Mg} {te : TE} {fe : FE} {tl th : TO} {fl fh : FO}
theorem ro_no : RO K mg tNoPart oNo := fun σ τ G H o τ' Q A e q => by cases e; exact q G H (Go.refl A)
theorem ro_some (he : RE K mg te fe) : RO K mg (tPart te) (oSome fe) := fun σ τ G H o τ' Q A e q => by
  obtain ⟨⟨oa, τ1⟩, e1, e⟩ := bind_some' e
  obtain ⟨d, e2, e⟩ := bind_some' e
  dsimp only at e2 e
  cases d <;> first | (cases e; done) | skip
  cases e
  refine he σ τ G H oa _ _ A e1 fun x G1 H1 g1 o1 => ?_
  cases (o1.pk g1.at' e2).int
  exact ⟨_, rfl, q G1 H1 g1⟩
theorem cut_rp {G : Hp} {vs : List V} {ds : List D} (r : RpL K mg G vs ds) (lo hi : Option Int) : RpL K mg G (cutV vs lo hi) (cutD ds lo hi) := by
  unfold cutV cutD
  rw [r.length]
  exact (r.drop _).take _
abbrev rSlX (K : PySem.W.Frag) : V → Option Int → Option Int → Hp → VK → Prop := fun x lo hi H Q => rSlL K x lo hi H Q ∨ rSlT K x lo hi H Q
theorem re_sl (he : RE K mg te fe) (hl : RO K mg tl fl) (hh : RO K mg th fh) : RE K mg (tSl (rSlX K) te tl th) (fSl fe fl fh) := fun σ τ G H op τ' Q A e q => by
  obtain ⟨⟨o, τ1⟩, e1, e⟩ := bind_some' e
  obtain ⟨⟨lo, τ2⟩, e2, e⟩ := bind_some' e
  obtain ⟨⟨hi, τ3⟩, e3, e⟩ := bind_some' e
  obtain ⟨d, e4, e⟩ := bind_some' e
  obtain ⟨z, e5, e⟩ := bind_some' e
  cases e
  dsimp only at e4 e5
  refine he σ τ G H o τ1 _ A e1 fun x G1 H1 g1 o1 => hl σ τ1 G1 H1 lo τ2 _ g1.at' e2 fun G2 H2 g2 => hh σ τ2 G2 H2 hi _ _ g2.at' e3 fun G3 H3 g3 => ?_
  have g := (g1.trans g2).trans g3
  have A3 := g3.at'
  have p := ((o1.step g2).step g3).pk A3 e4
  cases d <;> first | (cases e5; done) | skip
  · cases e5
    obtain ⟨a, vs, rfl, hq, r⟩ := p.lst A3.gh
    exact .inl ⟨a, vs, rfl, hq, fun p hp => q _ _ _ (g.trans (Go.new A3 hp)) (((On.new A3.gh hp (.lst (cut_rp r lo hi))).or A3).weak g.kp)⟩
  · rename_i ds
    unfold gSl at e5
    dsimp only at e5
    split at e5
    · cases e5
    · rename_i hn
      cases e5
      obtain ⟨a, vs, rfl, hq, r⟩ := p.tup A3.gh
      refine .inr ⟨a, vs, rfl, hq, by rw [r.length]; exact hn, fun p hp => ?_⟩
      have n := Nw.newF (K := K) (mg := mg) (o := .tup (cutV vs lo hi)) A3.gh hp
      exact q _ _ _ (g.trans (n.go A3)) (.val (.tup (SqT.of upd_same) ((cut_rp r lo hi).mono n.gg)))
end
section
variable {X : Cx} {a b e : Expr} {ta tb te : TE} {fa fb fe : FE} {pos p2 : Pos} {lo hi : Option Expr} {tl th : TO} {fl fh : FO}
theorem je_ix {K : PySem.W.Frag} (ha : JE X a ta fa) (hb : JE X b tb fb) (hs : PlainIx b := by exact fun _ _ => rfl) (hK : X.K = K := by rfl) : JE X (.Subscript a b pos) (tOp (rIx K) ta tb) (fBin gIx fa fb) := by
  subst hK
  exact ⟨pe_ix ix_seq ha.pe hb.pe hs, re_bin rb_ix ha.re hb.re⟩
theorem jo_no : JO X none tNoPart oNo := ⟨po_none, ro_no⟩
theorem jo_some (h : JE X e te fe) : JO X (some e) (tPart te) (oSome fe) := ⟨po_some h.pe, ro_some h.re⟩
theorem je_sl {K : PySem.W.Frag} (he : JE X e te fe) (hl : JO X lo tl fl) (hu : JO X hi th fh) (hK : X.K = K := by rfl) : JE X (.Subscript e (.Slice lo hi none p2) pos) (tSl (rSlX K) te tl th) (fSl fe fl fh) := by
  subst hK
  exact ⟨pe_slice (sl_list.or sl_tup) he.pe hl.po hu.po, re_sl he.re hl.ro hu.ro⟩
end

/-! ### built-ins by their values -/
def gAbs : List D → Option Op
  | [.int i] => some (.val (.int (if i < 0 then -i else i)))
  | _ => none
def gInt : List D → Option Op
  | [.int i] => some (.val (.int i))
  | [.bl k] => some (.val (.int (if k = true then 1 else 0)))
  | _ => none
def gMax2 : List D → Option Op
  | [.int i, .int j] => some (.val (.int (if j > i then j else i)))
  | _ => none
def gMin2 : List D → Option Op
  | [.int i, .int j] => some (.val (.int (if j < i then j else i)))
  | _ => none
def gLen : List D → Option Op
  | [.lst ds] => some (.val (.int (ds.length : Nat)))
  | [.tup ds] => some (.val (.int (ds.length : Nat)))
  | [.str z] => if z.length ≤ 16777216 then some (.val (.int (z.length : Nat))) else none
  | _ => none
def gList : List D → Option Op
  | [.lst ds] => some (.tmp (.lst ds))
  | [.tup ds] => some (.tmp (.lst ds))
  | _ => none
def intsOf : List D → Option (List Int)
  | [] => some []
  | .int i :: r => (intsOf r).map fun s => i :: s
  | _ => none
def gSum : List D → Option Op
  | [.lst ds] => (intsOf ds).map fun ns => .val (.int ns.sum)
  | _ => none
section
variable {K : PySem.W.Frag} {mg : Mg}
theorem intsOf_rp {G : Hp} : ∀ {vs : List V} {ds : List D} {ns : List Int}, RpL K mg G vs ds → intsOf ds = some ns → vs = ns.map V.int
  | _, _, _, .nil, e => by cases e; rfl
  | _, _, _, .cons h r, e => by
    cases h <;> first | (cases e; done) | skip
    rename_i i
    obtain ⟨s, e1, rfl⟩ := Option.map_eq_some_iff.mp (show (intsOf _).map (fun s => i :: s) = some _ from e)
    rw [intsOf_rp r e1]
    rfl
abbrev qAbs : List V → Hp → VK → Prop := fun xs H Q => ∃ i, xs = [.int i] ∧ Q (.int (if i < 0 then -i else i)) H
abbrev qInt : List V → Hp → VK → Prop := fun xs H Q => (∃ i, xs = [.int i] ∧ Q (.int i) H) ∨ ∃ k, xs = [.bl k] ∧ Q (.int (if k then 1 else 0)) H
abbrev qMax : List V → Hp → VK → Prop := fun xs H Q => ∃ i j, xs = [.int i, .int j] ∧ Q (.int (if j > i then j else i)) H
abbrev qMin : List V → Hp → VK → Prop := fun xs H Q => ∃ i j, xs = [.int i, .int j] ∧ Q (.int (if j < i then j else i)) H
abbrev qLen (K : PySem.W.Frag) : List V → Hp → VK → Prop := fun xs H Q => ∃ x n, xs = [x] ∧ LenV K x H n ∧ Q (.int n) H
abbrev qList (K : PySem.W.Frag) : List V → Hp → VK → Prop := fun xs H Q => ∃ p ys, xs = [.ref p] ∧ (SqL K H p ys ∨ SqT K H p ys) ∧ ∀ l, H l = none → Q (.ref l) (upd H l (.lst ys))
theorem rc_abs : RC K mg qAbs gAbs := fun G H xs ds op Q s p eq q => by
  unfold gAbs at eq
  split at eq
  · cases eq
    cases p with
    | cons p p' => cases p'; cases p.int; exact ⟨_, rfl, q _ G H (Nw.refl s) (.val (.int _))⟩
  · cases eq
theorem rc_int : RC K mg qInt gInt := fun G H xs ds op Q s p eq q => by
  unfold gInt at eq
  split at eq
  · cases eq
    cases p with
    | cons p p' => cases p'; cases p.int; exact .inl ⟨_, rfl, q _ G H (Nw.refl s) (.val (.int _))⟩
  · cases eq
    cases p with
    | cons p p' => cases p'; cases p.bl; exact .inr ⟨_, rfl, q _ G H (Nw.refl s) (.val (.int _))⟩
  · cases eq
theorem rc_max : RC K mg qMax gMax2 := fun G H xs ds op Q s p eq q => by
  unfold gMax2 at eq
  split at eq
  · cases eq
    cases p with
    | cons p p' => cases p' with
      | cons p2 p3 => cases p3; cases p.int; cases p2.int; exact ⟨_, _, rfl, q _ G H (Nw.refl s) (.val (.int _))⟩
  · cases eq
theorem rc_min : RC K mg qMin gMin2 := fun G H xs ds op Q s p eq q => by
  unfold gMin2 at eq
  split at eq
  · cases eq
    cases p with
    | cons p p' => cases p' with
      | cons p2 p3 => cases p3; cases p.int; cases p2.int; exact ⟨_, _, rfl, q _ G H (Nw.refl s) (.val (.int _))⟩
  · cases eq
theorem rc_len : RC K mg (qLen K) gLen := fun G H xs ds op Q s p eq q => by
  unfold gLen at eq
  split at eq
  · cases eq
    cases p with
    | cons p p' =>
      cases p'
      obtain ⟨a, vs, rfl, hq, r⟩ := p.lst s
      exact ⟨_, vs.length, rfl, .inl ⟨vs, hq, rfl⟩, by rw [r.length]; exact q _ G H (Nw.refl s) (.val (.int _))⟩
  · cases eq
    cases p with
    | cons p p' =>
      cases p'
      obtain ⟨a, vs, rfl, hq, r⟩ := p.tup s
      exact ⟨_, vs.length, rfl, .inr ⟨vs, hq, rfl⟩, by rw [r.length]; exact q _ G H (Nw.refl s) (.val (.int _))⟩
  · rename_i z
    obtain ⟨h, rfl⟩ := if_get eq
    cases p with
    | cons p p' =>
      cases p'
      cases p.str
      exact ⟨_, z.length, rfl, ⟨by rw [sizeLine_eq]; exact h, rfl⟩, q _ G H (Nw.refl s) (.val (.int _))⟩
  · cases eq
theorem rc_list : RC K mg (qList K) gList := fun G H xs ds op Q s p eq q => by
  unfold gList at eq
  split at eq
  · cases eq
    cases p with
    | cons p p' =>
      cases p'
      obtain ⟨a, vs, rfl, hq, r⟩ := p.lst s
      exact ⟨a, vs, rfl, .inl hq, fun l hl => q _ _ _ (Nw.new s hl) (On.new s hl (.lst r))⟩
  · cases eq
    cases p with
    | cons p p' =>
      cases p'
      obtain ⟨a, vs, rfl, hq, r⟩ := p.tup s
      exact ⟨a, vs, rfl, .inr hq, fun l hl => q _ _ _ (Nw.new s hl) (On.new s hl (.lst r))⟩
  · cases eq
theorem rc_sum : RC K mg (rSum K) gSum := fun G H xs ds op Q s p eq q => by
  unfold gSum at eq
  split at eq
  · obtain ⟨ns, e1, rfl⟩ := Option.map_eq_some_iff.mp eq
    cases p with
    | cons p p' =>
      cases p'
      obtain ⟨a, vs, rfl, hq, r⟩ := p.lst s
      rw [intsOf_rp r e1] at hq
      exact ⟨a, ns, rfl, hq, q _ G H (Nw.refl s) (.val (.int _))⟩
  · cases eq
end

/-! ### isinstance against a built-in type -/
def tyn : D → Option String
  | .non => some "NoneType" | .bl _ => some "bool" | .int _ => some "int" | .str _ => some "str" | .lst _ => some "list" | .tup _ => some "tuple" | .dic _ => some "dict" | .ins _ _ => none | .exc _ _ _ _ => none | .dicL _ => none
def subTy (a b : String) : Bool := decide (a = b) || (decide (a = "bool") && decide (b = "int"))
theorem kit_tab : ∀ tn ∈ ["int", "bool", "list", "tuple", "str", "dict"], ∀ a ∈ ["NoneType", "bool", "int", "str", "list", "tuple", "dict"], kitB a tn = some (subTy a tn) := by decide +kernel
def gIsi (tn : String) (d : D) : Option Op := (tyn d).map fun a => .val (.bl (subTy a tn))
def fIsi (tn : String) (fe : FE) : FE := fUn (gIsi tn) fe
section
variable {K : PySem.W.Frag} {mg : Mg} {te : TE} {fe : FE}
theorem tyx_of {G H : Hp} {x : V} {d : D} {a : String} (s : Same G H) (p : Pk K mg G H x d) (h : tyn d = some a) : TyX K H x (.type a) ∧ a ∈ ["NoneType", "bool", "int", "str", "list", "tuple", "dict"] := by
  cases d with
  | non => cases h; cases p.non; exact ⟨.base .non, by decide⟩
  | bl b => cases h; cases p.bl; exact ⟨.base (.bl _), by decide⟩
  | int b => cases h; cases p.int; exact ⟨.base (.int _), by decide⟩
  | str b => cases h; cases p.str; exact ⟨.base (.str _), by decide⟩
  | lst b =>
    cases h
    obtain ⟨a, vs, rfl, hq, r⟩ := p.lst s
    refine ⟨?_, by decide⟩
    rcases hq with (hq | ⟨o, hq⟩) | ⟨o, its, n, hk, hc, _⟩
    · exact .base (.lst hq)
    · exact .base (.frz hq)
    · exact .kList hk hc
  | tup b =>
    cases h
    obtain ⟨a, vs, rfl, hq, r⟩ := p.tup s
    refine ⟨?_, by decide⟩
    rcases hq with (hq | ⟨o, hq⟩) | ⟨o, its, n, hk, hc, _⟩
    · exact .base (.tup hq)
    · exact .fTuple hq
    · exact .kTuple hk hc
  | dic b =>
    cases h
    obtain ⟨a, vs, rfl, hq, r⟩ := p.dic s
    exact ⟨.base (.dK hq), by decide⟩
  | ins c fs => cases h
  | exc _ _ _ _ => cases h
  | dicL _ => cases h
theorem re_isi {tn : String} (ht : tn ∈ ["int", "bool", "list", "tuple", "str", "dict"]) (he : RE K mg te fe) : RE K mg (tCB (rIsi K) (tCons te (tCons (tC (.ty tn)) tNil))) (fIsi tn fe) := fun σ τ G H op τ' Q A e q => by
  obtain ⟨⟨o, τ1⟩, e1, e⟩ := bind_some' e
  obtain ⟨d, e2, e⟩ := bind_some' e
  obtain ⟨z, e3, e⟩ := bind_some' e
  cases e
  obtain ⟨a, e4, rfl⟩ := Option.map_eq_some_iff.mp e3
  refine he σ τ G H o _ _ A e1 fun x G1 H1 g1 o1 => ?_
  obtain ⟨t1, t2⟩ := tyx_of g1.at'.gh (o1.pk g1.at' e2) e4
  exact ⟨x, .ty tn, .type a, .type tn, _, rfl, .ty tn, t1, kit_ty (kit_tab tn ht a t2), q _ G1 H1 g1 (.val (.bl _))⟩
end
section
variable {X : Cx} {e a b : Expr} {te ta tb : TE} {fe fa fb : FE} {t : TA} {fp : FP} {p p' pos : Pos} {es : List Expr}
theorem je_isi {K : PySem.W.Frag} {tn : String} (hg : Gl X "isinstance") (hm : X.mg "isinstance" = none) (hg2 : Gl X (os tn)) (hm2 : X.mg (os tn) = none) (he : JE X e te fe) (ht : tn ∈ ["int", "bool", "list", "tuple", "str", "dict"]) (hv2 : bootBuiltins (os tn) = some (.type tn))
    (hd : (os tn == ("__debug__" : PySem.Str)) = false := by decide) (hn2 : os tn ≠ "__name__" := by decide) (hs : starEach (e :: .Name (os tn) p' :: []) X.env = (false, eval e X.env) :: starEach (.Name (os tn) p' :: []) X.env := by rfl) (hs2 : starEach (.Name (os tn) p' :: []) X.env = (false, eval (.Name (os tn) p') X.env) :: starEach [] X.env := by rfl)
    (hpl : (backTo pos (starEach (.Name (os tn) p' :: []) X.env)).any (·.1) = false := by rfl) (hK : X.K = K := by rfl) :
    JE X (.Call (.Name "isinstance" p) [e, .Name (os tn) p'] [] pos) (tCB (rIsi K) (tCons te (tCons (tC (.ty tn)) tNil))) (fIsi tn fe) := by
  subst hK
  exact ⟨pe_callB call_isi hg hm (by decide +kernel) (pa_cons he.pe (pa_cons (pe_bltn hg2 hm2 hv2 rfl hn2 hd) pa_nil hs2) hs) (by decide) (by decide) hs hpl, re_isi ht he.re⟩
theorem je_abs (hg : Gl X "abs") (hm : X.mg "abs" = none) (ha : JP X [e] t fp) (he : starEach (e :: []) X.env = (false, eval e X.env) :: starEach [] X.env := by rfl) (hpl : (backTo pos (starEach [] X.env)).any (·.1) = false := by rfl) : JE X (.Call (.Name "abs" p) [e] [] pos) (tCB qAbs t) (fCB gAbs fp) := je_cb call_abs rc_abs hg hm (by decide +kernel) ha (by decide) (by decide) he hpl
theorem je_len {K : PySem.W.Frag} (hg : Gl X "len") (hm : X.mg "len" = none) (ha : JP X [e] t fp) (he : starEach (e :: []) X.env = (false, eval e X.env) :: starEach [] X.env := by rfl) (hpl : (backTo pos (starEach [] X.env)).any (·.1) = false := by rfl) (hK : X.K = K := by rfl) : JE X (.Call (.Name "len" p) [e] [] pos) (tCB (qLen K) t) (fCB gLen fp) := by
  subst hK
  exact je_cb call_len rc_len hg hm (by decide +kernel) ha (by decide) (by decide) he hpl
theorem je_sum {K : PySem.W.Frag} (hc : X.calm = true) (hg : Gl X "sum") (hm : X.mg "sum" = none) (ha : JP X [e] t fp) (he : starEach (e :: []) X.env = (false, eval e X.env) :: starEach [] X.env := by rfl) (hpl : (backTo pos (starEach [] X.env)).any (·.1) = false := by rfl) (hK : X.K = K := by rfl) : JE X (.Call (.Name "sum" p) [e] [] pos) (tCB (rSum K) t) (fCB gSum fp) := by
  subst hK
  exact je_cb (cr_sum hc) rc_sum hg hm (by decide +kernel) ha (by decide) (by decide) he hpl
theorem je_max2 (hc : X.calm = true) (hg : Gl X "max") (hm : X.mg "max" = none) (ha : JP X [a, b] t fp) (he : starEach (a :: [b]) X.env = (false, eval a X.env) :: starEach [b] X.env := by rfl) (hpl : (backTo pos (starEach [b] X.env)).any (·.1) = false := by rfl) : JE X (.Call (.Name "max" p) [a, b] [] pos) (tCB qMax t) (fCB gMax2 fp) := je_cb (call_max2 hc) rc_max hg hm (by decide +kernel) ha (by decide) (by decide) he hpl
theorem je_min2 (hc : X.calm = true) (hg : Gl X "min") (hm : X.mg "min" = none) (ha : JP X [a, b] t fp) (he : starEach (a :: [b]) X.env = (false, eval a X.env) :: starEach [b] X.env := by rfl) (hpl : (backTo pos (starEach [b] X.env)).any (·.1) = false := by rfl) : JE X (.Call (.Name "min" p) [a, b] [] pos) (tCB qMin t) (fCB gMin2 fp) := je_cb (call_min2 hc) rc_min hg hm (by decide +kernel) ha (by decide) (by decide) he hpl
theorem je_int1 (hg : Gl X "int") (hm : X.mg "int" = none) (ha : JP X [e] t fp) (he : starEach (e :: []) X.env = (false, eval e X.env) :: starEach [] X.env := by rfl) (hpl : (backTo pos (starEach [] X.env)).any (·.1) = false := by rfl) : JE X (.Call (.Name "int" p) [e] [] pos) (tCB qInt t) (fCB gInt fp) := je_ct call_int1 rc_int hg hm (by decide +kernel) ha (by decide) (by decide) he hpl
theorem je_list1 {K : PySem.W.Frag} (hg : Gl X "list") (hm : X.mg "list" = none) (ha : JP X [e] t fp) (he : starEach (e :: []) X.env = (false, eval e X.env) :: starEach [] X.env := by rfl) (hpl : (backTo pos (starEach [] X.env)).any (·.1) = false := by rfl) (hK : X.K = K := by rfl) : JE X (.Call (.Name "list" p) [e] [] pos) (tCB (qList K) t) (fCB gList fp) := by
  subst hK
  exact je_ct call_list_of rc_list hg hm (by decide +kernel) ha (by decide) (by decide) he hpl
end

/-! ### lists changed in place -/
/-- x.append(e), x an owned root -/
def owL (τ : Tau) : Op → Option (Nat × List D)
  | .slot i => match τ[i]? with
    | some (some (.ow (.lst ds))) => some (i, ds)
    | _ => none
  | _ => none
def fApp (fo fe : FE) (τ : Tau) : Option (Op × Tau) := (fo τ).bind fun o => (owL o.2 o.1).bind fun _ => (fe o.2).bind fun a => (fz a.2 a.1).bind fun d => (owL d.2 o.1).bind fun l =>
  if l.2.length < 16777216 then some (.val .non, d.2.set l.1 (some (.ow (.lst (l.2 ++ [d.1]))))) else none
/-- x[i] = e, x an owned root -/
def setAt (o : Op) (i : Int) (d : D) (τ : Tau) : Option Tau := match o with
  | .slot k => match τ[k]? with
    | some (some (.ow (.lst ds))) => (ixN ds.length i).bind fun j => some (τ.set k (some (.ow (.lst (ds.set j d)))))
    | _ => none
  | _ => none
def sSetIx (fo fi fe : FE) (τ : Tau) : Option Flow := (fe τ).bind fun a => (fz a.2 a.1).bind fun d => (fo d.2).bind fun o => (fi o.2).bind fun k => (deref k.2 k.1).bind fun n => match n with
  | .int i => (setAt o.1 i d.1 k.2).bind fun τ' => some (.nx τ')
  | _ => none
section
variable {K : PySem.W.Frag} {mg : Mg} {te to ti : TE} {fe fo fi : FE} {b : Bool}
theorem ty_list {G H : Hp} {x : V} {ds : List D} (s : Same G H) (p : Pk K mg G H x (.lst ds)) : tyV K "list" x H := by
  obtain ⟨a, vs, rfl, hq, r⟩ := p.lst s
  exact .inl ⟨rfl, vs, hq⟩
theorem owL_ok {H0 G H : Hp} {σ : L2.St} {τ : Tau} {x : V} {o : Op} {r : Nat × List D} (A : At K mg G H σ τ) (h : Or K mg H0 G H σ τ x o) (e : owL τ o = some r) : ∃ p vs, x = .ref p ∧ o = .slot r.1 ∧ σ[r.1]? = some (some (V.ref p)) ∧ τ[r.1]? = some (some (Cell.ow (.lst r.2))) ∧ H p = some (.lst vs) ∧ RpL K mg G vs r.2 := by
  cases h with
  | val _ => cases e
  | tmp _ _ _ _ _ => cases e
  | @slot _ i hs =>
    unfold owL at e
    dsimp only at e
    split at e
    · rename_i ds hi
      cases e
      obtain ⟨p, ob, a1, a2, a3, a4⟩ := A.ow i _ hi
      rw [hs] at a1
      cases a1
      cases a4 with
      | lst r => exact ⟨p, _, rfl, rfl, hs, hi, a3, r⟩
    · cases e
theorem re_app (ho : RE K mg to fo) (he : RE K mg te fe) : RE K mg (tBM K "list" rAppend to (tCons te tNil)) (fApp fo fe) := fun σ τ G H op τ' Q A e q => by
  obtain ⟨⟨o, τ1⟩, e1, e⟩ := bind_some' e
  obtain ⟨l0, e0, e⟩ := bind_some' e
  obtain ⟨⟨o2, τ2⟩, e2, e⟩ := bind_some' e
  obtain ⟨⟨d, τ3⟩, e3, e⟩ := bind_some' e
  obtain ⟨l, e4, e⟩ := bind_some' e
  dsimp only at e e0 e2 e3 e4
  obtain ⟨hl, z⟩ := if_get e
  cases z
  refine ho σ τ G H o τ1 _ A e1 fun x G1 H1 g1 o1 => ?_
  obtain ⟨p, vs0, rfl, _, _, _, hp, _⟩ := owL_ok g1.at' o1 e0
  refine ⟨.inl ⟨rfl, vs0, SqL.of hp⟩, ?_⟩
  refine he σ τ1 G1 H1 o2 τ2 _ g1.at' e2 fun y G2 H2 g2 o2' => ?_
  obtain ⟨G3, g3, s3, r3⟩ := o2'.fz g2 e3
  obtain ⟨p', vs, ex, _, hs, hi, hp', r⟩ := owL_ok g3.at' (o1.step g3) e4
  cases ex
  refine ⟨p, vs, y, rfl, rfl, hp', by rw [sizeLine_eq, r.length]; exact hl, ?_⟩
  exact q _ G3 _ ((g1.trans g3).trans (Go.put g3.at' hi hs (.lst (r.append (.cons r3 .nil))))) (.val .non)
theorem rs_setIx (ho : RE K mg to fo) (hi : RE K mg ti fi) (he : RE K mg te fe) : RS K mg b (tAsg te (L2.gSub to ti rSetL)) (sSetIx fo fi fe) := fun io R0 G0 H0 G H σ τ D fl hb F e k => by
  obtain ⟨⟨oa, τ1⟩, e1, e⟩ := bind_some' e
  obtain ⟨⟨d, τ2⟩, e2, e⟩ := bind_some' e
  obtain ⟨⟨oo, τ3⟩, e3, e⟩ := bind_some' e
  obtain ⟨⟨oi, τ4⟩, e4, e⟩ := bind_some' e
  obtain ⟨n, e5, e⟩ := bind_some' e
  dsimp only at e e2 e3 e4 e5
  cases n <;> first | (cases e; done) | skip
  rename_i i
  obtain ⟨τ5, e6, e⟩ := bind_some' e
  cases e
  refine he σ τ G H oa τ1 _ F.at' e1 fun y G1 H1 g1 o1 => ?_
  obtain ⟨G2, g2, s2, r2⟩ := o1.fz g1 e2
  refine ho σ τ2 G2 H1 oo τ3 _ g2.at' e3 fun x G3 H3 g3 o3 => ?_
  refine hi σ τ3 G3 H3 oi τ4 _ g3.at' e4 fun z G4 H4 g4 o4 => ?_
  cases (o4.pk g4.at' e5).int
  cases o3 with
  | val _ => cases e6
  | tmp _ _ _ _ _ => cases e6
  | @slot _ j hs =>
    unfold setAt at e6
    dsimp only at e6
    split at e6
    · rename_i ds hj
      obtain ⟨kk, e7, e6⟩ := bind_some' e6
      cases e6
      obtain ⟨p, o, a1, a2, a3, a4⟩ := g4.at'.ow j _ hj
      rw [hs] at a1
      cases a1
      cases a4 with
      | @lst vs _ r =>
        refine ⟨p, vs, i, kk, rfl, rfl, a3, by rw [r.length]; exact e7, ?_⟩
        have g := (g2.trans g3).trans g4
        exact k σ G4 _ (F.go (g.trans (Go.put g4.at' hj hs (.lst (r.set ((r2.mono g3.gg).mono g4.gg) kk)))))
    · cases e6
end
section
variable {X : Cx} {b : Bool} {o i e : Expr} {te to ti : TE} {fe fo fi : FE} {apos pos pos' : Pos}
theorem je_app {K : PySem.W.Frag} (ho : JE X o to fo) (he : JE X e te fe) (hbase : attributeBase o (os "append") X.env (eval o X.env) = eval o X.env := by rfl)
    (hfew : ((backTo pos (starEach (e :: []) X.env)).all (fun x => !x.1) && (backToKw pos (keywordEach [] X.env)).all (fun x => x.1.isSome)
      && decide ((e :: []).length + ([] : List Keyword).length + (if ([] : List Keyword).isEmpty then 0 else 1) < 30)) = true := by rfl)
    (hline : (apos.endLine == pos.line) = true := by rfl) (hs : starEach (e :: []) X.env = (false, eval e X.env) :: starEach [] X.env := by rfl) (hplain : (backTo pos (starEach [] X.env)).any (·.1) = false := by rfl) (hK : X.K = K := by rfl) :
    JE X (.Call (.Attribute o (os "append") apos) [e] [] pos) (tBM K "list" rAppend to (tCons te tNil)) (fApp fo fe) := by
  subst hK
  exact ⟨pe_bm PySem.F.plainAttrs_list PySem.F.slot_list_append PySem.F.type_list_append mt_append ho.pe (pa_cons he.pe pa_nil hs) hbase hfew hline hs hplain, re_app ho.re he.re⟩
theorem js_setIx (ho : JE X o to fo) (hi : JE X i ti fi) (he : JE X e te fe)
    (ha : ∀ v, assign (.Subscript o i pos') X.env v = (do
      let ov ← holding [v] (eval o X.env)
      let iv ← holding [v, ov] (eval i X.env)
      standAt pos'
      holding [v, ov, iv] (setItem ov iv v)
      release [v, ov, iv] []) := by intro _; rfl)
    (hs : swapsWithSole [.Subscript o i pos'] e pos.line X.env = pure false := by rfl) (hw : swappedStores [.Subscript o i pos'] e X.env = pure none := by rfl)
    (h1 : (assignEach [.Subscript o i pos'] X.env).map (·.2) = [assign (.Subscript o i pos') X.env] := by rfl) : JS X b (.Assign [.Subscript o i pos'] e pos) (tAsg te (L2.gSub to ti rSetL)) (sSetIx fo fi fe) :=
  ⟨ps_asg he.pe (pg_sub ho.pe hi.pe set_list ha) hs hw h1, rs_setIx ho.re hi.re he.re⟩
end
end J
namespace J
open PySem PySem.Spec PyProof.Rows L2

/-! ### what is known of a def, a method, a property, a class -/
section
variable (P : Program) (w : World) (K : PySem.W.Frag) (mg : Mg) (base : Heap)
structure KnF (f : Addr) (fd : FuncData) (x : String) (ps : List PySem.Str) (b : Bool) (k : Nat) (m : Mir) : Prop where
  ok : FnOk P w K mg base CX0 k f fd ps (spM K mg b m)
  g : mg (os x) = some (.ref f)
  kp : PySem.W.keepIn K (.ref f) = true
  bi : Binds K fd ps []
structure KnM (C f : Addr) (fd : FuncData) (cn mn : String) (ps : List PySem.Str) (b : Bool) (k : Nat) (m : Mir) : Prop where
  ok : FnOk P w K mg base CX0 k f fd ps (spM K mg b m)
  g : mg (os cn) = some (.ref C)
  cl : Cls K C
  me : Meth K C (os mn) f
  bi : Binds K fd ps []
structure KnP (C p f : Addr) (fd : FuncData) (cn mn : String) (ps : List PySem.Str) (b : Bool) (k : Nat) (m : Mir) : Prop where
  ok : FnOk P w K mg base CX0 k f fd ps (spM K mg b m)
  g : mg (os cn) = some (.ref C)
  cl : Cls K C
  pr : PropOf K C (os mn) p f
  bi : Binds K fd ps []
structure KnC (C f : Addr) (fd : FuncData) (cn : String) (ps : List PySem.Str) (k : Nat) (m : Mir) : Prop where
  ok : FnOk P w K mg base CX0 k f fd ps (spM K mg true m)
  g : mg (os cn) = some (.ref C)
  cm : Mk K C f
  bi : Binds K fd ps []
end
section
variable {X : Cx} {k j : Nat} {ps : List PySem.Str} {m : Mir} {C f pa : Addr} {fd : FuncData} {x cn mn : String} {p pos apos : Pos} {e o : Expr} {es : List Expr} {t : TA} {fa : FA} {te to : TE} {fe fo : FE} {pl : Sem Bool}
theorem kf_call {K : PySem.W.Frag} {mg : Mg} (h : KnF X.prog X.w K mg X.base f fd x ps false k m) (hr : Room j X.A) (ha : JA X (e :: es) t fa) (hj : k ≤ j := by decide) (hg : Gl X (os x) := by rfl) (hdb : (os x == ("__debug__" : PySem.Str)) = false := by decide)
    (he : starEach (e :: es) X.env = (false, eval e X.env) :: starEach es X.env := by rfl) (hpl : (backTo pos (starEach es X.env)).any (·.1) = false := by rfl) (hK : X.K = K := by rfl) (hM : X.mg = mg := by rfl) : JE X (.Call (.Name (os x) p) (e :: es) [] pos) (tCall (spM K mg false m) [] E0 t) (fCall m fa) := by
  subst hK hM
  exact je_call h.ok (hr.mono hj) hg h.g h.kp h.bi ha hdb he hpl
theorem kf_call0 {K : PySem.W.Frag} {mg : Mg} (h : KnF X.prog X.w K mg X.base f fd x ps false k m) (hr : Room j X.A) (hj : k ≤ j := by decide) (hg : Gl X (os x) := by rfl) (hdb : (os x == ("__debug__" : PySem.Str)) = false := by decide) (hK : X.K = K := by rfl) (hM : X.mg = mg := by rfl) : JE X (.Call (.Name (os x) p) [] [] pos) (tCall (spM K mg false m) [] E0 tNil) (fCall m aNil) := by
  subst hK hM
  exact je_call0 h.ok (hr.mono hj) hg h.g h.kp h.bi hdb
theorem kf_callIo {K : PySem.W.Frag} {mg : Mg} (h : KnF X.prog X.w K mg X.base f fd x ps true k m) (hr : Room j X.A) (he1 : JE X e te fe) (ha : JA X es t fa) (hj : k ≤ j := by decide) (hg : Gl X (os x) := by rfl) (hdb : (os x == ("__debug__" : PySem.Str)) = false := by decide)
    (he : starEach (e :: es) X.env = (false, eval e X.env) :: starEach es X.env := by rfl) (hpl : (backTo pos (starEach es X.env)).any (·.1) = false := by rfl) (hK : X.K = K := by rfl) (hM : X.mg = mg := by rfl) : JE X (.Call (.Name (os x) p) (e :: es) [] pos) (tCall (spM K mg true m) [] E0 (tCons te t)) (fCallIo m fe fa) := by
  subst hK hM
  exact je_callIo h.ok (hr.mono hj) hg h.g h.kp h.bi he1 ha hdb he hpl
theorem kc_make {K : PySem.W.Frag} {mg : Mg} (h : KnC X.prog X.w K mg X.base C f fd cn ps k m) (hr : Room j X.A) (ha : JA X (e :: es) t fa) (hj : k + 1 ≤ j := by decide) (hg : Gl X (os cn) := by rfl) (hdb : (os cn == ("__debug__" : PySem.Str)) = false := by decide)
    (he : starEach (e :: es) X.env = (false, eval e X.env) :: starEach es X.env := by rfl) (hpl : (backTo pos (starEach es X.env)).any (·.1) = false := by rfl) (hK : X.K = K := by rfl) (hM : X.mg = mg := by rfl) : JE X (.Call (.Name (os cn) p) (e :: es) [] pos) (tMake C (spM K mg true m) [] E0 t) (fMake cn m fa) := by
  subst hK hM
  exact je_make h.cm h.ok (hr.mono hj) hg h.g h.bi ha hdb he hpl
theorem kp_prop {K : PySem.W.Frag} {mg : Mg} (h : KnP X.prog X.w K mg X.base C pa f fd cn mn ps false k m) (hr : Room j X.A) (he : JE X e te fe) (hj : k + 1 ≤ j := by decide) (hab : attributeBase e (os mn) X.env (eval e X.env) = eval e X.env := by rfl) (hK : X.K = K := by rfl) (hM : X.mg = mg := by rfl) : JE X (.Attribute e (os mn) pos) (tProp C (spM K mg false m) [] E0 te) (fProp cn m fe) := by
  subst hK hM
  exact je_prop h.g he h.cl h.pr h.ok (hr.mono hj) h.bi hab
theorem kp_propIo {K : PySem.W.Frag} {mg : Mg} (h : KnP X.prog X.w K mg X.base C pa f fd cn mn ps true k m) (hr : Room j X.A) (he : JE X e te fe) (hj : k + 1 ≤ j := by decide) (hab : attributeBase e (os mn) X.env (eval e X.env) = eval e X.env := by rfl) (hK : X.K = K := by rfl) (hM : X.mg = mg := by rfl) : JE X (.Attribute e (os mn) pos) (tProp C (spM K mg true m) [] E0 te) (fPropIo cn m fe) := by
  subst hK hM
  exact je_propIo h.g he h.cl h.pr h.ok (hr.mono hj) h.bi hab
theorem km_meth {K : PySem.W.Frag} {mg : Mg} (h : KnM X.prog X.w K mg X.base C f fd cn mn ps false k m) (hr : Room j X.A) (he : JE X o te fe) (ha : JA X (e :: es) t fa) (hj : k ≤ j := by decide)
    (hst : starEach (e :: es) X.env = (false, eval e X.env) :: starEach es X.env := by rfl) (hpl : (backTo pos (starEach es X.env)).any (·.1) = false := by rfl)
    (ht : eval (.Call (.Attribute o (os mn) apos) (e :: es) [] pos) X.env = (do
      let ov ← eval o X.env
      standAt apos.atName
      let (f, first) ← holding [ov] (getMethod ov (os mn) pl)
      callWith pos f first (backTo pos (starEach (e :: es) X.env)) (backToKw pos (keywordEach [] X.env))) := by rfl) (hK : X.K = K := by rfl) (hM : X.mg = mg := by rfl) :
    JE X (.Call (.Attribute o (os mn) apos) (e :: es) [] pos) (tMeth C (os mn) (spM K mg false m) [] E0 te t) (fMeth cn mn m fe fa) := by
  subst hK hM
  exact je_meth h.g he h.cl h.me h.ok (hr.mono hj) h.bi ha hst hpl ht
theorem km_methIo {K : PySem.W.Frag} {mg : Mg} (h : KnM X.prog X.w K mg X.base C f fd cn mn ps true k m) (hr : Room j X.A) (he : JE X o te fe) (ha : JA X (e :: es) t fa) (hj : k ≤ j := by decide)
    (hst : starEach (e :: es) X.env = (false, eval e X.env) :: starEach es X.env := by rfl) (hpl : (backTo pos (starEach es X.env)).any (·.1) = false := by rfl)
    (ht : eval (.Call (.Attribute o (os mn) apos) (e :: es) [] pos) X.env = (do
      let ov ← eval o X.env
      standAt apos.atName
      let (f, first) ← holding [ov] (getMethod ov (os mn) pl)
      callWith pos f first (backTo pos (starEach (e :: es) X.env)) (backToKw pos (keywordEach [] X.env))) := by rfl) (hK : X.K = K := by rfl) (hM : X.mg = mg := by rfl) :
    JE X (.Call (.Attribute o (os mn) apos) (e :: es) [] pos) (tMeth C (os mn) (spM K mg true m) [] E0 te t) (fMethIo cn mn m fe fa) := by
  subst hK hM
  exact je_methIo h.g he h.cl h.me h.ok (hr.mono hj) h.bi ha hst hpl ht
theorem km_meth0 {K : PySem.W.Frag} {mg : Mg} (h : KnM X.prog X.w K mg X.base C f fd cn mn ps false k m) (hr : Room j X.A) (he : JE X o te fe) (hj : k ≤ j := by decide)
    (ht : eval (.Call (.Attribute o (os mn) apos) [] [] pos) X.env = (do
      let ov ← eval o X.env
      standAt apos.atName
      let (f, first) ← holding [ov] (getMethod ov (os mn) pl)
      callWith pos f first (backTo pos (starEach [] X.env)) (backToKw pos (keywordEach [] X.env))) := by rfl) (hK : X.K = K := by rfl) (hM : X.mg = mg := by rfl) :
    JE X (.Call (.Attribute o (os mn) apos) [] [] pos) (tMeth C (os mn) (spM K mg false m) [] E0 te tNil) (fMeth cn mn m fe aNil) := by
  subst hK hM
  exact je_meth0 h.g he h.cl h.me h.ok (hr.mono hj) h.bi ht
theorem km_meth0Io {K : PySem.W.Frag} {mg : Mg} (h : KnM X.prog X.w K mg X.base C f fd cn mn ps true k m) (hr : Room j X.A) (he : JE X o te fe) (hj : k ≤ j := by decide)
    (ht : eval (.Call (.Attribute o (os mn) apos) [] [] pos) X.env = (do
      let ov ← eval o X.env
      standAt apos.atName
      let (f, first) ← holding [ov] (getMethod ov (os mn) pl)
      callWith pos f first (backTo pos (starEach [] X.env)) (backToKw pos (keywordEach [] X.env))) := by rfl) (hK : X.K = K := by rfl) (hM : X.mg = mg := by rfl) :
    JE X (.Call (.Attribute o (os mn) apos) [] [] pos) (tMeth C (os mn) (spM K mg true m) [] E0 te tNil) (fMethIo cn mn m fe aNil) := by
  subst hK hM
  exact je_meth0Io h.g he h.cl h.me h.ok (hr.mono hj) h.bi ht
end

/-! ### the law's end -/
/-- what a script is -/
def Good (ns : List Int) : Prop := ns.length ≤ 63 ∧ ∀ z ∈ ns, Builtin.Int.intBits z ≤ 1048576
theorem ints_rp {K : PySem.W.Frag} {mg : Mg} {G : Hp} : ∀ ns : List Int, RpL K mg G (ns.map V.int) (ns.map D.int)
  | [] => .nil
  | _ :: ns => .cons (.int _) (ints_rp ns)
def spLaw (K : PySem.W.Frag) (good : List Int → Prop) : Sp := fun vs H Q _ => ∃ (a : Addr) (ns : List Int), vs = [.ref a] ∧ SqL K H a (ns.map V.int) ∧ good ns ∧ ∀ H', Q (.bl true) H'
theorem law_imp {P : Program} {w : World} {K : PySem.W.Frag} {mg : Mg} {base : Heap} {k : Nat} {f : Addr} {fd : FuncData} {ps : List PySem.Str} {m : Mir} {good : List Int → Prop} (F : FnOk P w K mg base CX0 k f fd ps (spM K mg false m))
    (h : ∀ ns : List Int, good ns → ∃ z, m [.lst (ns.map D.int)] = some (false, .bl true, z)) : FnOk P w K mg base CX0 k f fd ps (spLaw K good) := by
  refine F.imp fun vs H Q E ⟨a, ns, e, hs, hn, q⟩ => ?_
  subst e
  obtain ⟨z, hz⟩ := h ns hn
  refine ⟨H, [.lst (ns.map D.int)], false, .bl true, z, Same.refl H, .pure (.cons (.lst hs (ints_rp ns)) .nil), hz, fun v G' H' B => ?_⟩
  have r := B.rs
  cases r with
  | old r => cases r; exact q H'
end J
namespace J
open PySem PySem.Spec PyProof.Rows L2

/-! ### a, b = e1, e2; a, b = e; x += e -/
def setAll : List Nat → List D → Tau → Option Tau
  | [], [], τ => some τ
  | i :: is, d :: ds, τ => setAll is ds (τ.set i (some (.sh d)))
  | _, _, _ => none
def sPar (is : List Nat) (fa : FA) (τ : Tau) : Option Flow := (fa τ).bind fun a => (setAll is a.1 a.2).bind fun τ' => some (.nx τ')
def sUnp (fe : FE) (fg : FG) (τ : Tau) : Option Flow := (fe τ).bind fun o => (fz o.2 o.1).bind fun d => (fg d.1 d.2).bind fun τ' => some (.nx τ')
def sAug (i : Nat) (g : G2) (fe : FE) (τ : Tau) : Option Flow := match τ[i]? with
  | some (some (.sh d)) => (fe τ).bind fun o => (deref o.2 o.1).bind fun e => (g d e).bind fun z => match z with
    | .val z => some (.nx (o.2.set i (some (.sh z))))
    | _ => none
  | _ => none
section
variable {K : PySem.W.Frag} {mg : Mg} {b : Bool} {ta : TA} {fa : FA} {te : TE} {fe : FE}
theorem Fr.setSh {io : Option V} {R0 : Addr → Prop} {G0 H0 G H : Hp} {σ : L2.St} {τ : Tau} {i : Nat} {v : V} {d : D} (hb : b = false → io = none) (hi : b = false ∨ i ≠ 0) (F : Fr K mg io R0 G0 H0 G H σ τ) (r : Rp K mg G v d) : Fr K mg io R0 G0 H0 G H (σ.set i (some v)) (τ.set i (some (.sh d))) := by
  obtain ⟨A, ro⟩ := F.at'.setSh (i := i) F.ll r
  exact F.slots A (fun b h => F.rr b (ro b h)) (pr_set hb hi F.pr) (by rw [List.length_set, List.length_set]; exact F.ll)
theorem rs_par2 {i j : Nat} (h0 : b = false ∨ 0 ∉ [i, j]) (ha : RA K mg ta fa) : RS K mg b (tPar i j ta) (sPar [i, j] fa) := fun io R0 G0 H0 G H σ τ D fl hb F e k => by
  obtain ⟨⟨ds, τ1⟩, e1, e⟩ := bind_some' e
  obtain ⟨τ2, e2, e⟩ := bind_some' e
  cases e
  refine ha σ τ G H ds τ1 _ F.at' e1 fun vs G1 H1 g1 r1 => ?_
  have hi : b = false ∨ i ≠ 0 := h0.imp id fun h z => h (by simp [z])
  have hj : b = false ∨ j ≠ 0 := h0.imp id fun h z => h (by simp [z])
  cases r1 with
  | nil => cases e2
  | cons r1 r2 =>
    cases r2 with
    | nil => cases e2
    | cons r2 r3 =>
      cases r3 with
      | cons _ _ => cases e2
      | nil =>
        cases e2
        exact ⟨_, _, rfl, k _ G1 H1 (Fr.setSh hb hj (Fr.setSh hb hi (F.go g1) r1) r2)⟩
theorem rs_par3 {i j l : Nat} (h0 : b = false ∨ 0 ∉ [i, j, l]) (ha : RA K mg ta fa) : RS K mg b (tPar3 i j l ta) (sPar [i, j, l] fa) := fun io R0 G0 H0 G H σ τ D fl hb F e k => by
  obtain ⟨⟨ds, τ1⟩, e1, e⟩ := bind_some' e
  obtain ⟨τ2, e2, e⟩ := bind_some' e
  cases e
  refine ha σ τ G H ds τ1 _ F.at' e1 fun vs G1 H1 g1 r1 => ?_
  have hi : b = false ∨ i ≠ 0 := h0.imp id fun h z => h (by simp [z])
  have hj : b = false ∨ j ≠ 0 := h0.imp id fun h z => h (by simp [z])
  have hl : b = false ∨ l ≠ 0 := h0.imp id fun h z => h (by simp [z])
  cases r1 with
  | nil => cases e2
  | cons r1 r2 =>
    cases r2 with
    | nil => cases e2
    | cons r2 r3 =>
      cases r3 with
      | nil => cases e2
      | cons r3 r4 =>
        cases r4 with
        | cons _ _ => cases e2
        | nil =>
          cases e2
          exact ⟨_, _, _, rfl, k _ G1 H1 (Fr.setSh hb hl (Fr.setSh hb hj (Fr.setSh hb hi (F.go g1) r1) r2) r3)⟩
theorem rs_unp {is : List Nat} {tg : TG} {fg : FG} (h0 : b = false ∨ 0 ∉ is) (he : RE K mg te fe) (hg : RG K mg is tg fg) : RS K mg b (tAsg te tg) (sUnp fe fg) := fun io R0 G0 H0 G H σ τ D fl hb F e k => by
  obtain ⟨⟨o, τ1⟩, e1, e⟩ := bind_some' e
  obtain ⟨⟨d, τ2⟩, e2, e⟩ := bind_some' e
  obtain ⟨τ3, e3, e⟩ := bind_some' e
  cases e
  refine he σ τ G H o τ1 _ F.at' e1 fun x G1 H1 g1 o1 => ?_
  obtain ⟨G2, g2, s2, r2⟩ := o1.fz g1 e2
  have F2 := F.go g2
  refine hg G2 H1 σ τ2 x d τ3 _ F2.at' F2.ll r2 e3 fun σ3 A3 l3 ro3 k3 t3 kt3 ls3 => ?_
  exact k σ3 G2 H1 (F2.slots A3 (fun b h => F2.rr b (ro3 b h)) (fun v hv => by
    rcases h0 with z | z
    · rw [hb z] at hv; cases hv
    · rw [k3 0 z]; exact F2.pr v hv) l3)
/-- an augmented operator by values, frozen scalars -/
def RIp (K : PySem.W.Frag) (mg : Mg) (t : TIp) (g : G2) : Prop := ∀ (G H : Hp) (x y : V) (d e z : D) (Q : VK), Same G H → Rp K mg G x d → Pk K mg G H y e → g d e = some (.val z) → (∀ v, Rp K mg G v z → Q v H) → t x y H Q
theorem rs_aug {i : Nat} {t : TIp} {g : G2} (hi : b = false ∨ i ≠ 0) (ho : RIp K mg t g) (he : RE K mg te fe) : RS K mg b (tAug i te t) (sAug i g fe) := fun io R0 G0 H0 G H σ τ D fl hb F e k => by
  unfold sAug at e
  split at e
  · rename_i d hd
    obtain ⟨⟨o, τ1⟩, e1, e⟩ := bind_some' e
    obtain ⟨d', e2, e⟩ := bind_some' e
    obtain ⟨z, e3, e⟩ := bind_some' e
    obtain ⟨x, hx, rx⟩ := F.at'.sh i d hd
    refine ⟨x, hx, ?_⟩
    refine he σ τ G H o τ1 _ F.at' e1 fun y G1 H1 g1 o1 => ?_
    dsimp only at e2 e3 e
    split at e
    · cases e
      exact ho G1 H1 x y d d' _ _ g1.at'.gh (rx.mono g1.gg) (o1.pk g1.at' e2) e3 fun v rv => k _ G1 H1 (Fr.setSh hb hi (F.go g1) rv)
    · cases e
  · cases e
theorem rip_I {f : Int → Int → Int} : RIp K mg (ipI f) (gI fun i j => some (.int (f i j))) := fun G H x y d e z Q s r p eq q => by
  cases d <;> cases e <;> first | (cases eq; done) | skip
  cases eq
  cases r
  cases p.int
  exact ⟨_, _, rfl, rfl, q _ (.int _)⟩
end
section
variable {X : Cx} {b : Bool} {ta : TA} {fa : FA} {te : TE} {fe : FE} {e : Expr} {pos : Pos}
theorem js_par2 {i j : Nat} {x y : PySem.Str} {a c : Expr} {px py pt : Pos} {kt k2 pt2} (hc : X.calm = true) (hN : X.N.Nodup) (h0 : b = false ∨ 0 ∉ [i, j]) (ha : JA X [a, c] ta fa) (hi : X.N[i]? = some x := by rfl) (hj : X.N[j]? = some y := by rfl) (hij : i ≠ j := by decide)
    (hx : X.env.scope.names.lookup x = some .local := by rfl) (hy : X.env.scope.names.lookup y = some .local := by rfl)
    (hw : swappedStores [.Tuple [.Name x px, .Name y py] kt pt] (.Tuple [a, c] k2 pt2) X.env = pure (some [x, y]) := by rfl)
    (hs : swapsWithSole [.Tuple [.Name x px, .Name y py] kt pt] (.Tuple [a, c] k2 pt2) pos.line X.env = pure false := by rfl) :
    JS X b (.Assign [.Tuple [.Name x px, .Name y py] kt pt] (.Tuple [a, c] k2 pt2) pos) (tPar i j ta) (sPar [i, j] fa) := ⟨ps_par hc hN hi hj hij hx hy ha.pa hw hs, rs_par2 h0 ha.ra⟩
theorem js_unp {tg : Expr} {is : List Nat} {g : TG} {fg : FG} (h0 : b = false ∨ 0 ∉ is) (he : JE X e te fe) (hg : JG X tg is g fg) (hs : swapsWithSole [tg] e pos.line X.env = pure false := by rfl) (hw : swappedStores [tg] e X.env = pure none := by rfl)
    (h1 : (assignEach [tg] X.env).map (·.2) = [assign tg X.env] := by rfl) : JS X b (.Assign [tg] e pos) (tAsg te g) (sUnp fe fg) := ⟨ps_asg he.pe hg.pg hs hw h1, rs_unp h0 he.re hg.rg⟩
theorem js_augAdd {i : Nat} {x : PySem.Str} {pos' : Pos} (hN : X.N.Nodup) (hb : b = false ∨ i ≠ 0) (he : JE X e te fe) (hi : X.N[i]? = some x := by rfl) (hx : Loc X.env.scope x := by first | exact Or.inl rfl | exact Or.inr rfl)
    (hf : X.fn x = true ∨ X.env.scope.names.lookup x = some .local := by first | exact .inl rfl | exact .inr rfl | assumption) : JS X b (.AugAssign (.Name x pos') .Add e pos) (tAug i te (ipI fun i j => i + j)) (sAug i gAdd fe) := ⟨ps_aug hN hi hx he.pe ip_add hf, rs_aug hb rip_I he.re⟩
theorem js_augSub {i : Nat} {x : PySem.Str} {pos' : Pos} (hN : X.N.Nodup) (hb : b = false ∨ i ≠ 0) (he : JE X e te fe) (hi : X.N[i]? = some x := by rfl) (hx : Loc X.env.scope x := by first | exact Or.inl rfl | exact Or.inr rfl)
    (hf : X.fn x = true ∨ X.env.scope.names.lookup x = some .local := by first | exact .inl rfl | exact .inr rfl | assumption) : JS X b (.AugAssign (.Name x pos') .Sub e pos) (tAug i te (ipI fun i j => i - j)) (sAug i gSub fe) := ⟨ps_aug hN hi hx he.pe ip_sub hf, rs_aug hb rip_I he.re⟩
theorem js_par3 {i j l : Nat} {x y z : PySem.Str} {a c d : Expr} {px py pz pt : Pos} {kt k2 pt2} (hc : X.calm = true) (hN : X.N.Nodup) (h0 : b = false ∨ 0 ∉ [i, j, l]) (ha : JA X [a, c, d] ta fa) (hi : X.N[i]? = some x := by rfl) (hj : X.N[j]? = some y := by rfl) (hl : X.N[l]? = some z := by rfl)
    (hij : i ≠ j := by decide) (hil : i ≠ l := by decide) (hjl : j ≠ l := by decide)
    (hx : X.env.scope.names.lookup x = some .local := by rfl) (hy : X.env.scope.names.lookup y = some .local := by rfl) (hz : X.env.scope.names.lookup z = some .local := by rfl)
    (hw : swappedStores [.Tuple [.Name x px, .Name y py, .Name z pz] kt pt] (.Tuple [a, c, d] k2 pt2) X.env = pure (some [x, y, z]) := by rfl)
    (hs : swapsWithSole [.Tuple [.Name x px, .Name y py, .Name z pz] kt pt] (.Tuple [a, c, d] k2 pt2) pos.line X.env = pure false := by rfl) :
    JS X b (.Assign [.Tuple [.Name x px, .Name y py, .Name z pz] kt pt] (.Tuple [a, c, d] k2 pt2) pos) (tPar3 i j l ta) (sPar [i, j, l] fa) := ⟨ps_par3 hc hN hi hj hl hij hil hjl hx hy hz ha.pa hw hs, rs_par3 h0 ha.ra⟩
end
end J
namespace J
open PySem PySem.Spec PyProof.Rows L2

/-! ### running a mirror -/
theorem whN_some {c : FT} {f : FS} {τ : Tau} {fl : Flow} : sWh c f τ = some fl ↔ ∃ n, whN c f n τ = some fl := ⟨sWh_get, fun ⟨_, h⟩ => sWh_of h⟩
theorem sWh_eq (c : FT) (f : FS) (τ : Tau) : sWh c f τ = (c τ).bind fun a => if a.1 = true then (f a.2).bind fun fl => match fl with
      | .nx τ2 => sWh c f τ2
      | .ct τ2 => sWh c f τ2
      | .bk τ2 => some (.nx τ2)
      | .rt o τ2 => some (.rt o τ2)
    else some (.nx a.2) := by
  refine Option.ext fun fl => ?_
  constructor
  · intro h
    obtain ⟨n, h⟩ := sWh_get h
    cases n with
    | zero => cases h
    | succ n =>
      unfold whN at h
      obtain ⟨a, e1, h⟩ := bind_some' h
      rw [e1]
      show (if a.1 = true then _ else _) = _
      by_cases ha : a.1 = true
      · rw [if_pos ha] at h ⊢
        obtain ⟨fl1, e2, h⟩ := bind_some' h
        rw [e2]
        cases fl1 with
        | nx τ2 => exact sWh_of h
        | ct τ2 => exact sWh_of h
        | bk τ2 => exact h
        | rt o τ2 => exact h
      · rw [if_neg ha] at h ⊢
        exact h
  · intro h
    obtain ⟨a, e1, h⟩ := bind_some' h
    by_cases ha : a.1 = true
    · rw [if_pos ha] at h
      obtain ⟨fl1, e2, h⟩ := bind_some' h
      have key : ∀ n, (match fl1 with
          | .nx τ2 => whN c f n τ2
          | .ct τ2 => whN c f n τ2
          | .bk τ2 => some (.nx τ2)
          | .rt o τ2 => some (.rt o τ2)) = some fl → whN c f (n + 1) τ = some fl := fun n hn => by
        unfold whN
        rw [e1]
        show (if a.1 = true then _ else _) = _
        rw [if_pos ha, e2]
        exact hn
      cases fl1 with
      | nx τ2 => obtain ⟨n, hn⟩ := sWh_get h; exact sWh_of (key n hn)
      | ct τ2 => obtain ⟨n, hn⟩ := sWh_get h; exact sWh_of (key n hn)
      | bk τ2 => exact sWh_of (key 0 h)
      | rt o τ2 => exact sWh_of (key 0 h)
    · rw [if_neg ha] at h
      refine sWh_of (n := 1) ?_
      unfold whN
      rw [e1]
      show (if a.1 = true then _ else _) = _
      rw [if_neg ha]
      exact h
abbrev si (i : Int) : Option Cell := some (.sh (.int i))
abbrev sd (d : D) : Option Cell := some (.sh d)
def contD (g : FG) (f : FS) (ds : List D) : Flow → Option Flow
  | .nx τ2 => forD g f ds τ2
  | .ct τ2 => forD g f ds τ2
  | .bk τ2 => some (.nx τ2)
  | .rt o τ2 => some (.rt o τ2)
theorem forD_cons {g : FG} {f : FS} {d : D} {ds : List D} {τ τ1 : Tau} {fl : Flow} (e1 : g d τ = some τ1) (e2 : f τ1 = some fl) : forD g f (d :: ds) τ = contD g f ds fl := by
  unfold forD
  rw [e1]
  show (f τ1).bind _ = _
  rw [e2]
  cases fl <;> rfl
/-- a for over a list, by an invariant of the state ahead of each turn; the turn goes on -/
theorem forD_inv {g : FG} {f : FS} (Iv : Nat → Tau → Prop) : ∀ (ds : List D) (i : Nat) (τ : Tau), Iv i τ → (∀ k d τ, ds[k]? = some d → Iv (i + k) τ → ∃ τ1 fl, g d τ = some τ1 ∧ f τ1 = some fl ∧ ∃ τ2, (fl = .nx τ2 ∨ fl = .ct τ2) ∧ Iv (i + k + 1) τ2) → ∃ τ', forD g f ds τ = some (.nx τ') ∧ Iv (i + ds.length) τ'
  | [], i, τ, h, _ => ⟨τ, rfl, h⟩
  | d :: ds, i, τ, h, st => by
    obtain ⟨τ1, fl, e1, e2, τ2, hf, h2⟩ := st 0 d τ rfl h
    obtain ⟨τ', e3, h3⟩ := forD_inv Iv ds (i + 1) τ2 (by simpa using h2) (fun k d' τ hk hi => by
      have := st (k + 1) d' τ (by simpa using hk) (by rw [show i + (k + 1) = i + 1 + k by omega]; exact hi)
      rw [show i + (k + 1) + 1 = i + 1 + k + 1 by omega] at this
      exact this)
    refine ⟨τ', ?_, by rw [List.length_cons, show i + (ds.length + 1) = i + 1 + ds.length by omega]; exact h3⟩
    unfold forD
    rw [e1]
    show (f τ1).bind _ = _
    rw [e2]
    rcases hf with rfl | rfl
    · exact e3
    · exact e3
/-- a for whose turn may return: either it ends, or some turn returns what is wanted -/
theorem forD_ret {g : FG} {f : FS} (Iv : Nat → Tau → Prop) (Rt : Op → Tau → Prop) : ∀ (ds : List D) (i : Nat) (τ : Tau), Iv i τ → (∀ k d τ, ds[k]? = some d → Iv (i + k) τ → ∃ τ1 fl, g d τ = some τ1 ∧ f τ1 = some fl ∧ ((∃ τ2, (fl = .nx τ2 ∨ fl = .ct τ2) ∧ Iv (i + k + 1) τ2) ∨ ∃ o τ2, fl = .rt o τ2 ∧ Rt o τ2)) →
    (∃ τ', forD g f ds τ = some (.nx τ') ∧ Iv (i + ds.length) τ') ∨ ∃ o τ', forD g f ds τ = some (.rt o τ') ∧ Rt o τ'
  | [], i, τ, h, _ => .inl ⟨τ, rfl, h⟩
  | d :: ds, i, τ, h, st => by
    obtain ⟨τ1, fl, e1, e2, hf⟩ := st 0 d τ rfl h
    have un := forD_cons (ds := ds) e1 e2
    rcases hf with ⟨τ2, hf, h2⟩ | ⟨o, τ2, rfl, hr⟩
    · have ih := forD_ret Iv Rt ds (i + 1) τ2 (by simpa using h2) (fun k d' τ hk hi => by
        have := st (k + 1) d' τ (by simpa using hk) (by rw [show i + (k + 1) = i + 1 + k by omega]; exact hi)
        rw [show i + (k + 1) + 1 = i + 1 + k + 1 by omega] at this
        exact this)
      have e : forD g f (d :: ds) τ = forD g f ds τ2 := by rcases hf with rfl | rfl <;> exact un
      rw [e, List.length_cons, show i + (ds.length + 1) = i + 1 + ds.length by omega]
      exact ih
    · exact .inr ⟨o, τ2, un, hr⟩
end J
namespace J
open PySem PySem.Spec PyProof.Rows L2

/-! ### calls with keywords -/
/-- the arguments in the parameters' order -/
def pk {α : Type} (pm : List Nat) (l : List α) : List α := pm.filterMap (l[·]?)
def tPk (n m : Nat) (pm : List Nat) (t tk : TA) : TA := fun σ H Q => t σ H fun vs H1 => tk σ H1 fun zs H2 => vs.length = n ∧ zs.length = m ∧ Q (pk pm (vs ++ zs)) H2
def aPk (n m : Nat) (pm : List Nat) (f g : FA) (τ : Tau) : Option (List D × Tau) := (f τ).bind fun a => (g a.2).bind fun b => if a.1.length = n ∧ b.1.length = m then some (pk pm (a.1 ++ b.1), b.2) else none
theorem RpL.pk {K : PySem.W.Frag} {mg : Mg} {G : Hp} {vs : List V} {ds : List D} (r : RpL K mg G vs ds) : ∀ pm : List Nat, RpL K mg G (J.pk pm vs) (J.pk pm ds)
  | [] => .nil
  | i :: pm => by
    unfold J.pk
    rw [List.filterMap_cons, List.filterMap_cons]
    cases h : ds[i]? with
    | none =>
      have : vs[i]? = none := by
        rw [List.getElem?_eq_none_iff] at h ⊢
        rw [r.length]; exact h
      rw [this]
      exact RpL.pk r pm
    | some d =>
      obtain ⟨v, e, rv⟩ := r.get h
      rw [e]
      exact .cons rv (RpL.pk r pm)
theorem RpL.app {K : PySem.W.Frag} {mg : Mg} {G : Hp} : ∀ {vs : List V} {ds : List D} {ws : List V} {es : List D}, RpL K mg G vs ds → RpL K mg G ws es → RpL K mg G (vs ++ ws) (ds ++ es) := RpL.append
theorem RpL.monoL {K : PySem.W.Frag} {mg : Mg} {G G' : Hp} {vs : List V} {ds : List D} (r : RpL K mg G vs ds) (s : Same G G') : RpL K mg G' vs ds := RpL.mono s r
theorem ra_pk {K : PySem.W.Frag} {mg : Mg} {t tk : TA} {f g : FA} {n m : Nat} {pm : List Nat} (ha : RA K mg t f) (hk : RA K mg tk g) : RA K mg (tPk n m pm t tk) (aPk n m pm f g) := fun σ τ G H ds τ' Q A e q => by
  obtain ⟨⟨d1, τ1⟩, e1, e⟩ := bind_some' e
  obtain ⟨⟨d2, τ2⟩, e2, e⟩ := bind_some' e
  obtain ⟨⟨l1, l2⟩, e⟩ := if_get e
  cases e
  refine ha σ τ G H d1 τ1 _ A e1 fun vs G1 H1 g1 r1 => ?_
  refine hk σ τ1 G1 H1 d2 τ2 _ g1.at' e2 fun zs G2 H2 g2 r2 => ?_
  exact ⟨r1.length.trans l1, r2.length.trans l2, q _ G2 H2 (g1.trans g2) (((r1.monoL g2.gg).append r2).pk pm)⟩
theorem vals_pk {vs : List V} {us : List Value} (r : Vals vs us) : ∀ pm : List Nat, Vals (pk pm vs) (pk pm us) := by
  have get : ∀ {vs : List V} {us : List Value}, Vals vs us → ∀ i : Nat, (vs[i]? = none ∧ us[i]? = none) ∨ ∃ v u, vs[i]? = some v ∧ us[i]? = some u ∧ RelV v u := by
    intro vs us r
    induction r with
    | nil => exact fun i => .inl ⟨by simp, by simp⟩
    | cons h _ ih =>
      intro i
      cases i with
      | zero => exact .inr ⟨_, _, rfl, rfl, h⟩
      | succ i => simpa using ih i
  intro pm
  induction pm with
  | nil => exact .nil
  | cons i pm ih =>
    unfold pk
    rw [List.filterMap_cons, List.filterMap_cons]
    rcases get r i with ⟨a, b⟩ | ⟨v, u, a, b, h⟩
    · rw [a, b]; exact ih
    · rw [a, b]; exact .cons h ih
theorem pk_succ {α : Type} (pm : List Nat) (x : α) (l : List α) : pk (0 :: pm.map Nat.succ) (x :: l) = x :: pk pm l := by
  unfold pk
  rw [List.filterMap_cons, List.filterMap_map]
  rfl
/-- what a call with n positional values and keywords ks binds -/
def KwB (K : PySem.W.Frag) (fd : FuncData) (ps ks : List PySem.Str) (n : Nat) (pm : List Nat) : Prop :=
  ∀ (s : Shared) (us ws : List Value), K.In s.heap → us.length = n → ws.length = ks.length → BindsTo s fd ⟨us, ks.zip ws⟩ (ps.zip (pk pm (us ++ ws)))
/-- keywords' values -/
structure JK (X : Cx) (kws : List Keyword) (t : TA) (f : FA) : Prop where
  pk : PK X kws t
  ra : RA X.K X.mg t f
section
variable {X : Cx} {k n : Nat} {f C : Addr} {fd : FuncData} {ps ks : List PySem.Str} {sp : Sp} {pm : List Nat} {x mn : PySem.Str} {p pos apos kpos : Pos} {e o : Expr} {es : List Expr} {kws : List Keyword} {te to : TE} {t tk : TA} {fe fo : FE} {fa fk : FA} {nm : Option PySem.Str} {m : Mir} {pl : Sem Bool}
theorem jk_nil : JK X [] tNil aNil := ⟨pk_nil, ra_nil⟩
theorem jk_cons (ha : JE X e te fe) (hr : JK X kws t fa) : JK X (⟨nm, e, kpos⟩ :: kws) (tCons te t) (aCons fe fa) := ⟨pk_cons ha.pe hr.pk, ra_cons ha.re hr.ra⟩
theorem run_fnN {pins : List (Addr × Obj)} {σ : L2.St} {H : Hp} {s : Shared} {Q : VK} {us ws : List Value} {vs zs : List V} (F : FnOk X.prog X.w X.K X.mg X.base CX0 k f fd ps sp) (hr : Room k X.A) (hb : KwB X.K fd ps ks n pm)
    (I : Inv X pins σ H s) (r : Vals vs us) (rz : Vals zs ws) (l1 : vs.length = n) (l2 : zs.length = ks.length) (h : sp (pk pm (vs ++ zs)) H Q E0) : wpAny (model X.prog X.w) X.A (call (.ref f) us (ks.zip ws)) (EP X pins σ Q) X.xe s := by
  have r2 := vals_pk (r.append rz) pm
  refine wpAny_call (codeAny_mono (F.run X.A X.stack s H ⟨us, ks.zip ws⟩ _ _ Q E0 hr I.env0 (hb s us ws I.kIn (r.length.symm.trans l1) (rz.length.symm.trans l2)) r2 h) fun r s' hq => ?_)
  cases r with
  | error e => exact pass0 pins σ H s e s' I hq
  | ok fl =>
    cases fl with
    | ret u => exact I.after hq
    | next => exact False.elim hq
    | brk => exact False.elim hq
    | cont => exact False.elim hq
/-- f(e, .., k = v, ..) -/
theorem pe_callN (F : FnOk X.prog X.w X.K X.mg X.base CX0 k f fd ps sp) (hr : Room k X.A) (hg : Gl X x) (hm : X.mg x = some (.ref f)) (hk : PySem.W.keepIn X.K (.ref f) = true) (hb : KwB X.K fd ps ks n pm)
    (ha : PA X (e :: es) t) (hkw : PK X kws tk) (hall : (backToKw pos (keywordEach kws X.env)).all (·.1.isSome) = true := by rfl) (hks : (backToKw pos (keywordEach kws X.env)).filterMap (·.1) = ks := by rfl)
    (hdb : (x == ("__debug__" : PySem.Str)) = false := by decide) (he : starEach (e :: es) X.env = (false, eval e X.env) :: starEach es X.env := by rfl)
    (hpl : ((backTo pos (starEach (e :: es) X.env)).any (·.1) || (backToKw pos (keywordEach kws X.env)).any (·.1.isNone)) = false := by rfl) :
    PE X (.Call (.Name x p) (e :: es) kws pos) (tCall sp [] E0 (tPk n ks.length pm t tk)) := by
  refine ⟨fun pins s σ H Q I h => ?_⟩
  refine wpAny_Call_Name_kw (ld_glob I hg hm ?_ hdb)
  refine PySem.W.callWith_KW (h₀ := X.base) I.ok.mod.kin hk hall (thn (ha.run pos pins s σ H _ I h) fun us s1 ⟨vs, H1, I1, r, q⟩ => ?_) hpl he
  refine thn (hkw.run pos pins s1 σ H1 _ I1 q) fun ws s2 ⟨zs, H2, I2, rz, l1, l2, q2⟩ => ⟨I2.kIn, ?_⟩
  rw [hks]
  dsimp only at q2
  rw [List.append_nil] at q2
  exact run_fnN F hr hb I2 r rz l1 l2 q2
/-- f(k = v, ..) -/
theorem pe_callN0 (F : FnOk X.prog X.w X.K X.mg X.base CX0 k f fd ps sp) (hr : Room k X.A) (hg : Gl X x) (hm : X.mg x = some (.ref f)) (hk : PySem.W.keepIn X.K (.ref f) = true) (hb : KwB X.K fd ps ks 0 pm)
    (hkw : PK X kws tk) (hall : (backToKw pos (keywordEach kws X.env)).all (·.1.isSome) = true := by rfl) (hks : (backToKw pos (keywordEach kws X.env)).filterMap (·.1) = ks := by rfl)
    (hdb : (x == ("__debug__" : PySem.Str)) = false := by decide)
    (hpl : ((backTo pos (starEach [] X.env)).any (·.1) || (backToKw pos (keywordEach kws X.env)).any (·.1.isNone)) = false := by rfl) :
    PE X (.Call (.Name x p) [] kws pos) (tCall sp [] E0 (tPk 0 ks.length pm tNil tk)) := by
  refine ⟨fun pins s σ H Q I h => ?_⟩
  refine wpAny_Call_Name_kw (ld_glob I hg hm ?_ hdb)
  refine PySem.W.callWith_KW0 (h₀ := X.base) I.ok.mod.kin hk hall ?_ hpl
  refine thn (hkw.run pos pins s σ H _ I h) fun ws s2 ⟨zs, H2, I2, rz, l1, l2, q2⟩ => ⟨I2.kIn, ?_⟩
  rw [hks]
  dsimp only at q2
  rw [List.append_nil] at q2
  exact run_fnN (us := []) F hr hb I2 .nil rz l1 l2 q2
/-- o.m(e, .., k = v, ..) -/
theorem pe_methN (he : PE X o to) (c : Cls X.K C) (hm : Meth X.K C mn f) (F : FnOk X.prog X.w X.K X.mg X.base CX0 k f fd ps sp) (hr : Room k X.A) (hb : KwB X.K fd ps ks (n + 1) (0 :: pm.map Nat.succ)) (ha : PA X (e :: es) t) (hkw : PK X kws tk)
    (hall : (backToKw pos (keywordEach kws X.env)).all (·.1.isSome) = true := by rfl) (hks : (backToKw pos (keywordEach kws X.env)).filterMap (·.1) = ks := by rfl)
    (hst : starEach (e :: es) X.env = (false, eval e X.env) :: starEach es X.env := by rfl)
    (hpl : ((backTo pos (starEach (e :: es) X.env)).any (·.1) || (backToKw pos (keywordEach kws X.env)).any (·.1.isNone)) = false := by rfl)
    (ht : eval (.Call (.Attribute o mn apos) (e :: es) kws pos) X.env = (do
      let ov ← eval o X.env
      standAt apos.atName
      let (f, first) ← holding [ov] (getMethod ov mn pl)
      callWith pos f first (backTo pos (starEach (e :: es) X.env)) (backToKw pos (keywordEach kws X.env))) := by rfl) :
    PE X (.Call (.Attribute o mn apos) (e :: es) kws pos) (tMeth C mn sp [] E0 to (tPk n ks.length pm t tk)) := by
  refine ⟨fun pins s σ H Q I h => ?_⟩
  refine PySem.W.methodCall_KW (pl := pl) (thn (he.run pins s σ H _ I h) fun u s1 ⟨x, H1, I1, rx, a, dx, fs, ex, ea, l, q⟩ => ?_) ht
  subst ex
  obtain rfl : u = Value.ref a := rx
  refine getmeth_ok I1 ea c hm l ?_
  refine PySem.W.callWith_KW (first := [.ref a]) (h₀ := X.base) I.ok.mod.kin hm.kp hall (thn (ha.run pos pins s1 σ H1 _ I1 q) fun us s2 ⟨vs, H2, I2, r, q2⟩ => ?_) hpl hst
  refine thn (hkw.run pos pins s2 σ H2 _ I2 q2) fun ws s3 ⟨zs, H3, I3, rz, l1, l2, q3⟩ => ⟨I3.kIn, ?_⟩
  rw [hks]
  dsimp only at q3
  rw [List.append_nil] at q3
  refine run_fnN (us := .ref a :: us) (vs := .ref a :: vs) F hr hb I3 (.cons rfl r) rz (congrArg Nat.succ l1) l2 ?_
  show sp (pk (0 :: pm.map Nat.succ) (.ref a :: (vs ++ zs))) H3 Q E0
  rw [pk_succ]
  exact q3
/-- o.m(k = v, ..) -/
theorem pe_methN0 (he : PE X o to) (c : Cls X.K C) (hm : Meth X.K C mn f) (F : FnOk X.prog X.w X.K X.mg X.base CX0 k f fd ps sp) (hr : Room k X.A) (hb : KwB X.K fd ps ks 1 (0 :: pm.map Nat.succ)) (hkw : PK X kws tk)
    (hall : (backToKw pos (keywordEach kws X.env)).all (·.1.isSome) = true := by rfl) (hks : (backToKw pos (keywordEach kws X.env)).filterMap (·.1) = ks := by rfl)
    (hpl : ((backTo pos (starEach [] X.env)).any (·.1) || (backToKw pos (keywordEach kws X.env)).any (·.1.isNone)) = false := by rfl)
    (ht : eval (.Call (.Attribute o mn apos) [] kws pos) X.env = (do
      let ov ← eval o X.env
      standAt apos.atName
      let (f, first) ← holding [ov] (getMethod ov mn pl)
      callWith pos f first (backTo pos (starEach [] X.env)) (backToKw pos (keywordEach kws X.env))) := by rfl) :
    PE X (.Call (.Attribute o mn apos) [] kws pos) (tMeth C mn sp [] E0 to (tPk 0 ks.length pm tNil tk)) := by
  refine ⟨fun pins s σ H Q I h => ?_⟩
  refine PySem.W.methodCall_KW (pl := pl) (thn (he.run pins s σ H _ I h) fun u s1 ⟨x, H1, I1, rx, a, dx, fs, ex, ea, l, q⟩ => ?_) ht
  subst ex
  obtain rfl : u = Value.ref a := rx
  refine getmeth_ok I1 ea c hm l ?_
  refine PySem.W.callWith_KW0 (first := [.ref a]) (h₀ := X.base) I.ok.mod.kin hm.kp hall ?_ hpl
  refine thn (hkw.run pos pins s1 σ H1 _ I1 q) fun ws s3 ⟨zs, H3, I3, rz, l1, l2, q3⟩ => ⟨I3.kIn, ?_⟩
  rw [hks]
  dsimp only at q3
  rw [List.append_nil] at q3
  refine run_fnN (us := [.ref a]) (vs := [.ref a]) F hr hb I3 (.cons rfl .nil) rz rfl l2 ?_
  show sp (pk (0 :: pm.map Nat.succ) (.ref a :: zs)) H3 Q E0
  rw [pk_succ]
  exact q3
/-- C(.., k = v, ..) -/
theorem run_mkN {pins : List (Addr × Obj)} {σ : L2.St} {H : Hp} {s : Shared} {Q : VK} {us ws : List Value} {vs zs : List V} (M : Mk X.K C f) (F : FnOk X.prog X.w X.K X.mg X.base CX0 k f fd ps sp) (hr : Room (k + 1) X.A) (hb : KwB X.K fd ps ks (n + 1) (0 :: pm.map Nat.succ))
    (I : Inv X pins σ H s) (r : Vals vs us) (rz : Vals zs ws) (l1 : vs.length = n) (l2 : zs.length = ks.length)
    (h : ∀ x dx, H x = none → H dx = none → dx ≠ x → sp (.ref x :: pk pm (vs ++ zs)) (upd (upd H dx (.own x)) x (.ins C dx [])) (fun v H2 => v = .non ∧ Q (.ref x) H2) E0) :
    wpAny (model X.prog X.w) X.A (call (.ref C) us (ks.zip ws)) (EP X pins σ Q) X.xe s :=
  run_makeN (g := fun us ws => pk (0 :: pm.map Nat.succ) (us ++ ws)) (gV := fun vs zs => pk (0 :: pm.map Nat.succ) (vs ++ zs)) M F hr ⟨hb, fun r1 r2 => vals_pk (r1.append r2) _⟩ pass0 I r rz l1 l2 fun x dx h1 h2 h3 => by
    show sp (pk (0 :: pm.map Nat.succ) (.ref x :: (vs ++ zs))) _ _ E0
    rw [pk_succ]
    exact h x dx h1 h2 h3
theorem pe_mkN (M : Mk X.K C f) (F : FnOk X.prog X.w X.K X.mg X.base CX0 k f fd ps sp) (hr : Room (k + 1) X.A) (hg : Gl X x) (hm : X.mg x = some (.ref C)) (hb : KwB X.K fd ps ks (n + 1) (0 :: pm.map Nat.succ))
    (ha : PA X (e :: es) t) (hkw : PK X kws tk) (hall : (backToKw pos (keywordEach kws X.env)).all (·.1.isSome) = true := by rfl) (hks : (backToKw pos (keywordEach kws X.env)).filterMap (·.1) = ks := by rfl)
    (hdb : (x == ("__debug__" : PySem.Str)) = false := by decide) (he : starEach (e :: es) X.env = (false, eval e X.env) :: starEach es X.env := by rfl)
    (hpl : ((backTo pos (starEach (e :: es) X.env)).any (·.1) || (backToKw pos (keywordEach kws X.env)).any (·.1.isNone)) = false := by rfl) :
    PE X (.Call (.Name x p) (e :: es) kws pos) (tMake C sp [] E0 (tPk n ks.length pm t tk)) := by
  refine ⟨fun pins s σ H Q I h => ?_⟩
  refine wpAny_Call_Name_kw (ld_glob I hg hm ?_ hdb)
  refine PySem.W.callWith_KW (h₀ := X.base) I.ok.mod.kin M.kp hall (thn (ha.run pos pins s σ H _ I h) fun us s1 ⟨vs, H1, I1, r, q⟩ => ?_) hpl he
  refine thn (hkw.run pos pins s1 σ H1 _ I1 q) fun ws s2 ⟨zs, H2, I2, rz, l1, l2, q2⟩ => ⟨I2.kIn, ?_⟩
  rw [hks]
  refine run_mkN M F hr hb I2 r rz l1 l2 fun x dx h1 h2 h3 => ?_
  have := q2 x dx h1 h2 h3
  rw [List.append_nil] at this
  exact this
theorem pe_mkN0 (M : Mk X.K C f) (F : FnOk X.prog X.w X.K X.mg X.base CX0 k f fd ps sp) (hr : Room (k + 1) X.A) (hg : Gl X x) (hm : X.mg x = some (.ref C)) (hb : KwB X.K fd ps ks 1 (0 :: pm.map Nat.succ))
    (hkw : PK X kws tk) (hall : (backToKw pos (keywordEach kws X.env)).all (·.1.isSome) = true := by rfl) (hks : (backToKw pos (keywordEach kws X.env)).filterMap (·.1) = ks := by rfl)
    (hdb : (x == ("__debug__" : PySem.Str)) = false := by decide)
    (hpl : ((backTo pos (starEach [] X.env)).any (·.1) || (backToKw pos (keywordEach kws X.env)).any (·.1.isNone)) = false := by rfl) :
    PE X (.Call (.Name x p) [] kws pos) (tMake C sp [] E0 (tPk 0 ks.length pm tNil tk)) := by
  refine ⟨fun pins s σ H Q I h => ?_⟩
  refine wpAny_Call_Name_kw (ld_glob I hg hm ?_ hdb)
  refine PySem.W.callWith_KW0 (h₀ := X.base) I.ok.mod.kin M.kp hall ?_ hpl
  refine thn (hkw.run pos pins s σ H _ I h) fun ws s2 ⟨zs, H2, I2, rz, l1, l2, q2⟩ => ⟨I2.kIn, ?_⟩
  rw [hks]
  refine run_mkN (us := []) (vs := []) M F hr hb I2 .nil rz l1 l2 fun x dx h1 h2 h3 => ?_
  have := q2 x dx h1 h2 h3
  rw [List.append_nil] at this
  exact this
end
section
variable {X : Cx} {k j n : Nat} {ps ks : List PySem.Str} {m : Mir} {C f : Addr} {fd : FuncData} {x cn mn : String} {p pos apos : Pos} {e o : Expr} {es : List Expr} {kws : List Keyword} {t tk : TA} {fa fk : FA} {to : TE} {fo : FE} {pl : Sem Bool} {pm : List Nat}
theorem kf_callN {K : PySem.W.Frag} {mg : Mg} (h : KnF X.prog X.w K mg X.base f fd x ps false k m) (hb : KwB K fd ps ks n pm) (hr : Room j X.A) (ha : JA X (e :: es) t fa) (hw : JK X kws tk fk) (hj : k ≤ j := by decide) (hg : Gl X (os x) := by rfl)
    (hall : (backToKw pos (keywordEach kws X.env)).all (·.1.isSome) = true := by rfl) (hks : (backToKw pos (keywordEach kws X.env)).filterMap (·.1) = ks := by rfl)
    (hdb : (os x == ("__debug__" : PySem.Str)) = false := by decide) (he : starEach (e :: es) X.env = (false, eval e X.env) :: starEach es X.env := by rfl)
    (hpl : ((backTo pos (starEach (e :: es) X.env)).any (·.1) || (backToKw pos (keywordEach kws X.env)).any (·.1.isNone)) = false := by rfl) (hK : X.K = K := by rfl) (hM : X.mg = mg := by rfl) :
    JE X (.Call (.Name (os x) p) (e :: es) kws pos) (tCall (spM K mg false m) [] E0 (tPk n ks.length pm t tk)) (fCall m (aPk n ks.length pm fa fk)) := by
  subst hK hM
  exact ⟨pe_callN h.ok (hr.mono hj) hg h.g h.kp hb ha.pa hw.pk hall hks hdb he hpl, re_call (ra_pk ha.ra hw.ra)⟩
theorem kf_callN0 {K : PySem.W.Frag} {mg : Mg} (h : KnF X.prog X.w K mg X.base f fd x ps false k m) (hb : KwB K fd ps ks 0 pm) (hr : Room j X.A) (hw : JK X kws tk fk) (hj : k ≤ j := by decide) (hg : Gl X (os x) := by rfl)
    (hall : (backToKw pos (keywordEach kws X.env)).all (·.1.isSome) = true := by rfl) (hks : (backToKw pos (keywordEach kws X.env)).filterMap (·.1) = ks := by rfl)
    (hdb : (os x == ("__debug__" : PySem.Str)) = false := by decide)
    (hpl : ((backTo pos (starEach [] X.env)).any (·.1) || (backToKw pos (keywordEach kws X.env)).any (·.1.isNone)) = false := by rfl) (hK : X.K = K := by rfl) (hM : X.mg = mg := by rfl) :
    JE X (.Call (.Name (os x) p) [] kws pos) (tCall (spM K mg false m) [] E0 (tPk 0 ks.length pm tNil tk)) (fCall m (aPk 0 ks.length pm aNil fk)) := by
  subst hK hM
  exact ⟨pe_callN0 h.ok (hr.mono hj) hg h.g h.kp hb hw.pk hall hks hdb hpl, re_call (ra_pk ra_nil hw.ra)⟩
theorem km_methN {K : PySem.W.Frag} {mg : Mg} (h : KnM X.prog X.w K mg X.base C f fd cn mn ps false k m) (hb : KwB K fd ps ks (n + 1) (0 :: pm.map Nat.succ)) (hr : Room j X.A) (he : JE X o to fo) (ha : JA X (e :: es) t fa) (hw : JK X kws tk fk) (hj : k ≤ j := by decide)
    (hall : (backToKw pos (keywordEach kws X.env)).all (·.1.isSome) = true := by rfl) (hks : (backToKw pos (keywordEach kws X.env)).filterMap (·.1) = ks := by rfl)
    (hst : starEach (e :: es) X.env = (false, eval e X.env) :: starEach es X.env := by rfl)
    (hpl : ((backTo pos (starEach (e :: es) X.env)).any (·.1) || (backToKw pos (keywordEach kws X.env)).any (·.1.isNone)) = false := by rfl)
    (ht : eval (.Call (.Attribute o (os mn) apos) (e :: es) kws pos) X.env = (do
      let ov ← eval o X.env
      standAt apos.atName
      let (f, first) ← holding [ov] (getMethod ov (os mn) pl)
      callWith pos f first (backTo pos (starEach (e :: es) X.env)) (backToKw pos (keywordEach kws X.env))) := by rfl) (hK : X.K = K := by rfl) (hM : X.mg = mg := by rfl) :
    JE X (.Call (.Attribute o (os mn) apos) (e :: es) kws pos) (tMeth C (os mn) (spM K mg false m) [] E0 to (tPk n ks.length pm t tk)) (fMeth cn mn m fo (aPk n ks.length pm fa fk)) := by
  subst hK hM
  exact ⟨pe_methN he.pe h.cl h.me h.ok (hr.mono hj) hb ha.pa hw.pk hall hks hst hpl ht, re_meth h.g he.re (ra_pk ha.ra hw.ra)⟩
theorem km_methN0 {K : PySem.W.Frag} {mg : Mg} (h : KnM X.prog X.w K mg X.base C f fd cn mn ps false k m) (hb : KwB K fd ps ks 1 (0 :: pm.map Nat.succ)) (hr : Room j X.A) (he : JE X o to fo) (hw : JK X kws tk fk) (hj : k ≤ j := by decide)
    (hall : (backToKw pos (keywordEach kws X.env)).all (·.1.isSome) = true := by rfl) (hks : (backToKw pos (keywordEach kws X.env)).filterMap (·.1) = ks := by rfl)
    (hpl : ((backTo pos (starEach [] X.env)).any (·.1) || (backToKw pos (keywordEach kws X.env)).any (·.1.isNone)) = false := by rfl)
    (ht : eval (.Call (.Attribute o (os mn) apos) [] kws pos) X.env = (do
      let ov ← eval o X.env
      standAt apos.atName
      let (f, first) ← holding [ov] (getMethod ov (os mn) pl)
      callWith pos f first (backTo pos (starEach [] X.env)) (backToKw pos (keywordEach kws X.env))) := by rfl) (hK : X.K = K := by rfl) (hM : X.mg = mg := by rfl) :
    JE X (.Call (.Attribute o (os mn) apos) [] kws pos) (tMeth C (os mn) (spM K mg false m) [] E0 to (tPk 0 ks.length pm tNil tk)) (fMeth cn mn m fo (aPk 0 ks.length pm aNil fk)) := by
  subst hK hM
  exact ⟨pe_methN0 he.pe h.cl h.me h.ok (hr.mono hj) hb hw.pk hall hks hpl ht, re_meth h.g he.re (ra_pk ra_nil hw.ra)⟩
theorem km_methNIo {K : PySem.W.Frag} {mg : Mg} (h : KnM X.prog X.w K mg X.base C f fd cn mn ps true k m) (hb : KwB K fd ps ks (n + 1) (0 :: pm.map Nat.succ)) (hr : Room j X.A) (he : JE X o to fo) (ha : JA X (e :: es) t fa) (hw : JK X kws tk fk) (hj : k ≤ j := by decide)
    (hall : (backToKw pos (keywordEach kws X.env)).all (·.1.isSome) = true := by rfl) (hks : (backToKw pos (keywordEach kws X.env)).filterMap (·.1) = ks := by rfl)
    (hst : starEach (e :: es) X.env = (false, eval e X.env) :: starEach es X.env := by rfl)
    (hpl : ((backTo pos (starEach (e :: es) X.env)).any (·.1) || (backToKw pos (keywordEach kws X.env)).any (·.1.isNone)) = false := by rfl)
    (ht : eval (.Call (.Attribute o (os mn) apos) (e :: es) kws pos) X.env = (do
      let ov ← eval o X.env
      standAt apos.atName
      let (f, first) ← holding [ov] (getMethod ov (os mn) pl)
      callWith pos f first (backTo pos (starEach (e :: es) X.env)) (backToKw pos (keywordEach kws X.env))) := by rfl) (hK : X.K = K := by rfl) (hM : X.mg = mg := by rfl) :
    JE X (.Call (.Attribute o (os mn) apos) (e :: es) kws pos) (tMeth C (os mn) (spM K mg true m) [] E0 to (tPk n ks.length pm t tk)) (fMethIo cn mn m fo (aPk n ks.length pm fa fk)) := by
  subst hK hM
  exact ⟨pe_methN he.pe h.cl h.me h.ok (hr.mono hj) hb ha.pa hw.pk hall hks hst hpl ht, re_methIo h.g he.re (ra_pk ha.ra hw.ra)⟩
theorem km_methN0Io {K : PySem.W.Frag} {mg : Mg} (h : KnM X.prog X.w K mg X.base C f fd cn mn ps true k m) (hb : KwB K fd ps ks 1 (0 :: pm.map Nat.succ)) (hr : Room j X.A) (he : JE X o to fo) (hw : JK X kws tk fk) (hj : k ≤ j := by decide)
    (hall : (backToKw pos (keywordEach kws X.env)).all (·.1.isSome) = true := by rfl) (hks : (backToKw pos (keywordEach kws X.env)).filterMap (·.1) = ks := by rfl)
    (hpl : ((backTo pos (starEach [] X.env)).any (·.1) || (backToKw pos (keywordEach kws X.env)).any (·.1.isNone)) = false := by rfl)
    (ht : eval (.Call (.Attribute o (os mn) apos) [] kws pos) X.env = (do
      let ov ← eval o X.env
      standAt apos.atName
      let (f, first) ← holding [ov] (getMethod ov (os mn) pl)
      callWith pos f first (backTo pos (starEach [] X.env)) (backToKw pos (keywordEach kws X.env))) := by rfl) (hK : X.K = K := by rfl) (hM : X.mg = mg := by rfl) :
    JE X (.Call (.Attribute o (os mn) apos) [] kws pos) (tMeth C (os mn) (spM K mg true m) [] E0 to (tPk 0 ks.length pm tNil tk)) (fMethIo cn mn m fo (aPk 0 ks.length pm aNil fk)) := by
  subst hK hM
  exact ⟨pe_methN0 he.pe h.cl h.me h.ok (hr.mono hj) hb hw.pk hall hks hpl ht, re_methIo h.g he.re (ra_pk ra_nil hw.ra)⟩
theorem kc_makeN {K : PySem.W.Frag} {mg : Mg} (h : KnC X.prog X.w K mg X.base C f fd cn ps k m) (hb : KwB K fd ps ks (n + 1) (0 :: pm.map Nat.succ)) (hr : Room j X.A) (ha : JA X (e :: es) t fa) (hw : JK X kws tk fk) (hj : k + 1 ≤ j := by decide) (hg : Gl X (os cn) := by rfl)
    (hall : (backToKw pos (keywordEach kws X.env)).all (·.1.isSome) = true := by rfl) (hks : (backToKw pos (keywordEach kws X.env)).filterMap (·.1) = ks := by rfl)
    (hdb : (os cn == ("__debug__" : PySem.Str)) = false := by decide) (he : starEach (e :: es) X.env = (false, eval e X.env) :: starEach es X.env := by rfl)
    (hpl : ((backTo pos (starEach (e :: es) X.env)).any (·.1) || (backToKw pos (keywordEach kws X.env)).any (·.1.isNone)) = false := by rfl) (hK : X.K = K := by rfl) (hM : X.mg = mg := by rfl) :
    JE X (.Call (.Name (os cn) p) (e :: es) kws pos) (tMake C (spM K mg true m) [] E0 (tPk n ks.length pm t tk)) (fMake cn m (aPk n ks.length pm fa fk)) := by
  subst hK hM
  exact ⟨pe_mkN h.cm h.ok (hr.mono hj) hg h.g hb ha.pa hw.pk hall hks hdb he hpl, re_make h.g (ra_pk ha.ra hw.ra)⟩
theorem kc_makeN0 {K : PySem.W.Frag} {mg : Mg} (h : KnC X.prog X.w K mg X.base C f fd cn ps k m) (hb : KwB K fd ps ks 1 (0 :: pm.map Nat.succ)) (hr : Room j X.A) (hw : JK X kws tk fk) (hj : k + 1 ≤ j := by decide) (hg : Gl X (os cn) := by rfl)
    (hall : (backToKw pos (keywordEach kws X.env)).all (·.1.isSome) = true := by rfl) (hks : (backToKw pos (keywordEach kws X.env)).filterMap (·.1) = ks := by rfl)
    (hdb : (os cn == ("__debug__" : PySem.Str)) = false := by decide)
    (hpl : ((backTo pos (starEach [] X.env)).any (·.1) || (backToKw pos (keywordEach kws X.env)).any (·.1.isNone)) = false := by rfl) (hK : X.K = K := by rfl) (hM : X.mg = mg := by rfl) :
    JE X (.Call (.Name (os cn) p) [] kws pos) (tMake C (spM K mg true m) [] E0 (tPk 0 ks.length pm tNil tk)) (fMake cn m (aPk 0 ks.length pm aNil fk)) := by
  subst hK hM
  exact ⟨pe_mkN0 h.cm h.ok (hr.mono hj) hg h.g hb hw.pk hall hks hdb hpl, re_make h.g (ra_pk ra_nil hw.ra)⟩
end
theorem kwb_mk {K : PySem.W.Frag} {x qual : PySem.Str} {st : Stmt} {f : Addr} {fd : FuncData} {ps ks : List PySem.Str} {n : Nat} {pm : List Nat} (F : Fun K x qual st f fd)
    (h : ∀ (kV doc pmV : Value) (an : Option Addr) (cdv ct : Value) (us ws : List Value), us.length = n → ws.length = ks.length → bindArgs (PySem.W.fnOf x qual (defArgs st) (defBody st) (defScope st) .none kV doc pmV an cdv ct) ⟨us, ks.zip ws⟩ = pure (ps.zip (pk pm (us ++ ws)))) : KwB K fd ps ks n pm := by
  obtain ⟨oc, od, kV, doc, pmV, an, cdv, ct, osl, rfl, lk, hcd⟩ := F.ex
  exact fun s us ws _ l1 l2 => .of_eq (h kV doc pmV an cdv ct us ws l1 l2)
end J
namespace J
open PySem PySem.Spec PyProof.Rows L2

/-! ### operators of own classes -/
def rM (C : Addr) (sp : Sp) : R2 := fun x y H Q => ∃ a b dx dy fs gs, x = .ref a ∧ y = .ref b ∧ H a = some (.ins C dx fs) ∧ H b = some (.ins C dy gs) ∧ sp [x, y] H Q E0
section
variable {X : Cx} {k : Nat} {f C : Addr} {fd : FuncData} {ps : List PySem.Str} {sp : Sp}
theorem back_of {pins : List (Addr × Obj)} {σ : L2.St} {Q : VK} {u : Value} {s' : Shared} (h : EP X pins σ Q u s') : PySem.W.CmpBack (EP X pins σ Q) u s' := by
  obtain ⟨v, H', I', r, q⟩ := id h
  cases u <;> first | exact h | skip
  cases v <;> first | (cases r; done) | (obtain ⟨_, r⟩ := r; cases r; done)
theorem run_opM {pins : List (Addr × Obj)} {σ : L2.St} {H : Hp} {s : Shared} {Q : VK} {a b : Addr} (F : FnOk X.prog X.w X.K X.mg X.base CX0 k f fd ps sp) (hr : Room k X.A) (hb : Binds X.K fd ps [])
    (I : Inv X pins σ H s) (h : sp [.ref a, .ref b] H Q E0) : wpAny (model X.prog X.w) X.A (call (.ref f) [.ref a, .ref b]) (PySem.W.CmpBack (EP X pins σ Q)) X.xe s :=
  wpAny_mono (run_fn (us := [.ref a, .ref b]) (vs := [.ref a, .ref b]) F hr hb .nil pass0 I (.cons rfl (.cons rfl .nil)) (by rw [List.append_nil]; exact h)) (fun u s' h => back_of h) fun _ _ e => e
theorem op_cmpM {op : CmpOp} (F : FnOk X.prog X.w X.K X.mg X.base CX0 k f fd ps sp) (hr : Room k X.A) (hb : Binds X.K fd ps []) (hs : PySem.W.findIn X.K (.ref C) (cmpInfo op).2.1 = some (some (.ref f))) (hf : PySem.W.isFn X.K (.ref f) = true)
    (ho : ∀ a b, compareOp op a b = richCompare op a b) : OpR X (compareOp op) (rM C sp) := by
  intro pins s σ H x y v u Q I rx ry h
  obtain ⟨a, b, dx, dy, fs, gs, rfl, rfl, ha, hb', hsp⟩ := h
  cases rx
  cases ry
  obtain ⟨mA, J, _⟩ := ins_get I.hok ha
  obtain ⟨mB, J', _⟩ := ins_get I.hok hb'
  obtain ⟨od, J, _⟩ := J.look
  obtain ⟨od', J', _⟩ := J'.look
  rw [ho]
  obtain ⟨_, hF⟩ := I.fr
  exact PySem.W.cmp_K (op := op) (tb := .ref C) hr.units0 hF I.ok.mod.kin J J'.type (by simp [PySem.W.notFirst]) hs hf (run_opM F hr hb I hsp)
theorem op_binM {op : Operator} (F : FnOk X.prog X.w X.K X.mg X.base CX0 k f fd ps sp) (hr : Room k X.A) (hb : Binds X.K fd ps []) (hs : PySem.W.findIn X.K (.ref C) (PySem.dunder op.info.2) = some (some (.ref f))) (hf : PySem.W.isFn X.K (.ref f) = true)
    (hc : PySem.W.selfFirst X.K C = true) : OpR X (binaryOp op) (rM C sp) := by
  intro pins s σ H x y v u Q I rx ry h
  obtain ⟨a, b, dx, dy, fs, gs, rfl, rfl, ha, hb', hsp⟩ := h
  cases rx
  cases ry
  obtain ⟨mA, J, _⟩ := ins_get I.hok ha
  obtain ⟨mB, J', _⟩ := ins_get I.hok hb'
  obtain ⟨od, J, _⟩ := J.look
  obtain ⟨od', J', _⟩ := J'.look
  obtain ⟨_, hF⟩ := I.fr
  exact PySem.W.binop_K hF I.ok.mod.kin J J'.type hc hs hf (run_opM F hr hb I hsp)
end
section
variable {prog : Program} {w : World} {A : Around} {E : Value → Shared → Prop} {s : Shared} {K : PySem.W.Frag} {x C L f : Addr} {h₀ : Heap} {m : PySem.Str → Option Value} {ox : Obj} {od : Option Obj} {b : Value}
open PySem.W PySem.Calls Builtin in
theorem ne_entry {Q : Fin → Shared → Prop} (X : K.In s.heap) (I : InstAt s.heap x ox C od) (hs : findIn K (.ref C) "__eq__" = some (some (.ref f))) (hf : isFn K (.ref f) = true) (hu : A.units < cLine)
    (h : wpAny (model prog w) A (call (.ref f) [.ref x, b]) (fun v s' => ∃ r, v = .bool r ∧ Q (.done (.ret (.bool (!r)))) s') E s) : wpAny (model prog w) A (Builtin.«object.__ne__» ⟨[.ref x, b], []⟩) Q E s := by
  unfold Builtin.«object.__ne__»
  repeat (first
    | with_reducible refine wpAny_cRoomFor hu ?_
    | (refine wpAny_bind (m := callSpecialIfBound? (.ref x) (PySem.Str.ofString "__eq__") [b]) (ifBound_K X I hs hf (wpAny_mono h (fun r s' hr => by
          obtain ⟨r, rfl, hq⟩ := hr
          repeat (first | exact hq | exact wpAny_pure hq | exact wpAny_truthy_bool hq | (refine wpAny_bind (m := truthy (.bool _)) (wpAny_truthy_bool ?_)) | wp_step)) fun _ _ e => e)))
    | wp_step)
open PySem.W PySem.Calls Builtin in
theorem ne_try {Q : Option Value → Shared → Prop} (X : K.In s.heap) (I : InstAt s.heap x ox C od) (hn : findIn K (.ref C) "__ne__" = some (some (.builtin "object.__ne__"))) (ho : subIn K (.ref C) (.type "object") = some true)
    (hs : findIn K (.ref C) "__eq__" = some (some (.ref f))) (hf : isFn K (.ref f) = true) (hu : A.units + 1 < cLine)
    (h : wpAny (model prog w) A.in1 (call (.ref f) [.ref x, b]) (fun v s' => ∃ r, v = .bool r ∧ Q (some (.bool (!r))) s') E s) : wpAny (model prog w) A (tryCompare (.ref x) "__ne__" b) Q E s := by
  unfold tryCompare
  have S := PySem.F.cmp_object.ne
  have hcall : wpAny (model prog w) A (call (.builtin "object.__ne__") [.ref x, b]) (fun v s' => ∃ r, v = .bool r ∧ Q (some (.bool r)) s') E s := by
    refine wpAny_call (codeAny_call_builtin S.plain PySem.F.cmpEntry_ne ?_)
    simp only [checkBuiltinCall, PySem.F.cmpKind_ne, PySem.F.cmpSplit_ne]
    refine wpAny_bind ?_
    unfold isInstance
    refine wpAny_bind (I.type.here ((looks_subIn X ho).here ?_))
    rw [if_neg (by decide)]
    have fin : wpAny (model prog w) A.in1 (Builtin.«object.__ne__» ⟨[.ref x, b], []⟩) (fun fin s' => match fin with
        | .done (.ret v) => ∃ r, v = .bool r ∧ Q (some (.bool r)) s'
        | _ => False) E s := ne_entry X I hs hf (by exact hu) (wpAny_mono h (fun v s' ⟨r, e, q⟩ => ⟨r, e, _, rfl, q⟩) fun _ _ e => e)
    have ha := PySem.F.cmpArgs_ne (.ref x) b
    unfold argsOk at ha
    split at ha
    · rename_i sig hsig
      simp only [hsig]
      rw [show Bind.checkArgs "object.__ne__" sig ⟨[.ref x, b], []⟩ = pure () from ha]
      refine wpAny_pure (wpAny_mono fin (fun r s' z => ?_) fun _ _ e => e)
      split at z
      · exact z
      · cases z
    · rename_i hsig
      simp only [hsig]
      refine wpAny_pure (wpAny_mono fin (fun r s' z => ?_) fun _ _ e => e)
      split at z
      · exact z
      · cases z
  simp only [callSpecialIfBound?, bindSpecialIfBound?]
  refine wpAny_bind (wpAny_holding (wpAny_bind (wpAny_bind (wpAny_bind (I.type.here ((looks_findIn X hn).here ?_))))))
  simp only [S.bind]
  refine wpAny_bind (wpAny_askSetting (wpAny_ite ?_))
  split
  · exact wpAny_bind (wpAny_pure (wpAny_pure (wpAny_bind (wpAny_mono hcall (fun v s' ⟨r, e, q⟩ => by subst e; exact wpAny_pure (wpAny_pure q)) fun _ _ e => e))))
  · exact wpAny_tryCatch (wpAny_bind (wpAny_pure (wpAny_pure (wpAny_bind (wpAny_mono hcall (fun v s' ⟨r, e, q⟩ => by subst e; exact wpAny_pure (wpAny_pure q)) fun _ _ e => e)))))
open PySem.W in
theorem ne_rich {Q : Value → Shared → Prop} (X : K.In s.heap) (I : InstAt s.heap x ox C od) (hb : Looks (model prog w) s.heap (typeOf b) (.ref C)) (hn : findIn K (.ref C) "__ne__" = some (some (.builtin "object.__ne__"))) (ho : subIn K (.ref C) (.type "object") = some true)
    (hs : findIn K (.ref C) "__eq__" = some (some (.ref f))) (hf : isFn K (.ref f) = true) (hu : A.units + 1 < cLine)
    (h : wpAny (model prog w) A.in1 (call (.ref f) [.ref x, b]) (fun v s' => ∃ r, v = .bool r ∧ Q (.bool (!r)) s') E s) : wpAny (model prog w) A (richCompare .NotEq (.ref x) b) Q E s := by
  have one : wpAny (model prog w) A (tryCompare (.ref x) "__ne__" b) (fun r s' => ∃ v, r = some v ∧ Q v s') E s :=
    ne_try X I hn ho hs hf hu (wpAny_mono h (fun v s' ⟨r, e, q⟩ => ⟨r, e, _, rfl, q⟩) fun _ _ e => e)
  unfold richCompare
  simp only [oneThing_ref]
  refine wpAny_holding (wpAny_bind (wpAny_cRoomFor (by omega) ?_))
  rw [cmpInfo_NotEq]
  refine wpAny_bind (I.type.here (wpAny_bind (hb.here ?_)))
  rw [show (Value.ref C != Value.ref C) = false from by simp]
  simp only [Bool.false_eq_true, if_false]
  refine wpAny_bind (wpAny_pure ?_)
  simp only [Bool.false_eq_true, if_false]
  refine wpAny_bind (wpAny_mono one (fun r s' z => ?_) fun _ _ e => e)
  obtain ⟨v, rfl, hq⟩ := z
  exact wpAny_pure hq
end
/-- !=, by the own == -/
def rMn (C : Addr) (sp : Sp) : R2 := fun x y H Q => ∃ a b dx dy fs gs, x = .ref a ∧ y = .ref b ∧ H a = some (.ins C dx fs) ∧ H b = some (.ins C dy gs) ∧ sp [x, y] H (fun v H' => ∃ r, v = .bl r ∧ Q (.bl (!r)) H') E0
section
variable {X : Cx} {k : Nat} {f C : Addr} {fd : FuncData} {ps : List PySem.Str} {sp : Sp}
theorem run_opAt {A : Around} {pins : List (Addr × Obj)} {σ : L2.St} {H : Hp} {s : Shared} {Q : VK} {a b : Addr} (F : FnOk X.prog X.w X.K X.mg X.base CX0 k f fd ps sp) (hr : Room k A) (fr : A.frames = X.A.frames) (hb : Binds X.K fd ps [])
    (I : Inv X pins σ H s) (h : sp [.ref a, .ref b] H Q E0) : wpAny (model X.prog X.w) A (call (.ref f) [.ref a, .ref b]) (EP X pins σ Q) X.xe s := by
  have e0 : Env0 X.prog X.w X.K X.mg X.base A X.stack s H := by
    have e := I.env0
    exact ⟨by rw [fr]; exact e.frames, e.mod, e.bs, e.bsz, e.funs, e.frf, e.hok, e.bare⟩
  have hl := F.len _ _ _ _ h
  have r2 : Vals [V.ref a, V.ref b] [Value.ref a, Value.ref b] := .cons rfl (.cons rfl .nil)
  refine wpAny_call (codeAny_mono (F.run A X.stack s H ⟨[.ref a, .ref b], []⟩ [.ref a, .ref b] [.ref a, .ref b] _ E0 hr e0 (by
    have := hb s [.ref a, .ref b] I.kIn (by simpa using hl)
    simpa using this) r2 h) fun r s' hq => ?_)
  cases r with
  | error e => exact pass0 pins σ H s e s' I hq
  | ok fl =>
    cases fl with
    | ret w => exact I.after hq
    | next => exact False.elim hq
    | brk => exact False.elim hq
    | cont => exact False.elim hq
theorem op_neM (F : FnOk X.prog X.w X.K X.mg X.base CX0 k f fd ps sp) (hr : Room (k + 1) X.A) (hb : Binds X.K fd ps []) (hn : PySem.W.findIn X.K (.ref C) "__ne__" = some (some (.builtin "object.__ne__"))) (ho : PySem.W.subIn X.K (.ref C) (.type "object") = some true)
    (hs : PySem.W.findIn X.K (.ref C) "__eq__" = some (some (.ref f))) (hf : PySem.W.isFn X.K (.ref f) = true) : OpR X (compareOp .NotEq) (rMn C sp) := by
  intro pins s σ H x y v u Q I rx ry h
  obtain ⟨a, b, dx, dy, fs, gs, rfl, rfl, ha, hb', hsp⟩ := h
  cases rx
  cases ry
  obtain ⟨mA, J, _⟩ := ins_get I.hok ha
  obtain ⟨mB, J', _⟩ := ins_get I.hok hb'
  obtain ⟨od, J, _⟩ := J.look
  obtain ⟨od', J', _⟩ := J'.look
  show wpAny (model X.prog X.w) X.A (richCompare .NotEq (.ref a) (.ref b)) _ _ s
  refine ne_rich I.kIn J J'.type hn ho hs hf (by have := hr.units; omega) (wpAny_mono (run_opAt F hr.in1 rfl hb I hsp) (fun v s' h => ?_) fun _ _ e => e)
  obtain ⟨z, H', I', r, t, e, q⟩ := h
  subst e
  cases r
  exact ⟨t, rfl, .bl (!t), H', I', rfl, q⟩
end

/-! #### their mirrors: both operands are put away -/
def fBinF (g : G2) (fa fb : FE) (τ : Tau) : Option (Op × Tau) := (fa τ).bind fun a => (fz a.2 a.1).bind fun d => (fb d.2).bind fun b => (fz b.2 b.1).bind fun e => (g d.1 e.1).bind fun z => some (z, e.2)
def gM2 (cn : String) (m : Mir) (d e : D) : Option Op := if insC cn d = true ∧ insC cn e = true then (m [d, e]).bind fun r => some (mkOp r.1 r.2.1) else none
def gEqM (cn : String) (m : Mir) (d e : D) : Option Op := if insC cn d = true ∧ insC cn e = true then (m [d, e]).bind fun r => some (mkOp r.1 r.2.1) else gEq d e
def gNeM (cn : String) (m : Mir) (d e : D) : Option Op := if insC cn d = true ∧ insC cn e = true then (m [d, e]).bind fun r => match r with
    | (false, .bl b, _) => some (.val (.bl !b))
    | _ => none
  else gNe d e
def RBF (K : PySem.W.Frag) (mg : Mg) (r : R2) (g : G2) : Prop := ∀ (G H : Hp) (x y : V) (d e : D) (op : Op) (Q : VK), Same G H → Rp K mg G x d → Rp K mg G y e → g d e = some op →
  (∀ v G' H', Nw K mg G H G' H' → On K mg H G' H' v op → Q v H') → r x y H Q
section
variable {K : PySem.W.Frag} {mg : Mg} {ta tb : TE} {fa fb : FE} {m : Mir} {cn : String} {C : Addr}
theorem re_binF {r : R2} {g : G2} (hr : RBF K mg r g) (ha : RE K mg ta fa) (hb : RE K mg tb fb) : RE K mg (tOp r ta tb) (fBinF g fa fb) := fun σ τ G H op τ' Q A e q => by
  obtain ⟨⟨oa, τ1⟩, e1, e⟩ := bind_some' e
  obtain ⟨⟨d, τ2⟩, e2, e⟩ := bind_some' e
  obtain ⟨⟨ob, τ3⟩, e3, e⟩ := bind_some' e
  obtain ⟨⟨d', τ4⟩, e4, e⟩ := bind_some' e
  obtain ⟨z, e5, e⟩ := bind_some' e
  cases e
  refine ha σ τ G H oa τ1 _ A e1 fun x G1 H1 g1 o1 => ?_
  obtain ⟨G2, g2, s2, r2⟩ := o1.fz g1 e2
  refine hb σ τ2 G2 H1 ob τ3 _ g2.at' e3 fun y G3 H3 g3 o3 => ?_
  obtain ⟨G4, g4, s4, r4⟩ := o3.fz g3 e4
  have g := g2.trans g4
  exact hr G4 H3 x y d d' _ Q g4.at'.gh (r2.mono g4.gg) r4 e5 fun v G5 H5 n o => q v G5 H5 (g.trans (n.go g4.at')) ((o.or g4.at').weak g.kp)
theorem nw_of_bk {vs : List V} {G H G' H' : Hp} {own : Bool} {z z0 : D} {v : V} (B : Bk K mg false vs G H own z z0 v G' H') : Nw K mg G H G' H' :=
  ⟨B.gg, fun b o h => B.hh b o (fun ⟨z, _⟩ => nomatch z) h, B.gh, fun b o h g => B.gf b o (fun ⟨z, _⟩ => nomatch z) h g⟩
theorem on_of_rs {H G' H' : Hp} {own : Bool} {z : D} {v : V} (r : Rs K mg H G' H' v own z) : On K mg H G' H' v (mkOp own z) := by
  cases r with
  | old r => exact .val r
  | new e a1 a2 a3 a4 => subst e; exact .tmp a1 a2 a3 a4
theorem both_ins {G H : Hp} {x y : V} {d e : D} (gC : mg (os cn) = some (.ref C)) (s : Same G H) (r1 : Rp K mg G x d) (r2 : Rp K mg G y e) (h : insC cn d = true ∧ insC cn e = true) :
    ∃ a b dx dy fs gs, x = .ref a ∧ y = .ref b ∧ H a = some (.ins C dx fs) ∧ H b = some (.ins C dy gs) := by
  obtain ⟨a, dx, fs, rfl, ha⟩ := insC_ok gC s (Pk.frz r1 : Pk K mg G H x d) h.1
  obtain ⟨b, dy, gs, rfl, hb⟩ := insC_ok gC s (Pk.frz r2 : Pk K mg G H y e) h.2
  exact ⟨a, b, dx, dy, fs, gs, rfl, rfl, ha, hb⟩
theorem sp_both {G H : Hp} {x y : V} {d e : D} {op : Op} {Q : VK} (s : Same G H) (r1 : Rp K mg G x d) (r2 : Rp K mg G y e) (h : ((m [d, e]).bind fun r => some (mkOp r.1 r.2.1)) = some op)
    (q : ∀ v G' H', Nw K mg G H G' H' → On K mg H G' H' v op → Q v H') : spM K mg false m [x, y] H Q E0 := by
  obtain ⟨⟨own, z, z0⟩, e1, h⟩ := bind_some' h
  cases h
  exact ⟨G, [d, e], own, z, z0, s, .pure (.cons r1 (.cons r2 .nil)), e1, fun v G' H' B => q v G' H' (nw_of_bk B) (on_of_rs B.rs)⟩
theorem rb_M2 (gC : mg (os cn) = some (.ref C)) : RBF K mg (rM C (spM K mg false m)) (gM2 cn m) := fun G H x y d e op Q s r1 r2 eq q => by
  obtain ⟨hi, eq⟩ := if_get' eq
  obtain ⟨a, b, dx, dy, fs, gs, hx, hy, ha, hb⟩ := both_ins gC s r1 r2 hi
  exact ⟨a, b, dx, dy, fs, gs, hx, hy, ha, hb, sp_both s r1 r2 eq q⟩
def rOr (r r' : R2) : R2 := fun x y H Q => r x y H Q ∨ r' x y H Q
theorem rb_eqM (gC : mg (os cn) = some (.ref C)) : RBF K mg (rOr (rM C (spM K mg false m)) (rEqD K)) (gEqM cn m) := fun G H x y d e op Q s r1 r2 eq q => by
  unfold gEqM at eq
  by_cases hi : insC cn d = true ∧ insC cn e = true
  · rw [if_pos hi] at eq
    obtain ⟨a, b, dx, dy, fs, gs, hx, hy, ha, hb⟩ := both_ins gC s r1 r2 hi
    exact .inl ⟨a, b, dx, dy, fs, gs, hx, hy, ha, hb, sp_both s r1 r2 eq q⟩
  · rw [if_neg hi] at eq
    exact .inr (rb_eq G H x y d e op Q s (.frz r1) (.frz r2) eq q)
theorem rb_neM (gC : mg (os cn) = some (.ref C)) : RBF K mg (rOr (rMn C (spM K mg false m)) (rNeD K)) (gNeM cn m) := fun G H x y d e op Q s r1 r2 eq q => by
  unfold gNeM at eq
  by_cases hi : insC cn d = true ∧ insC cn e = true
  · rw [if_pos hi] at eq
    obtain ⟨a, b, dx, dy, fs, gs, hx, hy, ha, hb⟩ := both_ins gC s r1 r2 hi
    obtain ⟨r, e1, eq⟩ := bind_some' eq
    split at eq
    · rename_i b0 z0
      cases eq
      refine .inl ⟨a, b, dx, dy, fs, gs, hx, hy, ha, hb, G, [d, e], false, .bl b0, z0, s, .pure (.cons r1 (.cons r2 .nil)), e1, fun v G' H' B => ?_⟩
      have hr := B.rs
      cases hr with
      | old r => cases r; exact ⟨b0, rfl, q _ G' H' (nw_of_bk B) (.val (.bl _))⟩
    · cases eq
  · rw [if_neg hi] at eq
    exact .inr (rb_ne G H x y d e op Q s (.frz r1) (.frz r2) eq q)
end
theorem op_or {X : Cx} {op : Value → Value → Sem Value} {r r' : R2} (h : OpR X op r) (h' : OpR X op r') : OpR X op (rOr r r') := fun pins s σ H x y v u Q I rx ry z => z.elim (h pins s σ H x y v u Q I rx ry) (h' pins s σ H x y v u Q I rx ry)
section
variable {X : Cx} {k j : Nat} {ps : List PySem.Str} {m : Mir} {C f : Addr} {fd : FuncData} {cn mn : String} {pos : Pos} {a b : Expr} {ta tb : TE} {fa fb : FE}
theorem km_eq {K : PySem.W.Frag} {mg : Mg} (h : KnM X.prog X.w K mg X.base C f fd cn "__eq__" ps false k m) (hr : Room j X.A) (ha : JE X a ta fa) (hb : JE X b tb fb) (hj : k ≤ j := by decide) (hK : X.K = K := by rfl) (hM : X.mg = mg := by rfl) :
    JE X (.Compare a [.Eq] [b] pos) (tOp (rOr (rM C (spM K mg false m)) (rEqD K)) ta tb) (fBinF (gEqM cn m) fa fb) := by
  subst hK hM
  exact ⟨pe_cmpR (op_or (op_cmpM (op := .Eq) h.ok (hr.mono hj) h.bi h.me.at_ h.me.fn fun _ _ => rfl) (op_eqD hr.units)) ha.pe hb.pe (nomark _), re_binF (rb_eqM h.g) ha.re hb.re⟩
theorem km_eqT {K : PySem.W.Frag} {mg : Mg} (h : KnM X.prog X.w K mg X.base C f fd cn "__eq__" ps false k m) (hr : Room j X.A) (ha : JE X a ta fa) (hb : JE X b tb fb) (hj : k ≤ j := by decide) (hK : X.K = K := by rfl) (hM : X.mg = mg := by rfl) :
    JT X (.Compare a [.Eq] [b] pos) (tTest (tOp (rOr (rM C (spM K mg false m)) (rEqD K)) ta tb)) (fTB (fBinF (gEqM cn m) fa fb)) := by
  subst hK hM
  exact ⟨pt_cmpR (op_or (op_cmpM (op := .Eq) h.ok (hr.mono hj) h.bi h.me.at_ h.me.fn fun _ _ => rfl) (op_eqD hr.units)) ha.pe hb.pe (nomark _), re_testE (re_binF (rb_eqM h.g) ha.re hb.re)⟩
/-- a class without an own != -/
structure NeOk (K : PySem.W.Frag) (mg : Mg) (cn : String) : Prop where
  ne : ∀ C, mg (os cn) = some (.ref C) → PySem.W.findIn K (.ref C) "__ne__" = some (some (.builtin "object.__ne__")) ∧ PySem.W.subIn K (.ref C) (.type "object") = some true
theorem km_ne {K : PySem.W.Frag} {mg : Mg} (N : NeOk K mg cn) (h : KnM X.prog X.w K mg X.base C f fd cn "__eq__" ps false k m) (hr : Room j X.A) (ha : JE X a ta fa) (hb : JE X b tb fb) (hj : k + 1 ≤ j := by decide) (hK : X.K = K := by rfl) (hM : X.mg = mg := by rfl) :
    JE X (.Compare a [.NotEq] [b] pos) (tOp (rOr (rMn C (spM K mg false m)) (rNeD K)) ta tb) (fBinF (gNeM cn m) fa fb) := by
  subst hK hM
  exact ⟨pe_cmpR (op_or (op_neM h.ok (hr.mono hj) h.bi (N.ne C h.g).1 (N.ne C h.g).2 h.me.at_ h.me.fn) (op_neD hr.units)) ha.pe hb.pe (nomark _), re_binF (rb_neM h.g) ha.re hb.re⟩
theorem km_neT {K : PySem.W.Frag} {mg : Mg} (N : NeOk K mg cn) (h : KnM X.prog X.w K mg X.base C f fd cn "__eq__" ps false k m) (hr : Room j X.A) (ha : JE X a ta fa) (hb : JE X b tb fb) (hj : k + 1 ≤ j := by decide) (hK : X.K = K := by rfl) (hM : X.mg = mg := by rfl) :
    JT X (.Compare a [.NotEq] [b] pos) (tTest (tOp (rOr (rMn C (spM K mg false m)) (rNeD K)) ta tb)) (fTB (fBinF (gNeM cn m) fa fb)) := by
  subst hK hM
  exact ⟨pt_cmpR (op_or (op_neM h.ok (hr.mono hj) h.bi (N.ne C h.g).1 (N.ne C h.g).2 h.me.at_ h.me.fn) (op_neD hr.units)) ha.pe hb.pe (nomark _), re_testE (re_binF (rb_neM h.g) ha.re hb.re)⟩
/-- a class whose own name stands first -/
structure SfOk (K : PySem.W.Frag) (mg : Mg) (cn : String) : Prop where
  sf : ∀ C, mg (os cn) = some (.ref C) → PySem.W.selfFirst K C = true
theorem km_op {op : Operator} {K : PySem.W.Frag} {mg : Mg} (N : SfOk K mg cn) (h : KnM X.prog X.w K mg X.base C f fd cn mn ps false k m) (hr : Room j X.A) (ha : JE X a ta fa) (hb : JE X b tb fb) (hm : PySem.dunder op.info.2 = os mn := by rfl) (hj : k ≤ j := by decide) (hK : X.K = K := by rfl) (hM : X.mg = mg := by rfl) :
    JE X (.BinOp a op b pos) (tOp (rM C (spM K mg false m)) ta tb) (fBinF (gM2 cn m) fa fb) := by
  subst hK hM
  exact ⟨pe_op (op_binM h.ok (hr.mono hj) h.bi (hm ▸ h.me.at_) h.me.fn (N.sf C h.g)) ha.pe hb.pe, re_binF (rb_M2 h.g) ha.re hb.re⟩
end
end J
namespace J
open PySem PySem.Spec PyProof.Rows L2

/-! ### isinstance of an own class -/
structure TyK (K : PySem.W.Frag) (C : Addr) : Prop where
  cl : Cls K C
  ha : PySem.W.findIn K (.ref C) "__class__" = some (some (.builtin "object.__class__"))
  hn : PySem.W.specialIn K (.builtin "object.__class__") "__get__" = some (some (.builtin "getset_descriptor.__get__"))
  ht : PySem.W.takesIn K (.builtin "object.__class__") = some true
  hm : PySem.W.mroIn K C (.type "object") = some true
structure IsOk (K : PySem.W.Frag) (mg : Mg) (cn : String) (yes no : List String) : Prop where
  cl : ∀ C, mg (os cn) = some (.ref C) → PySem.W.isClsIn K C = true ∧ PySem.W.typeIn K (.ref C) = some (.type "type")
  ye : ∀ C c C', mg (os cn) = some (.ref C) → c ∈ yes → mg (os c) = some (.ref C') → PySem.W.subIn K (.ref C') (.ref C) = some true
  ty : ∀ c C', c ∈ yes ∨ c ∈ no → mg (os c) = some (.ref C') → TyK K C'
  no : ∀ C c C', mg (os cn) = some (.ref C) → c ∈ no → mg (os c) = some (.ref C') → PySem.W.subIn K (.ref C') (.ref C) = some false ∧ C' ≠ C
def gIsC (yes no : List String) (d : D) : Option Op := match d with
  | .ins c _ => if c ∈ yes then some (.val (.bl true)) else if c ∈ no then some (.val (.bl false)) else none
  | .exc _ _ _ _ => none
  | .dicL _ => none
  | _ => some (.val (.bl false))
def fIsC (yes no : List String) (fe : FE) (τ : Tau) : Option (Op × Tau) := fUn (gIsC yes no) fe τ
theorem kit_no {K : PySem.W.Frag} {C : Addr} {a : String} (h : PySem.W.isClsIn K C = true ∧ PySem.W.typeIn K (.ref C) = some (.type "type")) (ha : a ∈ ["NoneType", "bool", "int", "str", "list", "tuple", "dict"]) : PySem.W.kitOne K (.type a) (.ref C) = some false := by
  unfold PySem.W.kitOne
  rw [if_neg (by simp)]
  unfold PySem.W.kitCls
  have h1 := h.1
  unfold PySem.W.isClsIn at h1
  dsimp only
  rw [if_pos (by rw [h1, h.2]; rfl)]
  simp only [List.mem_cons, List.not_mem_nil, or_false] at ha
  rcases ha with rfl | rfl | rfl | rfl | rfl | rfl | rfl <;> rfl
theorem kit_own {K : PySem.W.Frag} {C C' : Addr} {b : Bool} (h : PySem.W.isClsIn K C = true ∧ PySem.W.typeIn K (.ref C) = some (.type "type")) (hs : PySem.W.subIn K (.ref C') (.ref C) = some b) (hb : b = false → C' ≠ C) : PySem.W.kitOne K (.ref C') (.ref C) = some b := by
  unfold PySem.W.kitOne
  by_cases e : C' = C
  · subst e
    rw [if_pos (by simp)]
    cases b
    · exact absurd rfl (hb rfl)
    · rfl
  · rw [if_neg (by simpa using e)]
    unfold PySem.W.kitCls
    have h1 := h.1
    unfold PySem.W.isClsIn at h1
    dsimp only
    rw [if_pos (by rw [h1, h.2]; rfl)]
    exact hs
section
variable {K : PySem.W.Frag} {mg : Mg} {te : TE} {fe : FE} {cn : String} {yes no : List String} {C : Addr}
theorem re_isC (N : IsOk K mg cn yes no) (gC : mg (os cn) = some (.ref C)) (he : RE K mg te fe) : RE K mg (tCB (rIsi K) (tCons te (tCons (tC (.ref C)) tNil))) (fIsC yes no fe) := fun σ τ G H op τ' Q A e q => by
  obtain ⟨⟨o, τ1⟩, e1, e⟩ := bind_some' e
  obtain ⟨d, e2, e⟩ := bind_some' e
  obtain ⟨z, e3, e⟩ := bind_some' e
  cases e
  refine he σ τ G H o _ _ A e1 fun x G1 H1 g1 o1 => ?_
  have p := o1.pk g1.at' e2
  have built : ∀ a, tyn d = some a → op = .val (.bl false) → (∀ v G' H', Go K mg σ τ G H τ1 G' H' → Or K mg H G' H' σ τ1 v op → Q v H') → rIsi K [x, .ref C] H1 Q := fun a ha ho q => by
    subst ho
    obtain ⟨t1, t2⟩ := tyx_of g1.at'.gh p ha
    exact ⟨x, .ref C, .type a, .ref C, false, rfl, .own C, t1, kit_no (N.cl C gC) t2, q _ G1 H1 g1 (.val (.bl _))⟩
  cases d with
  | ins c fs =>
    obtain ⟨a, C', dx, fs', rfl, hm, ha, _⟩ := p.ins g1.at'.gh
    unfold gIsC at e3
    dsimp only at e3
    by_cases hy : c ∈ yes
    · rw [if_pos hy] at e3
      cases e3
      have T := N.ty c C' (.inl hy) hm
      exact ⟨_, .ref C, .ref C', .ref C, true, rfl, .own C, .base (.ins ha T.cl T.ha T.hn T.ht T.hm), kit_own (N.cl C gC) (N.ye C c C' gC hy hm) (fun z => nomatch z), q _ G1 H1 g1 (.val (.bl _))⟩
    · rw [if_neg hy] at e3
      by_cases hn : c ∈ no
      · rw [if_pos hn] at e3
        cases e3
        have T := N.ty c C' (.inr hn) hm
        exact ⟨_, .ref C, .ref C', .ref C, false, rfl, .own C, .base (.ins ha T.cl T.ha T.hn T.ht T.hm), kit_own (N.cl C gC) (N.no C c C' gC hn hm).1 (fun _ => (N.no C c C' gC hn hm).2), q _ G1 H1 g1 (.val (.bl _))⟩
      · rw [if_neg hn] at e3
        cases e3
  | non => exact built _ rfl (by cases e3; rfl) q
  | bl _ => exact built _ rfl (by cases e3; rfl) q
  | int _ => exact built _ rfl (by cases e3; rfl) q
  | str _ => exact built _ rfl (by cases e3; rfl) q
  | lst _ => exact built _ rfl (by cases e3; rfl) q
  | tup _ => exact built _ rfl (by cases e3; rfl) q
  | dic _ => exact built _ rfl (by cases e3; rfl) q
  | exc _ _ _ _ => cases e3
  | dicL _ => cases e3
end
section
variable {X : Cx} {e : Expr} {te : TE} {fe : FE} {p p' pos : Pos} {cn : String} {yes no : List String} {C : Addr}
theorem je_isC {K : PySem.W.Frag} {mg : Mg} (N : IsOk K mg cn yes no) (gC : mg (os cn) = some (.ref C)) (hg : Gl X "isinstance") (hm : X.mg "isinstance" = none) (he : JE X e te fe) (hg2 : Gl X (os cn) := by rfl)
    (hd : (os cn == ("__debug__" : PySem.Str)) = false := by decide) (hs : starEach (e :: .Name (os cn) p' :: []) X.env = (false, eval e X.env) :: starEach (.Name (os cn) p' :: []) X.env := by rfl) (hs2 : starEach (.Name (os cn) p' :: []) X.env = (false, eval (.Name (os cn) p') X.env) :: starEach [] X.env := by rfl)
    (hpl : (backTo pos (starEach (.Name (os cn) p' :: []) X.env)).any (·.1) = false := by rfl) (hK : X.K = K := by rfl) (hM : X.mg = mg := by rfl) :
    JE X (.Call (.Name "isinstance" p) [e, .Name (os cn) p'] [] pos) (tCB (rIsi K) (tCons te (tCons (tC (.ref C)) tNil))) (fIsC yes no fe) := by
  subst hK hM
  exact ⟨pe_callB call_isi hg hm (by decide +kernel) (pa_cons he.pe (pa_cons (pe_glob hg2 gC rfl hd) pa_nil hs2) hs) (by decide) (by decide) hs hpl, re_isC N gC he.re⟩
end
end J
namespace J
open PySem PySem.Spec PyProof.Rows L2

/-! ### name = e, the value put away at once (names that no def changes in place) -/
def sSetF (i : Nat) (f : FE) (τ : Tau) : Option Flow := (f τ).bind fun a => (fz a.2 a.1).bind fun d => some (.nx (d.2.set i (some (.sh d.1))))
section
variable {K : PySem.W.Frag} {mg : Mg} {b : Bool} {te : TE} {fe : FE}
theorem rs_setF {i : Nat} (hi : b = false ∨ i ≠ 0) (h : RE K mg te fe) : RS K mg b (tAsg te (gName i)) (sSetF i fe) := fun io R0 G0 H0 G H σ τ D fl hb F e k => by
  obtain ⟨⟨oa, τ1⟩, e1, e⟩ := bind_some' e
  obtain ⟨⟨d, τ2⟩, e2, e⟩ := bind_some' e
  cases e
  refine h σ τ G H oa τ1 _ F.at' e1 fun v G1 H1 g1 o1 => ?_
  obtain ⟨G2, g2, s2, r2⟩ := o1.fz g1 e2
  have F2 := F.go g2
  obtain ⟨A, ro⟩ := F2.at'.setSh (i := i) F2.ll r2
  exact k _ G2 H1 (F2.slots A (fun b h => F2.rr b (ro b h)) (pr_set hb hi F2.pr) (by rw [List.length_set, List.length_set]; exact F2.ll))
end
section
variable {X : Cx} {b : Bool} {e : Expr} {te : TE} {fe : FE} {pos : Pos}
theorem js_setF {i : Nat} {x : PySem.Str} {pos' : Pos} (hN : X.N.Nodup) (hb : b = false ∨ i ≠ 0) (he : JE X e te fe) (hi : X.N[i]? = some x := by rfl) (hx : Loc X.env.scope x := by first | exact Or.inl rfl | exact Or.inr rfl)
    (hs : swapsWith e (some (.Name x pos')) pos.line X.env = pure false := by rfl) (hf : X.fn x = true ∨ X.env.scope.names.lookup x = some .local := by first | exact .inl rfl | exact .inr rfl | assumption) :
    JS X b (.Assign [.Name x pos'] e pos) (tAsg te (gName i)) (sSetF i fe) := ⟨ps_set hN hi hx he.pe hs hf, rs_setF hb he.re⟩
variable {elt tgt iter : Expr} {ifs : List Expr} {scope : Scope} {own : List (PySem.Str × Nat)} {spos : Pos} {wi : TI} {w : FI} {tg : TG} {g : FG} {is : List Nat} {tt : TT} {ft : FT}
theorem js_setLcF {i : Nat} {y : PySem.Str} {py : Pos} (hb : b = false ∨ i ≠ 0) (hc : X.calm = true) (hN : X.N.Nodup) (hyl : X.env.scope.names.lookup y = some .local) (hsw : swapsWith (.ListComp elt [⟨tgt, iter, ifs, 0⟩] scope pos) (some (.Name y py)) spos.line X.env = pure true)
    (hi : JI X tgt iter wi w) (ok : BlkOk X.N X.env.scope scope own) (hs : ∀ i ∈ is, i ∈ own.map (·.2)) (hg : ∀ (s : Shared) (H : Hp) (C : Addr) (cl : List (PySem.Str × Addr)) (fp : List Addr), JG (X.blk s H scope (compEnvC scope cl C X.env) fp) tgt is tg g) (ht : ∀ (s : Shared) (H : Hp) (C : Addr) (cl : List (PySem.Str × Addr)) (fp : List Addr), JTs (X.blk s H scope (compEnvC scope cl C X.env) fp) ifs tt ft) (he : ∀ (s : Shared) (H : Hp) (C : Addr) (cl : List (PySem.Str × Addr)) (fp : List Addr), JE (X.blk s H scope (compEnvC scope cl C X.env) fp) elt te fe)
    (hy : X.N[i]? = some y := by rfl) (hf : ∀ x, foldedSetIterable iter X.env x = pure x := by intro _; rfl) : JS X b (.Assign [.Name y py] (.ListComp elt [⟨tgt, iter, ifs, 0⟩] scope pos) spos) (tAsg (tLc wi tg tt te (own.map (·.2))) (gName i)) (sSetF i (fLc (own.map (·.2)) w g ft fe)) :=
  ⟨ps_setLc hc hN hy hyl hsw hi.pi ok (fun s H C cl fp => (hg s H C cl fp).pg) (fun s H C cl fp => (ht s H C cl fp).pts) (fun s H C cl fp => (he s H C cl fp).pe) hf,
   rs_setF hb (re_lc hs hi.ri (hg X.s_0 X.H_0 0 [] []).rg (ht X.s_0 X.H_0 0 [] []).rt (he X.s_0 X.H_0 0 [] []).re)⟩
end

/-! ### own operators with other operands: o * n, ~o, n in o -/
def rMx (C : Addr) (sp : Sp) : R2 := fun x y H Q => ∃ a dx fs i, x = .ref a ∧ y = .int i ∧ H a = some (.ins C dx fs) ∧ sp [x, y] H Q E0
end J
namespace J
open PySem PySem.Spec PyProof.Rows L2

/-! ### == of two texts -/
def gEqS : G2
  | .str x, .str y => some (.val (.bl (decide (x = y))))
  | _, _ => none
def gNeS : G2
  | .str x, .str y => some (.val (.bl (!decide (x = y))))
  | _, _ => none
section
variable {K : PySem.W.Frag} {mg : Mg}
theorem dec_vstr {x y : PySem.Str} : decide (V.str x = V.str y) = decide (x = y) := by
  rw [Bool.eq_iff_iff, decide_eq_true_eq, decide_eq_true_eq]
  exact ⟨fun h => by cases h; rfl, fun h => by rw [h]⟩
theorem rb_eqS : RB K mg L2.rEq gEqS := fun G H x y d e op Q s p1 p2 eq q => by
  cases d <;> cases e <;> first | (cases eq; done) | skip
  cases eq
  cases p1.str
  cases p2.str
  refine ⟨rfl, ?_⟩
  rw [dec_vstr]
  exact q _ G H (Nw.refl s) (.val (.bl _))
theorem rb_neS : RB K mg L2.rNe gNeS := fun G H x y d e op Q s p1 p2 eq q => by
  cases d <;> cases e <;> first | (cases eq; done) | skip
  cases eq
  cases p1.str
  cases p2.str
  refine ⟨rfl, ?_⟩
  rw [dec_vstr]
  exact q _ G H (Nw.refl s) (.val (.bl _))
end
/-! ### x in xs, the items and x flat -/
def flatD : D → Bool
  | .non => true | .bl _ => true | .int _ => true | .str _ => true
  | _ => false
/-- == of flat data -/
def eqF : D → D → Bool
  | .non, .non => true
  | .bl a, .bl b => a == b
  | .int a, .int b => a == b
  | .bl a, .int b => (if a = true then 1 else 0) == b
  | .int a, .bl b => a == (if b = true then 1 else 0)
  | .str a, .str b => a == b
  | _, _ => false
def inD (x : D) (xs : List D) : Bool := xs.any fun y => eqF y x
def gIn (neg : Bool) (d e : D) : Option Op := match e with
  | .lst xs => if flatD d = true ∧ xs.all flatD = true then some (.val (.bl (if neg then !inD d xs else inD d xs))) else none
  | .tup xs => if flatD d = true ∧ xs.all flatD = true then some (.val (.bl (if neg then !inD d xs else inD d xs))) else none
  | _ => none
section
variable {K : PySem.W.Frag} {mg : Mg} {G H : Hp}
theorem flat_rp {v : V} {d : D} (r : Rp K mg G v d) (h : flatD d = true) : flatV v = true := by
  cases r <;> first | rfl | (cases h; done)
theorem flat_rpl : ∀ {vs : List V} {ds : List D}, RpL K mg G vs ds → ds.all flatD = true → vs.all flatV = true
  | _, _, .nil, _ => rfl
  | _, _, .cons h r, e => by
    rw [List.all_cons, Bool.and_eq_true] at e ⊢
    exact ⟨flat_rp h e.1, flat_rpl r e.2⟩
theorem eqF_rp {v u : V} {d e : D} (r : Rp K mg G v d) (r' : Rp K mg G u e) (h : flatD d = true) (h' : flatD e = true) : eqV v u = eqF d e := by
  cases r <;> first | (cases h; done) | skip
  all_goals (cases r' <;> first | (cases h'; done) | rfl)
theorem inD_rp {u : V} {e : D} (r' : Rp K mg G u e) (h' : flatD e = true) : ∀ {vs : List V} {ds : List D}, RpL K mg G vs ds → ds.all flatD = true → inV u vs = inD e ds
  | _, _, .nil, _ => rfl
  | _, _, .cons h r, a => by
    rw [List.all_cons, Bool.and_eq_true] at a
    show (eqV _ u || inV u _) = (eqF _ e || inD e _)
    rw [eqF_rp h r' a.1 h', inD_rp r' h' r a.2]
theorem flat_pk {v : V} {d : D} (p : Pk K mg G H v d) (h : flatD d = true) : Rp K mg G v d := by
  cases p with
  | frz r => exact r
  | root e r => cases r <;> (cases h; done)
theorem rb_in {neg : Bool} : RB K mg (L2.rIn K neg) (gIn neg) := fun G H x y d e op Q s p1 p2 eq q => by
  cases e <;> first | (cases eq; done) | skip
  all_goals
    obtain ⟨⟨h1, h2⟩, rfl⟩ := if_get (show (if flatD d = true ∧ _ then some (Op.val (.bl _)) else none) = some op from eq)
    have r1 := flat_pk p1 h1
  · obtain ⟨a, vs, rfl, hq, r⟩ := p2.lst s
    refine ⟨a, vs, rfl, .inl hq, flat_rp r1 h1, flat_rpl r h2, ?_⟩
    rw [inD_rp r1 h1 r h2]
    exact q _ G H (Nw.refl s) (.val (.bl _))
  · obtain ⟨a, vs, rfl, hq, r⟩ := p2.tup s
    refine ⟨a, vs, rfl, .inr hq, flat_rp r1 h1, flat_rpl r h2, ?_⟩
    rw [inD_rp r1 h1 r h2]
    exact q _ G H (Nw.refl s) (.val (.bl _))
end
/-! ### xs + ys -/
def rCatL (K : PySem.W.Frag) : R2 := fun x y H Q => ∃ l b xs zs, x = .ref l ∧ y = .ref b ∧ SqL K H l xs ∧ SqL K H b zs ∧ xs.length + zs.length ≤ sizeLine ∧ ∀ p, H p = none → Q (.ref p) (upd H p (.lst (xs ++ zs)))
theorem op_catL {X : Cx} : OpR X (binaryOp .Add) (rCatL X.K) := by
  intro pins s σ H x y v u Q I rx ry h
  obtain ⟨l, b, xs, zs, rfl, rfl, hH, hB, hz, q⟩ := h
  cases rx
  cases ry
  obtain ⟨its, r, pl, hl⟩ := I.list hH
  obtain ⟨its2, r2, pl2, hl2⟩ := I.list hB
  have e1 := r.length
  have e2 := r2.length
  obtain ⟨⟨cls, dd, data, sl⟩, ho, hc, n, hd⟩ := pl.isList
  obtain ⟨⟨cls2, dd2, data2, sl2⟩, ho2, hc2, n2, hd2⟩ := pl2.isList
  simp only at hc hd hc2 hd2
  subst hc hd hc2 hd2
  refine concat_meets ⟨_, ho, rfl⟩ ⟨_, ho2, rfl⟩ noFill_list_add seq_list_add PySem.F.slot_list_add PySem.F.entry_list_add (PySem.F.args_list_add_2 _ _) (list_addW l b its.toArray its2.toArray n n2 dd dd2 sl sl2 (by simp; omega)) ⟨ho, ho2, ?_⟩
  rw [show its.toArray ++ its2.toArray = (its ++ its2).toArray by simp]
  exact ⟨.ref _, _, I.lnew (t' := s.toks) (r.append r2) (by rw [List.length_append]; omega), rfl, q _ I.fresh⟩
def gCat : G2
  | .lst a, .lst b => if a.length + b.length ≤ 16777216 then some (.tmp (.lst (a ++ b))) else none
  | _, _ => none
theorem rb_cat {K : PySem.W.Frag} {mg : Mg} : RB K mg (rCatL K) gCat := fun G H x y d e op Q s p1 p2 eq q => by
  cases d <;> cases e <;> first | (cases eq; done) | skip
  rename_i a b
  obtain ⟨h, rfl⟩ := if_get (show (if a.length + b.length ≤ 16777216 then some (Op.tmp (.lst (a ++ b))) else none) = some op from eq)
  obtain ⟨l, vs, rfl, hq, r⟩ := p1.lst s
  obtain ⟨l2, vs2, rfl, hq2, r2⟩ := p2.lst s
  exact ⟨l, l2, vs, vs2, rfl, rfl, hq, hq2, by rw [sizeLine_eq, r.length, r2.length]; exact h, fun p hp => q _ _ _ (Nw.new s hp) (On.new s hp (.lst (r.append r2)))⟩
/-! ### sorted(ints) -/
def sortI (ns : List Int) : List Int := ns.mergeSort fun a b => decide (a ≤ b)
theorem sortI_perm (ns : List Int) : (sortI ns).Perm ns := List.mergeSort_perm ..
theorem sortI_sorted (ns : List Int) : (sortI ns).Pairwise (· ≤ ·) := by
  have h := List.pairwise_mergeSort (le := fun a b : Int => decide (a ≤ b)) (fun a b c h1 h2 => by simp at *; omega) (fun a b => by simp; omega) ns
  exact h.imp fun h => by simpa using h
theorem sorted_uniq : ∀ {xs ys : List Int}, xs.Perm ys → xs.Pairwise (· ≤ ·) → ys.Pairwise (· ≤ ·) → xs = ys
  | [], ys, p, _, _ => by rw [List.nil_perm.mp p]
  | x :: xs, [], p, _, _ => absurd p.length_eq (by simp)
  | x :: xs, y :: ys, p, h1, h2 => by
    have hx : x = y := by
      have a : x ∈ y :: ys := p.mem_iff.mp List.mem_cons_self
      have b : y ∈ x :: xs := p.mem_iff.mpr List.mem_cons_self
      rcases List.mem_cons.mp a with a | a
      · exact a
      · rcases List.mem_cons.mp b with b | b
        · exact b.symm
        · have c := (List.pairwise_cons.mp h1).1 y b
          have d := (List.pairwise_cons.mp h2).1 x a
          omega
    subst hx
    rw [sorted_uniq (List.Perm.cons_inv p) (List.pairwise_cons.mp h1).2 (List.pairwise_cons.mp h2).2]
def gSorted : List D → Option Op
  | [.lst ds] => (intsOf ds).map fun ns => .tmp (.lst ((sortI ns).map D.int))
  | _ => none
theorem rc_sorted {K : PySem.W.Frag} {mg : Mg} : RC K mg (L2.rSortedI K) gSorted := fun G H xs ds op Q s p eq q => by
  unfold gSorted at eq
  split at eq
  · obtain ⟨ns, e1, rfl⟩ := Option.map_eq_some_iff.mp eq
    cases p with
    | cons p p' =>
      cases p'
      obtain ⟨a, vs, rfl, hq, r⟩ := p.lst s
      rw [intsOf_rp r e1] at hq
      refine ⟨a, ns, rfl, hq, fun ns' l pm pw hl => ?_⟩
      rw [sorted_uniq (pm.trans (sortI_perm ns).symm) pw (sortI_sorted ns)]
      exact q _ _ _ (Nw.new s hl) (On.new s hl (.lst (ints_rp _)))
  · cases eq
/-! ### range(i, j, c), reversed(xs), zip(xs, ys) -/
def rng3D (i c : Int) (n : Nat) : List D := (List.range n).map fun (k : Nat) => .int (i + (k : Int) * c)
def rng3Ok (i j c : Int) : Bool := decide (c ≠ 0) && decide (c.natAbs < 1073741824) && Builtin.Range.small i j c && decide (0 ≤ Builtin.Range.rangeSize i j c)
def iR3 (fp : FP) (τ : Tau) : Option (List D × Tau) := (fp τ).bind fun a => (derefL a.2 a.1).bind fun ds => match ds with
  | [.int i, .int j, .int c] => if rng3Ok i j c = true then some (rng3D i c (Builtin.Range.rangeSize i j c).toNat, a.2) else none
  | _ => none
section
variable {K : PySem.W.Frag} {mg : Mg} {ta : TA} {fp : FP}
theorem itr_range3 {lo c : Int} {n : Nat} {G : Hp} : ItR K mg (Itc lo c n) G (rng3D lo c n) := fun G2 H2 s s2 => by
  unfold rng3D
  refine ⟨fun i hi => by rw [List.length_map, List.length_range] at hi; exact hi, fun i d e => ?_⟩
  have hi : i < n := by
    rcases Nat.lt_or_ge i n with z | z
    · exact z
    · rw [List.getElem?_eq_none (by rw [List.length_map, List.length_range]; exact z)] at e; cases e
  rw [List.getElem?_map, List.getElem?_range hi] at e
  cases e
  exact ⟨hi, fun x H' ⟨e1, e2⟩ => by
    subst e1
    subst e2
    exact ⟨G2, Nw.refl s2, .int _⟩⟩
theorem ri_r3 (ha : RPa K mg ta fp) : RI K mg (iRng3 ta) (iR3 fp) := fun σ τ G H ds τ' R A e q => by
  obtain ⟨⟨ops, τ1⟩, e1, e⟩ := bind_some' e
  obtain ⟨dd, e2, e⟩ := bind_some' e
  dsimp only at e2 e
  split at e
  · rename_i i j c
    obtain ⟨h, z⟩ := if_get e
    cases z
    refine ha σ τ G H ops _ _ A e1 fun vs G1 H1 g1 o1 => ?_
    have p := o1.pk g1.at' e2
    cases p with
    | cons p p' =>
      cases p' with
      | cons p2 p3 =>
        cases p3 with
        | cons p3 p4 =>
          cases p4
          cases p.int
          cases p2.int
          cases p3.int
          unfold rng3Ok at h
          simp only [Bool.and_eq_true, decide_eq_true_eq] at h
          obtain ⟨⟨⟨h1, h2⟩, h3⟩, h4⟩ := h
          exact ⟨i, j, c, _, rfl, ⟨h1, h2, h3, by omega⟩, q _ G1 H1 g1 itr_range3⟩
  · cases e
/-- reversed(xs) -/
def iRevD (fa : FA) (τ : Tau) : Option (List D × Tau) := (fa τ).bind fun a => match a.1 with
  | [.lst ds] => some (ds.reverse, a.2)
  | _ => none
theorem itr_rev {a : Addr} {G : Hp} {vs : List V} {ds : List D} (h : SqL K G a vs) (r : RpL K mg G vs ds) : ItR K mg (Itv K a vs.length) G ds.reverse := fun G2 H2 s s2 => by
  have hq : SqL K H2 a vs := same_sql s2 (same_sql s h)
  have hl := r.length
  refine ⟨fun i hi => by rw [List.length_reverse] at hi; show vs.length ≤ i; omega, fun i d e => ?_⟩
  have hi : i < ds.length := by
    rcases Nat.lt_or_ge i ds.length with z | z
    · exact z
    · rw [List.getElem?_eq_none (by rw [List.length_reverse]; exact z)] at e; cases e
  rw [List.getElem?_reverse hi] at e
  obtain ⟨v, hv, rv⟩ := r.get e
  rw [← hl] at hv
  refine ⟨⟨by omega, vs, v, hq, hv⟩, fun x H' ⟨e1, e2⟩ => ?_⟩
  subst e1
  have := e2 vs hq
  rw [hv] at this
  cases this
  exact ⟨G2, Nw.refl s2, rv.mono s⟩
theorem ri_rev {fa : FA} (ha : RA K mg ta fa) : RI K mg (iRev K ta) (iRevD fa) := fun σ τ G H ds τ' R A e q => by
  obtain ⟨⟨dd, τ1⟩, e1, e⟩ := bind_some' e
  dsimp only at e
  split at e
  · rename_i xs
    cases e
    refine ha σ τ G H _ _ _ A e1 fun vs G1 H1 g1 r1 => ?_
    cases r1 with
    | cons r r' =>
      cases r'
      cases r with
      | lst hq r => exact ⟨_, _, rfl, same_sql g1.at'.gh hq, q _ G1 H1 g1 (itr_rev hq r)⟩
  · cases e
/-- zip(xs, ys) -/
def zipD : List D → List D → List D
  | x :: xs, y :: ys => .tup [x, y] :: zipD xs ys
  | _, _ => []
def iZipD (fa : FA) (τ : Tau) : Option (List D × Tau) := (fa τ).bind fun a => match a.1 with
  | [.lst xs, .lst ys] => some (zipD xs ys, a.2)
  | _ => none
theorem zipD_get : ∀ {xs ys : List D} {i : Nat} {d : D}, (zipD xs ys)[i]? = some d → ∃ x y, xs[i]? = some x ∧ ys[i]? = some y ∧ d = .tup [x, y]
  | [], _, _, _, h => by simp [zipD] at h
  | _ :: _, [], _, _, h => by simp [zipD] at h
  | x :: xs, y :: ys, 0, d, h => by simp [zipD] at h; exact ⟨x, y, rfl, rfl, h.symm⟩
  | x :: xs, y :: ys, i + 1, d, h => by
    simp [zipD] at h
    obtain ⟨a, b, h1, h2, h3⟩ := zipD_get h
    exact ⟨a, b, by simpa using h1, by simpa using h2, h3⟩
theorem zipD_length : ∀ (xs ys : List D), (zipD xs ys).length = min xs.length ys.length
  | [], _ => by simp [zipD]
  | _ :: _, [] => by simp [zipD]
  | x :: xs, y :: ys => by
    simp only [zipD, List.length_cons, zipD_length xs ys]
    omega
theorem itr_zip {a b : Addr} {G : Hp} {vs ws : List V} {ds es : List D} (h : SqL K G a vs) (r : RpL K mg G vs ds) (h' : SqL K G b ws) (r' : RpL K mg G ws es) : ItR K mg (Itz K a b) G (zipD ds es) := fun G2 H2 s s2 => by
  have hq : SqL K H2 a vs := same_sql s2 (same_sql s h)
  have hq' : SqL K H2 b ws := same_sql s2 (same_sql s h')
  refine ⟨fun i hi => ⟨vs, ws, hq, hq', ?_⟩, fun i d e => ?_⟩
  · rw [zipD_length] at hi
    have := r.length
    have := r'.length
    omega
  · obtain ⟨x, y, e1, e2, rfl⟩ := zipD_get e
    obtain ⟨v, hv, rv⟩ := r.get e1
    obtain ⟨w, hw, rw'⟩ := r'.get e2
    refine ⟨⟨vs, ws, v, w, hq, hq', hv, hw⟩, fun x H' ⟨T, x', y', e1, e2, e3, e4, e5⟩ => ?_⟩
    subst e1 e3
    have a1 := e4 vs hq
    rw [hv] at a1
    cases a1
    have a2 := e5 ws hq'
    rw [hw] at a2
    cases a2
    have n := Nw.newF (K := K) (mg := mg) (o := .tup [v, w]) s2 e2
    have g2 : G2 T = none := s2.free e2
    exact ⟨_, n, .tup (SqT.of upd_same) (.cons ((rv.mono s).mono n.gg) (.cons ((rw'.mono s).mono n.gg) .nil))⟩
theorem ri_zip {fa : FA} (ha : RA K mg ta fa) : RI K mg (iZip K ta) (iZipD fa) := fun σ τ G H ds τ' R A e q => by
  obtain ⟨⟨dd, τ1⟩, e1, e⟩ := bind_some' e
  dsimp only at e
  split at e
  · rename_i xs ys
    cases e
    refine ha σ τ G H _ _ _ A e1 fun vs G1 H1 g1 r1 => ?_
    cases r1 with
    | cons r r' =>
      cases r' with
      | cons r2 r3 =>
        cases r3
        cases r with
        | lst hq r =>
          cases r2 with
          | lst hq2 r2 => exact ⟨_, _, _, _, rfl, same_sql g1.at'.gh hq, same_sql g1.at'.gh hq2, q _ G1 H1 g1 (itr_zip hq r hq2 r2)⟩
  · cases e
end
section
variable {X : Cx} {a b c e : Expr} {ta tb te : TE} {fa fb fe : FE} {t : TA} {fp : FP} {fs : FA} {pos p : Pos} {tg : Expr}
theorem je_eqS (ha : JE X a ta fa) (hb : JE X b tb fb) : JE X (.Compare a [.Eq] [b] pos) (tOp L2.rEq ta tb) (fBin gEqS fa fb) := je_cmp op_eq rb_eqS ha hb (nomark _)
theorem je_neS (ha : JE X a ta fa) (hb : JE X b tb fb) : JE X (.Compare a [.NotEq] [b] pos) (tOp L2.rNe ta tb) (fBin gNeS fa fb) := je_cmp op_ne rb_neS ha hb (nomark _)
theorem jt_eqS (ha : JE X a ta fa) (hb : JE X b tb fb) : JT X (.Compare a [.Eq] [b] pos) (tTest (tOp L2.rEq ta tb)) (fTB (fBin gEqS fa fb)) := jt_cmp op_eq rb_eqS ha hb (nomark _)
theorem jt_neS (ha : JE X a ta fa) (hb : JE X b tb fb) : JT X (.Compare a [.NotEq] [b] pos) (tTest (tOp L2.rNe ta tb)) (fTB (fBin gNeS fa fb)) := jt_cmp op_ne rb_neS ha hb (nomark _)
theorem je_in {K : PySem.W.Frag} (ha : JE X a ta fa) (hb : JE X b tb fb) (hm : behindInMarks .In b = false := by rfl) (hK : X.K = K := by rfl) : JE X (.Compare a [.In] [b] pos) (tOp (L2.rIn K false) ta tb) (fBin (gIn false) fa fb) := by
  subst hK
  exact je_cmp op_in_seq rb_in ha hb hm
theorem je_nin {K : PySem.W.Frag} (ha : JE X a ta fa) (hb : JE X b tb fb) (hm : behindInMarks .NotIn b = false := by rfl) (hK : X.K = K := by rfl) : JE X (.Compare a [.NotIn] [b] pos) (tOp (L2.rIn K true) ta tb) (fBin (gIn true) fa fb) := by
  subst hK
  exact je_cmp op_notIn_seq rb_in ha hb hm
theorem jt_in {K : PySem.W.Frag} (ha : JE X a ta fa) (hb : JE X b tb fb) (hm : behindInMarks .In b = false := by rfl) (hK : X.K = K := by rfl) : JT X (.Compare a [.In] [b] pos) (tTest (tOp (L2.rIn K false) ta tb)) (fTB (fBin (gIn false) fa fb)) := by
  subst hK
  exact jt_cmp op_in_seq rb_in ha hb hm
theorem jt_nin {K : PySem.W.Frag} (ha : JE X a ta fa) (hb : JE X b tb fb) (hm : behindInMarks .NotIn b = false := by rfl) (hK : X.K = K := by rfl) : JT X (.Compare a [.NotIn] [b] pos) (tTest (tOp (L2.rIn K true) ta tb)) (fTB (fBin (gIn true) fa fb)) := by
  subst hK
  exact jt_cmp op_notIn_seq rb_in ha hb hm
theorem je_cat {K : PySem.W.Frag} (ha : JE X a ta fa) (hb : JE X b tb fb) (hK : X.K = K := by rfl) : JE X (.BinOp a .Add b pos) (tOp (rCatL K) ta tb) (fBin gCat fa fb) := by
  subst hK
  exact je_bin op_catL rb_cat ha hb
theorem je_sorted {K : PySem.W.Frag} (hg : Gl X "sorted") (hm : X.mg "sorted" = none) (ha : JP X [e] t fp) (he : starEach (e :: []) X.env = (false, eval e X.env) :: starEach [] X.env := by rfl) (hpl : (backTo pos (starEach [] X.env)).any (·.1) = false := by rfl) (hK : X.K = K := by rfl) : JE X (.Call (.Name "sorted" p) [e] [] pos) (tCB (L2.rSortedI K) t) (fCB gSorted fp) := by
  subst hK
  exact je_cb cr_sortedI rc_sorted hg hm (by decide +kernel) ha (by decide) (by decide) he hpl
theorem ji_r3 (hg : Gl X "range") (hm : X.mg "range" = none) (ha : JP X [a, b, c] t fp) (hs : starEach [a, b, c] X.env = (false, eval a X.env) :: starEach [b, c] X.env := by rfl) (hpl : (backTo pos (starEach [b, c] X.env)).any (·.1) = false := by rfl) : JI X tg (.Call (.Name "range" p) [a, b, c] [] pos) (iRng3 t) (iR3 fp) := ⟨pi_range3 hg hm ha.pa hs hpl, ri_r3 ha.rp⟩
theorem ji_rev {K : PySem.W.Frag} (hg : Gl X "reversed") (hm : X.mg "reversed" = none) (ha : JA X [e] t fs) (hs : starEach [e] X.env = [(false, eval e X.env)] := by rfl) (hK : X.K = K := by rfl) : JI X tg (.Call (.Name "reversed" p) [e] [] pos) (iRev K t) (iRevD fs) := by
  subst hK
  exact ⟨pi_reversed hg hm ha.pa hs, ri_rev ha.ra⟩
theorem ji_zip {K : PySem.W.Frag} {elts : List Expr} {kk : Nat} {tpos : Pos} (hg : Gl X "zip") (hm : X.mg "zip" = none) (ha : JA X [a, b] t fs)
    (hs : starEach [a, b] X.env = (false, eval a X.env) :: starEach [b] X.env := by rfl) (hpl : (backTo pos (starEach [b] X.env)).any (·.1) = false := by rfl) (hK : X.K = K := by rfl) : JI X (.Tuple elts kk tpos) (.Call (.Name "zip" p) [a, b] [] pos) (iZip K t) (iZipD fs) := by
  subst hK
  exact ⟨pi_zip hg hm ha.pa hs hpl, ri_zip ha.ra⟩
end
end J
namespace J
open PySem PySem.Spec PyProof.Rows L2

/-! ### n in o, n not in o; ~o (own classes) -/
def rInM (neg : Bool) (C : Addr) (sp : Sp) : R2 := fun x y H Q => ∃ a dx fs, y = .ref a ∧ H a = some (.ins C dx fs) ∧ sp [y, x] H (fun v H' => ∃ r, v = .bl r ∧ Q (.bl (if neg then !r else r)) H') E0
def rUnM (C : Addr) (sp : Sp) : V → Hp → VK → Prop := fun x H Q => ∃ a dx fs, x = .ref a ∧ H a = some (.ins C dx fs) ∧ sp [x] H Q E0
section
variable {X : Cx} {k : Nat} {f C : Addr} {fd : FuncData} {ps : List PySem.Str} {sp : Sp}
theorem op_inM (F : FnOk X.prog X.w X.K X.mg X.base CX0 k f fd ps sp) (hr : Room k X.A) (hb : Binds X.K fd ps []) (hs : PySem.W.findIn X.K (.ref C) "__contains__" = some (some (.ref f))) (hf : PySem.W.isFn X.K (.ref f) = true) : OpR X (compareOp .In) (rInM false C sp) := by
  intro pins s σ H x y v u Q I rx ry h
  obtain ⟨a, dx, fs, rfl, ha, hsp⟩ := h
  cases ry
  obtain ⟨mA, J, _⟩ := ins_get I.hok ha
  obtain ⟨od, J, _⟩ := J.look
  obtain ⟨_, hF⟩ := I.fr
  refine PySem.W.in_K hF I.ok.mod.kin J hs hf (wpAny_mono (run_fn (us := [.ref a, v]) (vs := [.ref a, x]) F hr hb .nil pass0 I (.cons rfl (.cons rx .nil)) (by rw [List.append_nil]; exact hsp)) (fun r s' z => ?_) fun _ _ e => e)
  obtain ⟨w, H', I', r1, t, rfl, q⟩ := z
  cases r1
  exact wpAny_truthy_bool ⟨.bl t, H', I', rfl, q⟩
theorem op_ninM (F : FnOk X.prog X.w X.K X.mg X.base CX0 k f fd ps sp) (hr : Room k X.A) (hb : Binds X.K fd ps []) (hs : PySem.W.findIn X.K (.ref C) "__contains__" = some (some (.ref f))) (hf : PySem.W.isFn X.K (.ref f) = true) : OpR X (compareOp .NotIn) (rInM true C sp) := by
  intro pins s σ H x y v u Q I rx ry h
  obtain ⟨a, dx, fs, rfl, ha, hsp⟩ := h
  cases ry
  obtain ⟨mA, J, _⟩ := ins_get I.hok ha
  obtain ⟨od, J, _⟩ := J.look
  obtain ⟨_, hF⟩ := I.fr
  refine PySem.W.notIn_K hF I.ok.mod.kin J hs hf (wpAny_mono (run_fn (us := [.ref a, v]) (vs := [.ref a, x]) F hr hb .nil pass0 I (.cons rfl (.cons rx .nil)) (by rw [List.append_nil]; exact hsp)) (fun r s' z => ?_) fun _ _ e => e)
  obtain ⟨w, H', I', r1, t, rfl, q⟩ := z
  cases r1
  exact wpAny_truthy_bool ⟨.bl (!t), H', I', rfl, q⟩
theorem un_invM (F : FnOk X.prog X.w X.K X.mg X.base CX0 k f fd ps sp) (hr : Room k X.A) (hb : Binds X.K fd ps []) (hs : PySem.W.findIn X.K (.ref C) "__invert__" = some (some (.ref f))) (hf : PySem.W.isFn X.K (.ref f) = true) : UnR X (unaryOp .Invert) (rUnM C sp) := by
  intro pins s σ H x v Q I rx h
  obtain ⟨a, dx, fs, rfl, ha, hsp⟩ := h
  cases rx
  obtain ⟨mA, J, _⟩ := ins_get I.hok ha
  obtain ⟨od, J, _⟩ := J.look
  obtain ⟨_, hF⟩ := I.fr
  unfold unaryOp
  refine wpAny_holding ?_
  exact wpAny_bind (PySem.W.special_fn (I.ok.mod.kin.keeps hF.keep) J hs (beq_iff_eq.mp hf) (wpAny_mono (run_fn (us := [.ref a]) (vs := [.ref a]) F hr hb .nil pass0 I (.cons rfl .nil) (by rw [List.append_nil]; exact hsp)) (fun r s' z => wpAny_pure z) fun _ _ e => e))
end
def gInM (neg : Bool) (cn : String) (m : Mir) (d e : D) : Option Op := if insC cn e = true then (m [e, d]).bind fun r => match r with
    | (false, .bl b, _) => some (.val (.bl (if neg then !b else b)))
    | _ => none
  else none
def fUnF (g : D → Option Op) (fa : FE) (τ : Tau) : Option (Op × Tau) := (fa τ).bind fun a => (fz a.2 a.1).bind fun d => (g d.1).bind fun z => some (z, d.2)
def gM1 (cn : String) (m : Mir) (d : D) : Option Op := if insC cn d = true then (m [d]).bind fun r => some (mkOp r.1 r.2.1) else none
section
variable {K : PySem.W.Frag} {mg : Mg} {ta tb : TE} {fa fb : FE} {m : Mir} {cn : String} {C : Addr}
theorem rb_inM {neg : Bool} (gC : mg (os cn) = some (.ref C)) : RBF K mg (rInM neg C (spM K mg false m)) (gInM neg cn m) := fun G H x y d e op Q s r1 r2 eq q => by
  obtain ⟨hi, eq⟩ := if_get' eq
  obtain ⟨a, dx, fs, rfl, ha⟩ := insC_ok gC s (Pk.frz r2 : Pk K mg G H y e) hi
  obtain ⟨r, e1, eq⟩ := bind_some' eq
  split at eq
  · rename_i b0 z0
    cases eq
    refine ⟨a, dx, fs, rfl, ha, G, [e, d], false, .bl b0, z0, s, .pure (.cons r2 (.cons r1 .nil)), e1, fun v G' H' B => ?_⟩
    have hr := B.rs
    cases hr with
    | old r => cases r; exact ⟨b0, rfl, q _ G' H' (nw_of_bk B) (.val (.bl _))⟩
  · cases eq
theorem re_unM (gC : mg (os cn) = some (.ref C)) (ha : RE K mg ta fa) : RE K mg (tUn (rUnM C (spM K mg false m)) ta) (fUnF (gM1 cn m) fa) := fun σ τ G H op τ' Q A e q => by
  obtain ⟨⟨oa, τ1⟩, e1, e⟩ := bind_some' e
  obtain ⟨⟨d, τ2⟩, e2, e⟩ := bind_some' e
  obtain ⟨z, e5, e⟩ := bind_some' e
  cases e
  refine ha σ τ G H oa τ1 _ A e1 fun x G1 H1 g1 o1 => ?_
  obtain ⟨G2, g2, s2, r2⟩ := o1.fz g1 e2
  obtain ⟨hi, eq⟩ := if_get' e5
  obtain ⟨⟨own, z', z0⟩, e6, eq⟩ := bind_some' eq
  cases eq
  obtain ⟨a, dx, fs, rfl, ha⟩ := insC_ok gC g2.at'.gh (Pk.frz r2 : Pk K mg G2 H1 x d) hi
  exact ⟨a, dx, fs, rfl, ha, G2, [d], own, z', z0, g2.at'.gh, .pure (.cons r2 .nil), e6, fun v G' H' B => q v G' H' (g2.trans ((nw_of_bk B).go g2.at')) (((on_of_rs B.rs).or g2.at').weak g2.kp)⟩
end
section
variable {X : Cx} {k j : Nat} {ps : List PySem.Str} {m : Mir} {C f : Addr} {fd : FuncData} {cn : String} {pos : Pos} {a b : Expr} {ta tb : TE} {fa fb : FE}
theorem km_in {K : PySem.W.Frag} {mg : Mg} (h : KnM X.prog X.w K mg X.base C f fd cn "__contains__" ps false k m) (hr : Room j X.A) (ha : JE X a ta fa) (hb : JE X b tb fb) (hj : k ≤ j := by decide) (hm : behindInMarks .In b = false := by rfl) (hK : X.K = K := by rfl) (hM : X.mg = mg := by rfl) :
    JE X (.Compare a [.In] [b] pos) (tOp (rInM false C (spM K mg false m)) ta tb) (fBinF (gInM false cn m) fa fb) := by
  subst hK hM
  exact ⟨pe_cmpR (op_inM h.ok (hr.mono hj) h.bi h.me.at_ h.me.fn) ha.pe hb.pe hm, re_binF (rb_inM h.g) ha.re hb.re⟩
theorem km_inT {K : PySem.W.Frag} {mg : Mg} (h : KnM X.prog X.w K mg X.base C f fd cn "__contains__" ps false k m) (hr : Room j X.A) (ha : JE X a ta fa) (hb : JE X b tb fb) (hj : k ≤ j := by decide) (hm : behindInMarks .In b = false := by rfl) (hK : X.K = K := by rfl) (hM : X.mg = mg := by rfl) :
    JT X (.Compare a [.In] [b] pos) (tTest (tOp (rInM false C (spM K mg false m)) ta tb)) (fTB (fBinF (gInM false cn m) fa fb)) := by
  subst hK hM
  exact ⟨pt_cmpR (op_inM h.ok (hr.mono hj) h.bi h.me.at_ h.me.fn) ha.pe hb.pe hm, re_testE (re_binF (rb_inM h.g) ha.re hb.re)⟩
theorem km_nin {K : PySem.W.Frag} {mg : Mg} (h : KnM X.prog X.w K mg X.base C f fd cn "__contains__" ps false k m) (hr : Room j X.A) (ha : JE X a ta fa) (hb : JE X b tb fb) (hj : k ≤ j := by decide) (hm : behindInMarks .NotIn b = false := by rfl) (hK : X.K = K := by rfl) (hM : X.mg = mg := by rfl) :
    JE X (.Compare a [.NotIn] [b] pos) (tOp (rInM true C (spM K mg false m)) ta tb) (fBinF (gInM true cn m) fa fb) := by
  subst hK hM
  exact ⟨pe_cmpR (op_ninM h.ok (hr.mono hj) h.bi h.me.at_ h.me.fn) ha.pe hb.pe hm, re_binF (rb_inM h.g) ha.re hb.re⟩
theorem km_ninT {K : PySem.W.Frag} {mg : Mg} (h : KnM X.prog X.w K mg X.base C f fd cn "__contains__" ps false k m) (hr : Room j X.A) (ha : JE X a ta fa) (hb : JE X b tb fb) (hj : k ≤ j := by decide) (hm : behindInMarks .NotIn b = false := by rfl) (hK : X.K = K := by rfl) (hM : X.mg = mg := by rfl) :
    JT X (.Compare a [.NotIn] [b] pos) (tTest (tOp (rInM true C (spM K mg false m)) ta tb)) (fTB (fBinF (gInM true cn m) fa fb)) := by
  subst hK hM
  exact ⟨pt_cmpR (op_ninM h.ok (hr.mono hj) h.bi h.me.at_ h.me.fn) ha.pe hb.pe hm, re_testE (re_binF (rb_inM h.g) ha.re hb.re)⟩
theorem km_inv {K : PySem.W.Frag} {mg : Mg} (h : KnM X.prog X.w K mg X.base C f fd cn "__invert__" ps false k m) (hr : Room j X.A) (ha : JE X a ta fa) (hj : k ≤ j := by decide) (hK : X.K = K := by rfl) (hM : X.mg = mg := by rfl) :
    JE X (.UnaryOp .Invert a pos) (tUn (rUnM C (spM K mg false m)) ta) (fUnF (gM1 cn m) fa) := by
  subst hK hM
  exact ⟨pe_un (un_invM h.ok (hr.mono hj) h.bi h.me.at_ h.me.fn) ha.pe, re_unM h.g ha.re⟩
end
end J
namespace J
open PySem PySem.Spec PyProof.Rows L2

/-! ### xs[::-1], xs[:0:-1] -/
theorem vals_tail {xs : List V} {us : List Value} (r : Vals xs us) : Vals (xs.drop 1) (us.drop 1) := by
  cases r with
  | nil => exact .nil
  | cons h r => exact r
theorem down_idx (m : Nat) : sliceRange (((m + 1 : Nat) : Int) - 1) 0 (-1) = ((List.range (m + 1)).drop 1).reverse := by
  unfold sliceRange
  have h1 : ¬ ((-1 : Int) > 0) := by decide
  simp only [h1, if_false]
  have e : (if ((m + 1 : Nat) : Int) - 1 > 0 then (((m + 1 : Nat) : Int) - 1 - 0 - -1 - 1) / (- -1) else 0).toNat = m := by
    rw [show (- -1 : Int) = 1 by decide, Int.ediv_one]
    split <;> omega
  rw [e]
  apply List.ext_getElem
  · simp
  · intro i h2 h3
    simp only [List.length_map, List.length_range] at h2
    rw [List.getElem_map, List.getElem_range, List.getElem_reverse, List.getElem_drop, List.getElem_range, List.length_drop, List.length_range]
    omega
theorem pick_tail (items : Array Value) : slicePick items none (some 0) (some (-1)) = (items.toList.drop 1).reverse.toArray := by
  unfold slicePick
  have hb : sliceBounds none (some 0) (some (-1)) items.size = ((items.size : Int) - 1, max (-1) (min 0 ((items.size : Int) - 1)), -1) := by
    simp [sliceBounds]
  rw [hb]
  show ((sliceRange ((items.size : Int) - 1) (max (-1) (min 0 ((items.size : Int) - 1))) (-1)).filterMap (items[·]?)).toArray = _
  rcases Nat.eq_zero_or_pos items.size with z | z
  · have e : items.toList = [] := List.eq_nil_of_length_eq_zero (by rw [Array.length_toList]; exact z)
    rw [e, z]
    rfl
  · obtain ⟨m, hm⟩ : ∃ m, items.size = m + 1 := ⟨items.size - 1, by omega⟩
    have ha := PySem.W.krv_all items
    rw [hm] at ha ⊢
    rw [show max (-1) (min 0 (((m + 1 : Nat) : Int) - 1)) = 0 by omega, down_idx, List.filterMap_reverse]
    rw [List.range_succ_eq_map] at ha ⊢
    have h0 : items[0]? = some items[0] := Array.getElem?_eq_getElem (by omega)
    rw [List.filterMap_cons_some h0] at ha
    rw [← ha]
    rfl
def tDwn (K : PySem.W.Frag) (f : List V → List V) (te : TE) : TE := fun σ H Q => te σ H fun x H1 => ∃ a xs, x = .ref a ∧ SqL K H1 a xs ∧ ∀ p, H1 p = none → Q (.ref p) (upd H1 p (.lst (f xs)))
section
variable {X : Cx} {e : Expr} {te : TE} {k : Nat} {p1 p2 p3 pos : Pos}
/-- the part behind the second colon is -1; the stop is none or a constant -/
theorem pe_dwn {hi : Option Expr} {o : Option Int} {f : List V → List V} {g : List Value → List Value} {tl : TO} (he : PE X e te) (hp : PO X hi tl) (ht : ∀ σ H Q, Q o H → tl σ H Q) (h1 : ∀ items : Array Value, slicePick items none o (some (-1)) = (g items.toList).toArray)
    (h2 : ∀ {xs us}, Vals xs us → Vals (f xs) (g us)) (h3 : ∀ xs, (f xs).length ≤ xs.length)
    (hs : ∀ v w, subscripted (.Slice none hi (some (.UnaryOp .USub (.Constant (.int 1) k p1) p2)) p3) false v w = operate [v, w] (getItem v w)) : PE X (.Subscript e (.Slice none hi (some (.UnaryOp .USub (.Constant (.int 1) k p1) p2)) p3) pos) (tDwn X.K f te) := by
  constructor
  intro pins s σ H Q I h
  refine Subscript_ (thn (he.run pins s σ H _ I h) ?_)
  rintro v s1 ⟨x, H1, I1, r1, a, xs, rfl, hx, q⟩
  cases r1
  have hst : PO X (some (.UnaryOp .USub (.Constant (.int 1) k p1) p2)) (tPart (tUn (rU fun i => .int (-i)) (tC (.int 1)))) := po_some (pe_un un_neg pe_int)
  refine wpAny_Slice (thn (po_none.run pins s1 σ H1 (fun r G => r = none ∧ G = H1) I1 ⟨rfl, rfl⟩) ?_)
  rintro vl s2 ⟨l, H2, I2, pl, rfl, rfl⟩
  refine thn (hp.run pins s2 σ H2 (fun r G => r = o ∧ G = H2) I2 (ht _ _ _ ⟨rfl, rfl⟩)) ?_
  rintro vu s3 ⟨u, H3, I3, pu, rfl, rfl⟩
  refine thn (hst.run pins s3 σ H3 (fun r G => r = some (-1) ∧ G = H3) I3 ⟨1, rfl, -1, rfl, rfl, rfl⟩) ?_
  rintro vs s4 ⟨st, H4, I4, ps, rfl, rfl⟩
  have J : Inv X pins σ H4 { s4 with heap := s4.heap.push { cls := .type "slice", data := .fields #[vl, vu, vs] } } := I4.kept (t' := s4.toks) fun _ _ z => Heap.get?_push_of_some _ z
  obtain ⟨its, r, hl, hz⟩ := J.list hx
  have hn := r.length
  refine tail_any (ops := [.ref a, .ref s4.heap.objs.size]) hl.isList.typeIs PySem.slot_list_getitem.lookup ?_ (hs _ _)
  refine wpAny_getItem_list_slice hl.isList (Heap.IsSliceOf.new _ vl vu vs) pl pu ps (by decide) ?_ (by rw [List.size_toArray]; omega)
  rw [h1]
  have h4 := h3 xs
  refine ⟨.ref _, _, J.laid (t' := s4.toks) (o := .lst (f xs)) (fun _ _ z => Heap.get?_push_of_some _ z) (Nat.le_refl _) ⟨by omega, _, 0, h2 r, Heap.get?_push_size _ rfl⟩, rfl, q _ (J.hok.fresh (Nat.le_refl _))⟩
end
def gDwn (f : List D → List D) : D → Option Op
  | .lst ds => some (.tmp (.lst (f ds)))
  | _ => none
section
variable {X : Cx} {e : Expr} {te : TE} {fe : FE} {k k0 : Nat} {p0 p1 p2 p3 pos : Pos}
theorem re_dwn {K : PySem.W.Frag} {mg : Mg} {f : List V → List V} {g : List D → List D} (he : RE K mg te fe) (h : ∀ {G : Hp} {vs ds}, RpL K mg G vs ds → RpL K mg G (f vs) (g ds)) (h3 : ∀ xs, (f xs).length ≤ xs.length) : RE K mg (tDwn K f te) (fUn (gDwn g) fe) := fun σ τ G H op τ' Q A e q => by
  obtain ⟨⟨oa, τ1⟩, e1, e⟩ := bind_some' e
  obtain ⟨d, e2, e⟩ := bind_some' e
  obtain ⟨z, e3, e⟩ := bind_some' e
  cases e
  dsimp only at e2 e3
  refine he σ τ G H oa _ _ A e1 fun x G1 H1 g1 o1 => ?_
  have p := o1.pk g1.at' e2
  cases d <;> first | (cases e3; done) | skip
  cases e3
  obtain ⟨a, vs, rfl, hq, r⟩ := p.lst g1.at'.gh
  exact ⟨a, vs, rfl, hq, fun p hp => q _ _ _ (g1.trans (Go.new g1.at' hp)) (((On.new g1.at'.gh hp (.lst (h r))).or g1.at').weak g1.kp)⟩
theorem rpl_rev {K : PySem.W.Frag} {mg : Mg} {G : Hp} : ∀ {vs : List V} {ds : List D}, RpL K mg G vs ds → RpL K mg G vs.reverse ds.reverse
  | _, _, .nil => .nil
  | _, _, .cons h r => by
    rw [List.reverse_cons, List.reverse_cons]
    exact (rpl_rev r).append (.cons h .nil)
theorem rpl_tail {K : PySem.W.Frag} {mg : Mg} {G : Hp} {vs : List V} {ds : List D} (r : RpL K mg G vs ds) : RpL K mg G (vs.drop 1).reverse (ds.drop 1).reverse := by
  cases r with
  | nil => exact .nil
  | cons h r => exact rpl_rev r
theorem je_revL {K : PySem.W.Frag} (he : JE X e te fe) (hK : X.K = K := by rfl) : JE X (.Subscript e (.Slice none none (some (.UnaryOp .USub (.Constant (.int 1) k p1) p2)) p3) pos) (tDwn K List.reverse te) (fUn (gDwn List.reverse) fe) := by
  subst hK
  exact ⟨pe_dwn (o := none) (g := List.reverse) he.pe po_none (fun _ _ _ h => h) (fun items => PySem.W.krv_pick items) (fun r => r.reverse) (fun xs => by rw [List.length_reverse]; exact Nat.le_refl _) (fun _ _ => by with_unfolding_all rfl), re_dwn he.re rpl_rev (fun xs => by rw [List.length_reverse]; exact Nat.le_refl _)⟩
theorem je_tailR {K : PySem.W.Frag} (he : JE X e te fe) (hK : X.K = K := by rfl) : JE X (.Subscript e (.Slice none (some (.Constant (.int 0) k0 p0)) (some (.UnaryOp .USub (.Constant (.int 1) k p1) p2)) p3) pos) (tDwn K (fun xs => (xs.drop 1).reverse) te) (fUn (gDwn fun xs => (xs.drop 1).reverse) fe) := by
  subst hK
  exact ⟨pe_dwn (o := some 0) (f := fun xs => (xs.drop 1).reverse) (g := fun xs => (xs.drop 1).reverse) he.pe (po_some (pe_int (i := 0))) (fun _ _ _ h => ⟨0, rfl, h⟩) pick_tail (fun r => (vals_tail r).reverse) (fun xs => by rw [List.length_reverse, List.length_drop]; omega) (fun _ _ => by with_unfolding_all rfl), re_dwn he.re rpl_tail (fun xs => by rw [List.length_reverse, List.length_drop]; omega)⟩
end
end J
namespace J
open PySem PySem.Spec PyProof.Rows L2

/-! ### return e, the value put away (defs that hand back now a new list, now None) -/
def sRetF (f : FE) (τ : Tau) : Option Flow := (f τ).bind fun a => (fz a.2 a.1).bind fun d => some (.rt (.val d.1) d.2)
section
variable {K : PySem.W.Frag} {mg : Mg} {b : Bool} {te : TE} {fe : FE} {X : Cx} {e : Expr} {pos : Pos}
theorem rs_retF (h : RE K mg te fe) : RS K mg b (tRet te) (sRetF fe) := fun io R0 G0 H0 G H σ τ D fl hb F e k => by
  obtain ⟨⟨oa, τ1⟩, e1, e⟩ := bind_some' e
  obtain ⟨⟨d, τ2⟩, e2, e⟩ := bind_some' e
  cases e
  refine h σ τ G H oa τ1 _ F.at' e1 fun v G1 H1 g1 o1 => ?_
  obtain ⟨G2, g2, s2, r2⟩ := o1.fz g1 e2
  exact k v σ G2 H1 (F.go g2) (.val r2)
theorem js_retF (he : JE X e te fe) : JS X b (.Return (some e) pos) (tRet te) (sRetF fe) := ⟨ps_ret he.pe, rs_retF he.re⟩
end
end J
namespace J
open PySem PySem.Spec PyProof.Rows L2

/-! ### a call that only reads its arguments, what it hands back plain: owned arguments stay owned -/
mutual
def pl : D → Bool
  | .non => true
  | .bl _ => true
  | .int _ => true
  | .str _ => true
  | .tup ds => plL ds
  | .lst _ => false
  | .dic _ => false
  | .ins _ _ => false
  | .exc _ _ _ _ => false
  | .dicL _ => false
def plL : List D → Bool
  | [] => true
  | d :: ds => pl d && plL ds
end
def plR (own : Bool) (z : D) : Bool := if own = true then (match z with | .lst ds => plL ds | _ => false) else pl z
def isTupO : HO → Bool
  | .tup _ => true
  | .frz _ (.tup _) => true
  | _ => false
/-- for the call all is frozen that is no tuple -/
def lend (G H : Hp) : Hp := fun b => match G b with
  | some x => some x
  | none => match H b with
    | some o => if isTupO o = true then none else some o
    | none => none
/-- behind it: what was frozen ahead of it, and the new tuples -/
def bring (G G' : Hp) : Hp := fun b => match G b with
  | some x => some x
  | none => match G' b with
    | some o => if isTupO o = true then some o else none
    | none => none
section
variable {K : PySem.W.Frag} {mg : Mg} {G H G' H' : Hp}
theorem lend_of {b : Addr} {x : HO} (h : G b = some x) : lend G H b = some x := by unfold lend; rw [h]
theorem lend_no {b : Addr} (h : G b = none) : lend G H b = (match H b with | some o => if isTupO o = true then none else some o | none => none) := by unfold lend; rw [h]
theorem bring_of {b : Addr} {x : HO} (h : G b = some x) : bring G G' b = some x := by unfold bring; rw [h]
theorem bring_no {b : Addr} (h : G b = none) : bring G G' b = (match G' b with | some o => if isTupO o = true then some o else none | none => none) := by unfold bring; rw [h]
theorem lend_up : Same G (lend G H) := fun b x e => lend_of e
theorem lend_dn (s : Same G H) : Same (lend G H) H := fun b x e => by
  cases h : G b with
  | some y =>
    rw [lend_of h] at e
    cases e
    exact s _ _ h
  | none =>
    rw [lend_no h] at e
    cases h2 : H b with
    | none => rw [h2] at e; cases e
    | some o =>
      rw [h2] at e
      dsimp only at e
      split at e
      · cases e
      · exact e
theorem lend_root {p : Addr} {o : HO} {d : D} (s : Same G H) (e : H p = some o) (r : Rt K mg G o d) : lend G H p = some o := by
  cases h : G p with
  | some y =>
    have := s _ _ h
    rw [e] at this
    cases this
    exact lend_of h
  | none =>
    rw [lend_no h, e]
    cases r <;> rfl
theorem lend_pk {v : V} {d : D} (s : Same G H) (h : Pk K mg G H v d) : Rp K mg (lend G H) v d := by
  cases h with
  | frz r => exact r.mono lend_up
  | root e r => exact r.frz lend_up (lend_root s e r)
theorem lend_pkl (s : Same G H) : ∀ {vs : List V} {ds : List D}, PkL K mg G H vs ds → RpL K mg (lend G H) vs ds
  | _, _, .nil => .nil
  | _, _, .cons h r => .cons (lend_pk s h) (lend_pkl s r)
theorem bring_nw (s : Same G H) (n : Nw K mg (lend G H) H G' H') : Nw K mg G H (bring G G') H' := by
  refine ⟨fun b x e => bring_of e, n.hh, fun b x e => ?_, fun b o h g => ?_⟩
  · cases h : G b with
    | some y =>
      rw [bring_of h] at e
      cases e
      exact n.hh _ _ (s _ _ h)
    | none =>
      rw [bring_no h] at e
      cases h2 : G' b with
      | none => rw [h2] at e; cases e
      | some o =>
        rw [h2] at e
        dsimp only at e
        split at e
        · cases e; exact n.gh _ _ h2
        · cases e
  · rw [bring_no g]
    by_cases ht : isTupO o = true
    · have l : lend G H b = none := by
        rw [lend_no g, h]
        show (if isTupO o = true then none else some o) = none
        rw [if_pos ht]
      rw [n.gf b o h l]
    · have l : lend G H b = some o := by
        rw [lend_no g, h]
        show (if isTupO o = true then none else some o) = some o
        rw [if_neg ht]
      rw [n.gg _ _ l]
      show (if isTupO o = true then some o else none) = none
      rw [if_neg ht]
theorem bring_tup {a : Addr} {u : HO} (s : Same G G') (h : G' a = some u) (t : isTupO u = true) : bring G G' a = some u := by
  cases g : G a with
  | some y =>
    have := s _ _ g
    rw [h] at this
    cases this
    exact bring_of g
  | none =>
    rw [bring_no g, h]
    show (if isTupO u = true then some u else none) = some u
    rw [if_pos t]
mutual
theorem bring_rp (s : Same G G') : ∀ {v : V} {d : D}, Rp K mg G' v d → pl d = true → Rp K mg (bring G G') v d
  | _, _, .non, _ => .non
  | _, _, .bl b, _ => .bl b
  | _, _, .int i, _ => .int i
  | _, _, .str x, _ => .str x
  | _, _, .tup h r, e => by
    unfold pl at e
    refine .tup ?_ (bring_rpl s r e)
    rcases h with h | h
    · refine .inl ?_
      rcases h with h | ⟨o, h⟩
      · exact .inl (bring_tup s h rfl)
      · exact .inr ⟨o, bring_tup s h rfl⟩
    · exact .inr h
  | _, _, .lst _ _, e => by unfold pl at e; cases e
  | _, _, .dic _ _, e => by unfold pl at e; cases e
  | _, _, .ins _ _ _, e => by unfold pl at e; cases e
  | _, _, .exc _ _, e => by unfold pl at e; cases e
  | _, _, .dicL _ _, e => by unfold pl at e; cases e
theorem bring_rpl (s : Same G G') : ∀ {vs : List V} {ds : List D}, RpL K mg G' vs ds → plL ds = true → RpL K mg (bring G G') vs ds
  | _, _, .nil, _ => .nil
  | _, _, .cons h r, e => by
    unfold plL at e
    rw [Bool.and_eq_true] at e
    exact .cons (bring_rp s h e.1) (bring_rpl s r e.2)
end
theorem bring_on {v : V} {own : Bool} {z : D} (s : Same G H) (gg : Same G G') (r : Rs K mg H G' H' v own z) (h : plR own z = true) : On K mg H (bring G G') H' v (mkOp own z) := by
  unfold plR at h
  cases r with
  | old r =>
    rw [if_neg Bool.false_ne_true] at h
    exact .val (bring_rp gg r h)
  | @new p o z e a1 a2 a3 a4 =>
    subst e
    rw [if_pos rfl] at h
    cases a4 <;> first | (cases h; done) | skip
    rename_i vs ds r
    refine .tmp a1 ?_ a3 (.lst (bring_rpl gg r h))
    rw [bring_no (s.free a1), a2]
end
def fCallB (m : Mir) (fp : FP) (τ : Tau) : Option (Op × Tau) := (fp τ).bind fun a => (derefL a.2 a.1).bind fun ds => (m ds).bind fun r => if plR r.1 r.2.1 = true then some (mkOp r.1 r.2.1, a.2) else none
section
variable {K : PySem.W.Frag} {mg : Mg} {m : Mir}
theorem re_callB {E : XK} {t : TA} {fp : FP} (hr : RPa K mg t fp) : RE K mg (tCall (spM K mg false m) [] E t) (fCallB m fp) := fun σ τ G H op τ' Q A e q => by
  obtain ⟨⟨ops, τ1⟩, e1, e⟩ := bind_some' e
  obtain ⟨ds, e2, e⟩ := bind_some' e
  obtain ⟨⟨own, z, z0⟩, e3, e⟩ := bind_some' e
  obtain ⟨hp, z1⟩ := if_get e
  cases z1
  dsimp only at e2 e3 hp
  refine hr σ τ G H ops _ _ A e1 fun vs G1 H1 g1 o1 => ?_
  rw [List.append_nil]
  have s := g1.at'.gh
  refine ⟨lend G1 H1, ds, own, z, z0, lend_dn s, .pure (lend_pkl s (o1.pk g1.at' e2)), e3, fun v G2 H2 B => ?_⟩
  have n := bring_nw s (nw_of_bk B)
  exact q v (bring G1 G2) H2 (g1.trans (n.go g1.at')) (((bring_on s (lend_up.trans B.gg) B.rs hp).or g1.at').weak g1.kp)
end
section
variable {X : Cx} {k j : Nat} {f : Addr} {fd : FuncData} {ps : List PySem.Str} {m : Mir} {x : String} {p pos : Pos} {e : Expr} {es : List Expr} {t : TA} {fp : FP}
theorem kf_callB {K : PySem.W.Frag} {mg : Mg} (h : KnF X.prog X.w K mg X.base f fd x ps false k m) (hr : Room j X.A) (ha : JP X (e :: es) t fp) (hj : k ≤ j := by decide) (hg : Gl X (os x) := by rfl) (hdb : (os x == ("__debug__" : PySem.Str)) = false := by decide)
    (he : starEach (e :: es) X.env = (false, eval e X.env) :: starEach es X.env := by rfl) (hpl : (backTo pos (starEach es X.env)).any (·.1) = false := by rfl) (hK : X.K = K := by rfl) (hM : X.mg = mg := by rfl) : JE X (.Call (.Name (os x) p) (e :: es) [] pos) (tCall (spM K mg false m) [] E0 t) (fCallB m fp) := by
  subst hK hM
  exact ⟨pe_call h.ok (hr.mono hj) hg h.g h.kp h.bi .nil pass0 ha.pa hdb he hpl, re_callB ha.rp⟩
end
end J
namespace J
open PySem PySem.Spec PyProof.Rows L2

/-! ### list(range(..)), tuple(xs) -/
def lrOk (a b : Int) : Bool := decide (-4611686018427387904 ≤ a) && decide (a < 4611686018427387904) && decide (-4611686018427387904 ≤ b) && decide (b < 4611686018427387904) && decide ((b - a).toNat ≤ 16777216)
def lrD (a b : Int) : D := .lst ((List.range (b - a).toNat).map fun (i : Nat) => D.int (a + (i : Int)))
def fLr1 (fa : FE) (τ : Tau) : Option (Op × Tau) := (fa τ).bind fun a => (deref a.2 a.1).bind fun x => match x with
  | .int n => if lrOk 0 n = true then some (.tmp (lrD 0 n), a.2) else none
  | _ => none
def fLr2 (fa fb : FE) (τ : Tau) : Option (Op × Tau) := (fa τ).bind fun a => (fb a.2).bind fun b => (deref b.2 a.1).bind fun x => (deref b.2 b.1).bind fun y => match x, y with
  | .int i, .int j => if lrOk i j = true then some (.tmp (lrD i j), b.2) else none
  | _, _ => none
def gTupOf : D → Option Op
  | .lst ds => some (.val (.tup ds))
  | _ => none
section
variable {K : PySem.W.Frag} {mg : Mg} {ta tb : TE} {fa fb : FE}
theorem lrOk_ok {a b : Int} (h : lrOk a b = true) : RgOk a b := by
  unfold lrOk at h
  simp only [Bool.and_eq_true, decide_eq_true_eq] at h
  exact ⟨by omega, by omega, by omega, by omega, by omega⟩
theorem lr_rp {G : Hp} (a b : Int) : RpL K mg G (rgV a b) ((List.range (b - a).toNat).map fun (i : Nat) => D.int (a + (i : Int))) := by
  unfold rgV
  generalize List.range (b - a).toNat = l
  induction l with
  | nil => exact .nil
  | cons i l ih => exact .cons (.int _) ih
theorem re_lr1 (ha : RE K mg ta fa) : RE K mg (tLstRg (tRg1 ta)) (fLr1 fa) := fun σ τ G H op τ' Q A e q => by
  obtain ⟨⟨oa, τ1⟩, e1, e⟩ := bind_some' e
  obtain ⟨d, e2, e⟩ := bind_some' e
  dsimp only at e2 e
  cases d <;> first | (cases e; done) | skip
  obtain ⟨h, z⟩ := if_get e
  cases z
  refine ha σ τ G H oa _ _ A e1 fun x G1 H1 g1 o1 => ?_
  cases (o1.pk g1.at' e2).int
  exact ⟨_, rfl, lrOk_ok h, fun p hp => q _ _ _ (g1.trans (Go.new g1.at' hp)) (((On.new g1.at'.gh hp (.lst (lr_rp _ _))).or g1.at').weak g1.kp)⟩
theorem re_lr2 (ha : RE K mg ta fa) (hb : RE K mg tb fb) : RE K mg (tLstRg (tRg2 ta tb)) (fLr2 fa fb) := fun σ τ G H op τ' Q A e q => by
  obtain ⟨⟨oa, τ1⟩, e1, e⟩ := bind_some' e
  obtain ⟨⟨ob, τ2⟩, e2, e⟩ := bind_some' e
  obtain ⟨d, e3, e⟩ := bind_some' e
  obtain ⟨d', e4, e⟩ := bind_some' e
  dsimp only at e2 e3 e4 e
  cases d <;> first | (cases e; done) | skip
  cases d' <;> first | (cases e; done) | skip
  obtain ⟨h, z⟩ := if_get e
  cases z
  refine ha σ τ G H oa τ1 _ A e1 fun x G1 H1 g1 o1 => ?_
  refine hb σ τ1 G1 H1 ob _ _ g1.at' e2 fun y G2 H2 g2 o2 => ?_
  have g12 := g1.trans g2
  cases ((o1.step g2).pk g2.at' e3).int
  cases (o2.pk g2.at' e4).int
  exact ⟨_, _, rfl, rfl, lrOk_ok h, fun p hp => q _ _ _ (g12.trans (Go.new g2.at' hp)) (((On.new g2.at'.gh hp (.lst (lr_rp _ _))).or g2.at').weak g12.kp)⟩
theorem re_tupOf (ha : RE K mg ta fa) : RE K mg (tThen ta (kTup K)) (fUn gTupOf fa) := fun σ τ G H op τ' Q A e q => by
  obtain ⟨⟨oa, τ1⟩, e1, e⟩ := bind_some' e
  obtain ⟨d, e2, e⟩ := bind_some' e
  obtain ⟨z, e3, e⟩ := bind_some' e
  cases e
  dsimp only at e2 e3
  refine ha σ τ G H oa _ _ A e1 fun x G1 H1 g1 o1 => ?_
  have p := o1.pk g1.at' e2
  cases d <;> first | (cases e3; done) | skip
  cases e3
  obtain ⟨a, vs, rfl, hq, r⟩ := p.lst g1.at'.gh
  refine .inl ⟨a, vs, rfl, hq, fun p hp => ?_⟩
  have n := Nw.newF (K := K) (mg := mg) (o := .tup vs) g1.at'.gh hp
  exact q _ _ _ (g1.trans (n.go g1.at')) (.val (.tup (SqT.of upd_same) (r.mono n.gg)))
end
section
variable {X : Cx} {a b e : Expr} {ta tb te : TE} {fa fb fe : FE} {p p' pos pos' : Pos}
theorem je_lr1 (hc : X.calm = true) (hg : Gl X "list") (hm : X.mg "list" = none) (hg' : Gl X "range") (hm' : X.mg "range" = none) (ha : JE X a ta fa) (na : starEach [a] X.env = (false, eval a X.env) :: starEach [] X.env := by rfl)
    (nb : starEach [.Call (.Name "range" p') [a] [] pos'] X.env = (false, eval (.Call (.Name "range" p') [a] [] pos') X.env) :: starEach [] X.env := by rfl) : JE X (.Call (.Name "list" p) [.Call (.Name "range" p') [a] [] pos'] [] pos) (tLstRg (tRg1 ta)) (fLr1 fa) := ⟨pe_listRg hc hg hm (prg_1 hg' hm' ha.pe na) nb, re_lr1 ha.re⟩
theorem je_lr2 (hc : X.calm = true) (hg : Gl X "list") (hm : X.mg "list" = none) (hg' : Gl X "range") (hm' : X.mg "range" = none) (ha : JE X a ta fa) (hb : JE X b tb fb) (na : starEach [a, b] X.env = (false, eval a X.env) :: starEach [b] X.env := by rfl) (nc : starEach [b] X.env = (false, eval b X.env) :: starEach [] X.env := by rfl) (np : (backTo pos' (starEach [b] X.env)).any (·.1) = false := by rfl)
    (nb : starEach [.Call (.Name "range" p') [a, b] [] pos'] X.env = (false, eval (.Call (.Name "range" p') [a, b] [] pos') X.env) :: starEach [] X.env := by rfl) : JE X (.Call (.Name "list" p) [.Call (.Name "range" p') [a, b] [] pos'] [] pos) (tLstRg (tRg2 ta tb)) (fLr2 fa fb) := ⟨pe_listRg hc hg hm (prg_2 hg' hm' ha.pe hb.pe na nc np) nb, re_lr2 ha.re hb.re⟩
theorem je_tupOf {K : PySem.W.Frag} (hg : Gl X "tuple") (hm : X.mg "tuple" = none) (ha : JE X a ta fa) (na : starEach [a] X.env = (false, eval a X.env) :: starEach [] X.env := by rfl) (hK : X.K = K := by rfl) : JE X (.Call (.Name "tuple" p) [a] [] pos) (tThen ta (kTup K)) (fUn gTupOf fa) := by
  subst hK
  exact ⟨pe_tupleOf hg hm ha.pe na, re_tupOf ha.re⟩
end
end J
namespace J
open PySem PySem.Spec PyProof.Rows L2

/-! ### a set made of a list of ints -/
/-- the set as it begins -/
def set0 (w : World) : Obj := { cls := .type "set", dict := none, data := .set #[] 0 (.fresh 0 0 (!w.params.followText "set-order")) }
section
variable {P : Program} {w : World} {A : Around} {E : Value → Shared → Prop} {s : Shared}
/-- what stands behind set(l) -/
def SetMade (w : World) (s : Shared) (ns : List Int) (h' : Heap) : Prop :=
  (∃ c, c ≤ ns.length ∧ SetR w h' s.heap.objs.size (fun j => decide (j ∈ ns)) c) ∧ ∀ b o, s.heap.get? b = some o → h'.get? b = some o
theorem set_lst {l : Addr} {xs : Array Value} {ns : List Int} {Q : Value → Shared → Prop} (calm : A.handled = none) (isl : s.heap.IsList l xs) (are : IntsAre xs.toList ns) (few : ns.length + 1 < scanBound)
    (fin : ∀ (h' : Heap) (tk : Nat), SetMade w s ns h' → Q (.ref s.heap.objs.size) { s with heap := h', toks := tk }) : wpAny (model P w) A (call (.type "set") [.ref l]) Q E s := by
  have size_eq : xs.size = ns.length := by rw [← Array.length_toList]; exact IntsAre.length are
  have ⟨k0, kt, km⟩ := F.called_set.mro
  have ks := F.called_set.sub; have kd := F.called_set.made
  have kn := F.called_set.notType; have kc := F.called_set.canCreate
  have kk := F.typeCall_set_1 (.ref l)
  refine wpAny_call (codeAny_of_tree (show wpAny _ _ (callAny (.type "set") _) _ _ _ from ?_))
  refine wpAny_pure ⟨Code.quiet_builtin _ (by decide +kernel), codeAny_builtin F.entry_type_call ?_⟩
  rw [Around.under_plain (weight_type_call_type "set" [.ref l] []) rfl]
  repeat (any_goals (first | assumption | wp_step))
  refine codeAny_mono (code_set_led1 (w := w) (.ref l) (E := E) (Q₁ := fun v s₁ => v = .ref s.heap.objs.size ∧ s₁ = { s with heap := s.heap.push (set0 w) }) ⟨rfl, rfl⟩) fun ans s1 got => ?_
  match ans, got with
  | .error _, got => exact got
  | .ok (.ret v), ⟨e1, e2⟩ =>
    subst e1 e2
    have at0 : (s.heap.push (set0 w)).get? s.heap.objs.size = some (set0 w) := Heap.get?_push_size _ rfl
    have ty0 : Shared.TypeIs { s with heap := s.heap.push (set0 w) } (.ref s.heap.objs.size) "set" := ⟨_, at0, rfl⟩
    have kl := F.called_set.init.lookup
    have kb := F.called_set.init.bind (.ref s.heap.objs.size)
    repeat (any_goals (first | assumption | wp_step))
    refine codeAny_mono (codeAny_call_builtin (R := wants (fun r s₂ => r = .none ∧ ∃ h' tk, s₂ = { s with heap := h', toks := tk } ∧ SetMade w s ns h') E) F.called_set.init.plain F.entry_set_init (check_set_init_1 ty0 ?_)) fun ans2 s2 got2 => ?_
    · obtain ⟨⟨oc, od, oa, os⟩, ol, c1, n1, d1⟩ := isl
      simp only at c1 d1
      subst c1 d1
      have ol' : (s.heap.push (set0 w)).get? l = some { cls := .type "list", dict := od, data := .seq xs n1, slots := os } := Heap.get?_push_of_some _ ol
      have isl' : (s.heap.push (set0 w)).IsList l xs := ⟨_, ol', rfl, n1, rfl⟩
      have ne1 := F.sub_list_set; have ne2 := F.sub_list_frozenset
      have ne3 : (Value.type "list" == Value.type "dict") = false := by decide
      unfold Builtin.«set.__init__» noKeywords Builtin.Frozenset.updateFrom
      generalize pi : pyIter = PI
      wp_walk
      subst pi
      refine wpAny_pyIter_list isl' (wpAny_bind (wpAny_runValue ?_))
      have lt1 : l < s.heap.objs.size := Heap.lt_size ol
      have sz : (s.heap.push (set0 w)).objs.size = s.heap.objs.size + 1 := Heap.size_push ..
      have lne : l ≠ (s.heap.push (set0 w)).objs.size := by rw [sz]; exact Nat.ne_of_lt (Nat.lt_succ_of_lt lt1)
      refine set_update_ints ((Walks.list (by simp [calm]) _ l lne xs).toS) s.heap.objs.size (by simp only [List.mem_cons, List.not_mem_nil, or_false, not_or]; exact ⟨by rw [sz]; exact Nat.ne_of_lt (Nat.lt_succ_self _), Nat.ne_of_gt lt1⟩) ns size_eq few (fun i v e => ?_) (xs.size - 0) 0 _ (by omega) (Nat.zero_le _) ⟨⟨_, Heap.get?_push_size _ rfl, rfl, rfl⟩, isl'.push _⟩ ⟨0, Nat.le_refl 0, setR_new_at (Heap.get?_push_of_some _ at0)⟩ fun s' c mv le R => ?_
      · have lt2 : i < ns.length := by rw [← size_eq]; exact (Array.getElem?_eq_some_iff.mp e).1
        obtain ⟨t, e3⟩ := IntsAre.int_at are i v (by rwa [Array.getElem?_toList])
        exact ⟨ns[i], t, List.getElem?_eq_getElem lt2, by rw [e3, List.getD_eq_getElem?_getD, List.getElem?_eq_getElem lt2]; rfl⟩
      · obtain ⟨h', g', d', tk, o'⟩ := s'
        obtain rfl : g' = s.gens := mv.gens
        obtain rfl : d' = s.drawn := mv.drawn
        obtain rfl : o' = s.os := mv.os
        refine wpAny_pure (show wpAny _ _ (ret Value.none) _ _ _ from wpAny_pure ⟨rfl, h', tk, rfl, ⟨c, by omega, R⟩, fun b o e => ?_⟩)
        have lt3 : b < s.heap.objs.size := Heap.lt_size e
        exact mv.heap b o (by simp only [List.mem_cons, List.not_mem_nil, or_false, not_or]; exact ⟨Nat.ne_of_lt lt3, by rw [sz]; exact Nat.ne_of_lt (Nat.lt_succ_of_lt lt3)⟩) (Heap.get?_push_of_some _ (Heap.get?_push_of_some _ e))
    · match ans2, got2 with
      | .error _, got2 => exact got2
      | .ok (.ret v), ⟨e1, h', tk, e2, made⟩ =>
        subst e1 e2
        repeat (any_goals (first | assumption | wp_step))
        exact fin _ _ made
theorem len_setR {a : Addr} {S : Int → Bool} {n : Nat} {Q : Value → Shared → Prop} (R : SetR w s.heap a S n) (q : ∀ t tk, Q (.int n t) { s with toks := tk }) : wpAny (model P w) A (call (.builtin "len") [.ref a]) Q E s := by
  obtain ⟨o, es, ep, t, ho, hex, hd, _, _, _, hb, hf, hn, _, _⟩ := R
  subst hn
  exact call_len_set ho hex hd hf (by unfold scanBound at hb; omega) (q _ _)
/-- sorted(set), of any size -/
theorem sort_setR {a : Addr} {S : Int → Bool} {n : Nat} {Q : Value → Shared → Prop} (R : SetR w s.heap a S n) (calm : A.handled = none)
    (fin : ∀ s' p (out : List Value) (c : Nat) (ns : List Int), (∀ b o, s.heap.get? b = some o → s'.heap.get? b = some o) → s'.gens = s.gens → s'.os = s.os → s.heap.objs.size ≤ p → s'.heap.get? p = some (seqObj "list" out.toArray c) → IntsAre out ns → ns.Pairwise (· ≤ ·) → ns.Nodup → (∀ k, k ∈ ns ↔ S k = true) → ns.length = n → Q (.ref p) s') :
    wpAny (model P w) A (call (.builtin "sorted") [.ref a]) Q E s := by
  obtain ⟨o, es, ep, t, ho, hex, hd, good, nodup, mem, lt, fits, size, rising, led⟩ := R
  refine Calls.call_function_entry kind_sorted plain_sorted entry_sorted (args_sorted1 _) ?_
  unfold Builtin.«sorted»
  refine wpAny_bind (m := checkCount "sorted" 1 1 _) (wpAny_pure (wpAny_bind (collect_set (A := A.in1) calm ⟨o, ho, hex.1, hd⟩ fits lt rising led fun s1 vs keep le gs os perm => ?_)))
  have vl : vs.length = n := by rw [perm.length_eq, List.length_map, Array.length_toList]; exact size
  have small : vs.length ≤ sizeLine := by rw [vl, sizeLine_eq]; unfold scanBound at lt; omega
  have are := L2.ints_of vs fun v hv => by
    obtain ⟨e, he, q⟩ := List.mem_map.mp (perm.mem_iff.mp hv)
    obtain ⟨k, tk, g1, _⟩ := good e he
    exact ⟨k, tk, q ▸ g1⟩
  have keys : (vs.map Builtin.Re.reRawOf).Perm (es.toList.map keyOf) := by
    have := perm.map Builtin.Re.reRawOf
    rwa [List.map_map] at this
  refine wpAny_bind (wpAny_newList ?_ small)
  have new : (s1.heap.push (seqObj "list" vs.toArray 0)).get? s1.heap.objs.size = some (seqObj "list" vs.toArray 0) := Heap.get?_push_size _ rfl
  refine wpAny_bind (wpAny_holding (wpAny_call_entry slot_list_sort ⟨_, new, rfl⟩ entry_list_sort (SrtO.list_sort_ord SrtO.swo_int new small (fun two => SrtO.ints_sortable are two) fun out r1 r2 => ⟨_, rfl, ?_⟩) (args_list_sort _)))
  obtain ⟨i1, i2, i3⟩ := SrtO.ints_out are r1 r2
  obtain ⟨c, at'⟩ := sortedHeap_at (vs := vs) (out := out.toArray) new
  have pk := i2.trans keys
  refine wpAny_pure ⟨_, rfl, fin _ s1.heap.objs.size out c _ (fun b u e => ?_) gs os le at' i1 i3 (pk.nodup_iff.mpr nodup) (fun k => by rw [pk.mem_iff, ← mem k]) (by rw [pk.length_eq, List.length_map, Array.length_toList]; exact size)⟩
  have old := keep b u e
  have lt4 := Heap.lt_size old
  exact (sortedHeap_old (Nat.ne_of_lt lt4) (by rw [size_push']; exact Nat.lt_succ_of_lt lt4)).trans (Heap.get?_push_of_some _ old)
end
/-! ### sorted(set(xs)), len(set(xs)) -/
def uniqI : List Int → List Int
  | [] => []
  | x :: xs => if x ∈ xs then uniqI xs else x :: uniqI xs
theorem mem_uniqI {k : Int} : ∀ {ns : List Int}, k ∈ uniqI ns ↔ k ∈ ns
  | [] => Iff.rfl
  | x :: xs => by
    unfold uniqI
    split
    · rename_i h
      rw [mem_uniqI, List.mem_cons]
      exact ⟨.inr, fun z => z.elim (fun e => e ▸ h) id⟩
    · rw [List.mem_cons, List.mem_cons, mem_uniqI]
theorem nodup_uniqI : ∀ ns : List Int, (uniqI ns).Nodup
  | [] => List.Pairwise.nil
  | x :: xs => by
    unfold uniqI
    split
    · exact nodup_uniqI xs
    · rename_i h
      exact List.nodup_cons.mpr ⟨fun z => h (mem_uniqI.mp z), nodup_uniqI xs⟩
def setI (ns : List Int) : List Int := sortI (uniqI ns)
theorem perm_uniqI {ms ns : List Int} (nd : ms.Nodup) (mem : ∀ k, k ∈ ms ↔ k ∈ ns) : ms.Perm (uniqI ns) := (List.perm_ext_iff_of_nodup nd (nodup_uniqI ns)).mpr fun k => by rw [mem k, mem_uniqI]
theorem setI_uniq {ms ns : List Int} (le : ms.Pairwise (· ≤ ·)) (nd : ms.Nodup) (mem : ∀ k, k ∈ ms ↔ k ∈ ns) : ms = setI ns :=
  sorted_uniq ((perm_uniqI nd mem).trans (sortI_perm _).symm) le (sortI_sorted _)
theorem setR_card {w : World} {h : Heap} {a : Addr} {ns : List Int} {c : Nat} (R : SetR w h a (fun j => decide (j ∈ ns)) c) : c = (uniqI ns).length := by
  obtain ⟨o, es, ep, t, _, _, _, _, nd, mem, _, _, size, _⟩ := R
  rw [← size, ← (perm_uniqI nd fun k => by rw [← mem k, decide_eq_true_eq]).length_eq, List.length_map, Array.length_toList]
def tSortSet (K : PySem.W.Frag) (ta : TE) : TE := fun σ H Q => ta σ H fun x H1 => ∃ (l : Addr) (ns : List Int), x = .ref l ∧ SqL K H1 l (ns.map V.int) ∧ ns.length ≤ 4000 ∧ ∀ p, H1 p = none → Q (.ref p) (upd H1 p (.lst ((setI ns).map V.int)))
def tLenSet (K : PySem.W.Frag) (ta : TE) : TE := fun σ H Q => ta σ H fun x H1 => ∃ (l : Addr) (ns : List Int), x = .ref l ∧ SqL K H1 l (ns.map V.int) ∧ ns.length ≤ 4000 ∧ Q (.int (uniqI ns).length) H1
def gSortSet : D → Option Op
  | .lst ds => (intsOf ds).bind fun ns => if ns.length ≤ 4000 then some (.tmp (.lst ((setI ns).map D.int))) else none
  | _ => none
def gLenSet : D → Option Op
  | .lst ds => (intsOf ds).bind fun ns => if ns.length ≤ 4000 then some (.val (.int (uniqI ns).length)) else none
  | _ => none
section
variable {X : Cx} {K : PySem.W.Frag} {mg : Mg} {a : Expr} {ta : TE} {fa : FE} {p p' pos pos' : Pos}
theorem pe_sortSet (hc : X.calm = true) (hg : Gl X "sorted") (hm : X.mg "sorted" = none) (hg' : Gl X "set") (hm' : X.mg "set" = none) (ha : PE X a ta) (na : starEach [a] X.env = (false, eval a X.env) :: starEach [] X.env := by rfl) : PE X (.Call (.Name "sorted" p) [.Call (.Name "set" p') [a] [] pos'] [] pos) (tSortSet X.K ta) := by
  refine ⟨fun pins s σ H Q I h => ?_⟩
  refine Call_ (ld_blt I hg hm boot_sorted (callWith_builtin1 (args_cons ?_ rfl) rfl rfl))
  refine Call_ (ld_blt I hg' hm' boot_set (callWith_type1 (args_cons (thn (ha.run pins s σ H _ I h) fun v s1 ⟨x, H1, I1, r1, q1⟩ => args_nil ?_) na) na rfl))
  obtain ⟨l, ns, rfl, sq, few, fin⟩ := q1
  cases r1
  obtain ⟨its, rv, pl, _⟩ := I1.list sq
  have calm := I1.ok.hd hc
  refine set_lst calm pl.isList (ns := ns) (by simpa using rv.ints) (by unfold scanBound; omega) fun h' tk ⟨⟨c, le, R⟩, keep⟩ => args_nil ?_
  have I2 : Inv X pins σ H1 { s1 with heap := h', toks := tk } := I1.kept keep
  refine sort_setR R calm fun s' q out k ms keep2 gs os le2 at' are srt nd mem size => ?_
  have eq := setI_uniq (ns := ns) srt nd fun k => by rw [mem k, decide_eq_true_eq]
  subst eq
  have fit : ((setI ns).map V.int).length ≤ sizeLine := by rw [List.length_map, size, sizeLine_eq]; omega
  have free : H1 q = none := I2.hok.fresh le2
  exact ⟨.ref q, upd H1 q (.lst ((setI ns).map V.int)), I2.call' (ch := []) os (Un.laid keep2 le2 free) (I2.hok.laid keep2 le2 ⟨fit, out, k, vals_of_ints are, at'⟩) (by rw [gs]; exact I2.bare) (fun _ z => nomatch z), rfl, fin q free⟩
theorem pe_lenSet (hc : X.calm = true) (hg : Gl X "len") (hm : X.mg "len" = none) (hg' : Gl X "set") (hm' : X.mg "set" = none) (ha : PE X a ta) (na : starEach [a] X.env = (false, eval a X.env) :: starEach [] X.env := by rfl) : PE X (.Call (.Name "len" p) [.Call (.Name "set" p') [a] [] pos'] [] pos) (tLenSet X.K ta) := by
  refine ⟨fun pins s σ H Q I h => ?_⟩
  refine Call_ (ld_blt I hg hm boot_len (callWith_builtin1 (args_cons ?_ rfl) rfl rfl))
  refine Call_ (ld_blt I hg' hm' boot_set (callWith_type1 (args_cons (thn (ha.run pins s σ H _ I h) fun v s1 ⟨x, H1, I1, r1, q1⟩ => args_nil ?_) na) na rfl))
  obtain ⟨l, ns, rfl, sq, few, fin⟩ := q1
  cases r1
  obtain ⟨its, rv, pl, _⟩ := I1.list sq
  refine set_lst (I1.ok.hd hc) pl.isList (ns := ns) (by simpa using rv.ints) (by unfold scanBound; omega) fun h' tk ⟨⟨c, le, R⟩, keep⟩ => args_nil ?_
  have eq := setR_card R
  subst eq
  exact len_setR R fun t tk' => ⟨.int (uniqI ns).length, H1, (I1.kept keep).tok _, ⟨t, rfl⟩, fin⟩
theorem re_sortSet (ha : RE K mg ta fa) : RE K mg (tSortSet K ta) (fUn gSortSet fa) := fun σ τ G H op τ' Q A e q => by
  obtain ⟨⟨oa, τ1⟩, e1, e⟩ := bind_some' e
  obtain ⟨d, e2, e⟩ := bind_some' e
  obtain ⟨z, e3, e⟩ := bind_some' e
  cases e
  dsimp only at e2 e3
  refine ha σ τ G H oa _ _ A e1 fun x G1 H1 g1 o1 => ?_
  have p := o1.pk g1.at' e2
  cases d <;> first | (cases e3; done) | skip
  obtain ⟨ns, e4, e3⟩ := bind_some' e3
  obtain ⟨few, e3⟩ := if_get e3
  cases e3
  obtain ⟨l, vs, rfl, hq, r⟩ := p.lst g1.at'.gh
  rw [intsOf_rp r e4] at hq
  exact ⟨l, ns, rfl, hq, few, fun p hp => q _ _ _ (g1.trans (Go.new g1.at' hp)) (((On.new g1.at'.gh hp (.lst (ints_rp _))).or g1.at').weak g1.kp)⟩
theorem re_lenSet (ha : RE K mg ta fa) : RE K mg (tLenSet K ta) (fUn gLenSet fa) := fun σ τ G H op τ' Q A e q => by
  obtain ⟨⟨oa, τ1⟩, e1, e⟩ := bind_some' e
  obtain ⟨d, e2, e⟩ := bind_some' e
  obtain ⟨z, e3, e⟩ := bind_some' e
  cases e
  dsimp only at e2 e3
  refine ha σ τ G H oa _ _ A e1 fun x G1 H1 g1 o1 => ?_
  have p := o1.pk g1.at' e2
  cases d <;> first | (cases e3; done) | skip
  obtain ⟨ns, e4, e3⟩ := bind_some' e3
  obtain ⟨few, e3⟩ := if_get e3
  cases e3
  obtain ⟨l, vs, rfl, hq, r⟩ := p.lst g1.at'.gh
  rw [intsOf_rp r e4] at hq
  exact ⟨l, ns, rfl, hq, few, q _ _ _ g1 (.val (.int _))⟩
theorem je_sortSet (hc : X.calm = true) (hg : Gl X "sorted") (hm : X.mg "sorted" = none) (hg' : Gl X "set") (hm' : X.mg "set" = none) (ha : JE X a ta fa) (na : starEach [a] X.env = (false, eval a X.env) :: starEach [] X.env := by rfl) (hK : X.K = K := by rfl) : JE X (.Call (.Name "sorted" p) [.Call (.Name "set" p') [a] [] pos'] [] pos) (tSortSet K ta) (fUn gSortSet fa) := by
  subst hK
  exact ⟨pe_sortSet hc hg hm hg' hm' ha.pe na, re_sortSet ha.re⟩
theorem je_lenSet (hc : X.calm = true) (hg : Gl X "len") (hm : X.mg "len" = none) (hg' : Gl X "set") (hm' : X.mg "set" = none) (ha : JE X a ta fa) (na : starEach [a] X.env = (false, eval a X.env) :: starEach [] X.env := by rfl) (hK : X.K = K := by rfl) : JE X (.Call (.Name "len" p) [.Call (.Name "set" p') [a] [] pos'] [] pos) (tLenSet K ta) (fUn gLenSet fa) := by
  subst hK
  exact ⟨pe_lenSet hc hg hm hg' hm' ha.pe na, re_lenSet ha.re⟩
end
end J
namespace J
open PySem PySem.Spec PyProof.Rows L2

/-! ### try with several clauses, each with a name -/
abbrev Clause := Value × Nat × (Addr → Value → Option Addr → TS)
def offI (i : Nat) (D : Ends) : Ends where
  nx := fun τ G => D.nx (τ.set i none) G
  rt := D.rt
  bk := fun τ G => D.bk (τ.set i none) G
  ct := fun τ G => D.ct (τ.set i none) G
def wAll (K : PySem.W.Frag) (Wo : WX) (D : Ends) : List Clause → WX
  | [] => Wo
  | cl :: r => fun C dx σ H => ∃ b, PySem.W.exmOne K C cl.1 = some b ∧ (b = true → ∀ a, H a = none → cl.2.2 a C dx (offI cl.2.1 D) (σ.set cl.2.1 (some (.ref a))) H) ∧ (b = false → wAll K Wo D r C dx σ H)
inductive CsOk (X : Cx) : List ExceptHandler → List Clause → Prop
  | nil : CsOk X [] []
  | cons {x n : PySem.Str} {cl : Clause} {s0 : Stmt} {su : List Stmt} {np pp : Pos} {hs : List ExceptHandler} {l : List Clause} (hi : X.N[cl.2.1]? = some n) (hl : X.env.kindOf n = some .local) (hc : Names X x cl.1)
      (hsu : ∀ (a : Addr) (oe : Obj) (C : Value) (dx : Option Addr) (pn : List (Addr × Obj)), Zc C dx oe → (∃ vs, oe.data = .fields vs) → PSs (X.suite a ((a, oe) :: pn)) (s0 :: su) (cl.2.2 a C dx)) (r : CsOk X hs l) :
      CsOk X (.ExceptHandler (some (.Name x np)) (some n) (s0 :: su) pp :: hs) (cl :: l)
section
variable {X : Cx} {pins : List (Addr × Obj)} {B : Heap} {sI s1 : Shared} {σ1 : L2.St} {H1 : Hp} {a : Addr} {C : Value} {dx : Option Addr} {D : Ends} {Wo : WX} {g : Heap}
theorem fly_not {e : Env} {l : List Env} (fl : HandSPX.FlyingZ B (e :: l) a (Zc C dx) g) : a ∉ frs (e :: l) := fun hm => by
  obtain ⟨oe, vs, e1, _, e2⟩ := fl.there
  obtain ⟨_, o', e3, hnf⟩ := fl.2.2.1.mem hm
  rw [e1] at e3
  cases e3
  exact hnf _ e2
theorem cs_run (ok : X.Ok) (hst : X.stack = X.env :: X.outer) (hfr : X.env.frame = some X.env.locals) (hN : X.N.Nodup) (tk : Takes X Wo) (J : Inv X pins σ1 H1 sI)
    (nb : ∀ b o, sI.heap.get? b = some o → b ∉ frs X.stack → B.get? b = some o) (up : sI.heap.UpToSlots g) (na : H1 a = none) (hos : s1.os = sI.os) (ag : AllBare s1.gens)
    (fl : HandSPX.FlyingZ B (X.env :: X.outer) a (Zc C dx) g) {hs : List ExceptHandler} {l : List Clause} (hk : CsOk X hs l) : wAll X.K Wo D l C dx σ1 H1 → wpAny (model X.prog X.w) X.A (handleBy (.ref a) X.env hs) (SP X pins D) X.xe { s1 with heap := g } := by
  have nfr := fly_not fl
  have nL : a ≠ X.env.locals := fun z => nfr (List.mem_filterMap.mpr ⟨X.env, List.mem_cons_self, by rw [hfr, z]⟩)
  have nF : a ∉ X.fs := fun hm => let ⟨e, he, q⟩ := List.mem_filterMap.mp hm; nfr (List.mem_filterMap.mpr ⟨e, List.mem_cons_of_mem _ he, q⟩)
  have lan : ∀ {g' : Heap}, HandSPX.FlyingZ B (X.env :: X.outer) a (Zc C dx) g' → g.UpToSlots g' → Inv X pins σ1 H1 { s1 with heap := g' } := fun {g'} fl' u' => J.landed nb fl'.1 (up.trans u') hos ag
  induction hk with
  | nil =>
    intro w
    refine wpAny_handleBy_nil ?_
    obtain ⟨k1, k2, k3, oe, vs, T, oT, ts', he, hz, hd, h1, hr⟩ := id fl
    unfold PySem.passOn
    refine wpAny_bind (wpAny_field he hd h1 ?_)
    rw [if_neg (show ¬ ((Value.ref T == Value.none) = true) from by simp)]
    have fin : wpAny (model X.prog X.w) X.A (setFlight (.ref a) X.env.frame) (fun _ s4 => wpAny (model X.prog X.w) X.A (throw (.ref a) : Sem PySem.Flow) (SP X pins D) X.xe s4) X.xe { s1 with heap := g } := by
      rw [hfr]; refine HandSPX.setFlight_upZ fl fun g2 hh u2 => wpAny_throw (tk _ _ ⟨a, B, sI, pins, σ1, H1, C, dx, rfl, J, nb, up.trans u2, .inr (.inr (by rw [hst]; exact hh)), na, hos, ag, w⟩)
    first | exact wpAny_bind (wpAny_pure (wpAny_bind fin)) | exact wpAny_bind fin
  | @cons x n cl s0 su np pp hs l hi hl hc hsu r ih =>
    intro w
    obtain ⟨b, hb, hyes, hno⟩ := w
    obtain ⟨oe, vs, he, hz, hd⟩ := fl.there
    have S := (lan fl (Heap.UpToSlots.refl _)).suite he hd na nL nF
    refine wpAny_handleBy_cons (codeAny_handlers_test ?_) (by intro q; cases q)
    have LT : PySem.W.Looks (model X.prog X.w) g (typeOf (.ref a)) C := fun A Q E s k q => wpAny_typeOf_ref (k _ _ he) (by rw [hz.1]; exact q)
    have LM := PySem.W.exm_one (M := model X.prog X.w) (S.kIn) LT hb
    have tst : ∀ {Q E : Value → Shared → Prop}, Q cl.1 { s1 with heap := g } → wpAny (model X.prog X.w) (X.A.mark (some (.ref a))) (eval (.Name x np) X.env) Q E { s1 with heap := g } := fun {Q E} q => by
      obtain ⟨hg, hdbg, hm | ⟨hm, hv, hnn⟩⟩ := hc
      · exact ld_glob (X := X.suite a ((a, oe) :: (X.pn ++ pins))) S hg hm q hdbg
      · exact ld_blt (X := X.suite a ((a, oe) :: (X.pn ++ pins))) S hg hm hv q hnn hdbg
    refine tst (LM.here ?_)
    cases b with
    | false =>
      show wpAny _ X.A (handleBy (.ref a) X.env hs) _ _ _
      exact ih (hno rfl)
    | true =>
      refine codeAny_handlers_suite_as (HandSPX.lands_againZ fl fun g2 fl2 u2 => ?_)
      obtain ⟨oe2, vs2, he2, hz2, hd2⟩ := fl2.there
      have S2 := (lan fl2 u2).suite he2 hd2 na nL nF
      refine store_ok (X := X.suite a ((a, oe2) :: (X.pn ++ pins))) (v := .ref a) S2 hN hi (.inl hl) rfl (fun s5 S5 => wpAny_mono ((hsu a oe2 C dx (X.pn ++ pins) hz2 ⟨_, hd2⟩).run [] s5 _ H1 _ S5 (hyes rfl a na)) (fun f s6 hsp => ?_) (fun _ _ z => False.elim z)) (.inr hl)
      have en : ∀ {σ6 : L2.St} {H6 : Hp} {Q : Shared → Prop}, Inv (X.suite a ((a, oe2) :: (X.pn ++ pins))) [] σ6 H6 s6 → (∀ s7, Inv X pins (σ6.set cl.2.1 none) H6 s7 → Q s7) →
          wpAny (model X.prog X.w) X.A (do bindName X.env n .none; unbindBehindTheSuite X.env n pp) (fun _ s7 => Q s7) X.xe s6 := fun {σ6 H6 Q} S6 hq => gone_ok (S6.unsuite ok) hN hi hl hq
      cases f with
      | next => obtain ⟨σ6, H6, S6, q6⟩ := hsp; exact en S6 fun s7 J7 => ⟨_, _, J7, q6⟩
      | brk => obtain ⟨σ6, H6, S6, q6⟩ := hsp; exact en S6 fun s7 J7 => ⟨_, _, J7, q6⟩
      | cont => obtain ⟨σ6, H6, S6, q6⟩ := hsp; exact en S6 fun s7 J7 => ⟨_, _, J7, q6⟩
      | ret u => obtain ⟨v6, σ6, H6, S6, r6, q6⟩ := hsp; exact en S6 fun s7 J7 => ⟨_, _, _, J7, r6, q6⟩
end
section
variable {X : Cx} {body : List Stmt} {h0 : ExceptHandler} {hs : List ExceptHandler} {l : List Clause} {pos : Pos} {tb : WX → TS} {Wo : WX}
def xeTry (X : Cx) (hs : List ExceptHandler) (pins : List (Addr × Obj)) (D : Ends) : Value → Shared → Prop := fun e s2 => wpAny (model X.prog X.w) X.A (noteFrame e X.env) (fun _ s3 => wpAny (model X.prog X.w) X.A (setFlight e none) (fun _ s4 =>
    wpAny (model X.prog X.w) X.A (handleBy e X.env hs) (SP X pins D) X.xe s4) X.xe s3) X.xe s2
theorem takes_try {pins : List (Addr × Obj)} {D : Ends} (hst : X.stack = X.env :: X.outer) (hfr : X.env.frame = some X.env.locals) (hN : X.N.Nodup) (tk : Takes X Wo) (hh : CsOk X hs l) : Takes (X.tr (X.pn ++ pins) (xeTry X hs pins D)) (wAll X.K Wo D l) := fun u s' xx => by
  obtain ⟨a, B, sI, pins', σ', H', C, d, rfl, J', nb, up, sky, na, hos, ag, w⟩ := xx
  have ok : X.Ok := J'.ok.ofTry
  have hfs : X.A.frames = some (X.env :: X.outer) := by rw [ok.frames, hst]
  show wpAny (model X.prog X.w) X.A (noteFrame (.ref a) X.env) _ _ _
  refine Sky.land Zc.steady hfs hfr (show Sky B (X.env :: X.outer) a (Zc C d) X.env.locals s'.heap from by rw [← hst]; exact sky) fun g fl u3 => ?_
  exact cs_run (s1 := s') ok hst hfr hN tk (J'.ofTry ok) nb (up.trans u3) na hos ag fl hh w
theorem ps_try_all (hst : X.stack = X.env :: X.outer) (hfr : X.env.frame = some X.env.locals) (hN : X.N.Nodup) (tk : Takes X Wo)
    (hb : ∀ (W : WX) (pn : List (Addr × Obj)) (xe : Value → Shared → Prop), Takes (X.tr pn xe) W → PassesOwn (model X.prog X.w) X.A X.env xe → PSs (X.tr pn xe) body (tb W)) (hh : CsOk X (h0 :: hs) l) :
    PS X (.Try body (h0 :: hs) [] [] pos) (fun D σ H => tb (wAll X.K Wo D l) D σ H) := by
  refine ⟨fun pins s σ H D I h => ?_⟩
  have ok := I.ok
  refine wpAny_Try_except (wpAny_mono ((hb (wAll X.K Wo D l) (X.pn ++ pins) (xeTry X (h0 :: hs) pins D) (takes_try hst hfr hN tk hh) PassesOwn.looking).run [] s σ H D (I.toTry _) h) (fun f s1 hsp => ?_) (fun e s1 he => he))
  cases f with
  | next => obtain ⟨σ', H', J', q⟩ := hsp; exact wpAny_execs_nil ⟨σ', H', J'.ofTry ok, q⟩
  | brk => obtain ⟨σ', H', J', q⟩ := hsp; exact ⟨σ', H', J'.ofTry ok, q⟩
  | cont => obtain ⟨σ', H', J', q⟩ := hsp; exact ⟨σ', H', J'.ofTry ok, q⟩
  | ret u => obtain ⟨v, σ', H', J', r, q⟩ := hsp; exact ⟨v, σ', H', J'.ofTry ok, r, q⟩
end
end J
namespace J
open PySem PySem.Spec PyProof.Rows L2

/-! ### what is raised: class and value -/
abbrev XR := String × D
abbrev FX := Tau → Option (XR × Tau)
abbrev MirX := List D → Option (String × D × D)
/-- an exception's own dict stands frozen -/
structure Xd (K : PySem.W.Frag) (mg : Mg) (G : Hp) (r : XR) (C dx : Addr) : Prop where
  cl : mg (os r.1) = some (.ref C)
  va : ∃ w, G dx = some (.xd [(os "value", w)]) ∧ Rp K mg G w r.2
theorem Xd.mono {K : PySem.W.Frag} {mg : Mg} {G G' : Hp} {r : XR} {C dx : Addr} (s : Same G G') (h : Xd K mg G r C dx) : Xd K mg G' r C dx := ⟨h.cl, let ⟨w, a, b⟩ := h.va; ⟨w, s _ _ a, b.mono s⟩⟩
section
variable (K : PySem.W.Frag) (mg : Mg) (W : WX)
def REX (t : TE) (x : FX) : Prop := ∀ (σ : L2.St) (τ : Tau) (G H : Hp) (r : XR) (τ' : Tau) (Q : VK), At K mg G H σ τ → x τ = some (r, τ') → (∀ C dx G' H', Go K mg σ τ G H τ' G' H' → Xd K mg G' r C dx → W (.ref C) (some dx) σ H') → t σ H Q
def RAX (t : TA) (x : FX) : Prop := ∀ (σ : L2.St) (τ : Tau) (G H : Hp) (r : XR) (τ' : Tau) (Q : List V → Hp → Prop), At K mg G H σ τ → x τ = some (r, τ') → (∀ C dx G' H', Go K mg σ τ G H τ' G' H' → Xd K mg G' r C dx → W (.ref C) (some dx) σ H') → t σ H Q
def KxS (io : Option V) (R0 : Addr → Prop) (G0 H0 : Hp) (r : XR) (τ' : Tau) : Prop := ∀ σ' G' H' C dx, Fr K mg io R0 G0 H0 G' H' σ' τ' → Xd K mg G' r C dx → W (.ref C) (some dx) σ' H'
def RSX (b : Bool) (t : TS) (x : FX) : Prop := ∀ (io : Option V) (R0 : Addr → Prop) (G0 H0 G H : Hp) (σ : L2.St) (τ : Tau) (D : Ends) (r : XR) (τ' : Tau), (b = false → io = none) → Fr K mg io R0 G0 H0 G H σ τ → x τ = some (r, τ') → KxS K mg W io R0 G0 H0 r τ' → t D σ H
end
structure JEX (X : Cx) (W : WX) (e : Expr) (t : TE) (f : FE) (x : FX) : Prop where
  je : JE X e t f
  rx : REX X.K X.mg W t x
structure JAX (X : Cx) (W : WX) (es : List Expr) (t : TA) (f : FA) (x : FX) : Prop where
  ja : JA X es t f
  rx : RAX X.K X.mg W t x
structure JSX (X : Cx) (W : WX) (b : Bool) (st : Stmt) (t : TS) (f : FS) (x : FX) : Prop where
  js : JS X b st t f
  rx : RSX X.K X.mg W b t x
structure JSsX (X : Cx) (W : WX) (b : Bool) (st : List Stmt) (t : TS) (f : FS) (x : FX) : Prop where
  js : JSs X b st t f
  rx : RSX X.K X.mg W b t x

def xNo (τ : Tau) : Option (XR × Tau) := none
/-- the normal way, or else what is raised -/
def xAlt {α : Type} (a : Option α) (k : α → Option (XR × Tau)) (x : Option (XR × Tau)) : Option (XR × Tau) := match a with
  | some v => k v
  | none => x
theorem xAlt_get {α : Type} {a : Option α} {k : α → Option (XR × Tau)} {x : Option (XR × Tau)} {r : XR × Tau} (h : xAlt a k x = some r) : x = some r ∨ a.bind k = some r := by
  cases a with
  | none => exact .inl h
  | some z => exact .inr h
def xCons (f : FE) (x : FX) (xr : FX) (τ : Tau) : Option (XR × Tau) := xAlt (f τ) (fun a => (fz a.2 a.1).bind fun d => xr d.2) (x τ)
def xTwo (f : FE) (x y : FX) (τ : Tau) : Option (XR × Tau) := xAlt (f τ) (fun a => y a.2) (x τ)
def xCall (mx : MirX) (fa : FA) (xa : FX) (τ : Tau) : Option (XR × Tau) := xAlt (fa τ) (fun a => (mx a.1).bind fun r => some ((r.1, r.2.1), a.2)) (xa τ)
def ioX (mx : MirX) (o : Op) (ds : List D) (τ : Tau) : Option (XR × Tau) := match o with
  | .slot i => match τ[i]? with
    | some (some (.ow d0)) => (mx (d0 :: ds)).bind fun r => some ((r.1, r.2.1), τ.set i (some (.ow r.2.2)))
    | _ => none
  | .tmp d0 => (mx (d0 :: ds)).bind fun r => some ((r.1, r.2.1), τ)
  | .val _ => none
def xMeth (cn mn : String) (mx : MirX) (fe : FE) (x : FX) (fa : FA) (xa : FX) (τ : Tau) : Option (XR × Tau) := xAlt (fe τ) (fun o => (fz o.2 o.1).bind fun d => if insOk cn mn d.1 = true then xAlt (fa d.2) (fun a => (mx (d.1 :: a.1)).bind fun r => some ((r.1, r.2.1), a.2)) (xa d.2) else none) (x τ)
def xMethIo (cn mn : String) (mx : MirX) (fe : FE) (x : FX) (fa : FA) (xa : FX) (τ : Tau) : Option (XR × Tau) := xAlt (fe τ) (fun o => (deref o.2 o.1).bind fun d => if insOk cn mn d = true then xAlt (fa o.2) (fun a => ioX mx o.1 a.1 a.2) (xa o.2) else none) (x τ)
def xMake (cn : String) (mx : MirX) (fa : FA) (xa : FX) (τ : Tau) : Option (XR × Tau) := xAlt (fa τ) (fun a => (mx (.ins cn [] :: a.1)).bind fun r => some ((r.1, r.2.1), a.2)) (xa τ)
def xSeq (f : FS) (x y : FX) (τ : Tau) : Option (XR × Tau) := xAlt (f τ) (fun fl => match fl with
  | .nx τ1 => y τ1
  | _ => none) (x τ)
def xIf (c : FT) (x y : FX) (τ : Tau) : Option (XR × Tau) := (c τ).bind fun a => if a.1 = true then x a.2 else y a.2
def xRaise (c : String) (fa : FA) (τ : Tau) : Option (XR × Tau) := (fa τ).bind fun a => match a.1 with
  | [d] => some ((c, d), a.2)
  | _ => none
def forDX (g : FG) (f : FS) (x : FX) : List D → Tau → Option (XR × Tau)
  | [], _ => none
  | d :: ds, τ => (g d τ).bind fun τ1 => xAlt (f τ1) (fun fl => match fl with
    | .nx τ2 => forDX g f x ds τ2
    | .ct τ2 => forDX g f x ds τ2
    | _ => none) (x τ1)
def xFor (w : FI) (g : FG) (f : FS) (x : FX) (τ : Tau) : Option (XR × Tau) := (w τ).bind fun a => forDX g f x a.1 a.2

section
variable {X : Cx} {W : WX} {b : Bool}
theorem jex_of {e : Expr} {t : TE} {f : FE} (h : JE X e t f) : JEX X W e t f xNo := ⟨h, fun _ _ _ _ _ _ _ _ e => by cases e⟩
theorem jax_of {es : List Expr} {t : TA} {f : FA} (h : JA X es t f) : JAX X W es t f xNo := ⟨h, fun _ _ _ _ _ _ _ _ e => by cases e⟩
theorem jsx_of {st : Stmt} {t : TS} {f : FS} (h : JS X b st t f) : JSX X W b st t f xNo := ⟨h, fun _ _ _ _ _ _ _ _ _ _ _ _ _ e => by cases e⟩
theorem jssx_of {st : List Stmt} {t : TS} {f : FS} (h : JSs X b st t f) : JSsX X W b st t f xNo := ⟨h, fun _ _ _ _ _ _ _ _ _ _ _ _ _ e => by cases e⟩
theorem jssx_one {st : Stmt} {t : TS} {f : FS} {x : FX} (h : JSX X W b st t f x) : JSsX X W b [st] t f x := ⟨jss_one h.js, h.rx⟩
variable {K : PySem.W.Frag} {mg : Mg}
theorem rax_cons {te : TE} {fe : FE} {x : FX} {t : TA} {xr : FX} (he : RE K mg te fe) (hx : REX K mg W te x) (hr : RAX K mg W t xr) : RAX K mg W (tCons te t) (xCons fe x xr) := fun σ τ G H r τ' Q A e q => by
  rcases xAlt_get e with e | e
  · exact hx σ τ G H r τ' _ A e q
  · obtain ⟨⟨oa, τ1⟩, e1, e⟩ := bind_some' e
    obtain ⟨⟨d, τ2⟩, e2, e⟩ := bind_some' e
    refine he σ τ G H oa τ1 _ A e1 fun y G1 H1 g1 o1 => ?_
    obtain ⟨G2, g2, s2, r2⟩ := o1.fz g1 e2
    exact hr σ τ2 G2 H1 r τ' _ g2.at' e fun C dx G' H' g' xd => q C dx G' H' (g2.trans g') xd
theorem jax_cons {e : Expr} {es : List Expr} {te : TE} {fe : FE} {x : FX} {t : TA} {f : FA} {xr : FX} (he : JEX X W e te fe x) (hr : JAX X W es t f xr) (hs : starEach (e :: es) X.env = (false, eval e X.env) :: starEach es X.env := by rfl) : JAX X W (e :: es) (tCons te t) (aCons fe f) (xCons fe x xr) :=
  ⟨ja_cons he.je hr.ja hs, rax_cons he.je.re he.rx hr.rx⟩
theorem jex_lst {es : List Expr} {t : TA} {f : FA} {x : FX} {pos : Pos} (h : JAX X W es t f x) : JEX X W (.List es pos) (tLst t) (fLst f) x := ⟨je_lst h.ja, fun σ τ G H r τ' Q A e q => h.rx σ τ G H r τ' _ A e q⟩
theorem jex_tup {es : List Expr} {t : TA} {f : FA} {x : FX} {x1} {pos : Pos} (h : JAX X W es t f x) : JEX X W (.Tuple es x1 pos) (tTup t) (fTup f) x := ⟨je_tup h.ja, fun σ τ G H r τ' Q A e q => h.rx σ τ G H r τ' _ A e q⟩
/-- what a derivation says of the normal end stays, what is read first may raise -/
theorem jex_un {e : Expr} {t0 t : TE} {f : FE} {x : FX} (h : JE X e t f) (hx : REX X.K X.mg W t0 x) (ht : ∀ σ H Q, (∀ Q', t0 σ H Q') → t σ H Q) : JEX X W e t f x :=
  ⟨h, fun σ τ G H r τ' Q A e q => ht σ H Q fun Q' => hx σ τ G H r τ' Q' A e q⟩
theorem rex_two {ta tb : TE} {fa : FE} {x y : FX} (ha : RE K mg ta fa) (hx : REX K mg W ta x) (hy : REX K mg W tb y) {u : V → V → Hp → VK → Prop} : REX K mg W (fun σ H Q => ta σ H fun v H1 => tb σ H1 fun w H2 => u v w H2 Q) (xTwo fa x y) := fun σ τ G H r τ' Q A e q => by
  rcases xAlt_get e with e | e
  · exact hx σ τ G H r τ' _ A e q
  · obtain ⟨⟨oa, τ1⟩, e1, e⟩ := bind_some' e
    exact ha σ τ G H oa τ1 _ A e1 fun v G1 H1 g1 o1 => hy σ τ1 G1 H1 r τ' _ g1.at' e fun C dx G' H' g' xd => q C dx G' H' (g1.trans g') xd

/-! #### statements -/
theorem rsx_of_re {t : TE} {x : FX} (hx : REX K mg W t x) {u : TS} (hu : ∀ D σ H, (∀ Q', t σ H Q') → u D σ H) : RSX K mg W b u x := fun io R0 G0 H0 G H σ τ D r τ' hb F e k =>
  hu D σ H fun Q' => hx σ τ G H r τ' Q' F.at' e fun C dx G' H' g xd => k σ G' H' C dx (F.go g) xd
theorem jsx_expr {e : Expr} {te : TE} {fe : FE} {x : FX} {pos : Pos} (he : JEX X W e te fe x) (hs : swapsWith e none pos.line X.env = pure false := by rfl) : JSX X W b (.Expr e pos) (tDrop te) (sExpr fe) x := ⟨js_expr he.je hs, rsx_of_re he.rx fun D σ H h => h _⟩
theorem jsx_ret {e : Expr} {te : TE} {fe : FE} {x : FX} {pos : Pos} (he : JEX X W e te fe x) : JSX X W b (.Return (some e) pos) (tRet te) (sRet fe) x := ⟨js_ret he.je, rsx_of_re he.rx fun D σ H h => h _⟩
theorem jsx_retF {e : Expr} {te : TE} {fe : FE} {x : FX} {pos : Pos} (he : JEX X W e te fe x) : JSX X W b (.Return (some e) pos) (tRet te) (sRetF fe) x := ⟨js_retF he.je, rsx_of_re he.rx fun D σ H h => h _⟩
theorem jsx_asg {st : Stmt} {te : TE} {tg : TG} {f : FS} {x : FX} (h : JS X b st (tAsg te tg) f) (hx : REX X.K X.mg W te x) : JSX X W b st (tAsg te tg) f x := ⟨h, rsx_of_re hx fun D σ H h => h _⟩
theorem rsx_seq {t u : TS} {f : FS} {x y : FX} (h1 : RS K mg b t f) (hx : RSX K mg W b t x) (hy : RSX K mg W b u y) : RSX K mg W b (tSeq t u) (xSeq f x y) := fun io R0 G0 H0 G H σ τ D r τ' hb F e k => by
  rcases xAlt_get e with e | e
  · exact hx io R0 G0 H0 G H σ τ _ r τ' hb F e k
  · obtain ⟨fl, e1, e⟩ := bind_some' e
    refine h1 io R0 G0 H0 G H σ τ { D with nx := u D } fl hb F e1 ?_
    cases fl with
    | nx τ1 => exact fun σ' G' H' F' => hy io R0 G0 H0 G' H' σ' τ1 D r τ' hb F' e k
    | rt op τ1 => cases e
    | bk τ1 => cases e
    | ct τ1 => cases e
theorem jssx_cons {st : Stmt} {rest : List Stmt} {t u : TS} {f g : FS} {x y : FX} (h1 : JSX X W b st t f x) (h2 : JSsX X W b rest u g y) : JSsX X W b (st :: rest) (tSeq t u) (sSeq f g) (xSeq f x y) := ⟨jss_cons h1.js h2.js, rsx_seq h1.js.rs h1.rx h2.rx⟩
theorem rsx_if {tc : TT} {fc : FT} {t u : TS} {x y : FX} (hc : RT K mg tc fc) (hx : RSX K mg W b t x) (hy : RSX K mg W b u y) : RSX K mg W b (tIfS tc t u) (xIf fc x y) := fun io R0 G0 H0 G H σ τ D r τ' hb F e k => by
  obtain ⟨⟨c, τ1⟩, e1, e⟩ := bind_some' e
  refine hc σ τ G H c τ1 _ F.at' e1 fun G1 H1 g1 => ?_
  cases c with
  | true => rw [if_pos rfl] at e ⊢; exact hx io R0 G0 H0 G1 H1 σ τ1 D r τ' hb (F.go g1) e k
  | false => rw [if_neg Bool.false_ne_true] at e ⊢; exact hy io R0 G0 H0 G1 H1 σ τ1 D r τ' hb (F.go g1) e k
theorem jsx_if {c : Expr} {s1 s2 : List Stmt} {tc : TT} {fc : FT} {t u : TS} {f g : FS} {x y : FX} {pos : Pos} (hc : JT X c tc fc) (h1 : JSsX X W b s1 t f x) (h2 : JSsX X W b s2 u g y) : JSX X W b (.If c s1 s2 pos) (tIfS tc t u) (sIf fc f g) (xIf fc x y) := ⟨js_if hc h1.js h2.js, rsx_if hc.rt h1.rx h2.rx⟩
theorem rsx_for {t : TS} {f : FS} {x : FX} {wi : TI} {w : FI} {tg : TG} {g : FG} {is : List Nat} (hi : b = false ∨ 0 ∉ is) (hw : RI K mg wi w) (hg : RG K mg is tg g) (h1 : RS K mg b t f) (hx : RSX K mg W b t x) : RSX K mg W b (tFor wi tg t) (xFor w g f x) := fun io R0 G0 H0 G H σ τ D r τ' hb F e k => by
  obtain ⟨⟨ds, τ1⟩, e1, e⟩ := bind_some' e
  refine hw σ τ G H ds τ1 _ F.at' e1 fun J G1 H1 g1 it => ?_
  have F1 := F.go g1
  refine ⟨fun i m σ H => ∃ G τ, Fr K mg io R0 G0 H0 G H σ τ ∧ Same G1 G ∧ m = ds.length - i ∧ i ≤ ds.length ∧ forDX g f x (ds.drop i) τ = some (r, τ'), ⟨ds.length, G1, τ1, F1, Same.refl _, by simp, Nat.zero_le _, e⟩, ?_⟩
  rintro i m σ H ⟨G, τ, F, s, rfl, hle, e⟩
  obtain ⟨st, gn⟩ := it G H s F.at'.gh
  by_cases hlt : i < ds.length
  · have hd : ds[i]? = some ds[i] := List.getElem?_eq_getElem hlt
    obtain ⟨go, yl⟩ := gn i _ hd
    rw [List.drop_eq_getElem_cons hlt] at e
    obtain ⟨τ2, e2, e⟩ := bind_some' e
    refine .inr ⟨go, fun σ H => ∃ G τ, Fr K mg io R0 G0 H0 G H σ τ ∧ Same G1 G ∧ forDX g f x (ds.drop (i + 1)) τ = some (r, τ'), fun σ' H' ⟨G', τ4, F', s', e'⟩ => ⟨_, by omega, G', τ4, F', s', rfl, hlt, e'⟩, fun v H' y => ?_⟩
    obtain ⟨G', n, rv⟩ := yl v H' y
    have F2 := F.go (n.go F.at')
    refine hg G' H' σ τ v _ τ2 _ F2.at' F2.ll rv e2 fun σ3 A3 l3 ro3 k3 t3 kt3 ls3 => ?_
    have F3 : Fr K mg io R0 G0 H0 G' H' σ3 τ2 := F2.slots A3 (fun b h => F2.rr b (ro3 b h)) (fun v hv => by
      rcases hi with z | z
      · rw [hb z] at hv; cases hv
      · rw [k3 0 z]; exact F2.pr v hv) l3
    have s2 : Same G1 G' := s.trans n.gg
    have F4 : Fr K mg io (fun b => Ro σ3 τ2 b) G' H' G' H' σ3 τ2 := ⟨A3, Same.refl _, fun _ h => h, fun _ _ _ h => h, fun _ _ _ _ h => h, fun _ h => .inl h, F3.pr, l3⟩
    have conv : ∀ {σ4 G4 H4 τ4}, Fr K mg io (fun b => Ro σ3 τ2 b) G' H' G4 H4 σ4 τ4 → Fr K mg io R0 G0 H0 G4 H4 σ4 τ4 ∧ Same G1 G4 := fun {σ4 G4 H4 τ4} F4 => by
      have nr : ∀ b o, ¬ R0 b → H0 b = some o → ¬ Ro σ3 τ2 b := fun b o n e z => by
        rcases F3.rr b z with h | h
        · exact n h
        · rw [e] at h; cases h
      refine ⟨⟨F4.at', F3.gg.trans F4.gg, fun b h => F3.kp b (F4.kp b h), fun b o n e => F4.hh b o (nr b o n e) (F3.hh b o n e), fun b o n e z => F4.gf b o (nr b o n e) (F3.hh b o n e) (F3.gf b o n e z), fun b h => ?_, F4.pr, F4.ll⟩, s2.trans F4.gg⟩
      rcases F4.rr b h with z | z
      · exact F3.rr b z
      · exact .inr (F3.kp b z)
    rcases xAlt_get e with e | e
    · exact hx io _ G' H' G' H' σ3 τ2 _ r τ' hb F4 e fun σ' G'' H'' C dx F' xd => k σ' G'' H'' C dx (conv F').1 xd
    · obtain ⟨fl1, e3, e⟩ := bind_some' e
      refine h1 io _ G' H' G' H' σ3 τ2 _ fl1 hb F4 e3 ?_
      cases fl1 with
      | nx τ4 => exact fun σ' G' H' F' => ⟨G', τ4, (conv F').1, (conv F').2, e⟩
      | ct τ4 => exact fun σ' G' H' F' => ⟨G', τ4, (conv F').1, (conv F').2, e⟩
      | bk τ4 => cases e
      | rt o τ4 => cases e
  · have z : i = ds.length := by omega
    subst z
    rw [List.drop_length] at e
    cases e
theorem jsx_for {tgt iter : Expr} {body : List Stmt} {t : TS} {f : FS} {x : FX} {pos : Pos} {wi : TI} {w : FI} {tg : TG} {gg : FG} {is : List Nat} (hp : PassesOwn (model X.prog X.w) X.A X.env X.xe) (hc : X.calm = true) (h0 : b = false ∨ 0 ∉ is) (hi : JI X tgt iter wi w) (hg : JG X tgt is tg gg) (hb : JSsX X W b body t f x)
    (hs : ∀ x, foldedSetIterable iter X.env x = pure x := by intro _; rfl) : JSX X W b (.For tgt iter body [] pos) (tFor wi tg t) (sFor w gg f) (xFor w gg f x) := ⟨js_for hp hc h0 hi hg hb.js hs, rsx_for h0 hi.ri hg.rg hb.js.rs hb.rx⟩
end

/-! ### promises -/
structure Xk (K : PySem.W.Frag) (mg : Mg) (b : Bool) (vs : List V) (G H : Hp) (r : XR) (z0 : D) (C dx : Addr) (G' H' : Hp) : Prop where
  gg : Same G G'
  gh : Same G' H'
  kp : ∀ p, H' p = none → H p = none
  hh : ∀ p o, ¬ Rv b vs p → H p = some o → H' p = some o
  gf : ∀ p o, ¬ Rv b vs p → H p = some o → G p = none → G' p = none
  io : b = true → ∃ p o, vs.head? = some (.ref p) ∧ G' p = none ∧ H' p = some o ∧ Rt K mg G' o z0
  xd : Xd K mg G' r C dx
def spX (K : PySem.W.Frag) (mg : Mg) (b : Bool) (m : Mir) (mx : MirX) : Sp := fun vs H Q E => ∃ G ds, Same G H ∧ Ar K mg G H b vs ds ∧
  ((∃ own z z0, m ds = some (own, z, z0) ∧ ∀ v G' H', Bk K mg b vs G H own z z0 v G' H' → Q v H') ∨ (∃ c z z0, mx ds = some (c, z, z0) ∧ ∀ C dx G' H', Xk K mg b vs G H (c, z) z0 C dx G' H' → E (.ref C) (some dx) H'))
def runX (b : Bool) (n k : Nat) (x : FX) (ds : List D) : Option (String × D × D) := if ds.length = k then (x (ini b n ds)).bind fun r => (ioOut b r.2).bind fun z => some (r.1.1, r.1.2, z) else none
theorem runX_len {b : Bool} {n k : Nat} {x : FX} {ds : List D} {r : String × D × D} (h : runX b n k x ds = some r) : ds.length = k := by
  unfold runX at h
  by_cases e : ds.length = k
  · exact e
  · rw [if_neg e] at h; cases h
section
variable {K : PySem.W.Frag} {mg : Mg} {b : Bool} {m : Mir} {mx : MirX}
theorem spX_of {vs : List V} {H : Hp} {Q : VK} {E E' : XK} (h : spM K mg b m vs H Q E') : spX K mg b m mx vs H Q E := by
  obtain ⟨G, ds, own, z, z0, s, a, e, q⟩ := h
  exact ⟨G, ds, s, a, .inl ⟨own, z, z0, e, q⟩⟩
/-- a def that may raise, where it does not -/
theorem fnok0 {P : Program} {w : World} {base : Heap} {k : Nat} {f : Addr} {fd : FuncData} {ps : List PySem.Str} (F : FnOk P w K mg base (L2.CX P w) k f fd ps (spX K mg b m mx)) : FnOk P w K mg base CX0 k f fd ps (spM K mg b m) :=
  ⟨fun vs H Q E q => F.len vs H Q E (spX_of q), fun A outer s H args us vs Q E hr he hb hv hs => by
    refine codeAny_mono (F.run A outer s H args us vs Q (fun _ _ _ => False) hr he hb hv (spX_of hs)) fun r s' h => ?_
    cases r with
    | ok fl => cases fl <;> exact h
    | error e =>
      obtain ⟨_, _, _, _, _, _, _, _, _, _, _, _, z⟩ := h
      exact z.elim⟩
end
end J
namespace J
open PySem PySem.Spec PyProof.Rows L2

/-! ### calls that may raise -/
section
variable {K : PySem.W.Frag} {mg : Mg} {W : WX} {m : Mir} {mx : MirX} {b : Bool}
theorem Xk.bk {vs : List V} {G H : Hp} {r : XR} {z0 : D} {C dx : Addr} {G' H' : Hp} (h : Xk K mg b vs G H r z0 C dx G' H') : Bk K mg b vs G H false .non z0 .non G' H' := ⟨h.gg, h.gh, h.kp, h.hh, h.gf, h.io, .old .non⟩
/-- a call, what is raised wished for at the slots -/
def tCallZ (sp : Sp) (E : L2.St → XK) (t : TA) : TE := fun σ H Q => t σ H fun vs G => sp vs G Q (E σ)
def tMethZ (C : Addr) (mn : PySem.Str) (sp : Sp) (E : L2.St → XK) (ta : TE) (t : TA) : TE := fun σ H Q => ta σ H fun x G => ∃ a dx fs, x = .ref a ∧ G a = some (.ins C dx fs) ∧ fs.lookup mn = none ∧ t σ G fun vs G2 => sp (x :: vs) G2 Q (E σ)
def tMakeZ (C : Addr) (sp : Sp) (E : L2.St → XK) (t : TA) : TE := fun σ H Q => t σ H fun vs G => ∀ x dx, G x = none → G dx = none → dx ≠ x → sp (.ref x :: vs) (upd (upd G dx (.own x)) x (.ins C dx [])) (fun v G2 => v = .non ∧ Q (.ref x) G2) (E σ)
theorem re_callZ {E : L2.St → XK} {t : TA} {f : FA} (hr : RA K mg t f) : RE K mg (tCallZ (spX K mg false m mx) E t) (fCall m f) := fun σ τ G H op τ' Q A e q => by
  obtain ⟨⟨ds, τ1⟩, e1, e⟩ := bind_some' e
  obtain ⟨⟨own, z, z0⟩, e2, e⟩ := bind_some' e
  cases e
  refine hr σ τ G H ds _ _ A e1 fun vs G1 H1 g1 r1 => ⟨G1, ds, g1.at'.gh, .pure r1, .inl ⟨own, z, z0, e2, fun v G2 H2 B => ?_⟩⟩
  exact q v G2 H2 (g1.trans (bk_go g1.at' B)) ((rs_or g1.at' (fun _ h => h) B.rs).weak g1.kp)
theorem rex_call {t : TA} {f : FA} {xa : FX} (hr : RA K mg t f) (hx : RAX K mg W t xa) : REX K mg W (tCallZ (spX K mg false m mx) (WE W) t) (xCall mx f xa) := fun σ τ G H r τ' Q A e q => by
  rcases xAlt_get e with e | e
  · exact hx σ τ G H r τ' _ A e q
  · obtain ⟨⟨ds, τ1⟩, e1, e⟩ := bind_some' e
    obtain ⟨⟨c, z, z0⟩, e2, e⟩ := bind_some' e
    cases e
    exact hr σ τ G H ds _ _ A e1 fun vs G1 H1 g1 r1 => ⟨G1, ds, g1.at'.gh, .pure r1, .inr ⟨c, z, z0, e2, fun C dx G2 H2 B => q C dx G2 H2 (g1.trans (bk_go g1.at' B.bk)) B.xd⟩⟩
theorem io_callX {G0 H0 G H : Hp} {σ : L2.St} {τ0 τ τ' : Tau} {x : V} {vs : List V} {o : Op} {ds : List D} {r : XR} {Q : VK} {E : XK} (g : Go K mg σ τ0 G0 H0 τ G H) (ox : Or K mg H0 G H σ τ x o) (rv : RpL K mg G vs ds) (e : ioX mx o ds τ = some (r, τ'))
    (q : ∀ C dx G' H', Go K mg σ τ0 G0 H0 τ' G' H' → Xd K mg G' r C dx → E (.ref C) (some dx) H') : spX K mg true m mx (x :: vs) H Q E := by
  have A := g.at'
  cases ox with
  | val _ => cases e
  | tmp a b c rt n =>
    obtain ⟨⟨c', z, z0⟩, e1, e⟩ := bind_some' e
    cases e
    exact ⟨G, _, A.gh, .io b c rt rv, .inr ⟨c', z, z0, e1, fun C dx G' H' B => q C dx G' H' (bk_goTmp g a n B.bk) B.xd⟩⟩
  | @slot _ i h =>
    unfold ioX at e
    dsimp only at e
    split at e
    · rename_i d0 hi
      obtain ⟨⟨c', z, z0⟩, e1, e⟩ := bind_some' e
      cases e
      obtain ⟨p, o', a, b, c, rt⟩ := A.ow i d0 hi
      rw [h] at a
      cases a
      exact ⟨G, _, A.gh, .io b c rt rv, .inr ⟨c', z, z0, e1, fun C dx G' H' B => q C dx G' H' (g.trans (bk_goIo A hi h B.bk).1) B.xd⟩⟩
    · cases e
theorem io_callZ {G0 H0 G H : Hp} {σ : L2.St} {τ0 τ τ' : Tau} {x : V} {vs : List V} {o op : Op} {ds : List D} {Q : VK} {E : XK} (g : Go K mg σ τ0 G0 H0 τ G H) (ox : Or K mg H0 G H σ τ x o) (r : RpL K mg G vs ds) (e : ioCall m o ds τ = some (op, τ'))
    (q : ∀ v G' H', Go K mg σ τ0 G0 H0 τ' G' H' → Or K mg H0 G' H' σ τ' v op → Q v H') : spX K mg true m mx (x :: vs) H Q E := spX_of (E' := E) (io_call g ox r e q)
section
variable {cn mn : String} {C : Addr} {te : TE} {fe : FE} {x : FX} {t : TA} {f : FA} {xa : FX} {E : L2.St → XK}
theorem re_methZ (gC : mg (os cn) = some (.ref C)) (he : RE K mg te fe) (hr : RA K mg t f) : RE K mg (tMethZ C (os mn) (spX K mg false m mx) E te t) (fMeth cn mn m fe f) := fun σ τ G H op τ' Q A e q => by
  obtain ⟨⟨o, τ1⟩, e1, e⟩ := bind_some' e
  obtain ⟨⟨d, τ2⟩, e2, e⟩ := bind_some' e
  obtain ⟨hi, e⟩ := if_get' e
  obtain ⟨⟨ds, τ3⟩, e3, e⟩ := bind_some' e
  obtain ⟨⟨own, z, z0⟩, e4, e⟩ := bind_some' e
  cases e
  refine he σ τ G H o τ1 _ A e1 fun v G1 H1 g1 o1 => ?_
  obtain ⟨G2, g2, s2, r2⟩ := o1.fz g1 e2
  obtain ⟨a, dx, fs, rfl, ha, hl⟩ := insOk_ok gC g2.at'.gh (Pk.frz r2 : Pk K mg G2 H1 v d) hi
  refine ⟨a, dx, fs, rfl, ha, hl, hr σ τ2 G2 H1 ds _ _ g2.at' e3 fun vs G3 H3 g3 r3 => ?_⟩
  have g := g2.trans g3
  exact ⟨G3, d :: ds, g3.at'.gh, .pure (.cons (r2.mono g3.gg) r3), .inl ⟨own, z, z0, e4, fun v G4 H4 B => q v G4 H4 (g.trans (bk_go g3.at' B)) ((rs_or g3.at' (fun _ h => h) B.rs).weak g.kp)⟩⟩
theorem rex_meth (gC : mg (os cn) = some (.ref C)) (he : RE K mg te fe) (hx : REX K mg W te x) (hr : RA K mg t f) (hxa : RAX K mg W t xa) : REX K mg W (tMethZ C (os mn) (spX K mg false m mx) (WE W) te t) (xMeth cn mn mx fe x f xa) := fun σ τ G H r τ' Q A e q => by
  rcases xAlt_get e with e | e
  · exact hx σ τ G H r τ' _ A e q
  · obtain ⟨⟨o, τ1⟩, e1, e⟩ := bind_some' e
    obtain ⟨⟨d, τ2⟩, e2, e⟩ := bind_some' e
    obtain ⟨hi, e⟩ := if_get' e
    refine he σ τ G H o τ1 _ A e1 fun v G1 H1 g1 o1 => ?_
    obtain ⟨G2, g2, s2, r2⟩ := o1.fz g1 e2
    obtain ⟨a, dx, fs, rfl, ha, hl⟩ := insOk_ok gC g2.at'.gh (Pk.frz r2 : Pk K mg G2 H1 v d) hi
    refine ⟨a, dx, fs, rfl, ha, hl, ?_⟩
    rcases xAlt_get e with e | e
    · exact hxa σ τ2 G2 H1 r τ' _ g2.at' e fun C dx G' H' g' xd => q C dx G' H' (g2.trans g') xd
    · obtain ⟨⟨ds, τ3⟩, e3, e⟩ := bind_some' e
      obtain ⟨⟨c, z, z0⟩, e4, e⟩ := bind_some' e
      cases e
      refine hr σ τ2 G2 H1 ds _ _ g2.at' e3 fun vs G3 H3 g3 r3 => ?_
      have g := g2.trans g3
      exact ⟨G3, d :: ds, g3.at'.gh, .pure (.cons (r2.mono g3.gg) r3), .inr ⟨c, z, z0, e4, fun C dx G4 H4 B => q C dx G4 H4 (g.trans (bk_go g3.at' B.bk)) B.xd⟩⟩
theorem re_methIoZ (gC : mg (os cn) = some (.ref C)) (he : RE K mg te fe) (hr : RA K mg t f) : RE K mg (tMethZ C (os mn) (spX K mg true m mx) E te t) (fMethIo cn mn m fe f) := fun σ τ G H op τ' Q A e q => by
  obtain ⟨⟨o, τ1⟩, e1, e⟩ := bind_some' e
  obtain ⟨d, e2, e⟩ := bind_some' e
  obtain ⟨hi, e⟩ := if_get' e
  obtain ⟨⟨ds, τ3⟩, e3, e⟩ := bind_some' e
  refine he σ τ G H o τ1 _ A e1 fun v G1 H1 g1 o1 => ?_
  obtain ⟨a, dx, fs, rfl, ha, hl⟩ := insOk_ok gC g1.at'.gh (o1.pk g1.at' e2) hi
  exact ⟨a, dx, fs, rfl, ha, hl, hr σ τ1 G1 H1 ds τ3 _ g1.at' e3 fun vs G3 H3 g3 r3 => io_callZ (g1.trans g3) (o1.step g3) r3 e q⟩
theorem rex_methIo (gC : mg (os cn) = some (.ref C)) (he : RE K mg te fe) (hx : REX K mg W te x) (hr : RA K mg t f) (hxa : RAX K mg W t xa) : REX K mg W (tMethZ C (os mn) (spX K mg true m mx) (WE W) te t) (xMethIo cn mn mx fe x f xa) := fun σ τ G H r τ' Q A e q => by
  rcases xAlt_get e with e | e
  · exact hx σ τ G H r τ' _ A e q
  · obtain ⟨⟨o, τ1⟩, e1, e⟩ := bind_some' e
    obtain ⟨d, e2, e⟩ := bind_some' e
    obtain ⟨hi, e⟩ := if_get' e
    refine he σ τ G H o τ1 _ A e1 fun v G1 H1 g1 o1 => ?_
    obtain ⟨a, dx, fs, rfl, ha, hl⟩ := insOk_ok gC g1.at'.gh (o1.pk g1.at' e2) hi
    refine ⟨a, dx, fs, rfl, ha, hl, ?_⟩
    rcases xAlt_get e with e | e
    · exact hxa σ τ1 G1 H1 r τ' _ g1.at' e fun C dx G' H' g' xd => q C dx G' H' (g1.trans g') xd
    · obtain ⟨⟨ds, τ3⟩, e3, e⟩ := bind_some' e
      exact hr σ τ1 G1 H1 ds τ3 _ g1.at' e3 fun vs G3 H3 g3 r3 => io_callX (g1.trans g3) (o1.step g3) r3 e q
/-- a new instance stands as an owned root -/
theorem make_go {G1 H1 G2 H2 : Hp} {σ : L2.St} {τ : Tau} {vs : List V} {y dx : Addr} {own : Bool} {z z0 : D} {v : V} (A1 : At K mg G1 H1 σ τ) (nx : H1 y = none) (ndx : H1 dx = none) (B : Bk K mg true (.ref y :: vs) G1 (upd (upd H1 dx (.own y)) y (.ins C dx [])) own z z0 v G2 H2) : Go K mg σ τ G1 H1 τ G2 H2 := by
  have s1 : Same H1 (upd (upd H1 dx (.own y)) y (.ins C dx [])) := fun b o h => by
    rw [upd_ne (ne_of_none h nx), upd_ne (ne_of_none h ndx)]; exact h
  have nr : ∀ b o, H1 b = some o → ¬ Rv true (V.ref y :: vs) b := fun b o h ⟨_, z⟩ => by
    cases z
    rw [nx] at h; cases h
  exact ⟨⟨B.gh, fun i d h => let ⟨v, a, r⟩ := A1.sh i d h; ⟨v, a, r.mono B.gg⟩, fun i d h => let ⟨p, o, a, g, c, r⟩ := A1.ow i d h; ⟨p, o, a, B.gf _ _ (nr _ _ c) (s1 _ _ c) g, B.hh _ _ (nr _ _ c) (s1 _ _ c), r.mono B.gg⟩, A1.ap, A1.ll⟩,
    B.gg, fun b h => s1.free (B.kp b h), fun b o _ h => B.hh b o (nr b o h) (s1 _ _ h), fun b o _ h g => B.gf b o (nr b o h) (s1 _ _ h) g, fun _ d h => ⟨d, h⟩, rfl⟩
theorem re_makeZ (gC : mg (os cn) = some (.ref C)) (hr : RA K mg t f) : RE K mg (tMakeZ C (spX K mg true m mx) E t) (fMake cn m f) := fun σ τ G H op τ' Q A e q => by
  obtain ⟨⟨ds, τ1⟩, e1, e⟩ := bind_some' e
  obtain ⟨r, e2, e⟩ := bind_some' e
  dsimp only at e2 e
  split at e
  · rename_i z0
    cases e
    refine hr σ τ G H ds _ _ A e1 fun vs G1 H1 g1 r1 y dx nx ndx nex => ?_
    have s1 : Same H1 (upd (upd H1 dx (.own y)) y (.ins C dx [])) := fun b o h => by
      rw [upd_ne (ne_of_none h nx), upd_ne (ne_of_none h ndx)]; exact h
    have A1 := g1.at'
    refine ⟨G1, _, A1.gh.trans s1, .io (A1.gh.free nx) upd_same (.ins gC .nil) r1, .inl ⟨false, .non, z0, e2, fun v G2 H2 B => ?_⟩⟩
    have ev : v = .non := by
      have h := B.rs
      cases h with
      | old r => cases r; rfl
    refine ⟨ev, ?_⟩
    obtain ⟨q', o', e', b1, b2, b3⟩ := B.io rfl
    cases e'
    refine q _ G2 H2 (g1.trans (make_go A1 nx ndx B)) (.tmp (g1.kp _ nx) b1 b2 b3 fun z => ?_)
    obtain ⟨_, o, e⟩ := A1.root z
    rw [nx] at e; cases e
  · cases e
theorem rex_make (gC : mg (os cn) = some (.ref C)) (hr : RA K mg t f) (hxa : RAX K mg W t xa) : REX K mg W (tMakeZ C (spX K mg true m mx) (WE W) t) (xMake cn mx f xa) := fun σ τ G H r τ' Q A e q => by
  rcases xAlt_get e with e | e
  · exact hxa σ τ G H r τ' _ A e q
  · obtain ⟨⟨ds, τ1⟩, e1, e⟩ := bind_some' e
    obtain ⟨⟨c, z, z0⟩, e2, e⟩ := bind_some' e
    cases e
    refine hr σ τ G H ds _ _ A e1 fun vs G1 H1 g1 r1 y dx nx ndx nex => ?_
    have s1 : Same H1 (upd (upd H1 dx (.own y)) y (.ins C dx [])) := fun b o h => by
      rw [upd_ne (ne_of_none h nx), upd_ne (ne_of_none h ndx)]; exact h
    exact ⟨G1, _, g1.at'.gh.trans s1, .io (g1.at'.gh.free nx) upd_same (.ins gC .nil) r1, .inr ⟨c, z, z0, e2, fun C' dx' G2 H2 B => q C' dx' G2 H2 (g1.trans (make_go g1.at' nx ndx B.bk)) B.xd⟩⟩
end
end

/-! #### the rules of calls -/
section
variable {X : Cx} {k n : Nat} {f C : Addr} {fd : FuncData} {ps ks : List PySem.Str} {sp : Sp} {E : L2.St → XK} {x mn : PySem.Str} {p pos apos : Pos} {e o : Expr} {es : List Expr} {kws : List Keyword} {te to : TE} {t tk : TA} {pl : Sem Bool} {pm : List Nat} {CX : CXT}
theorem run_fnZ {pins : List (Addr × Obj)} {σ : L2.St} {H : Hp} {s : Shared} {Q : VK} {us us2 : List Value} {kw : List (PySem.Str × Value)} {vs2 : List V} (F : FnOk X.prog X.w X.K X.mg X.base CX k f fd ps sp) (hr : Room k X.A) (hb : BindsTo s fd ⟨us, kw⟩ (ps.zip us2)) (hx : PassesAt CX X σ (E σ))
    (I : Inv X pins σ H s) (r : Vals vs2 us2) (h : sp vs2 H Q (E σ)) : wpAny (model X.prog X.w) X.A (call (.ref f) us kw) (EP X pins σ Q) X.xe s := by
  refine wpAny_call (codeAny_mono (F.run X.A X.stack s H ⟨us, kw⟩ us2 vs2 Q (E σ) hr I.env0 hb r h) fun r s' hq => ?_)
  cases r with
  | error e => exact hx pins H s e s' I hq
  | ok fl => cases fl <;> first | exact I.after hq | exact False.elim hq
theorem bi0 (F : FnOk X.prog X.w X.K X.mg X.base CX k f fd ps sp) (hb : Binds X.K fd ps []) {s : Shared} {us : List Value} {vs : List V} {H : Hp} {Q : VK} {E : XK} (kin : X.K.In s.heap) (r : Vals vs us) (h : sp vs H Q E) : BindsTo s fd ⟨us, []⟩ (ps.zip us) := by
  have b := hb s us kin (by rw [List.append_nil, ← r.length]; exact F.len _ _ _ _ h)
  rw [List.append_nil] at b
  exact b
theorem pe_callZ (F : FnOk X.prog X.w X.K X.mg X.base CX k f fd ps sp) (hr : Room k X.A) (hg : Gl X x) (hm : X.mg x = some (.ref f)) (hk : PySem.W.keepIn X.K (.ref f) = true) (hb : Binds X.K fd ps []) (hx : ∀ σ, PassesAt CX X σ (E σ)) (ha : PA X (e :: es) t)
    (hdb : (x == ("__debug__" : PySem.Str)) = false) (he : starEach (e :: es) X.env = (false, eval e X.env) :: starEach es X.env) (hpl : (backTo pos (starEach es X.env)).any (·.1) = false) : PE X (.Call (.Name x p) (e :: es) [] pos) (tCallZ sp E t) :=
  ⟨fun pins s σ H Q I h => wpAny_Call_Name_kw (ld_glob I hg hm (PySem.W.callWith_K (h₀ := X.base) I.ok.mod.kin hk (thn (ha.run pos pins s σ H _ I h) fun us s1 ⟨vs, H1, I1, r, q⟩ => ⟨I1.kIn, run_fnZ F hr (bi0 F hb I1.kIn r q) (hx σ) I1 r q⟩) he hpl) hdb)⟩
theorem pe_methZ (he : PE X o to) (c : Cls X.K C) (hm : Meth X.K C mn f) (F : FnOk X.prog X.w X.K X.mg X.base CX k f fd ps sp) (hr : Room k X.A) (hb : Binds X.K fd ps []) (hx : ∀ σ, PassesAt CX X σ (E σ)) (ha : PA X (e :: es) t)
    (hst : starEach (e :: es) X.env = (false, eval e X.env) :: starEach es X.env) (hpl : (backTo pos (starEach es X.env)).any (·.1) = false)
    (ht : eval (.Call (.Attribute o mn apos) (e :: es) [] pos) X.env = (do
      let ov ← eval o X.env; standAt apos.atName
      let (f, first) ← holding [ov] (getMethod ov mn pl); callWith pos f first (backTo pos (starEach (e :: es) X.env)) (backToKw pos (keywordEach [] X.env)))) : PE X (.Call (.Attribute o mn apos) (e :: es) [] pos) (tMethZ C mn sp E to t) := by
  refine ⟨fun pins s σ H Q I h => PySem.W.methodCall_KW (pl := pl) (thn (he.run pins s σ H _ I h) fun u s1 ⟨y, H1, I1, ry, a, dx, fs, ey, ea, l, q⟩ => ?_) ht⟩
  subst ey
  obtain rfl : u = Value.ref a := ry
  exact getmeth_ok I1 ea c hm l (PySem.W.callWith_K (first := [.ref a]) (h₀ := X.base) I.ok.mod.kin hm.kp (thn (ha.run pos pins s1 σ H1 _ I1 q) fun us s2 ⟨vs, H2, I2, r, q2⟩ => ⟨I2.kIn, by
    have r2 : Vals (V.ref a :: vs) (Value.ref a :: us) := .cons (show RelV (.ref a) (.ref a) from rfl) r
    exact run_fnZ F hr (bi0 F hb I2.kIn r2 q2) (hx σ) I2 r2 q2⟩) hst hpl)
theorem pe_methZ0 (he : PE X o to) (c : Cls X.K C) (hm : Meth X.K C mn f) (F : FnOk X.prog X.w X.K X.mg X.base CX k f fd ps sp) (hr : Room k X.A) (hb : Binds X.K fd ps []) (hx : ∀ σ, PassesAt CX X σ (E σ))
    (ht : eval (.Call (.Attribute o mn apos) [] [] pos) X.env = (do
      let ov ← eval o X.env; standAt apos.atName
      let (f, first) ← holding [ov] (getMethod ov mn pl); callWith pos f first (backTo pos (starEach [] X.env)) (backToKw pos (keywordEach [] X.env)))) : PE X (.Call (.Attribute o mn apos) [] [] pos) (tMethZ C mn sp E to tNil) := by
  refine ⟨fun pins s σ H Q I h => PySem.W.methodCall_KW (pl := pl) (thn (he.run pins s σ H _ I h) fun u s1 ⟨y, H1, I1, ry, a, dx, fs, ey, ea, l, q⟩ => ?_) ht⟩
  subst ey
  obtain rfl : u = Value.ref a := ry
  have r2 : Vals [V.ref a] [Value.ref a] := .cons (show RelV (.ref a) (.ref a) from rfl) .nil
  exact getmeth_ok I1 ea c hm l (PySem.W.callWith_K0 (first := [.ref a]) I1.kIn hm.kp (run_fnZ F hr (bi0 F hb I1.kIn r2 q) (hx σ) I1 r2 q))
theorem run_makeZ {pins : List (Addr × Obj)} {σ : L2.St} {H : Hp} {s : Shared} {Q : VK} {us : List Value} {vs : List V} (M : Mk X.K C f) (F : FnOk X.prog X.w X.K X.mg X.base CX k f fd ps sp) (hr : Room (k + 1) X.A) (hb : Binds X.K fd ps []) (hx : ∀ σ, PassesAt CX X σ (E σ)) (I : Inv X pins σ H s) (r : Vals vs us)
    (h : ∀ y dx, H y = none → H dx = none → dx ≠ y → sp (.ref y :: vs) (upd (upd H dx (.own y)) y (.ins C dx [])) (fun v G2 => v = .non ∧ Q (.ref y) G2) (E σ)) : wpAny (model X.prog X.w) X.A (call (.ref C) us) (EP X pins σ Q) X.xe s := by
  have hq := h (s.heap.objs.size + 1) s.heap.objs.size (I.hok.fresh (Nat.le_succ _)) (I.hok.fresh (Nat.le_refl _)) (Nat.ne_of_lt (Nat.lt_succ_self _))
  have I2 := Inv.made (C := C) I
  have r2 : Vals (V.ref (s.heap.objs.size + 1) :: vs) (Value.ref (s.heap.objs.size + 1) :: us) := .cons rfl r
  refine wpAny_call (make_map (f := f) I.kIn M.makes M.init (beq_iff_eq.mp M.fn) (codeAny_mono (F.run _ X.stack _ _ ⟨Value.ref (s.heap.objs.size + 1) :: us, []⟩ (Value.ref (s.heap.objs.size + 1) :: us) _ _ (E σ) (hr.make C us []) (I2.env0.make C us []) (bi0 F hb I2.kIn r2 hq) r2 hq) fun r s' hq' => ?_))
  cases r with
  | error e => exact hx σ pins _ _ e s' I2 hq'
  | ok fl =>
    cases fl with
    | ret u => obtain ⟨v, H', I3, rv, ev, q3⟩ := I2.after hq'; subst ev; exact ⟨rv, ⟨V.ref (s.heap.objs.size + 1), H', I3, rfl, q3⟩⟩
    | next => exact False.elim hq'
    | brk => exact False.elim hq'
    | cont => exact False.elim hq'
theorem pe_makeZ (M : Mk X.K C f) (F : FnOk X.prog X.w X.K X.mg X.base CX k f fd ps sp) (hr : Room (k + 1) X.A) (hg : Gl X x) (hm : X.mg x = some (.ref C)) (hb : Binds X.K fd ps []) (hx : ∀ σ, PassesAt CX X σ (E σ)) (ha : PA X (e :: es) t)
    (hdb : (x == ("__debug__" : PySem.Str)) = false) (he : starEach (e :: es) X.env = (false, eval e X.env) :: starEach es X.env) (hpl : (backTo pos (starEach es X.env)).any (·.1) = false) : PE X (.Call (.Name x p) (e :: es) [] pos) (tMakeZ C sp E t) :=
  ⟨fun pins s σ H Q I h => wpAny_Call_Name_kw (ld_glob I hg hm (PySem.W.callWith_K (h₀ := X.base) I.ok.mod.kin M.kp (thn (ha.run pos pins s σ H _ I h) fun us s1 ⟨vs, H1, I1, r, q⟩ => ⟨I1.kIn, run_makeZ M F hr hb hx I1 r q⟩) he hpl) hdb)⟩
end

/-! ### what is known of defs that may raise -/
section
variable (P : Program) (w : World) (K : PySem.W.Frag) (mg : Mg) (base : Heap)
structure KxF (f : Addr) (fd : FuncData) (x : String) (ps : List PySem.Str) (b : Bool) (k : Nat) (m : Mir) (mx : MirX) : Prop where
  ok : FnOk P w K mg base (L2.CX P w) k f fd ps (spX K mg b m mx)
  g : mg (os x) = some (.ref f)
  kp : PySem.W.keepIn K (.ref f) = true
  bi : Binds K fd ps []
structure KxM (C f : Addr) (fd : FuncData) (cn mn : String) (ps : List PySem.Str) (b : Bool) (k : Nat) (m : Mir) (mx : MirX) : Prop where
  ok : FnOk P w K mg base (L2.CX P w) k f fd ps (spX K mg b m mx)
  g : mg (os cn) = some (.ref C)
  cl : Cls K C
  me : Meth K C (os mn) f
  bi : Binds K fd ps []
structure KxC (C f : Addr) (fd : FuncData) (cn : String) (ps : List PySem.Str) (k : Nat) (m : Mir) (mx : MirX) : Prop where
  ok : FnOk P w K mg base (L2.CX P w) k f fd ps (spX K mg true m mx)
  g : mg (os cn) = some (.ref C)
  cm : Mk K C f
  bi : Binds K fd ps []
end
section
variable {P : Program} {w : World} {K : PySem.W.Frag} {mg : Mg} {base : Heap} {C f : Addr} {fd : FuncData} {x cn mn : String} {ps : List PySem.Str} {b : Bool} {k : Nat} {m : Mir} {mx : MirX}
theorem KxF.kn (h : KxF P w K mg base f fd x ps b k m mx) : KnF P w K mg base f fd x ps b k m := ⟨fnok0 h.ok, h.g, h.kp, h.bi⟩
theorem KxM.kn (h : KxM P w K mg base C f fd cn mn ps b k m mx) : KnM P w K mg base C f fd cn mn ps b k m := ⟨fnok0 h.ok, h.g, h.cl, h.me, h.bi⟩
theorem KxC.kn (h : KxC P w K mg base C f fd cn ps k m mx) : KnC P w K mg base C f fd cn ps k m := ⟨fnok0 h.ok, h.g, h.cm, h.bi⟩
end
section
variable {X : Cx} {W : WX} {k j : Nat} {ps : List PySem.Str} {m : Mir} {mx : MirX} {C f : Addr} {fd : FuncData} {x cn mn : String} {p pos apos : Pos} {e o : Expr} {es : List Expr} {t : TA} {fa : FA} {xa xo : FX} {te to : TE} {fe fo : FE} {pl : Sem Bool}
theorem xf_call {K : PySem.W.Frag} {mg : Mg} (h : KxF X.prog X.w K mg X.base f fd x ps false k m mx) (hr : Room j X.A) (tk : Takes X W) (ha : JAX X W (e :: es) t fa xa) (hj : k ≤ j := by decide) (hg : Gl X (os x) := by rfl) (hdb : (os x == ("__debug__" : PySem.Str)) = false := by decide)
    (he : starEach (e :: es) X.env = (false, eval e X.env) :: starEach es X.env := by rfl) (hpl : (backTo pos (starEach es X.env)).any (·.1) = false := by rfl) (hK : X.K = K := by rfl) (hM : X.mg = mg := by rfl) : JEX X W (.Call (.Name (os x) p) (e :: es) [] pos) (tCallZ (spX K mg false m mx) (WE W) t) (fCall m fa) (xCall mx fa xa) := by
  subst hK hM
  exact ⟨⟨pe_callZ h.ok (hr.mono hj) hg h.g h.kp h.bi (passAt tk) ha.ja.pa hdb he hpl, re_callZ ha.ja.ra⟩, rex_call ha.ja.ra ha.rx⟩
theorem xc_make {K : PySem.W.Frag} {mg : Mg} (h : KxC X.prog X.w K mg X.base C f fd cn ps k m mx) (hr : Room j X.A) (tk : Takes X W) (ha : JAX X W (e :: es) t fa xa) (hj : k + 1 ≤ j := by decide) (hg : Gl X (os cn) := by rfl) (hdb : (os cn == ("__debug__" : PySem.Str)) = false := by decide)
    (he : starEach (e :: es) X.env = (false, eval e X.env) :: starEach es X.env := by rfl) (hpl : (backTo pos (starEach es X.env)).any (·.1) = false := by rfl) (hK : X.K = K := by rfl) (hM : X.mg = mg := by rfl) : JEX X W (.Call (.Name (os cn) p) (e :: es) [] pos) (tMakeZ C (spX K mg true m mx) (WE W) t) (fMake cn m fa) (xMake cn mx fa xa) := by
  subst hK hM
  exact ⟨⟨pe_makeZ h.cm h.ok (hr.mono hj) hg h.g h.bi (passAt tk) ha.ja.pa hdb he hpl, re_makeZ h.g ha.ja.ra⟩, rex_make h.g ha.ja.ra ha.rx⟩
theorem xm_meth {K : PySem.W.Frag} {mg : Mg} (h : KxM X.prog X.w K mg X.base C f fd cn mn ps false k m mx) (hr : Room j X.A) (tk : Takes X W) (he : JEX X W o te fe xo) (ha : JAX X W (e :: es) t fa xa) (hj : k ≤ j := by decide)
    (hst : starEach (e :: es) X.env = (false, eval e X.env) :: starEach es X.env := by rfl) (hpl : (backTo pos (starEach es X.env)).any (·.1) = false := by rfl)
    (ht : eval (.Call (.Attribute o (os mn) apos) (e :: es) [] pos) X.env = (do
      let ov ← eval o X.env; standAt apos.atName
      let (f, first) ← holding [ov] (getMethod ov (os mn) pl); callWith pos f first (backTo pos (starEach (e :: es) X.env)) (backToKw pos (keywordEach [] X.env))) := by rfl) (hK : X.K = K := by rfl) (hM : X.mg = mg := by rfl) :
    JEX X W (.Call (.Attribute o (os mn) apos) (e :: es) [] pos) (tMethZ C (os mn) (spX K mg false m mx) (WE W) te t) (fMeth cn mn m fe fa) (xMeth cn mn mx fe xo fa xa) := by
  subst hK hM
  exact ⟨⟨pe_methZ he.je.pe h.cl h.me h.ok (hr.mono hj) h.bi (passAt tk) ha.ja.pa hst hpl ht, re_methZ h.g he.je.re ha.ja.ra⟩, rex_meth h.g he.je.re he.rx ha.ja.ra ha.rx⟩
theorem xm_methIo {K : PySem.W.Frag} {mg : Mg} (h : KxM X.prog X.w K mg X.base C f fd cn mn ps true k m mx) (hr : Room j X.A) (tk : Takes X W) (he : JEX X W o te fe xo) (ha : JAX X W (e :: es) t fa xa) (hj : k ≤ j := by decide)
    (hst : starEach (e :: es) X.env = (false, eval e X.env) :: starEach es X.env := by rfl) (hpl : (backTo pos (starEach es X.env)).any (·.1) = false := by rfl)
    (ht : eval (.Call (.Attribute o (os mn) apos) (e :: es) [] pos) X.env = (do
      let ov ← eval o X.env; standAt apos.atName
      let (f, first) ← holding [ov] (getMethod ov (os mn) pl); callWith pos f first (backTo pos (starEach (e :: es) X.env)) (backToKw pos (keywordEach [] X.env))) := by rfl) (hK : X.K = K := by rfl) (hM : X.mg = mg := by rfl) :
    JEX X W (.Call (.Attribute o (os mn) apos) (e :: es) [] pos) (tMethZ C (os mn) (spX K mg true m mx) (WE W) te t) (fMethIo cn mn m fe fa) (xMethIo cn mn mx fe xo fa xa) := by
  subst hK hM
  exact ⟨⟨pe_methZ he.je.pe h.cl h.me h.ok (hr.mono hj) h.bi (passAt tk) ha.ja.pa hst hpl ht, re_methIoZ h.g he.je.re ha.ja.ra⟩, rex_methIo h.g he.je.re he.rx ha.ja.ra ha.rx⟩
theorem xm_meth0Io {K : PySem.W.Frag} {mg : Mg} (h : KxM X.prog X.w K mg X.base C f fd cn mn ps true k m mx) (hr : Room j X.A) (tk : Takes X W) (he : JEX X W o te fe xo) (hj : k ≤ j := by decide)
    (ht : eval (.Call (.Attribute o (os mn) apos) [] [] pos) X.env = (do
      let ov ← eval o X.env; standAt apos.atName
      let (f, first) ← holding [ov] (getMethod ov (os mn) pl); callWith pos f first (backTo pos (starEach [] X.env)) (backToKw pos (keywordEach [] X.env))) := by rfl) (hK : X.K = K := by rfl) (hM : X.mg = mg := by rfl) :
    JEX X W (.Call (.Attribute o (os mn) apos) [] [] pos) (tMethZ C (os mn) (spX K mg true m mx) (WE W) te tNil) (fMethIo cn mn m fe aNil) (xMethIo cn mn mx fe xo aNil xNo) := by
  subst hK hM
  exact ⟨⟨pe_methZ0 he.je.pe h.cl h.me h.ok (hr.mono hj) h.bi (passAt tk) ht, re_methIoZ h.g he.je.re ra_nil⟩, rex_methIo h.g he.je.re he.rx ra_nil fun _ _ _ _ _ _ _ _ e => by cases e⟩
end
end J
namespace J
open PySem PySem.Spec PyProof.Rows L2

/-! ### a def that may raise -/
section
variable {P : Program} {w : World} {K : PySem.W.Frag} {mg : Mg} {base : Heap}
theorem fin_xk {b : Bool} {G H G' H' : Hp} {vs : List V} {σ : L2.St} {τ : Tau} {r : XR} {z0 : D} {C dx : Addr} (F : Fr K mg (if b = true then vs.head? else none) (Rv b vs) G H G' H' σ τ) (hv : b = true → ∃ w, vs.head? = some w) (xd : Xd K mg G' r C dx)
    (e : ioOut b τ = some z0) : Xk K mg b vs G H r z0 C dx G' H' := by
  have B := fin_bk (own := false) (z := .non) (z0 := z0) F hv (.val .non) (op := .val .non) (by unfold finF resOp; rw [e]; rfl)
  exact ⟨B.gg, B.gh, B.kp, B.hh, B.gf, B.io, xd⟩
theorem jfunX {x qual : PySem.Str} {st : Stmt} {f : Addr} {fd : FuncData} {N ps : List PySem.Str} {k n np : Nat} {b : Bool} {F : FS} {X : FX} {m : Mir} {mx : MirX} (hm : m = runF b n np F) (hmx : mx = runX b n np X) (hn : n = N.length) (hnp : np = ps.length) (Fn : Fun K x qual st f fd) (S : FnScope N ps (defScope st))
    (body : ∀ (cdv : Value) (A : Around) (outer : List Env) (s : Shared) (H : Hp) (E : XK), Room k (A.deeper (envOfC qual (defScope st) s.heap.objs.size f cdv)) →
      ∃ t, JSsX (cxOf (L2.CX P w) P w K mg base N qual (defScope st) f cdv A outer s H E) (fun c d _ G => E c d G) b (defBody st) t F X) :
    FnOk P w K mg base (L2.CX P w) (k + 1) f fd ps (spX K mg b m mx) := by
  subst hm hmx hn hnp
  have hN : ps.length ≤ N.length := by
    have h := congrArg List.length S.pre
    rw [List.length_take] at h
    omega
  have len : ∀ {vs : List V} {ds : List D} {G H : Hp}, Ar K mg G H b vs ds → ((∃ own z z0, runF b N.length ps.length F ds = some (own, z, z0)) ∨ ∃ c z z0, runX b N.length ps.length X ds = some (c, z, z0)) → vs.length = ps.length ∧ ds.length = ps.length := fun {vs ds G H} a h => by
    have h2 : ds.length = ps.length := by
      rcases h with ⟨_, _, _, h⟩ | ⟨_, _, _, h⟩
      · exact runF_len h
      · exact runX_len h
    exact ⟨a.length.trans h2, h2⟩
  refine Fn.okX S (fun vs H Q E h => ?_) (fun cdv A outer s H vs Q E hr h => ?_)
  · obtain ⟨G, ds, _, a, h⟩ := h
    refine (len a ?_).1
    rcases h with ⟨own, z, z0, h, _⟩ | ⟨c, z, z0, h, _⟩
    · exact .inl ⟨_, _, _, h⟩
    · exact .inr ⟨_, _, _, h⟩
  · obtain ⟨G, ds, sm, a, h⟩ := h
    obtain ⟨t, hs⟩ := body cdv A outer s H E hr
    have hb : b = true → ∃ w, vs.head? = some w := fun hb => by
      subst hb
      cases a with
      | io _ _ _ _ => exact ⟨_, rfl⟩
    rcases h with ⟨own, z, z0, e, q⟩ | ⟨c, z, z0, e, q⟩
    · obtain ⟨h1, hlen⟩ := len a (.inl ⟨_, _, _, e⟩)
      unfold runF at e
      rw [if_pos hlen] at e
      obtain ⟨fl, e1, e⟩ := bind_some' e
      have F0 := at_ini (N := N) sm a (by rw [h1]; exact hN)
      refine ⟨t, hs.js.ps, hs.js.rs _ _ _ _ _ _ _ _ _ fl (fun hb' => by rw [hb']; rfl) F0 e1 ?_⟩
      cases fl with
      | nx τ' => exact fun σ' G' H' F' => q _ G' H' (fin_bk F' hb (.val .non) e)
      | rt op τ' => exact fun v σ' G' H' F' o => q v G' H' (fin_bk F' hb o e)
      | bk τ' => cases e
      | ct τ' => cases e
    · obtain ⟨h1, hlen⟩ := len a (.inr ⟨_, _, _, e⟩)
      unfold runX at e
      rw [if_pos hlen] at e
      obtain ⟨⟨r, τ'⟩, e1, e⟩ := bind_some' e
      obtain ⟨z0', e2, e⟩ := bind_some' e
      cases e
      have F0 := at_ini (N := N) sm a (by rw [h1]; exact hN)
      exact ⟨t, hs.js.ps, hs.rx _ _ _ _ _ _ _ _ _ r τ' (fun hb' => by rw [hb']; rfl) F0 e1 fun σ' G' H' C dx F' xd => q C dx G' H' (fin_xk F' hb xd e2)⟩
end

/-! ### the error classes -/
/-- which class is below which: all stand below SquareError -/
def erSub (c c2 : String) : Bool := decide (c = c2) || decide (c2 = "SquareError")
structure ErC (K : PySem.W.Frag) (C : Addr) : Prop where
  ox : OexC K C
  xf : XfC K C
  nv : PySem.W.findIn K (.ref C) (os "value") = some none
  ic : (PySem.W.clsIn K C).isSome = true
  ha : PySem.W.findIn K (.ref C) "__class__" = some (some (.builtin "object.__class__"))
  hn : PySem.W.specialIn K (.builtin "object.__class__") "__get__" = some (some (.builtin "getset_descriptor.__get__"))
  ht : PySem.W.takesIn K (.builtin "object.__class__") = some true
  hm : PySem.W.mroIn K C (.type "object") = some true
  sv : PySem.W.subIn K (.ref C) (.type "ValueError") = some true
structure ErOk (K : PySem.W.Frag) (mg : Mg) (U : List String) : Prop where
  one : ∀ c ∈ U, ∀ C, mg (os c) = some (.ref C) → ErC K C
  sub : ∀ c ∈ U, ∀ c2 ∈ U, ∀ C C2, mg (os c) = some (.ref C) → mg (os c2) = some (.ref C2) → PySem.W.subIn K (.ref C) (.ref C2) = some (erSub c c2) ∧ (erSub c c2 = false → C ≠ C2)
theorem ErOk.exm {K : PySem.W.Frag} {mg : Mg} {U : List String} (T : ErOk K mg U) {c c2 : String} (h : c ∈ U) (h2 : c2 ∈ U) {C C2 : Addr} (g : mg (os c) = some (.ref C)) (g2 : mg (os c2) = some (.ref C2)) : PySem.W.exmOne K (.ref C) (.ref C2) = some (erSub c c2) :=
  PySem.W.exm_ref (T.one c2 h2 C2 g2).xf.exC (T.one c2 h2 C2 g2).xf.hdC (T.one c2 h2 C2 g2).ox.tyC (T.sub c h c2 h2 C C2 g g2).1
/-- what C(e) makes of an error class needs -/
def spI (K : PySem.W.Frag) : Sp := fun vs H Q _ => ∃ (a C : Addr) (y : V), vs = [.ref a, y] ∧ OexC K C ∧ PySem.W.findIn K (.ref C) (os "value") = some none ∧ H a = some (exo a C none) ∧
  ∀ dx, H dx = none → dx ≠ a → Q .non (upd (upd H dx (exd dx [(os "value", y)])) a (exo a C (some dx)))
structure KxI (P : Program) (w : World) (K : PySem.W.Frag) (mg : Mg) (base : Heap) (fI : Addr) (fd : FuncData) (U : List String) : Prop where
  ok : FnOk P w K mg base CX0 1 fI fd ["self", "value"] (spI K)
  bi : Binds K fd ["self", "value"] []
  ini : ∀ c ∈ U, ∀ C, mg (os c) = some (.ref C) → PySem.W.findIn K (.ref C) "__init__" = some (some (.ref fI))
  ty : PySem.W.typeIn K (.ref fI) = some (.type "function")
theorem init_ok {P : Program} {w : World} {K : PySem.W.Frag} {mg : Mg} {base : Heap} {qual : PySem.Str} {st : Stmt} {f : Addr} {fd : FuncData} (Fn : Fun K "__init__" qual st f fd) (S : FnScope ["self", "value"] ["self", "value"] (defScope st))
    (body : ∀ (cdv : Value) (A : Around) (outer : List Env) (s : Shared) (H : Hp) (E : XK), Room 0 (A.deeper (envOfC qual (defScope st) s.heap.objs.size f cdv)) →
      PSs (cxOf CX0 P w K mg base ["self", "value"] qual (defScope st) f cdv A outer s H E).nox (defBody st) (tOst K (os "value") (tVar 0) (tVar 1))) : FnOk P w K mg base CX0 1 f fd ["self", "value"] (spI K) := by
  refine Fn.ok (k := 0) S (fun vs H Q E ⟨a, C, y, e, _⟩ => by rw [e]; rfl) (fun cdv A outer s H vs Q E hr ⟨a, C, y, e, T, hno, ha, q⟩ => ?_)
  subst e
  exact ⟨_, body cdv A outer s H E hr, y, rfl, .ref a, rfl, a, C, rfl, T, hno, .inl ⟨ha, fun dx n ne => q dx n ne⟩⟩
section
variable {X : Cx} {W : WX} {b : Bool} {j : Nat} {fI : Addr} {fd : FuncData} {cn : String} {e : Expr} {t : TA} {fa : FA} {p pos pos2 : Pos} {U : List String}
theorem jsx_raise {K : PySem.W.Frag} {mg : Mg} {C : Addr} (h : KxI X.prog X.w K mg X.base fI fd U) (T : ErOk K mg U) (hU : cn ∈ U) (gC : mg (os cn) = some (.ref C)) (hc : X.calm = true) (hr : Room j X.A) (tk : Takes X W) (ha : JA X [e] t fa) (hj : 2 ≤ j := by decide) (hg : Gl X (os cn) := by rfl)
    (hdb : (os cn == ("__debug__" : PySem.Str)) = false := by decide) (he : starEach [e] X.env = (false, eval e X.env) :: starEach [] X.env := by rfl) (hpl : (backTo pos (starEach [] X.env)).any (·.1) = false := by rfl) (hK : X.K = K := by rfl) (hM : X.mg = mg := by rfl) :
    JSX X W b (.Raise (some (.Call (.Name (os cn) p) [e] [] pos)) none pos2) (fun _ σ H => tMkO C (spI K) [] t σ H fun c d G => W c d σ G) sNo (xRaise cn fa) := by
  subst hK hM
  have E := T.one cn hU C gC
  refine ⟨⟨ps_raise hc tk (pmk_oex E.ox (h.ini cn hU C gC) h.ty h.ok (hr.mono hj) h.bi .nil pass0 hg gC ha.pa hdb he hpl), fun _ _ _ _ _ _ _ _ _ _ _ _ e => by cases e⟩, fun io R0 G0 H0 G H σ τ D r τ' hb F e k => ?_⟩
  obtain ⟨⟨ds, τ1⟩, e1, e⟩ := bind_some' e
  dsimp only at e
  split at e
  · rename_i d
    cases e
    refine ha.ra σ τ G H _ _ _ F.at' e1 fun vs G1 H1 g1 r1 => ?_
    cases r1 with
    | @cons y _ vs' _ ry rn =>
      cases rn
      refine ⟨by simp, fun a na => ?_⟩
      refine ⟨a, C, y, rfl, E.ox, E.nv, upd_same, fun dx n ne => ⟨rfl, dx, [(os "value", y)], upd_same, ?_, ?_, ?_⟩⟩
      · rw [upd_ne ne, upd_same]
      · rw [upd_ne ne] at n; exact n
      · have ndx : H1 dx = none := by rw [upd_ne ne] at n; exact n
        have hh : upd (del (upd (upd (upd H1 a (exo a C none)) dx (exd dx [(os "value", y)])) a (exo a C (some dx))) a) dx (.xd [(os "value", y)]) = upd H1 dx (.xd [(os "value", y)]) := by
          funext b
          by_cases hb : b = dx
          · subst hb; rw [upd_same, upd_same]
          · rw [upd_ne hb, upd_ne hb]
            by_cases hba : b = a
            · subst hba; rw [del_same]; exact na.symm
            · rw [del_ne hba, upd_ne hba, upd_ne hb, upd_ne hba]
        rw [hh]
        have g2 := g1.trans (Go.newF (o := .xd [(os "value", y)]) g1.at' ndx)
        refine k σ _ _ C dx (F.go g2) ⟨gC, y, upd_same, ry.mono ?_⟩
        exact fun b' x e' => by rw [upd_ne (ne_of_none e' (g1.at'.gh.free ndx))]; exact e'
  · cases e
end

/-! ### within an except suite -/
def exAt (c : String) (a dx i : Nat) (τ : Tau) : Option D := match τ[i]? with
  | some (some (.sh (.exc a' dx' c' v))) => if a' = a ∧ dx' = dx ∧ c' = c then some v else none
  | _ => none
/-- e.value -/
def fEv (c : String) (a dx i : Nat) (τ : Tau) : Option (Op × Tau) := (exAt c a dx i τ).bind fun v => some (.val v, τ)
/-- isinstance(e, D) -/
def fEis (c : String) (a dx i : Nat) (b : Bool) (τ : Tau) : Option (Op × Tau) := (exAt c a dx i τ).bind fun _ => some (.val (.bl b), τ)
theorem exAt_get {K : PySem.W.Frag} {mg : Mg} {G H : Hp} {σ : L2.St} {τ : Tau} {c : String} {a dx i : Nat} {v : D} (A : At K mg G H σ τ) (h : exAt c a dx i τ = some v) : σ[i]? = some (some (.ref a)) ∧ ∃ w, H dx = some (.xd [(os "value", w)]) ∧ Rp K mg G w v := by
  unfold exAt at h
  split at h
  · rename_i a' dx' c' v' hq
    obtain ⟨⟨rfl, rfl, rfl⟩, rfl⟩ := if_get h
    obtain ⟨u, h1, h2⟩ := A.sh _ _ hq
    cases h2 with
    | exc h3 h4 => exact ⟨h1, _, A.gh _ _ h3, h4⟩
  · cases h
/-- isinstance(e, D), e the exception in hand -/
def rEis (K : PySem.W.Frag) (C a dx : Addr) : List V → Hp → VK → Prop := fun xs H Q => ∃ (c : V) (cv : Value) (b : Bool) (fs : List (PySem.Str × V)), xs = [.ref a, c] ∧ (∀ u, RelV c u → u = cv) ∧ PySem.W.kitOne K (.ref C) cv = some b ∧ H dx = some (.xd fs) ∧ Q (.bl b) H
theorem call_eis {X : Cx} {a C dx : Addr} {oe : Obj} {pn : List (Addr × Obj)} (T : ErC X.K C) (hz : Zc (.ref C) (some dx) oe) (hf : ∃ vs, oe.data = .fields vs) : CallR (X.suite a ((a, oe) :: pn)) (.builtin "isinstance") (rEis X.K C a dx) := by
  intro pins s σ H xs us Q I r h
  obtain ⟨c, cv, b, fs, rfl, hcv, e, hdx, q⟩ := h
  cases r with
  | cons rx rr =>
    cases rr with
    | cons rt rr =>
      cases rr
      cases rx
      have ec := hcv _ rt
      subst ec
      obtain ⟨hget, _⟩ := I.pin (a, oe) (List.mem_append.mpr (.inl List.mem_cons_self))
      obtain ⟨vs, hv⟩ := hf
      have hx : ObjOk X.prog X.w H s.heap dx (.xd fs) := I.hok dx _ hdx
      obtain ⟨mA, hns, hr⟩ := hx
      obtain ⟨od, ho, hl⟩ := lookIn_ns hns
      have J : PySem.W.InstAt s.heap a oe C (some od) := ⟨hget, hz.1, by unfold PySem.W.notCls; rw [hv] <;> rfl, by rw [hz.2]; exact ho⟩
      exact PySem.W.kia_one (PySem.W.kitx_exc (od := some od) T.ic T.xf.ga T.xf.gg T.xf.exC T.ha T.hn T.ht T.hm) I.kIn J e (fun z => nomatch z) fun tk => ⟨.bl b, H, I.kept (t' := tk) fun _ _ z => z, rfl, q⟩
section
variable {X : Cx} {a dx C : Addr} {oe : Obj} {pn : List (Addr × Obj)} {c c2 : String} {i : Nat} {n : PySem.Str} {p p2 p3 pos : Pos} {U : List String}
theorem je_ev {K : PySem.W.Frag} {mg : Mg} (i : Nat) (T : ErOk K mg U) (hU : c ∈ U) (gC : mg (os c) = some (.ref C)) (hz : Zc (.ref C) (some dx) oe) (hf : ∃ vs, oe.data = .fields vs) (hN : X.N[i]? = some n := by rfl) (hv : Vis X.env.scope n := by first | exact Or.inl rfl | exact Or.inr (Or.inl rfl) | exact Or.inr (Or.inr rfl)) (hd : (n == ("__debug__" : PySem.Str)) = false := by decide)
    (hcd : (n == ("__classdict__" : PySem.Str)) = false := by decide) (hb : attributeBase (.Name n p) (os "value") X.env (eval (.Name n p) X.env) = eval (.Name n p) X.env := by rfl) (hK : X.K = K := by rfl) (hM : X.mg = mg := by rfl) :
    JE (X.suite a ((a, oe) :: pn)) (.Attribute (.Name n p) (os "value") pos) (tXf a (.ref C) (some dx) C (os "value") (tVar i)) (fEv c a dx i) := by
  subst hK hM
  refine ⟨pe_xf (X := X) (T.one c hU C gC).xf (T.one c hU C gC).nv hz hf (pe_var (X := X.suite a ((a, oe) :: pn)) hN hv hd hcd) hb, fun σ τ G H op τ' Q A e q => ?_⟩
  obtain ⟨v, e1, e⟩ := bind_some' e
  cases e
  obtain ⟨h1, w, h2, h3⟩ := exAt_get A e1
  exact ⟨.ref a, h1, rfl, rfl, dx, _, w, rfl, h2, rfl, q w G H (Go.refl A) (.val h3)⟩
theorem je_eis {K : PySem.W.Frag} {mg : Mg} {C2 : Addr} (i : Nat) (T : ErOk K mg U) (hU : c ∈ U) (gC : mg (os c) = some (.ref C)) (hU2 : c2 ∈ U) (g2 : mg (os c2) = some (.ref C2)) (hz : Zc (.ref C) (some dx) oe) (hf : ∃ vs, oe.data = .fields vs) (hm : X.mg "isinstance" = none) (hN : X.N[i]? = some n := by rfl) (hv : Vis X.env.scope n := by first | exact Or.inl rfl | exact Or.inr (Or.inl rfl) | exact Or.inr (Or.inr rfl)) (hd : (n == ("__debug__" : PySem.Str)) = false := by decide)
    (hcd : (n == ("__classdict__" : PySem.Str)) = false := by decide) (hg : Gl X "isinstance" := by rfl) (hg2 : Gl X (os c2) := by rfl) (hd2 : (os c2 == ("__debug__" : PySem.Str)) = false := by decide)
    (hs : starEach (.Name n p :: .Name (os c2) p2 :: []) X.env = (false, eval (.Name n p) X.env) :: starEach (.Name (os c2) p2 :: []) X.env := by rfl) (hs2 : starEach (.Name (os c2) p2 :: []) X.env = (false, eval (.Name (os c2) p2) X.env) :: starEach [] X.env := by rfl)
    (hpl : (backTo pos (starEach (.Name (os c2) p2 :: []) X.env)).any (·.1) = false := by rfl) (hK : X.K = K := by rfl) (hM : X.mg = mg := by rfl) :
    JE (X.suite a ((a, oe) :: pn)) (.Call (.Name "isinstance" p3) [.Name n p, .Name (os c2) p2] [] pos) (tCB (rEis K C a dx) (tCons (tVar i) (tCons (tC (.ref C2)) tNil))) (fEis c a dx i (erSub c c2)) := by
  subst hK hM
  have E2 := T.one c2 hU2 C2 g2
  have S := T.sub c hU c2 hU2 C C2 gC g2
  refine ⟨pe_callB (X := X.suite a ((a, oe) :: pn)) (call_eis (T.one c hU C gC) hz hf) hg hm (by decide +kernel) (pa_cons (pe_var (X := X.suite a ((a, oe) :: pn)) hN hv hd hcd) (pa_cons (pe_glob (X := X.suite a ((a, oe) :: pn)) hg2 g2 rfl hd2) pa_nil hs2) hs) (by decide) (by decide) hs hpl, fun σ τ G H op τ' Q A e q => ?_⟩
  obtain ⟨v, e1, e⟩ := bind_some' e
  cases e
  obtain ⟨h1, w, h2, h3⟩ := exAt_get A e1
  refine ⟨.ref a, h1, .ref C2, .ref C2, erSub c c2, _, rfl, fun u hu => hu, ?_, h2, q _ G H (Go.refl A) (.val (.bl _))⟩
  unfold PySem.W.kitOne
  by_cases he : C = C2
  · rw [if_pos (by simpa using he)]
    cases hq : erSub c c2 with
    | true => rfl
    | false => exact absurd he (S.2 hq)
  · rw [if_neg (by simpa using he)]
    show (if ((PySem.W.clsIn X.K C2).isSome && PySem.W.typeIn X.K (.ref C2) == some (.type "type")) = true then PySem.W.subIn X.K (.ref C) (.ref C2) else none) = _
    rw [if_pos (by rw [E2.ic, E2.ox.tyC]; rfl)]
    exact S.1
end

/-! ### try -/
open Classical in
noncomputable def hRun (i : Nat) (F : Nat → Nat → FS) (r : XR) (τ : Tau) : Option Flow := if h : ∃ τ' : Tau, ∀ a dx, ∃ τ2, F a dx (τ.set i (some (.sh (.exc a dx r.1 r.2)))) = some (.nx τ2) ∧ τ2.set i none = τ' then some (.nx (Classical.choose h)) else none
theorem hRun_of {i : Nat} {F : Nat → Nat → FS} {r : XR} {τ τ' : Tau} (h : ∀ a dx, ∃ τ2, F a dx (τ.set i (some (.sh (.exc a dx r.1 r.2)))) = some (.nx τ2) ∧ τ2.set i none = τ') : hRun i F r τ = some (.nx τ') := by
  unfold hRun
  have z : ∃ τ' : Tau, ∀ a dx, ∃ τ2, F a dx (τ.set i (some (.sh (.exc a dx r.1 r.2)))) = some (.nx τ2) ∧ τ2.set i none = τ' := ⟨τ', h⟩
  rw [dif_pos z]
  obtain ⟨t1, e1, e2⟩ := Classical.choose_spec z 0 0
  obtain ⟨t2, e3, e4⟩ := h 0 0
  rw [e1] at e3
  cases e3
  rw [← e4, e2]
theorem hRun_get {i : Nat} {F : Nat → Nat → FS} {r : XR} {τ : Tau} {fl : Flow} (h : hRun i F r τ = some fl) : ∃ τ', fl = .nx τ' ∧ ∀ a dx, ∃ τ2, F a dx (τ.set i (some (.sh (.exc a dx r.1 r.2)))) = some (.nx τ2) ∧ τ2.set i none = τ' := by
  unfold hRun at h
  split at h
  · rename_i z
    cases h
    exact ⟨_, rfl, Classical.choose_spec z⟩
  · cases h
abbrev HF := String × Nat × (String → Nat → Nat → FS)
noncomputable def hPick (U : List String) : List HF → XR → Tau → Option Flow
  | [], _, _ => none
  | h :: l, r, τ => if r.1 ∈ U then (if erSub r.1 h.1 = true then hRun h.2.1 (h.2.2 r.1) r τ else hPick U l r τ) else none
noncomputable def sTry (U : List String) (f : FS) (x : FX) (l : List HF) (τ : Tau) : Option Flow := match f τ with
  | some fl => some fl
  | none => (x τ).bind fun r => hPick U l r.1 r.2
/-- the suite of a clause, whatever is caught -/
def tSui (mg : Mg) (U : List String) (c2 : String) (ts : String → Addr → Addr → Addr → TS) (a : Addr) (cls : Value) (d : Option Addr) : TS := fun D σ H => ∃ c C dx, c ∈ U ∧ erSub c c2 = true ∧ cls = .ref C ∧ d = some dx ∧ mg (os c) = some (.ref C) ∧ ts c a dx C D σ H
inductive HsOk (X : Cx) (U : List String) (b : Bool) : List ExceptHandler → List HF → List Clause → Prop
  | nil : HsOk X U b [] [] []
  | cons {n : PySem.Str} {i : Nat} {c2 : String} {C2 : Addr} {F : String → Nat → Nat → FS} {ts : String → Addr → Addr → Addr → TS} {s0 : Stmt} {su : List Stmt} {np pp : Pos} {hs : List ExceptHandler} {l : List HF} {cl : List Clause} (hU : c2 ∈ U) (g2 : X.mg (os c2) = some (.ref C2)) (hb : b = false ∨ i ≠ 0)
      (hsu : ∀ (c : String) (a dx C : Addr) (oe : Obj) (pn : List (Addr × Obj)), c ∈ U → X.mg (os c) = some (.ref C) → Zc (.ref C) (some dx) oe → (∃ vs, oe.data = .fields vs) → JSs (X.suite a ((a, oe) :: pn)) b (s0 :: su) (ts c a dx C) (F c a dx)) (r : HsOk X U b hs l cl)
      (hi : X.N[i]? = some n := by rfl) (hl : X.env.kindOf n = some .local := by rfl) (hg : Gl X (os c2) := by rfl) (hdb : (os c2 == ("__debug__" : PySem.Str)) = false := by decide) :
      HsOk X U b (.ExceptHandler (some (.Name (os c2) np)) (some n) (s0 :: su) pp :: hs) ((c2, i, F) :: l) ((.ref C2, i, tSui X.mg U c2 ts) :: cl)
section
variable {X : Cx} {U : List String} {b : Bool}
theorem HsOk.cs : ∀ {hs : List ExceptHandler} {l : List HF} {cl : List Clause}, HsOk X U b hs l cl → CsOk X hs cl
  | _, _, _, .nil => .nil
  | _, _, _, .cons hU g2 hb hsu r hi hl hg hdb => .cons hi hl ⟨hg, hdb, .inl g2⟩ (fun a oe cls d pn hz hf => ⟨fun pins s σ H D I h => by
      obtain ⟨c, C, dx, h1, h2, rfl, rfl, h3, h4⟩ := h
      exact (hsu c a dx C oe pn h1 h3 hz hf).ps.run pins s σ H D I h4⟩) (HsOk.cs r)
theorem HsOk.pick (T : ErOk X.K X.mg U) {Wo : WX} {io : Option V} {R0 : Addr → Prop} {G0 H0 : Hp} {D : Ends} {fl : Flow} {r : XR} {τ : Tau} (hb : b = false → io = none) (k : Kn X.K X.mg io R0 G0 H0 D fl) {G H : Hp} {σ : L2.St} {C dx : Addr}
    (F : Fr X.K X.mg io R0 G0 H0 G H σ τ) (xd : Xd X.K X.mg G r C dx) : ∀ {hs : List ExceptHandler} {l : List HF} {cl : List Clause}, HsOk X U b hs l cl → hPick U l r τ = some fl → wAll X.K Wo D cl (.ref C) (some dx) σ H
  | _, _, _, .nil, e => by cases e
  | _, _, _, @HsOk.cons _ _ _ n i c2 C2 Fh ts s0 su np pp hs l cl hU g2 hbi hsu rr hi hl hg hdb, e => by
    unfold hPick at e
    obtain ⟨hr, e⟩ := if_get' e
    refine ⟨erSub r.1 c2, T.exm hr hU xd.cl g2, fun hy a na => ?_, fun hn => ?_⟩
    · have e : (if erSub r.1 c2 = true then hRun i (Fh r.1) r τ else hPick U l r τ) = some fl := e
      rw [if_pos hy] at e
      obtain ⟨τ', rfl, e0⟩ := hRun_get e
      obtain ⟨τ2, e1, e2⟩ := e0 a dx
      obtain ⟨w, h1, h2⟩ := xd.va
      have rp : Rp X.K X.mg G (.ref a) (.exc a dx r.1 r.2) := .exc h1 h2
      obtain ⟨A, ro⟩ := F.at'.setSh (i := i) F.ll rp
      have F2 : Fr X.K X.mg io R0 G0 H0 G H (σ.set i (some (.ref a))) (τ.set i (some (.sh (.exc a dx r.1 r.2)))) := F.slots A (fun b h => F.rr b (ro b h)) (pr_set hb hbi F.pr) (by rw [List.length_set, List.length_set]; exact F.ll)
      refine ⟨r.1, C, dx, hr, hy, rfl, rfl, xd.cl, ?_⟩
      have J := hsu r.1 a dx C { cls := .ref C, dict := some dx, data := .fields #[] } [] hr xd.cl ⟨rfl, rfl⟩ ⟨_, rfl⟩
      refine J.rs io R0 G0 H0 G H _ _ _ (.nx τ2) hb F2 e1 fun σ' G' H' F' => ?_
      have wip : Fr X.K X.mg io R0 G0 H0 G' H' (σ'.set i none) τ' := by
        rw [← e2]
        have keep : ∀ {j : Nat} {c : Cell}, (τ2.set i none)[j]? = some (some c) → j ≠ i ∧ τ2[j]? = some (some c) := fun {j c} h => by
          rcases get_set h with ⟨_, z⟩ | z
          · cases z
          · exact z
        have A' := F'.at'
        refine F'.slots ⟨A'.gh, fun j x h => ?_, fun j x h => ?_, fun j q p x y hj hk pj pk => ?_, by rw [List.length_set, List.length_set]; exact A'.ll⟩ (fun b' ⟨j, x, hj, pj⟩ => ?_) (pr_set hb hbi F'.pr) (by rw [List.length_set, List.length_set]; exact F'.ll)
        · obtain ⟨n', z⟩ := keep h
          obtain ⟨v, h3, h4⟩ := A'.sh j x z
          exact ⟨v, by rw [List.getElem?_set_ne (Ne.symm n')]; exact h3, h4⟩
        · obtain ⟨n', z⟩ := keep h
          obtain ⟨p, o, h3, h4⟩ := A'.ow j x z
          exact ⟨p, o, by rw [List.getElem?_set_ne (Ne.symm n')]; exact h3, h4⟩
        · obtain ⟨n1, z1⟩ := keep hj
          obtain ⟨n2, z2⟩ := keep hk
          rw [List.getElem?_set_ne (Ne.symm n1)] at pj
          rw [List.getElem?_set_ne (Ne.symm n2)] at pk
          exact A'.ap j q p x y z1 z2 pj pk
        · obtain ⟨n1, z1⟩ := keep hj
          rw [List.getElem?_set_ne (Ne.symm n1)] at pj
          exact F'.rr b' ⟨j, x, z1, pj⟩
      exact k _ G' H' wip
    · have e : (if erSub r.1 c2 = true then hRun i (Fh r.1) r τ else hPick U l r τ) = some fl := e
      rw [if_neg (by rw [hn]; exact Bool.false_ne_true)] at e
      exact HsOk.pick T hb k F xd rr e
theorem js_try {K : PySem.W.Frag} {mg : Mg} {body : List Stmt} {h0 : ExceptHandler} {hs : List ExceptHandler} {l : List HF} {cl : List Clause} {pos : Pos} {tb : WX → TS} {f : FS} {x : FX} (T : ErOk K mg U) (hst : X.stack = X.env :: X.outer) (hfr : X.env.frame = some X.env.locals) (hN : X.N.Nodup)
    (hb : ∀ (W : WX) (pn : List (Addr × Obj)) (xe : Value → Shared → Prop), Takes (X.tr pn xe) W → PassesOwn (model X.prog X.w) X.A X.env xe → JSsX (X.tr pn xe) W b body (tb W) f x) (hh : HsOk X U b (h0 :: hs) l cl) (hK : X.K = K := by rfl) (hM : X.mg = mg := by rfl) :
    JS X b (.Try body (h0 :: hs) [] [] pos) (fun D σ H => tb (wAll K (fun _ _ _ _ => False) D cl) D σ H) (sTry U f x l) := by
  subst hK hM
  refine ⟨ps_try_all hst hfr hN takes0 (fun W pn xe tk po => (hb W pn xe tk po).js.ps) hh.cs, fun io R0 G0 H0 G H σ τ D fl hio F e k => ?_⟩
  have body := hb (wAll X.K (fun _ _ _ _ => False) D cl) (X.pn ++ []) (xeTry X (h0 :: hs) [] D) (takes_try hst hfr hN takes0 hh.cs) PassesOwn.looking
  cases hf : f τ with
  | some fl' =>
    have e2 := e
    unfold sTry at e2
    rw [hf] at e2
    cases e2
    exact body.js.rs io R0 G0 H0 G H σ τ D fl hio F hf k
  | none =>
    have e2 : (x τ).bind (fun r => hPick U l r.1 r.2) = some fl := by
      have e3 := e
      unfold sTry at e3
      rw [hf] at e3
      exact e3
    obtain ⟨⟨r, τ'⟩, hx, e'⟩ := bind_some' e2
    exact body.rx io R0 G0 H0 G H σ τ D r τ' hio F hx fun σ' G' H' C dx F' xd => hh.pick T hio k F' xd e'
end
end J
namespace J
open PySem PySem.Spec PyProof.Rows L2

/-! ### what is read first may raise: more forms -/
section
variable {X : Cx} {W : WX} {b : Bool} {e e2 : Expr} {te tf : TE} {fe ff : FE} {x y : FX} {pos pos' : Pos}
theorem jsx_set {i : Nat} {n : PySem.Str} (hN : X.N.Nodup) (hb : b = false ∨ i ≠ 0) (he : JEX X W e te fe x) (hi : X.N[i]? = some n := by rfl) (hx : Loc X.env.scope n := by first | exact Or.inl rfl | exact Or.inr rfl)
    (hs : swapsWith e (some (.Name n pos')) pos.line X.env = pure false := by rfl) (hf : X.fn n = true ∨ X.env.scope.names.lookup n = some .local := by first | exact .inl rfl | exact .inr rfl | assumption) :
    JSX X W b (.Assign [.Name n pos'] e pos) (tAsg te (gName i)) (sSet i fe) x := jsx_asg (js_set hN hb he.je hi hx hs hf) he.rx
theorem jsx_setF {i : Nat} {n : PySem.Str} (hN : X.N.Nodup) (hb : b = false ∨ i ≠ 0) (he : JEX X W e te fe x) (hi : X.N[i]? = some n := by rfl) (hx : Loc X.env.scope n := by first | exact Or.inl rfl | exact Or.inr rfl)
    (hs : swapsWith e (some (.Name n pos')) pos.line X.env = pure false := by rfl) (hf : X.fn n = true ∨ X.env.scope.names.lookup n = some .local := by first | exact .inl rfl | exact .inr rfl | assumption) :
    JSX X W b (.Assign [.Name n pos'] e pos) (tAsg te (gName i)) (sSetF i fe) x := jsx_asg (js_setF hN hb he.je hi hx hs hf) he.rx
theorem jsx_unp {tg : Expr} {is : List Nat} {g : TG} {fg : FG} (h0 : b = false ∨ 0 ∉ is) (he : JEX X W e te fe x) (hg : JG X tg is g fg) (hs : swapsWithSole [tg] e pos.line X.env = pure false := by rfl) (hw : swappedStores [tg] e X.env = pure none := by rfl) (h1 : (assignEach [tg] X.env).map (·.2) = [assign tg X.env] := by rfl) :
    JSX X W b (.Assign [tg] e pos) (tAsg te g) (sUnp fe fg) x := jsx_asg (js_unp h0 he.je hg hs hw h1) he.rx
theorem jex_add (ha : JEX X W e te fe x) (hb : JEX X W e2 tf ff y) : JEX X W (.BinOp e .Add e2 pos) (tOp qAdd te tf) (fBin gAdd fe ff) (xTwo fe x y) := ⟨je_add ha.je hb.je, rex_two ha.je.re ha.rx hb.rx⟩
theorem jex_sub (ha : JEX X W e te fe x) (hb : JEX X W e2 tf ff y) : JEX X W (.BinOp e .Sub e2 pos) (tOp qSub te tf) (fBin gSub fe ff) (xTwo fe x y) := ⟨je_sub ha.je hb.je, rex_two ha.je.re ha.rx hb.rx⟩
theorem jex_mul (ha : JEX X W e te fe x) (hb : JEX X W e2 tf ff y) : JEX X W (.BinOp e .Mult e2 pos) (tOp qMul te tf) (fBin gMul fe ff) (xTwo fe x y) := ⟨je_mul ha.je hb.je, rex_two ha.je.re ha.rx hb.rx⟩
theorem jex_ix {K : PySem.W.Frag} (ha : JEX X W e te fe x) (hb : JE X e2 tf ff) (hs : PlainIx e2 := by exact fun _ _ => rfl) (hK : X.K = K := by rfl) : JEX X W (.Subscript e e2 pos) (tOp (rIx K) te tf) (fBin gIx fe ff) x :=
  jex_un (je_ix ha.je hb hs hK) ha.rx fun σ H Q h => h _
end
section
variable {X : Cx} {W : WX} {k j : Nat} {ps : List PySem.Str} {m : Mir} {C f pa : Addr} {fd : FuncData} {x cn mn : String} {p pos apos : Pos} {e o : Expr} {es : List Expr} {t : TA} {fa : FA} {xa xo : FX} {te to : TE} {fe fo : FE} {pl : Sem Bool}
theorem xp_prop {K : PySem.W.Frag} {mg : Mg} (h : KnP X.prog X.w K mg X.base C pa f fd cn mn ps false k m) (hr : Room j X.A) (he : JEX X W e te fe xo) (hj : k + 1 ≤ j := by decide) (hab : attributeBase e (os mn) X.env (eval e X.env) = eval e X.env := by rfl) (hK : X.K = K := by rfl) (hM : X.mg = mg := by rfl) :
    JEX X W (.Attribute e (os mn) pos) (tProp C (spM K mg false m) [] E0 te) (fProp cn m fe) xo := jex_un (kp_prop h hr he.je hj hab hK hM) he.rx fun σ H Q h => h _
theorem xa_call {K : PySem.W.Frag} {mg : Mg} (h : KnF X.prog X.w K mg X.base f fd x ps false k m) (hr : Room j X.A) (ha : JAX X W (e :: es) t fa xa) (hj : k ≤ j := by decide) (hg : Gl X (os x) := by rfl) (hdb : (os x == ("__debug__" : PySem.Str)) = false := by decide)
    (he : starEach (e :: es) X.env = (false, eval e X.env) :: starEach es X.env := by rfl) (hpl : (backTo pos (starEach es X.env)).any (·.1) = false := by rfl) (hK : X.K = K := by rfl) (hM : X.mg = mg := by rfl) : JEX X W (.Call (.Name (os x) p) (e :: es) [] pos) (tCall (spM K mg false m) [] E0 t) (fCall m fa) xa :=
  ⟨kf_call h hr ha.ja hj hg hdb he hpl hK hM, fun σ τ G H r τ' Q A e q => ha.rx σ τ G H r τ' _ A e q⟩
end
end J
namespace J
open PySem PySem.Spec PyProof.Rows L2

/-! ### constants of the modules -/
def GcI (mg : Mg) (x : String) (i : Int) : Prop := ∃ t, mg (os x) = some (.int i t)
def GcT (K : PySem.W.Frag) (mg : Mg) (x : String) (is : List Int) : Prop := ∃ a, mg (os x) = some (.ref a) ∧ ∃ (o : Obj) (its : Array Value) (n : Nat), K.lookup a = some o ∧ o.cls = .type "tuple" ∧ o.data = .seq its n ∧ its.size ≤ sizeLine ∧ Vals (is.map V.int) its.toList
section
variable {X : Cx} {x : String} {pos : Pos}
theorem je_gci {mg : Mg} {i : Int} (h : GcI mg x i) (hg : Gl X (os x) := by rfl) (hd : (os x == ("__debug__" : PySem.Str)) = false := by decide) (hM : X.mg = mg := by rfl) : JE X (.Name (os x) pos) (tC (.int i)) (fC (.int i)) := by
  subst hM
  obtain ⟨t, h⟩ := h
  exact ⟨pe_glob hg h ⟨t, rfl⟩ hd, re_c fun _ => .int i⟩
theorem je_gct {K : PySem.W.Frag} {mg : Mg} {is : List Int} (h : GcT K mg x is) (hg : Gl X (os x) := by rfl) (hd : (os x == ("__debug__" : PySem.Str)) = false := by decide) (hK : X.K = K := by rfl) (hM : X.mg = mg := by rfl) : JE X (.Name (os x) pos) (tC (.ref (Classical.choose h))) (fC (.tup (is.map D.int))) := by
  subst hK hM
  obtain ⟨h1, h2⟩ := Classical.choose_spec h
  exact ⟨pe_glob hg h1 rfl hd, re_c fun G => .tup (.inr h2) (ints_rp is)⟩
end

/-! ### o.m(.., k = v) that may raise -/
section
variable {X : Cx} {k n : Nat} {f C : Addr} {fd : FuncData} {ps ks : List PySem.Str} {sp : Sp} {E : L2.St → XK} {pm : List Nat} {mn : PySem.Str} {p pos apos : Pos} {e o : Expr} {es : List Expr} {kws : List Keyword} {te to : TE} {t tk : TA} {pl : Sem Bool} {CX : CXT}
theorem pe_methNZ (he : PE X o to) (c : Cls X.K C) (hm : Meth X.K C mn f) (F : FnOk X.prog X.w X.K X.mg X.base CX k f fd ps sp) (hr : Room k X.A) (hb : KwB X.K fd ps ks (n + 1) (0 :: pm.map Nat.succ)) (hx : ∀ σ, PassesAt CX X σ (E σ)) (ha : PA X (e :: es) t) (hkw : PK X kws tk)
    (hall : (backToKw pos (keywordEach kws X.env)).all (·.1.isSome) = true) (hks : (backToKw pos (keywordEach kws X.env)).filterMap (·.1) = ks) (hst : starEach (e :: es) X.env = (false, eval e X.env) :: starEach es X.env)
    (hpl : ((backTo pos (starEach (e :: es) X.env)).any (·.1) || (backToKw pos (keywordEach kws X.env)).any (·.1.isNone)) = false)
    (ht : eval (.Call (.Attribute o mn apos) (e :: es) kws pos) X.env = (do
      let ov ← eval o X.env; standAt apos.atName
      let (f, first) ← holding [ov] (getMethod ov mn pl); callWith pos f first (backTo pos (starEach (e :: es) X.env)) (backToKw pos (keywordEach kws X.env)))) : PE X (.Call (.Attribute o mn apos) (e :: es) kws pos) (tMethZ C mn sp E to (tPk n ks.length pm t tk)) := by
  refine ⟨fun pins s σ H Q I h => PySem.W.methodCall_KW (pl := pl) (thn (he.run pins s σ H _ I h) fun u s1 ⟨y, H1, I1, ry, a, dx, fs, ey, ea, l, q⟩ => ?_) ht⟩
  subst ey
  obtain rfl : u = Value.ref a := ry
  refine getmeth_ok I1 ea c hm l (PySem.W.callWith_KW (first := [.ref a]) (h₀ := X.base) I.ok.mod.kin hm.kp hall (thn (ha.run pos pins s1 σ H1 _ I1 q) fun us s2 ⟨vs, H2, I2, r, q2⟩ => thn (hkw.run pos pins s2 σ H2 _ I2 q2) fun ws s3 ⟨zs, H3, I3, rz, l1, l2, q3⟩ => ⟨I3.kIn, ?_⟩) hpl hst)
  rw [hks]
  have r2 : Vals (V.ref a :: vs) (Value.ref a :: us) := .cons (show RelV (.ref a) (.ref a) from rfl) r
  refine run_fnZ F hr (hb s3 (.ref a :: us) ws I3.kIn (by rw [← r2.length]; exact congrArg Nat.succ l1) (rz.length.symm.trans l2)) (hx σ) I3 (vals_pk (r2.append rz) _) ?_
  show sp (pk (0 :: pm.map Nat.succ) (.ref a :: (vs ++ zs))) H3 Q (E σ)
  rw [pk_succ]
  exact q3
theorem pe_methNZ0 (he : PE X o to) (c : Cls X.K C) (hm : Meth X.K C mn f) (F : FnOk X.prog X.w X.K X.mg X.base CX k f fd ps sp) (hr : Room k X.A) (hb : KwB X.K fd ps ks 1 (0 :: pm.map Nat.succ)) (hx : ∀ σ, PassesAt CX X σ (E σ)) (hkw : PK X kws tk)
    (hall : (backToKw pos (keywordEach kws X.env)).all (·.1.isSome) = true) (hks : (backToKw pos (keywordEach kws X.env)).filterMap (·.1) = ks)
    (hpl : ((backTo pos (starEach [] X.env)).any (·.1) || (backToKw pos (keywordEach kws X.env)).any (·.1.isNone)) = false)
    (ht : eval (.Call (.Attribute o mn apos) [] kws pos) X.env = (do
      let ov ← eval o X.env; standAt apos.atName
      let (f, first) ← holding [ov] (getMethod ov mn pl); callWith pos f first (backTo pos (starEach [] X.env)) (backToKw pos (keywordEach kws X.env)))) : PE X (.Call (.Attribute o mn apos) [] kws pos) (tMethZ C mn sp E to (tPk 0 ks.length pm tNil tk)) := by
  refine ⟨fun pins s σ H Q I h => PySem.W.methodCall_KW (pl := pl) (thn (he.run pins s σ H _ I h) fun u s1 ⟨y, H1, I1, ry, a, dx, fs, ey, ea, l, q⟩ => ?_) ht⟩
  subst ey
  obtain rfl : u = Value.ref a := ry
  refine getmeth_ok I1 ea c hm l (PySem.W.callWith_KW0 (first := [.ref a]) (h₀ := X.base) I.ok.mod.kin hm.kp hall (thn (hkw.run pos pins s1 σ H1 _ I1 q) fun ws s3 ⟨zs, H3, I3, rz, l1, l2, q3⟩ => ⟨I3.kIn, ?_⟩) hpl)
  rw [hks]
  have r2 : Vals [V.ref a] [Value.ref a] := .cons (show RelV (.ref a) (.ref a) from rfl) .nil
  refine run_fnZ F hr (hb s3 [.ref a] ws I3.kIn rfl (rz.length.symm.trans l2)) (hx σ) I3 (vals_pk (r2.append rz) _) ?_
  show sp (pk (0 :: pm.map Nat.succ) (.ref a :: zs)) H3 Q (E σ)
  rw [pk_succ]
  exact q3
end
section
variable {X : Cx} {W : WX} {k j n : Nat} {ps ks : List PySem.Str} {m : Mir} {mx : MirX} {pm : List Nat} {C f : Addr} {fd : FuncData} {cn mn : String} {p pos apos : Pos} {e o : Expr} {es : List Expr} {kws : List Keyword} {t tw : TA} {fa fk : FA} {xo : FX} {te : TE} {fe : FE} {pl : Sem Bool}
theorem rax_no {K : PySem.W.Frag} {mg : Mg} {W : WX} {t : TA} : RAX K mg W t xNo := fun _ _ _ _ _ _ _ _ e => by cases e
theorem xm_methN {K : PySem.W.Frag} {mg : Mg} (h : KxM X.prog X.w K mg X.base C f fd cn mn ps false k m mx) (hb : KwB K fd ps ks (n + 1) (0 :: pm.map Nat.succ)) (hr : Room j X.A) (tk : Takes X W) (he : JEX X W o te fe xo) (ha : JA X (e :: es) t fa) (hw : JK X kws tw fk) (hj : k ≤ j := by decide)
    (hall : (backToKw pos (keywordEach kws X.env)).all (·.1.isSome) = true := by rfl) (hks : (backToKw pos (keywordEach kws X.env)).filterMap (·.1) = ks := by rfl) (hst : starEach (e :: es) X.env = (false, eval e X.env) :: starEach es X.env := by rfl)
    (hpl : ((backTo pos (starEach (e :: es) X.env)).any (·.1) || (backToKw pos (keywordEach kws X.env)).any (·.1.isNone)) = false := by rfl)
    (ht : eval (.Call (.Attribute o (os mn) apos) (e :: es) kws pos) X.env = (do
      let ov ← eval o X.env; standAt apos.atName
      let (f, first) ← holding [ov] (getMethod ov (os mn) pl); callWith pos f first (backTo pos (starEach (e :: es) X.env)) (backToKw pos (keywordEach kws X.env))) := by rfl) (hK : X.K = K := by rfl) (hM : X.mg = mg := by rfl) :
    JEX X W (.Call (.Attribute o (os mn) apos) (e :: es) kws pos) (tMethZ C (os mn) (spX K mg false m mx) (WE W) te (tPk n ks.length pm t tw)) (fMeth cn mn m fe (aPk n ks.length pm fa fk)) (xMeth cn mn mx fe xo (aPk n ks.length pm fa fk) xNo) := by
  subst hK hM
  exact ⟨⟨pe_methNZ he.je.pe h.cl h.me h.ok (hr.mono hj) hb (passAt tk) ha.pa hw.pk hall hks hst hpl ht, re_methZ h.g he.je.re (ra_pk ha.ra hw.ra)⟩, rex_meth h.g he.je.re he.rx (ra_pk ha.ra hw.ra) rax_no⟩
theorem xm_methN0 {K : PySem.W.Frag} {mg : Mg} (h : KxM X.prog X.w K mg X.base C f fd cn mn ps false k m mx) (hb : KwB K fd ps ks 1 (0 :: pm.map Nat.succ)) (hr : Room j X.A) (tk : Takes X W) (he : JEX X W o te fe xo) (hw : JK X kws tw fk) (hj : k ≤ j := by decide)
    (hall : (backToKw pos (keywordEach kws X.env)).all (·.1.isSome) = true := by rfl) (hks : (backToKw pos (keywordEach kws X.env)).filterMap (·.1) = ks := by rfl)
    (hpl : ((backTo pos (starEach [] X.env)).any (·.1) || (backToKw pos (keywordEach kws X.env)).any (·.1.isNone)) = false := by rfl)
    (ht : eval (.Call (.Attribute o (os mn) apos) [] kws pos) X.env = (do
      let ov ← eval o X.env; standAt apos.atName
      let (f, first) ← holding [ov] (getMethod ov (os mn) pl); callWith pos f first (backTo pos (starEach [] X.env)) (backToKw pos (keywordEach kws X.env))) := by rfl) (hK : X.K = K := by rfl) (hM : X.mg = mg := by rfl) :
    JEX X W (.Call (.Attribute o (os mn) apos) [] kws pos) (tMethZ C (os mn) (spX K mg false m mx) (WE W) te (tPk 0 ks.length pm tNil tw)) (fMeth cn mn m fe (aPk 0 ks.length pm aNil fk)) (xMeth cn mn mx fe xo (aPk 0 ks.length pm aNil fk) xNo) := by
  subst hK hM
  exact ⟨⟨pe_methNZ0 he.je.pe h.cl h.me h.ok (hr.mono hj) hb (passAt tk) hw.pk hall hks hpl ht, re_methZ h.g he.je.re (ra_pk ra_nil hw.ra)⟩, rex_meth h.g he.je.re he.rx (ra_pk ra_nil hw.ra) rax_no⟩
end

/-! ### isinstance(e, ValueError) -/
section
variable {X : Cx} {a dx C : Addr} {oe : Obj} {pn : List (Addr × Obj)} {c : String} {n : PySem.Str} {p p2 p3 pos : Pos} {U : List String}
theorem je_eisV {K : PySem.W.Frag} {mg : Mg} (i : Nat) (T : ErOk K mg U) (hU : c ∈ U) (gC : mg (os c) = some (.ref C)) (hz : Zc (.ref C) (some dx) oe) (hf : ∃ vs, oe.data = .fields vs) (hm : X.mg "isinstance" = none) (hm2 : X.mg "ValueError" = none) (hN : X.N[i]? = some n := by rfl) (hv : Vis X.env.scope n := by first | exact Or.inl rfl | exact Or.inr (Or.inl rfl) | exact Or.inr (Or.inr rfl)) (hd : (n == ("__debug__" : PySem.Str)) = false := by decide)
    (hcd : (n == ("__classdict__" : PySem.Str)) = false := by decide) (hg : Gl X "isinstance" := by rfl) (hg2 : Gl X "ValueError" := by rfl)
    (hs : starEach (.Name n p :: .Name "ValueError" p2 :: []) X.env = (false, eval (.Name n p) X.env) :: starEach (.Name "ValueError" p2 :: []) X.env := by rfl) (hs2 : starEach (.Name "ValueError" p2 :: []) X.env = (false, eval (.Name "ValueError" p2) X.env) :: starEach [] X.env := by rfl)
    (hpl : (backTo pos (starEach (.Name "ValueError" p2 :: []) X.env)).any (·.1) = false := by rfl) (hK : X.K = K := by rfl) (hM : X.mg = mg := by rfl) :
    JE (X.suite a ((a, oe) :: pn)) (.Call (.Name "isinstance" p3) [.Name n p, .Name "ValueError" p2] [] pos) (tCB (rEis K C a dx) (tCons (tVar i) (tCons (tC (.ty "ValueError")) tNil))) (fEis c a dx i true) := by
  subst hK hM
  refine ⟨pe_callB (X := X.suite a ((a, oe) :: pn)) (call_eis (T.one c hU C gC) hz hf) hg hm (by decide +kernel) (pa_cons (pe_var (X := X.suite a ((a, oe) :: pn)) hN hv hd hcd) (pa_cons (pe_bltn (X := X.suite a ((a, oe) :: pn)) hg2 hm2 PyProof.Rows.Boot.«ValueError» rfl (by decide) (by decide)) pa_nil hs2) hs) (by decide) (by decide) hs hpl, fun σ τ G H op τ' Q A e q => ?_⟩
  obtain ⟨v, e1, e⟩ := bind_some' e
  cases e
  obtain ⟨h1, w, h2, h3⟩ := exAt_get A e1
  refine ⟨.ref a, h1, .ty "ValueError", .type "ValueError", true, _, rfl, fun u hu => hu, ?_, h2, q _ G H (Go.refl A) (.val (.bl _))⟩
  unfold PySem.W.kitOne
  rw [if_neg (by simp)]
  show (if PySem.W.kitMeta "ValueError" = true then PySem.W.subIn X.K (.ref C) (.type "ValueError") else none) = _
  rw [if_pos (by decide +kernel), (T.one c hU C gC).sv]
end
end J
namespace J
open PySem PySem.Spec PyProof.Rows L2

/-! ### an own == with another thing -/
inductive Fgn (K : PySem.W.Frag) (H : Hp) : V → Value → Prop
  | int (i : Int) : Fgn K H (.int i) (.type "int")
  | bl (b : Bool) : Fgn K H (.bl b) (.type "bool")
  | non : Fgn K H .non (.type "NoneType")
  | str (x : PySem.Str) : Fgn K H (.str x) (.type "str")
  | lst {a : Addr} {xs : List V} : SqL K H a xs → Fgn K H (.ref a) (.type "list")
  | tup {a : Addr} {xs : List V} : SqT K H a xs → Fgn K H (.ref a) (.type "tuple")
  | ins {a C dx : Addr} {fs : List (PySem.Str × V)} : H a = some (.ins C dx fs) → Fgn K H (.ref a) (.ref C)
theorem Fgn.looks {X : Cx} {pins : List (Addr × Obj)} {σ : L2.St} {H : Hp} {s : Shared} {y : V} {u tb : Value} (I : Inv X pins σ H s) (r : RelV y u) (f : Fgn X.K H y tb) : PySem.W.Looks (model X.prog X.w) s.heap (typeOf u) tb := by
  cases f with
  | int i => obtain ⟨t, rfl⟩ := r; exact PySem.W.Looks.of_pure rfl
  | bl b => cases r; exact PySem.W.Looks.of_pure rfl
  | non => cases r; exact PySem.W.Looks.of_pure rfl
  | str x => obtain ⟨t, rfl⟩ := r; exact PySem.W.Looks.of_pure rfl
  | lst h =>
    cases r
    obtain ⟨its, _, ⟨o, n, ho, hc, _⟩, _⟩ := I.list h
    exact hc ▸ (PySem.W.Looks.ld ho).andThen .now
  | tup h =>
    cases r
    obtain ⟨its, _, ⟨o, ho, hc, _⟩, _⟩ := I.tuple h
    exact hc ▸ (PySem.W.Looks.ld ho).andThen .now
  | ins h =>
    cases r
    obtain ⟨mA, J, _⟩ := ins_get I.hok h
    obtain ⟨od, J, _⟩ := J.look
    exact J.type
def rMF (K : PySem.W.Frag) (C : Addr) (sp : Sp) : R2 := fun x y H Q => ∃ a dx fs tb, x = .ref a ∧ H a = some (.ins C dx fs) ∧ Fgn K H y tb ∧ PySem.W.notFirst K C tb = true ∧ sp [x, y] H Q E0
def rMnF (K : PySem.W.Frag) (C : Addr) (sp : Sp) : R2 := fun x y H Q => ∃ a dx fs tb, x = .ref a ∧ H a = some (.ins C dx fs) ∧ Fgn K H y tb ∧ PySem.W.notFirst K C tb = true ∧ sp [x, y] H (fun v H' => ∃ r, v = .bl r ∧ Q (.bl (!r)) H') E0
section
variable {X : Cx} {k : Nat} {f C : Addr} {fd : FuncData} {ps : List PySem.Str} {sp : Sp}
theorem run_opMF {pins : List (Addr × Obj)} {σ : L2.St} {H : Hp} {s : Shared} {Q : VK} {a : Addr} {y : V} {u : Value} (F : FnOk X.prog X.w X.K X.mg X.base CX0 k f fd ps sp) (hr : Room k X.A) (hb : Binds X.K fd ps [])
    (I : Inv X pins σ H s) (ry : RelV y u) (h : sp [.ref a, y] H Q E0) : wpAny (model X.prog X.w) X.A (call (.ref f) [.ref a, u]) (PySem.W.CmpBack (EP X pins σ Q)) X.xe s :=
  wpAny_mono (run_fn (us := [.ref a, u]) (vs := [.ref a, y]) F hr hb .nil pass0 I (.cons rfl (.cons ry .nil)) (by rw [List.append_nil]; exact h)) (fun u s' h => back_of h) fun _ _ e => e
theorem op_cmpMF {op : CmpOp} (F : FnOk X.prog X.w X.K X.mg X.base CX0 k f fd ps sp) (hr : Room k X.A) (hb : Binds X.K fd ps []) (hs : PySem.W.findIn X.K (.ref C) (cmpInfo op).2.1 = some (some (.ref f))) (hf : PySem.W.isFn X.K (.ref f) = true)
    (ho : ∀ a b, compareOp op a b = richCompare op a b) : OpR X (compareOp op) (rMF X.K C sp) := by
  intro pins s σ H x y v u Q I rx ry h
  obtain ⟨a, dx, fs, tb, rfl, ha, hy, hn, hsp⟩ := h
  cases rx
  obtain ⟨mA, J, _⟩ := ins_get I.hok ha
  obtain ⟨od, J, _⟩ := J.look
  rw [ho]
  obtain ⟨_, hF⟩ := I.fr
  exact PySem.W.cmp_K (op := op) (tb := tb) hr.units0 hF I.ok.mod.kin J (hy.looks I ry) hn hs hf (run_opMF F hr hb I ry hsp)
theorem run_opAtF {A : Around} {pins : List (Addr × Obj)} {σ : L2.St} {H : Hp} {s : Shared} {Q : VK} {a : Addr} {y : V} {u : Value} (F : FnOk X.prog X.w X.K X.mg X.base CX0 k f fd ps sp) (hr : Room k A) (fr : A.frames = X.A.frames) (hb : Binds X.K fd ps [])
    (I : Inv X pins σ H s) (ry : RelV y u) (h : sp [.ref a, y] H Q E0) : wpAny (model X.prog X.w) A (call (.ref f) [.ref a, u]) (EP X pins σ Q) X.xe s := by
  have e0 : Env0 X.prog X.w X.K X.mg X.base A X.stack s H := by
    have e := I.env0
    exact ⟨by rw [fr]; exact e.frames, e.mod, e.bs, e.bsz, e.funs, e.frf, e.hok, e.bare⟩
  have hl := F.len _ _ _ _ h
  have r2 : Vals [V.ref a, y] [Value.ref a, u] := .cons rfl (.cons ry .nil)
  refine wpAny_call (codeAny_mono (F.run A X.stack s H ⟨[.ref a, u], []⟩ [.ref a, u] [.ref a, y] _ E0 hr e0 (by
    have := hb s [.ref a, u] I.kIn (by simpa using hl)
    simpa using this) r2 h) fun r s' hq => ?_)
  cases r with
  | error e => exact pass0 pins σ H s e s' I hq
  | ok fl =>
    cases fl with
    | ret w => exact I.after hq
    | next => exact False.elim hq
    | brk => exact False.elim hq
    | cont => exact False.elim hq
end
section
variable {prog : Program} {w : World} {A : Around} {E : Value → Shared → Prop} {s : Shared} {K : PySem.W.Frag} {x C L f : Addr} {ox : Obj} {od : Option Obj} {b tb : Value}
open PySem.W in
theorem ne_richF {Q : Value → Shared → Prop} (X : K.In s.heap) (I : InstAt s.heap x ox C od) (hb : Looks (model prog w) s.heap (typeOf b) tb) (hnf : notFirst K C tb = true) (hn : findIn K (.ref C) "__ne__" = some (some (.builtin "object.__ne__"))) (ho : subIn K (.ref C) (.type "object") = some true)
    (hs : findIn K (.ref C) "__eq__" = some (some (.ref f))) (hf : isFn K (.ref f) = true) (hu : A.units + 1 < cLine)
    (h : wpAny (model prog w) A.in1 (call (.ref f) [.ref x, b]) (fun v s' => ∃ r, v = .bool r ∧ Q (.bool (!r)) s') E s) : wpAny (model prog w) A (richCompare .NotEq (.ref x) b) Q E s := by
  have one : wpAny (model prog w) A (tryCompare (.ref x) "__ne__" b) (fun r s' => ∃ v, r = some v ∧ Q v s') E s :=
    ne_try X I hn ho hs hf hu (wpAny_mono h (fun v s' ⟨r, e, q⟩ => ⟨r, e, _, rfl, q⟩) fun _ _ e => e)
  unfold richCompare
  simp only [oneThing_ref]
  refine wpAny_holding (wpAny_bind (wpAny_cRoomFor (by omega) ?_))
  rw [cmpInfo_NotEq]
  refine wpAny_bind (I.type.here (wpAny_bind (hb.here ?_)))
  split
  · rename_i q
    have e : subIn K tb (.ref C) = some false := by
      rcases Bool.or_eq_true_iff.mp hnf with e | e
      · rw [beq_iff_eq.mp e] at q; simp at q
      · exact beq_iff_eq.mp e
    refine wpAny_bind ((looks_subIn X e).here ?_)
    simp only [Bool.false_eq_true, if_false]
    refine wpAny_bind (wpAny_mono one (fun r s' z => ?_) fun _ _ e => e)
    obtain ⟨v, rfl, hq⟩ := z
    exact wpAny_pure hq
  · refine wpAny_bind (wpAny_pure ?_)
    simp only [Bool.false_eq_true, if_false]
    refine wpAny_bind (wpAny_mono one (fun r s' z => ?_) fun _ _ e => e)
    obtain ⟨v, rfl, hq⟩ := z
    exact wpAny_pure hq
end
section
variable {X : Cx} {k : Nat} {f C : Addr} {fd : FuncData} {ps : List PySem.Str} {sp : Sp}
theorem op_neMF (F : FnOk X.prog X.w X.K X.mg X.base CX0 k f fd ps sp) (hr : Room (k + 1) X.A) (hb : Binds X.K fd ps []) (hn : PySem.W.findIn X.K (.ref C) "__ne__" = some (some (.builtin "object.__ne__"))) (ho : PySem.W.subIn X.K (.ref C) (.type "object") = some true)
    (hs : PySem.W.findIn X.K (.ref C) "__eq__" = some (some (.ref f))) (hf : PySem.W.isFn X.K (.ref f) = true) : OpR X (compareOp .NotEq) (rMnF X.K C sp) := by
  intro pins s σ H x y v u Q I rx ry h
  obtain ⟨a, dx, fs, tb, rfl, ha, hy, hnf, hsp⟩ := h
  cases rx
  obtain ⟨mA, J, _⟩ := ins_get I.hok ha
  obtain ⟨od, J, _⟩ := J.look
  show wpAny (model X.prog X.w) X.A (richCompare .NotEq (.ref a) u) _ _ s
  refine ne_richF I.kIn J (hy.looks I ry) hnf hn ho hs hf (by have := hr.units; omega) (wpAny_mono (run_opAtF F hr.in1 rfl hb I ry hsp) (fun v s' h => ?_) fun _ _ e => e)
  obtain ⟨z, H', I', r, t, e, q⟩ := h
  subst e
  cases r
  exact ⟨t, rfl, .bl (!t), H', I', rfl, q⟩
end
/-! #### their mirrors -/
/-- what may stand behind an own ==: plain things and instances of the classes cs -/
def fgn (cs : List String) : D → Bool
  | .int _ | .bl _ | .non | .str _ | .lst _ | .tup _ => true
  | .ins c _ => decide (c ∈ cs)
  | _ => false
def gEqF (cn : String) (cs : List String) (m : Mir) (d e : D) : Option Op := if insC cn d = true ∧ fgn cs e = true then (m [d, e]).bind fun r => some (mkOp r.1 r.2.1) else none
def gNeF (cn : String) (cs : List String) (m : Mir) (d e : D) : Option Op := if insC cn d = true ∧ fgn cs e = true then (m [d, e]).bind fun r => match r with
    | (false, .bl b, _) => some (.val (.bl !b))
    | _ => none
  else none
/-- other things do not come first -/
structure NfOk (K : PySem.W.Frag) (mg : Mg) (cn : String) (cs : List String) : Prop where
  int : ∀ C, mg (os cn) = some (.ref C) → PySem.W.notFirst K C (.type "int") = true
  bl : ∀ C, mg (os cn) = some (.ref C) → PySem.W.notFirst K C (.type "bool") = true
  non : ∀ C, mg (os cn) = some (.ref C) → PySem.W.notFirst K C (.type "NoneType") = true
  str : ∀ C, mg (os cn) = some (.ref C) → PySem.W.notFirst K C (.type "str") = true
  lst : ∀ C, mg (os cn) = some (.ref C) → PySem.W.notFirst K C (.type "list") = true
  tup : ∀ C, mg (os cn) = some (.ref C) → PySem.W.notFirst K C (.type "tuple") = true
  ins : ∀ C, mg (os cn) = some (.ref C) → ∀ c ∈ cs, ∀ C', mg (os c) = some (.ref C') → PySem.W.notFirst K C (.ref C') = true
section
variable {K : PySem.W.Frag} {mg : Mg} {ta tb : TE} {fa fb : FE} {m : Mir} {cn : String} {C : Addr} {cs : List String}
theorem fgn_ok {G H : Hp} {y : V} {e : D} (N : NfOk K mg cn cs) (gC : mg (os cn) = some (.ref C)) (s : Same G H) (r : Rp K mg G y e) (h : fgn cs e = true) : ∃ tb, Fgn K H y tb ∧ PySem.W.notFirst K C tb = true := by
  cases r with
  | non => exact ⟨_, .non, N.non C gC⟩
  | bl b => exact ⟨_, .bl b, N.bl C gC⟩
  | int i => exact ⟨_, .int i, N.int C gC⟩
  | str x => exact ⟨_, .str x, N.str C gC⟩
  | lst h1 h2 => exact ⟨_, .lst (same_sql s h1), N.lst C gC⟩
  | tup h1 h2 => exact ⟨_, .tup (same_sqt s h1), N.tup C gC⟩
  | dic h1 h2 => cases h
  | ins h1 h2 h3 => exact ⟨_, .ins (s _ _ h2), N.ins C gC _ (of_decide_eq_true h) _ h1⟩
  | exc h1 h2 => cases h
  | dicL h1 h2 => cases h
theorem rb_eqF (N : NfOk K mg cn cs) (gC : mg (os cn) = some (.ref C)) : RBF K mg (rMF K C (spM K mg false m)) (gEqF cn cs m) := fun G H x y d e op Q s r1 r2 eq q => by
  obtain ⟨hi, eq⟩ := if_get' eq
  obtain ⟨a, dx, fs, rfl, ha⟩ := insC_ok gC s (Pk.frz r1 : Pk K mg G H x d) hi.1
  obtain ⟨tb, h1, h2⟩ := fgn_ok N gC s r2 hi.2
  exact ⟨a, dx, fs, tb, rfl, ha, h1, h2, sp_both s r1 r2 eq q⟩
theorem rb_neF (N : NfOk K mg cn cs) (gC : mg (os cn) = some (.ref C)) : RBF K mg (rMnF K C (spM K mg false m)) (gNeF cn cs m) := fun G H x y d e op Q s r1 r2 eq q => by
  obtain ⟨hi, eq⟩ := if_get' eq
  obtain ⟨a, dx, fs, rfl, ha⟩ := insC_ok gC s (Pk.frz r1 : Pk K mg G H x d) hi.1
  obtain ⟨tb, h1, h2⟩ := fgn_ok N gC s r2 hi.2
  obtain ⟨r, e1, eq⟩ := bind_some' eq
  split at eq
  · rename_i b0 z0
    cases eq
    refine ⟨a, dx, fs, tb, rfl, ha, h1, h2, G, [d, e], false, .bl b0, z0, s, .pure (.cons r1 (.cons r2 .nil)), e1, fun v G' H' B => ?_⟩
    have hr := B.rs
    cases hr with
    | old r => cases r; exact ⟨b0, rfl, q _ G' H' (nw_of_bk B) (.val (.bl _))⟩
  · cases eq
end
section
variable {X : Cx} {k j : Nat} {ps : List PySem.Str} {m : Mir} {C f : Addr} {fd : FuncData} {cn mn : String} {pos : Pos} {a b : Expr} {ta tb : TE} {fa fb : FE} {cs : List String}
theorem km_eqF {K : PySem.W.Frag} {mg : Mg} (F : NfOk K mg cn cs) (h : KnM X.prog X.w K mg X.base C f fd cn "__eq__" ps false k m) (hr : Room j X.A) (ha : JE X a ta fa) (hb : JE X b tb fb) (hj : k ≤ j := by decide) (hK : X.K = K := by rfl) (hM : X.mg = mg := by rfl) :
    JE X (.Compare a [.Eq] [b] pos) (tOp (rMF K C (spM K mg false m)) ta tb) (fBinF (gEqF cn cs m) fa fb) := by
  subst hK hM
  exact ⟨pe_cmpR (op_cmpMF (op := .Eq) h.ok (hr.mono hj) h.bi h.me.at_ h.me.fn fun _ _ => rfl) ha.pe hb.pe (nomark _), re_binF (rb_eqF F h.g) ha.re hb.re⟩
theorem km_eqFT {K : PySem.W.Frag} {mg : Mg} (F : NfOk K mg cn cs) (h : KnM X.prog X.w K mg X.base C f fd cn "__eq__" ps false k m) (hr : Room j X.A) (ha : JE X a ta fa) (hb : JE X b tb fb) (hj : k ≤ j := by decide) (hK : X.K = K := by rfl) (hM : X.mg = mg := by rfl) :
    JT X (.Compare a [.Eq] [b] pos) (tTest (tOp (rMF K C (spM K mg false m)) ta tb)) (fTB (fBinF (gEqF cn cs m) fa fb)) := by
  subst hK hM
  exact ⟨pt_cmpR (op_cmpMF (op := .Eq) h.ok (hr.mono hj) h.bi h.me.at_ h.me.fn fun _ _ => rfl) ha.pe hb.pe (nomark _), re_testE (re_binF (rb_eqF F h.g) ha.re hb.re)⟩
theorem km_neF {K : PySem.W.Frag} {mg : Mg} (F : NfOk K mg cn cs) (N : NeOk K mg cn) (h : KnM X.prog X.w K mg X.base C f fd cn "__eq__" ps false k m) (hr : Room j X.A) (ha : JE X a ta fa) (hb : JE X b tb fb) (hj : k + 1 ≤ j := by decide) (hK : X.K = K := by rfl) (hM : X.mg = mg := by rfl) :
    JE X (.Compare a [.NotEq] [b] pos) (tOp (rMnF K C (spM K mg false m)) ta tb) (fBinF (gNeF cn cs m) fa fb) := by
  subst hK hM
  exact ⟨pe_cmpR (op_neMF h.ok (hr.mono hj) h.bi (N.ne C h.g).1 (N.ne C h.g).2 h.me.at_ h.me.fn) ha.pe hb.pe (nomark _), re_binF (rb_neF F h.g) ha.re hb.re⟩
theorem km_neFT {K : PySem.W.Frag} {mg : Mg} (F : NfOk K mg cn cs) (N : NeOk K mg cn) (h : KnM X.prog X.w K mg X.base C f fd cn "__eq__" ps false k m) (hr : Room j X.A) (ha : JE X a ta fa) (hb : JE X b tb fb) (hj : k + 1 ≤ j := by decide) (hK : X.K = K := by rfl) (hM : X.mg = mg := by rfl) :
    JT X (.Compare a [.NotEq] [b] pos) (tTest (tOp (rMnF K C (spM K mg false m)) ta tb)) (fTB (fBinF (gNeF cn cs m) fa fb)) := by
  subst hK hM
  exact ⟨pt_cmpR (op_neMF h.ok (hr.mono hj) h.bi (N.ne C h.g).1 (N.ne C h.g).2 h.me.at_ h.me.fn) ha.pe hb.pe (nomark _), re_testE (re_binF (rb_neF F h.g) ha.re hb.re)⟩
end
/-! ### xs * n -/
def rRepL (K : PySem.W.Frag) : R2 := fun x y H Q => ∃ l xs n, x = .ref l ∧ y = .int n ∧ SqL K H l xs ∧ -(2 ^ 63 : Int) ≤ n ∧ n < 2 ^ 63 ∧ xs.length * n.toNat ≤ 16777216 ∧ ∀ p, H p = none → Q (.ref p) (upd H p (.lst (List.replicate n.toNat xs).flatten))
theorem vals_rep {xs : List V} {us : List Value} (r : Vals xs us) : ∀ k : Nat, Vals (List.replicate k xs).flatten (List.replicate k us).flatten
  | 0 => .nil
  | k + 1 => by simpa [List.replicate_succ] using r.append (vals_rep r k)
theorem op_repL {X : Cx} : OpR X (binaryOp .Mult) (rRepL X.K) := by
  intro pins s σ H x y v u Q I rx ry h
  obtain ⟨l, xs, n, rfl, rfl, hH, hlo, hhi, hz, q⟩ := h
  cases rx
  obtain ⟨t, rfl⟩ := ry
  obtain ⟨its, r, pl, hl⟩ := I.list hH
  have e1 := r.length
  obtain ⟨⟨cls, dd, data, sl⟩, ho, hc, k, hd⟩ := pl.isList
  simp only at hc hd
  subst hc hd
  have hsz' : its.toArray.size * n.toNat ≤ 2 ^ 24 := by rw [List.size_toArray, ← e1]; simpa using hz
  refine wpAny_binaryOp_repeat_ref (T := "list") (U := "int") (by decide) ⟨_, ho, rfl⟩ (fun s' => typeIs_int s' n t) noFill_list_mul F.fills_int_mul F.slot_int_rmul repeat_list F.slot_int_index.lookup
    (call_meets F.slot_int_rmul (typeIs_int s n t) F.entry_int_rmul (F.args_int_rmul_2 _ _) (lm_int_rmul_list_any n t l its.toArray k dd sl)
      ⟨ho, rfl, ⟨_, ho, rfl⟩, call_meets F.slot_list_mul ⟨_, ho, rfl⟩ F.entry_list_mul (F.args_list_mul_2 _ _)
        (lm_list_mul_any l its.toArray k dd sl n t (by simp [Builtin.List.listFitsIndex]; omega) (by omega) (by simp [Builtin.List.listTooLong, sizeLine]; simp at hsz'; omega))
        ⟨ho, ?_⟩⟩)
  rw [listMul_foldl_if]
  exact ⟨.ref _, _, I.lnew (t' := s.toks) (vals_rep r n.toNat) (by rw [lm_len_rep_flat, sizeLine_eq, Nat.mul_comm]; exact hz), rfl, q _ I.fresh⟩
def gRep : G2
  | .lst a, .int n => if n.natAbs < 9223372036854775808 ∧ a.length * n.toNat ≤ 16777216 then some (.tmp (.lst (List.replicate n.toNat a).flatten)) else none
  | _, _ => none
theorem rpl_rep {K : PySem.W.Frag} {mg : Mg} {G : Hp} {vs : List V} {ds : List D} (r : RpL K mg G vs ds) : ∀ k : Nat, RpL K mg G (List.replicate k vs).flatten (List.replicate k ds).flatten
  | 0 => .nil
  | k + 1 => by simpa [List.replicate_succ] using r.append (rpl_rep r k)
theorem rb_rep {K : PySem.W.Frag} {mg : Mg} : RB K mg (rRepL K) gRep := fun G H x y d e op Q s p1 p2 eq q => by
  cases d <;> first | (cases eq; done) | skip
  cases e <;> first | (cases eq; done) | skip
  rename_i a n
  obtain ⟨⟨h0, h⟩, rfl⟩ := if_get (show (if n.natAbs < 9223372036854775808 ∧ a.length * n.toNat ≤ 16777216 then some (Op.tmp (.lst (List.replicate n.toNat a).flatten)) else none) = some op from eq)
  obtain ⟨l, vs, rfl, hq, r⟩ := p1.lst s
  cases p2.int
  exact ⟨l, vs, n, rfl, rfl, hq, by omega, by omega, by rw [r.length]; exact h, fun p hp => q _ _ _ (Nw.new s hp) (On.new s hp (.lst (rpl_rep r _)))⟩
theorem je_rep {X : Cx} {a b : Expr} {ta tb : TE} {fa fb : FE} {pos : Pos} {K : PySem.W.Frag} (ha : JE X a ta fa) (hb : JE X b tb fb) (hK : X.K = K := by rfl) : JE X (.BinOp a .Mult b pos) (tOp (rRepL K) ta tb) (fBin gRep fa fb) := by
  subst hK
  exact je_bin op_repL rb_rep ha hb
end J
namespace J
open PySem PySem.Spec PyProof.Rows L2

/-! ### dicts: keys are ints or texts -/
def keyD : D → Option Key
  | .int i => some (.inl i)
  | .str x => some (.inr x)
  | _ => none
/-- what a dict is behind d[k] = v -/
def putDK (ds : List (Key × D)) (k : Key) (d : D) : List (Key × D) :=
  if (ds.any fun kv => decide (kv.1 = k)) = true then ds.map (fun kv => if kv.1 = k then (kv.1, d) else kv) else ds ++ [(k, d)]
section
variable {K : PySem.W.Frag} {mg : Mg} {G G' H H' : Hp}
theorem key_pk {y : V} {d : D} {k : Key} (p : Pk K mg G H y d) (h : keyD d = some k) : y = kV k := by
  cases d <;> first | (cases h; done) | skip
  · cases h; rw [p.int]; rfl
  · cases h; rw [p.str]; rfl
theorem RpK.length : ∀ {vs : List (Key × V)} {ds : List (Key × D)}, RpK K mg G vs ds → vs.length = ds.length
  | _, _, .nil => rfl
  | _, _, .cons _ r => congrArg Nat.succ r.length
theorem RpK.any (k : Key) : ∀ {vs : List (Key × V)} {ds : List (Key × D)}, RpK K mg G vs ds → (vs.any fun kv => decide (kv.1 = k)) = (ds.any fun kv => decide (kv.1 = k))
  | _, _, .nil => rfl
  | _, _, .cons _ r => by simp only [List.any_cons, r.any k]
theorem RpK.snoc {k : Key} {v : V} {d : D} (h : Rp K mg G v d) : ∀ {vs : List (Key × V)} {ds : List (Key × D)}, RpK K mg G vs ds → RpK K mg G (vs ++ [(k, v)]) (ds ++ [(k, d)])
  | _, _, .nil => .cons h .nil
  | _, _, .cons a r => .cons a (r.snoc h)
theorem RpK.over {k : Key} {v : V} {d : D} (h : Rp K mg G v d) : ∀ {vs : List (Key × V)} {ds : List (Key × D)}, RpK K mg G vs ds → RpK K mg G (vs.map fun kv => if kv.1 = k then (kv.1, v) else kv) (ds.map fun kv => if kv.1 = k then (kv.1, d) else kv)
  | _, _, .nil => .nil
  | _, _, @RpK.cons _ _ _ j _ _ _ _ a r => by
    rw [List.map_cons, List.map_cons]
    by_cases e : j = k
    · simp only [e, if_true]
      exact .cons h (r.over h)
    · simp only [e, if_false]
      exact .cons a (r.over h)
theorem RpK.put {k : Key} {v : V} {d : D} {vs : List (Key × V)} {ds : List (Key × D)} (r : RpK K mg G vs ds) (h : Rp K mg G v d) : RpK K mg G (putK vs k v) (putDK ds k d) := by
  unfold putK putDK
  rw [r.any k]
  split
  · exact r.over h
  · exact r.snoc h
theorem RpK.val (k : Key) : ∀ {vs : List (Key × V)} {ds : List (Key × D)}, RpK K mg G vs ds → (valV vs k = none ∧ (ds.find? fun kv => decide (kv.1 = k)) = none) ∨ ∃ v d, valV vs k = some v ∧ (ds.find? fun kv => decide (kv.1 = k)).map (·.2) = some d ∧ Rp K mg G v d
  | _, _, .nil => .inl ⟨rfl, rfl⟩
  | _, _, @RpK.cons _ _ _ j v d _ _ a r => by
    by_cases e : j = k
    · exact .inr ⟨v, d, valV_pos e, by simp [List.find?_cons, e], a⟩
    · rw [valV_neg (p := (j, v)) e]
      rcases r.val k with ⟨h1, h2⟩ | ⟨v', d', h1, h2, h3⟩
      · exact .inl ⟨h1, by simp [List.find?_cons, e]; simpa using h2⟩
      · exact .inr ⟨v', d', h1, by simp only [List.find?_cons, e, decide_false]; exact h2, h3⟩
end
/-- what a dict holds at a key -/
def getK (ds : List (Key × D)) (k : Key) : Option D := (ds.find? fun kv => decide (kv.1 = k)).map (·.2)
/-! #### d[k], k in d -/
def rDGet : R2 := fun x y H Q => ∃ a v, x = .ref a ∧ DGet H a y (some v) ∧ Q v H
def rDIn (neg : Bool) : R2 := fun y x H Q => ∃ a o, x = .ref a ∧ DGet H a y o ∧ Q (.bl (if neg then !o.isSome else o.isSome)) H
def gDGet : G2
  | .dic ds, e => (keyD e).bind fun k => (getK ds k).map .val
  | .dicL ds, e => (keyD e).bind fun k => (getK ds k).map .val
  | _, _ => none
def gDIn (neg : Bool) : G2
  | e, .dic ds => (keyD e).map fun k => .val (.bl (if neg then !(getK ds k).isSome else (getK ds k).isSome))
  | _, _ => none
section
variable {K : PySem.W.Frag} {mg : Mg}
theorem rb_dget : RB K mg rDGet gDGet := fun G H x y d e op Q s p1 p2 eq q => by
  cases d <;> first | (cases eq; done) | skip
  · rename_i ds
    obtain ⟨k, hk, eq⟩ := bind_some' (show (keyD e).bind _ = some op from eq)
    obtain ⟨z, hz, rfl⟩ := Option.map_eq_some_iff.mp eq
    obtain ⟨a, vs, rfl, ha, r⟩ := p1.dic s
    cases key_pk p2 hk
    rcases r.val k with ⟨_, h2⟩ | ⟨v, d', h1, h2, h3⟩
    · unfold getK at hz; rw [h2] at hz; cases hz
    · unfold getK at hz; rw [h2] at hz; cases hz
      exact ⟨a, v, rfl, h1 ▸ DGet.k ha, q v G H (Nw.refl s) (.val h3)⟩
  · rename_i ds
    obtain ⟨k, hk, eq⟩ := bind_some' (show (keyD e).bind _ = some op from eq)
    obtain ⟨z, hz, rfl⟩ := Option.map_eq_some_iff.mp eq
    cases p1 with
    | root e r => cases r
    | frz rp =>
      cases rp with
      | @dicL a o vs _ ha r =>
        cases key_pk p2 hk
        rcases r.val k with ⟨_, h2⟩ | ⟨v, d', h1, h2, h3⟩
        · unfold getK at hz; rw [h2] at hz; cases hz
        · unfold getK at hz; rw [h2] at hz; cases hz
          exact ⟨a, v, rfl, .inl ⟨vs, k, .inr ⟨o, s _ _ ha⟩, rfl, h1.symm⟩, q v G H (Nw.refl s) (.val h3)⟩
theorem rb_din {neg : Bool} : RB K mg (rDIn neg) (gDIn neg) := fun G H x y d e op Q s p1 p2 eq q => by
  cases e <;> first | (cases eq; done) | skip
  rename_i ds
  obtain ⟨k, hk, rfl⟩ := Option.map_eq_some_iff.mp (show (keyD d).map _ = some op from eq)
  obtain ⟨a, vs, rfl, ha, r⟩ := p2.dic s
  cases key_pk p1 hk
  refine ⟨a, valV vs k, rfl, DGet.k ha, ?_⟩
  have e : (valV vs k).isSome = (getK ds k).isSome := by
    unfold getK
    rcases r.val k with ⟨h1, h2⟩ | ⟨v, d', h1, h2, h3⟩
    · rw [h1, h2]; rfl
    · rw [h1, h2]; rfl
  rw [e]
  exact q _ G H (Nw.refl s) (.val (.bl _))
end
section
variable {X : Cx} {j : Nat} {a b : Expr} {ta tb : TE} {fa fb : FE} {pos p : Pos}
theorem je_dget (hr : Room j X.A) (ha : JE X a ta fa) (hb : JE X b tb fb) (hs : NoSl b := by intro _ _; rfl) : JE X (.Subscript a b pos) (tOp rDGet ta tb) (fBin gDGet fa fb) :=
  ⟨pe_dget (by have := hr.units; omega) ha.pe hb.pe hs, re_bin rb_dget ha.re hb.re⟩
theorem je_din (hr : Room j X.A) (ha : JE X a ta fa) (hb : JE X b tb fb) (hm : behindInMarks .In b = false := by rfl) : JE X (.Compare a [.In] [b] pos) (tOp (rDIn false) ta tb) (fBin (gDIn false) fa fb) :=
  ⟨pe_cmp (pc_din (by have := hr.units; omega) ha.pe hb.pe) hm, re_bin rb_din ha.re hb.re⟩
theorem je_dnin (hr : Room j X.A) (ha : JE X a ta fa) (hb : JE X b tb fb) (hm : behindInMarks .NotIn b = false := by rfl) : JE X (.Compare a [.NotIn] [b] pos) (tOp (rDIn true) ta tb) (fBin (gDIn true) fa fb) :=
  ⟨pe_cmp (pc_dnotin (by have := hr.units; omega) ha.pe hb.pe) hm, re_bin rb_din ha.re hb.re⟩
theorem jt_din (hr : Room j X.A) (ha : JE X a ta fa) (hb : JE X b tb fb) (hm : behindInMarks .In b = false := by rfl) : JT X (.Compare a [.In] [b] pos) (tB (tOp (rDIn false) ta tb)) (fTB (fBin (gDIn false) fa fb)) :=
  ⟨pt_cmp (pc_din (by have := hr.units; omega) ha.pe hb.pe) hm, re_testE (re_bin rb_din ha.re hb.re)⟩
theorem jt_dnin (hr : Room j X.A) (ha : JE X a ta fa) (hb : JE X b tb fb) (hm : behindInMarks .NotIn b = false := by rfl) : JT X (.Compare a [.NotIn] [b] pos) (tB (tOp (rDIn true) ta tb)) (fTB (fBin (gDIn true) fa fb)) :=
  ⟨pt_cmp (pc_dnotin (by have := hr.units; omega) ha.pe hb.pe) hm, re_testE (re_bin rb_din ha.re hb.re)⟩
/-! #### {} -/
def fDNew (τ : Tau) : Option (Op × Tau) := some (.tmp (.dic []), τ)
theorem re_dnew {K : PySem.W.Frag} {mg : Mg} : RE K mg tDNewK fDNew := fun σ τ G H op τ' Q A e q => by
  cases e
  intro p hp
  have gp : G p = none := A.gh.free hp
  exact q (.ref p) G _ (Go.new A hp) (.tmp hp gp upd_same (.dic .nil) fun z => by
    obtain ⟨_, o, e⟩ := A.root z
    rw [hp] at e; cases e)
theorem je_dnew : JE X (.Dict [] [] pos) tDNewK fDNew := ⟨pe_dnewK, re_dnew⟩
end
/-! #### d[k] = v, d an owned name -/
def setAtD (o : Op) (k : Key) (d : D) (τ : Tau) : Option Tau := match o with
  | .slot j => match τ[j]? with
    | some (some (.ow (.dic ds))) => if ds.length < 16777216 then some (τ.set j (some (.ow (.dic (putDK ds k d))))) else none
    | _ => none
  | _ => none
def sDPutF (fo fi fe : FE) (τ : Tau) : Option Flow := (fe τ).bind fun a => (fz a.2 a.1).bind fun d => (fo d.2).bind fun o => (fi o.2).bind fun i => (deref i.2 i.1).bind fun n => (keyD n).bind fun k => (setAtD o.1 k d.1 i.2).bind fun τ' => some (.nx τ')
section
variable {K : PySem.W.Frag} {mg : Mg} {to ti te : TE} {fo fi fe : FE} {b : Bool}
theorem rs_dput (ho : RE K mg to fo) (hi : RE K mg ti fi) (he : RE K mg te fe) : RS K mg b (sDPut to ti te) (sDPutF fo fi fe) := fun io R0 G0 H0 G H σ τ D fl hb F e k => by
  obtain ⟨⟨oa, τ1⟩, e1, e⟩ := bind_some' e
  obtain ⟨⟨d, τ2⟩, e2, e⟩ := bind_some' e
  obtain ⟨⟨oo, τ3⟩, e3, e⟩ := bind_some' e
  obtain ⟨⟨oi, τ4⟩, e4, e⟩ := bind_some' e
  obtain ⟨n, e5, e⟩ := bind_some' e
  obtain ⟨kk, ek, e⟩ := bind_some' e
  obtain ⟨τ5, e6, e⟩ := bind_some' e
  cases e
  refine he σ τ G H oa τ1 _ F.at' e1 fun y G1 H1 g1 o1 => ?_
  obtain ⟨G2, g2, s2, r2⟩ := o1.fz g1 e2
  refine ho σ τ2 G2 H1 oo τ3 _ g2.at' e3 fun x G3 H3 g3 o3 => ?_
  refine hi σ τ3 G3 H3 oi τ4 _ g3.at' e4 fun z G4 H4 g4 o4 => ?_
  cases key_pk (o4.pk g4.at' e5) ek
  cases o3 with
  | val _ => cases e6
  | tmp _ _ _ _ _ => cases e6
  | @slot _ j hs =>
    unfold setAtD at e6
    dsimp only at e6
    split at e6
    · rename_i ds hj
      obtain ⟨hl, z⟩ := if_get e6
      cases z
      obtain ⟨p, o, a1, a2, a3, a4⟩ := g4.at'.ow j _ hj
      rw [hs] at a1
      cases a1
      cases a4 with
      | @dic vs _ r =>
        have g := (g2.trans g3).trans g4
        exact ⟨p, _, rfl, DPut.k a3 (by rw [sizeLine_eq, r.length]; exact hl), k σ G4 _ (F.go (g.trans (Go.put g4.at' hj hs (.dic (r.put ((r2.mono g3.gg).mono g4.gg))))))⟩
    · cases e6
end
section
variable {X : Cx} {b : Bool} {j : Nat} {o i e : Expr} {te to ti : TE} {fe fo fi : FE} {pos pos' : Pos}
theorem js_dput (hr : Room j X.A) (ho : JE X o to fo) (hi : JE X i ti fi) (he : JE X e te fe) (hs : swapsWith e (some (.Subscript o i pos')) pos.line X.env = pure false := by rfl) : JS X b (.Assign [.Subscript o i pos'] e pos) (sDPut to ti te) (sDPutF fo fi fe) :=
  ⟨ps_dput (by have := hr.units; omega) ho.pe hi.pe he.pe hs, rs_dput ho.re hi.re he.re⟩
end
/-! #### {k: v for ..} -/
def dcD (own : List Nat) (g : FG) (ft : FT) (fk fe : FE) : List D → List (Key × D) → Tau → Option (List (Key × D) × Tau)
  | [], acc, τ => some (acc, τ)
  | d :: ds, acc, τ => (g d (wipeT own τ)).bind fun τ1 => (ft τ1).bind fun b => if b.1 = true then (fk b.2).bind fun ok => (deref ok.2 ok.1).bind fun dk => (keyD dk).bind fun k => (fe ok.2).bind fun o => (fz o.2 o.1).bind fun z =>
      if acc.length < 16777216 then dcD own g ft fk fe ds (putDK acc k z.1) (backT own τ z.2) else none
    else dcD own g ft fk fe ds acc (backT own τ b.2)
def fDc (own : List Nat) (w : FI) (g : FG) (ft : FT) (fk fe : FE) (τ : Tau) : Option (Op × Tau) := (w τ).bind fun a => (dcD own g ft fk fe a.1 [] a.2).bind fun r => some (.tmp (.dic r.1), r.2)
section
variable {K : PySem.W.Frag} {mg : Mg} {own : List Nat}
theorem re_dc {wi : TI} {w : FI} {tg : TG} {tgf : FG} {is : List Nat} {tt : TT} {ft : FT} {tk te : TE} {fk fe : FE} (hs : ∀ i ∈ is, i ∈ own) (hw : RI K mg wi w) (hg : RG K mg is tg tgf) (ht : RT K mg tt ft) (hk : RE K mg tk fk) (he : RE K mg te fe) : RE K mg (tDc wi tg tt tk te own) (fDc own w tgf ft fk fe) := fun σ τ G H op τ' Q A e q => by
  obtain ⟨⟨ds, τ1⟩, e1, e⟩ := bind_some' e
  obtain ⟨⟨res, τr⟩, e2, e⟩ := bind_some' e
  cases e
  refine hw σ τ G H ds τ1 _ A e1 fun J G1 H1 g1 it D hD => ?_
  have A1 := g1.at'
  have gD : G1 D = none := A1.gh.free hD
  have nD : ¬ Ro σ τ1 D := fun z => by
    obtain ⟨_, o, e⟩ := A1.root z
    rw [hD] at e; cases e
  refine ⟨fun i m H => ∃ G τ accV acc, Go K mg σ τ1 G1 H1 τ G H ∧ H D = some (.dK accV) ∧ G D = none ∧ RpK K mg G accV acc ∧ dcD own tgf ft fk fe (ds.drop i) acc τ = some (res, τr) ∧ m = ds.length - i ∧ i ≤ ds.length,
    ⟨ds.length, G1, τ1, [], [], Go.new A1 hD, upd_same, gD, .nil, e2, by simp, Nat.zero_le _⟩, ?_⟩
  rintro i m H ⟨G, τ, accV, acc, g, h1, h2, r, e, rfl, hle⟩
  have A := g.at'
  obtain ⟨st, gn⟩ := it G H g.gg A.gh
  by_cases hlt : i < ds.length
  · have hd : ds[i]? = some ds[i] := List.getElem?_eq_getElem hlt
    obtain ⟨go, yl⟩ := gn i _ hd
    rw [List.drop_eq_getElem_cons hlt] at e
    obtain ⟨τ2, e3, e⟩ := bind_some' e
    obtain ⟨⟨b, τ3⟩, e4, e⟩ := bind_some' e
    refine .inr ⟨go, fun H => ∃ G τ accV acc, Go K mg σ τ1 G1 H1 τ G H ∧ H D = some (.dK accV) ∧ G D = none ∧ RpK K mg G accV acc ∧ dcD own tgf ft fk fe (ds.drop (i + 1)) acc τ = some (res, τr),
      fun H' ⟨G', τ', a', c', x1, x2, x3, x4, x5⟩ => ⟨_, by omega, G', τ', a', c', x1, x2, x3, x4, x5, rfl, hlt⟩, fun x H' y => ?_⟩
    obtain ⟨G', n, rx⟩ := yl x H' y
    have g2 := g.trans (n.go A)
    have A2 := g2.at'
    have h1' := n.hh _ _ h1
    have h2' := n.gf _ _ h1 h2
    obtain ⟨Aw, row⟩ := A2.wipeS own
    refine hg G' H' (L2.wipe σ own) (wipeT own τ) x _ τ2 _ Aw Aw.ll rx e3 fun σ2 A3 l3 ro3 k3 t3 kt3 ls3 => ?_
    -- the block's slots against the outer ones
    have hσ : ∀ j, j ∉ own → σ2[j]? = σ[j]? := fun j hj => by rw [k3 j (fun z => hj (hs j z)), wipe_out' hj]
    have hτ : ∀ j, j ∉ own → τ2[j]? = τ[j]? := fun j hj => by rw [kt3 j (fun z => hj (hs j z)), wipeT_out hj]
    have hl : τ2.length = τ.length := by rw [t3, wipeT_length]
    have no : ∀ j d, j ∈ own → τ2[j]? ≠ some (some (Cell.ow d)) := fun j d hj z => by
      obtain ⟨p, o, a1, a2, a3, a4⟩ := A3.ow j d z
      obtain ⟨k, d', b1, b2⟩ := ro3 p ⟨j, d, z, a1⟩
      obtain ⟨nk, c1⟩ := wipeT_get b1
      rw [wipe_out' nk] at b2
      have := A3.ap j k p d d' z (by rw [hτ k nk]; exact c1) a1 (by rw [hσ k nk]; exact b2)
      subst this
      exact nk hj
    refine ⟨?_, ?_⟩
    · refine List.ext_getElem? fun j => ?_
      by_cases hj : j ∈ own
      · have key : ∀ (vs : List Nat) (ρ : L2.St), j ∈ vs → (L2.wipe ρ vs)[j]? = if j < ρ.length then some none else none := by
          intro vs
          induction vs with
          | nil => intro ρ h; cases h
          | cons v vs ih =>
            intro ρ h
            unfold L2.wipe
            by_cases hv : v = j
            · subst hv
              by_cases hlj : v < (L2.wipe ρ vs).length
              · rw [List.getElem?_set_self hlj, if_pos (by rw [L2.wipe_length] at hlj; exact hlj)]
              · rw [List.getElem?_eq_none (by rw [List.length_set]; omega), if_neg (by rw [L2.wipe_length] at hlj; exact hlj)]
            · rw [List.getElem?_set_ne hv]
              exact ih ρ (by rcases List.mem_cons.mp h with z | z; exact absurd z.symm hv; exact z)
        rw [key own σ2 hj, key own σ hj, ls3, wipe_length']
      · rw [wipe_out' hj, wipe_out' hj, hσ j hj]
    have nD2 : ∀ {τx : Tau} {Gx Hx : Hp}, Go K mg σ2 τ2 G' H' τx Gx Hx → Hx D = some (.dK accV) ∧ Gx D = none ∧ ¬ Ro σ2 τx D := fun {τx Gx Hx} gx => by
      have nr : ¬ Ro σ2 τ2 D := fun z => nD (g2.rr D (row D (ro3 D z)))
      exact ⟨gx.hh _ _ nr h1', gx.gf _ _ nr h1' h2', fun z => nr (gx.rr _ z)⟩
    refine ht σ2 τ2 G' H' b τ3 _ A3 e4 fun G4 H4 g4 => ?_
    dsimp only at e
    cases b with
    | false =>
      rw [if_neg Bool.false_ne_true] at e ⊢
      obtain ⟨y1, y2, _⟩ := nD2 g4
      exact ⟨G4, _, accV, acc, g2.trans (blk_go A2 hσ hτ hl no g4), y1, y2, (r.mono n.gg).mono g4.gg, e⟩
    | true =>
      rw [if_pos rfl] at e ⊢
      obtain ⟨⟨okk, τk⟩, ek1, e⟩ := bind_some' e
      obtain ⟨dk, ek2, e⟩ := bind_some' e
      obtain ⟨kk, ek3, e⟩ := bind_some' e
      obtain ⟨⟨o, τ4⟩, e5, e⟩ := bind_some' e
      obtain ⟨⟨z, τ5⟩, e6, e⟩ := bind_some' e
      dsimp only at e
      by_cases hlen : acc.length < 16777216
      · rw [if_pos hlen] at e
        refine hk σ2 τ3 G4 H4 okk τk _ g4.at' ek1 fun yk Gk Hk gk ok' => ?_
        have hyk := key_pk (ok'.pk gk.at' ek2) ek3
        have g4k := g4.trans gk
        refine he σ2 τk Gk Hk o τ4 _ gk.at' e5 fun y G5 H5 g5 o5 => ?_
        have g45 := g4k.trans g5
        obtain ⟨G6, g6, s6, r6⟩ := (o5.weak g4k.kp).fz g45 e6
        obtain ⟨y1, y2, y3⟩ := nD2 g6
        refine ⟨accV, kk, hyk, y1, by rw [sizeLine_eq, r.length]; exact hlen, ?_⟩
        have gg := g2.trans (blk_go A2 hσ hτ hl no g6)
        have AA := gg.at'
        have racc : RpK K mg G6 accV acc := (r.mono n.gg).mono g6.gg
        have sub : ∀ b, Ro σ (backT own τ τ5) b → b ≠ D := fun b hb z => nD (by rw [← z]; exact gg.rr b hb)
        refine ⟨G6, _, putK accV kk y, putDK acc kk z, ⟨⟨fun b x hb => ?_, AA.sh, fun j d hj => ?_, AA.ap, AA.ll⟩, gg.gg, fun b hb => ?_, fun b x nb hb => ?_, fun b x nb hb he => gg.gf b x nb hb he, gg.ri, gg.tl⟩, upd_same, y2, racc.put r6, e⟩
        · rw [upd_ne (fun w => by rw [w, y2] at hb; cases hb)]; exact AA.gh _ _ hb
        · obtain ⟨p, o, c1, c2, c3, c4⟩ := AA.ow j d hj
          exact ⟨p, o, c1, c2, by rw [upd_ne (sub p ⟨j, d, hj, c1⟩)]; exact c3, c4⟩
        · by_cases w : b = D
          · rw [w]; exact hD
          · rw [upd_ne w] at hb; exact gg.kp b hb
        · rw [upd_ne (fun w => by rw [w, hD] at hb; cases hb)]; exact gg.hh b x nb hb
      · rw [if_neg hlen] at e; cases e
  · have z : i = ds.length := by omega
    subst z
    rw [List.drop_length] at e
    cases e
    exact .inl ⟨st _ (Nat.le_refl _), q _ G H (g1.trans g) (.tmp (g1.kp _ hD) h2 h1 (.dic r) fun w => nD (g.rr _ w))⟩
end
section
variable {X : Cx} {kx vx tgt iter : Expr} {ifs : List Expr} {scope : Scope} {own : List (PySem.Str × Nat)} {pos : Pos} {wi : TI} {w : FI} {tg : TG} {g : FG} {is : List Nat} {tt : TT} {ft : FT} {tk te : TE} {fk fe : FE}
theorem je_dc (hc : X.calm = true) (hN : X.N.Nodup) (hi : JI X tgt iter wi w) (ok : BlkOk X.N X.env.scope scope own) (hs : ∀ i ∈ is, i ∈ own.map (·.2)) (hg : ∀ (s : Shared) (H : Hp) (C : Addr) (cl : List (PySem.Str × Addr)) (fp : List Addr), JG (X.blk s H scope (compEnvC scope cl C X.env) fp) tgt is tg g) (ht : ∀ (s : Shared) (H : Hp) (C : Addr) (cl : List (PySem.Str × Addr)) (fp : List Addr), JTs (X.blk s H scope (compEnvC scope cl C X.env) fp) ifs tt ft)
    (hk : ∀ (s : Shared) (H : Hp) (C : Addr) (cl : List (PySem.Str × Addr)) (fp : List Addr), JE (X.blk s H scope (compEnvC scope cl C X.env) fp) kx tk fk) (he : ∀ (s : Shared) (H : Hp) (C : Addr) (cl : List (PySem.Str × Addr)) (fp : List Addr), JE (X.blk s H scope (compEnvC scope cl C X.env) fp) vx te fe)
    (hf : ∀ x, foldedSetIterable iter X.env x = pure x := by intro _; rfl) : JE X (.DictComp kx vx [⟨tgt, iter, ifs, 0⟩] scope pos) (tDc wi tg tt tk te (own.map (·.2))) (fDc (own.map (·.2)) w g ft fk fe) :=
  ⟨pe_dc hc hN hi.pi ok (fun s H C cl fp => (hg s H C cl fp).pg) (fun s H C cl fp => (ht s H C cl fp).pts) (fun s H C cl fp => (hk s H C cl fp).pe) (fun s H C cl fp => (he s H C cl fp).pe) hf,
   re_dc hs hi.ri (hg X.s_0 X.H_0 0 [] []).rg (ht X.s_0 X.H_0 0 [] []).rt (hk X.s_0 X.H_0 0 [] []).re (he X.s_0 X.H_0 0 [] []).re⟩
end
end J
namespace J
open PySem PySem.Spec PyProof.Rows L2

/-! ### o.f, o.g = a pair -/
def gFld (K : PySem.W.Frag) (ta : TE) (f : PySem.Str) : TG := fun v σ H Q => ta σ H fun x H1 => ∃ a C dx fs, x = .ref a ∧ H1 a = some (.ins C dx fs) ∧ Cls K C ∧ NoAttr K C f ∧ fs.length < 1000 ∧ Q σ (upd H1 a (.ins C dx (putF f v fs)))
theorem pg_fld {X : Cx} {o : Expr} {f : PySem.Str} {pos : Pos} {ta : TE} (ho : PE X o ta) : PG X (.Attribute o f pos) (gFld X.K ta f) := by
  refine ⟨fun pins s σ H v u Q I r h => ?_⟩
  rw [assign_Attribute]
  refine wpAny_bind (wpAny_holding (thn (ho.run pins s σ H _ I h) fun ov s1 ⟨x, H1, I1, r1, a, C, dx, fs, ex, ea, c, n, l, q⟩ => ?_))
  subst ex
  obtain rfl : ov = Value.ref a := r1
  refine wpAny_bind (wpAny_standAt (wpAny_bind (wpAny_holding (setattr_ok I1 ea c n l r fun s2 I2 => ?_))))
  exact wpAny_release ⟨σ, _, I2, q⟩
section
variable {K : PySem.W.Frag} {mg : Mg} {to te : TE} {fo fe : FE} {b : Bool}
theorem fld_go {cs : List String} {n : String} {G H : Hp} {σ : L2.St} {τ τ3 τ4 : Tau} {v : V} {d : D} {oo : Op} {Q : L2.St → Hp → Prop} (T : ClsOk K mg cs n) (ho : RE K mg to fo) (A : At K mg G H σ τ) (r2 : Rp K mg G v d) (e3 : fo τ = some (oo, τ3)) (e4 : putAt cs n d oo τ3 = some τ4)
    (q : ∀ G' H', Go K mg σ τ G H τ4 G' H' → Q σ H') : gFld K to (os n) v σ H Q := by
  refine ho σ τ G H oo τ3 _ A e3 fun x G3 H3 g3 o3 => ?_
  cases o3 with
  | val _ => cases e4
  | tmp _ _ _ _ _ => cases e4
  | @slot _ i hs =>
    unfold putAt at e4
    dsimp only at e4
    split at e4
    · rename_i c fds hi
      obtain ⟨⟨hc, hl⟩, rfl⟩ := if_get e4
      obtain ⟨p, o, a1, a2, a3, a4⟩ := g3.at'.ow i _ hi
      rw [hs] at a1
      cases a1
      cases a4 with
      | @ins C dx _ fs _ hm r =>
        obtain ⟨T1, T2⟩ := T c hc C hm
        exact ⟨p, C, dx, fs, rfl, a3, T1, T2, by rw [r.length]; exact hl, q G3 _ (g3.trans (Go.put g3.at' hi hs (.ins hm (r.put (r2.mono g3.gg)))))⟩
    · cases e4
def sUnpF (cs1 : List String) (n1 : String) (cs2 : List String) (n2 : String) (fo1 fo2 fe : FE) (τ : Tau) : Option Flow := (fe τ).bind fun a => (fz a.2 a.1).bind fun d => match d.1 with
  | .tup [d1, d2] => (fo1 d.2).bind fun o => (putAt cs1 n1 d1 o.1 o.2).bind fun τ4 => (fo2 τ4).bind fun o2 => (putAt cs2 n2 d2 o2.1 o2.2).bind fun τ5 => some (.nx τ5)
  | _ => none
theorem rs_unpF {cs1 cs2 : List String} {n1 n2 : String} {to1 to2 : TE} {fo1 fo2 : FE} (T1 : ClsOk K mg cs1 n1) (T2 : ClsOk K mg cs2 n2) (ho1 : RE K mg to1 fo1) (ho2 : RE K mg to2 fo2) (he : RE K mg te fe) :
    RS K mg b (tAsg te (gTup K 2 (gCons (gFld K to1 (os n1)) (gCons (gFld K to2 (os n2)) gNil)))) (sUnpF cs1 n1 cs2 n2 fo1 fo2 fe) := fun io R0 G0 H0 G H σ τ D fl hb F e k => by
  obtain ⟨⟨oa, τ1⟩, e1, e⟩ := bind_some' e
  obtain ⟨⟨d, τ2⟩, e2, e⟩ := bind_some' e
  dsimp only at e
  split at e
  · rename_i d1 d2
    obtain ⟨⟨oo, τ3⟩, e3, e⟩ := bind_some' e
    obtain ⟨τ4, e4, e⟩ := bind_some' e
    obtain ⟨⟨o5, τ5⟩, e5, e⟩ := bind_some' e
    obtain ⟨τ6, e6, e⟩ := bind_some' e
    cases e
    refine he σ τ G H oa τ1 _ F.at' e1 fun y G1 H1 g1 o1 => ?_
    obtain ⟨G2, g2, s2, r2⟩ := o1.fz g1 e2
    cases r2 with
    | tup hq r =>
      cases r with
      | @cons v1 _ _ _ q1 r =>
        cases r with
        | @cons v2 _ _ _ q2 r =>
          cases r
          refine ⟨_, _, rfl, same_sqt g2.at'.gh hq, rfl, _, _, rfl, ?_⟩
          refine fld_go T1 ho1 g2.at' q1 e3 e4 fun G3 H3 g3 => ?_
          refine ⟨_, _, rfl, ?_⟩
          refine fld_go T2 ho2 g3.at' (q2.mono g3.gg) e5 e6 fun G4 H4 g4 => ?_
          exact ⟨rfl, k σ G4 H4 (F.go ((g2.trans g3).trans g4))⟩
  · cases e
end
theorem js_unpF {X : Cx} {b : Bool} {K : PySem.W.Frag} {mg : Mg} {cs1 cs2 : List String} {n1 n2 : String} {o1 o2 e : Expr} {p1 p2 tp pos : Pos} {kk : Nat} {to1 to2 te : TE} {fo1 fo2 fe : FE} (T1 : ClsOk K mg cs1 n1) (T2 : ClsOk K mg cs2 n2) (hc : X.calm = true) (h1 : JE X o1 to1 fo1) (h2 : JE X o2 to2 fo2) (he : JE X e te fe)
    (hs : swapsWithSole [.Tuple [.Attribute o1 (os n1) p1, .Attribute o2 (os n2) p2] kk tp] e pos.line X.env = pure false := by rfl) (hw : swappedStores [.Tuple [.Attribute o1 (os n1) p1, .Attribute o2 (os n2) p2] kk tp] e X.env = pure none := by rfl) (hK : X.K = K := by rfl) (hM : X.mg = mg := by rfl) :
    JS X b (.Assign [.Tuple [.Attribute o1 (os n1) p1, .Attribute o2 (os n2) p2] kk tp] e pos) (tAsg te (gTup K 2 (gCons (gFld K to1 (os n1)) (gCons (gFld K to2 (os n2)) gNil)))) (sUnpF cs1 n1 cs2 n2 fo1 fo2 fe) := by
  subst hK hM
  exact ⟨ps_asg he.pe (pg_tup hc (pgs_cons (pg_fld h1.pe) (pgs_cons (pg_fld h2.pe) pgs_nil))) hs hw rfl, rs_unpF T1 T2 h1.re h2.re he.re⟩
/-! ### xs.extend(a new list), xs an owned root -/
def tmpL : Op → Option (List D)
  | .tmp (.lst ys) => some ys
  | _ => none
def fExt (fo fe : FE) (τ : Tau) : Option (Op × Tau) := (fo τ).bind fun o => (owL o.2 o.1).bind fun _ => (fe o.2).bind fun a => (tmpL a.1).bind fun ys => (owL a.2 o.1).bind fun l =>
  if l.2.length + ys.length ≤ 16777216 then some (.val .non, a.2.set l.1 (some (.ow (.lst (l.2 ++ ys))))) else none
section
variable {K : PySem.W.Frag} {mg : Mg} {to te : TE} {fo fe : FE}
theorem re_ext (ho : RE K mg to fo) (he : RE K mg te fe) : RE K mg (tBM K "list" rExtend to (tCons te tNil)) (fExt fo fe) := fun σ τ G H op τ' Q A e q => by
  obtain ⟨⟨o, τ1⟩, e1, e⟩ := bind_some' e
  obtain ⟨l0, e0, e⟩ := bind_some' e
  obtain ⟨⟨o2, τ2⟩, e2, e⟩ := bind_some' e
  obtain ⟨ys, e3, e⟩ := bind_some' e
  obtain ⟨l, e4, e⟩ := bind_some' e
  dsimp only at e e0 e2 e3 e4
  obtain ⟨hl, z⟩ := if_get e
  cases z
  refine ho σ τ G H o τ1 _ A e1 fun x G1 H1 g1 o1 => ?_
  obtain ⟨p, vs0, rfl, _, _, _, hp, _⟩ := owL_ok g1.at' o1 e0
  refine ⟨.inl ⟨rfl, vs0, SqL.of hp⟩, ?_⟩
  refine he σ τ1 G1 H1 o2 τ2 _ g1.at' e2 fun y G2 H2 g2 o2' => ?_
  obtain ⟨p', vs, ex, _, hs, hi, hp', r⟩ := owL_ok g2.at' (o1.step g2) e4
  cases ex
  cases o2' with
  | val _ => cases e3
  | slot _ => cases e3
  | tmp a1 a2 a3 a4 a5 =>
    cases a4 with
    | @lst ws _ r2 =>
      cases e3
      refine ⟨p, _, vs, ws, rfl, rfl, hp', a3, by rw [sizeLine_eq, r.length, r2.length]; exact hl, ?_⟩
      exact q _ G2 _ ((g1.trans g2).trans (Go.put g2.at' hi hs (.lst (r.append r2)))) (.val .non)
    | dic _ => cases e3
    | ins _ _ => cases e3
end
theorem je_ext {X : Cx} {K : PySem.W.Frag} {o e : Expr} {apos pos : Pos} {to te : TE} {fo fe : FE} (ho : JE X o to fo) (he : JE X e te fe) (hbase : attributeBase o (os "extend") X.env (eval o X.env) = eval o X.env := by rfl)
    (hfew : ((backTo pos (starEach (e :: []) X.env)).all (fun x => !x.1) && (backToKw pos (keywordEach [] X.env)).all (fun x => x.1.isSome)
      && decide ((e :: []).length + ([] : List Keyword).length + (if ([] : List Keyword).isEmpty then 0 else 1) < 30)) = true := by rfl)
    (hline : (apos.endLine == pos.line) = true := by rfl) (hs : starEach (e :: []) X.env = (false, eval e X.env) :: starEach [] X.env := by rfl) (hplain : (backTo pos (starEach [] X.env)).any (·.1) = false := by rfl) (hK : X.K = K := by rfl) :
    JE X (.Call (.Attribute o (os "extend") apos) [e] [] pos) (tBM K "list" rExtend to (tCons te tNil)) (fExt fo fe) := by
  subst hK
  exact ⟨pe_bm PySem.F.plainAttrs_list PySem.F.slot_list_extend PySem.F.type_list_extend mt_extend ho.pe (pa_cons he.pe pa_nil hs) hbase hfew hline hs hplain, re_ext ho.re he.re⟩
/-! ### min(xs), max(xs) of ints -/
def minI : List Int → Int → Int
  | [], m => m
  | x :: xs, m => minI xs (if x < m then x else m)
theorem minI_spec : ∀ (xs : List Int) (m : Int), (minI xs m = m ∨ minI xs m ∈ xs) ∧ minI xs m ≤ m ∧ ∀ y ∈ xs, minI xs m ≤ y
  | [], m => ⟨.inl rfl, Int.le_refl _, by simp⟩
  | x :: xs, m => by
    obtain ⟨h1, h2, h3⟩ := minI_spec xs (if x < m then x else m)
    unfold minI
    by_cases c : x < m
    · rw [if_pos c] at h1 h2 h3 ⊢
      refine ⟨.inr ?_, by omega, fun y hy => ?_⟩
      · rcases h1 with h | h
        · rw [h]; exact List.mem_cons_self
        · exact List.mem_cons_of_mem _ h
      · rcases List.mem_cons.mp hy with rfl | hy
        · exact h2
        · exact h3 y hy
    · rw [if_neg c] at h1 h2 h3 ⊢
      refine ⟨?_, h2, fun y hy => ?_⟩
      · rcases h1 with h | h
        · exact .inl h
        · exact .inr (List.mem_cons_of_mem _ h)
      · rcases List.mem_cons.mp hy with rfl | hy
        · omega
        · exact h3 y hy
def maxI (xs : List Int) (m : Int) : Int := -(minI (xs.map fun x => -x) (-m))
theorem maxI_spec (xs : List Int) (m : Int) : (maxI xs m = m ∨ maxI xs m ∈ xs) ∧ m ≤ maxI xs m ∧ ∀ y ∈ xs, y ≤ maxI xs m := by
  obtain ⟨h1, h2, h3⟩ := minI_spec (xs.map fun x => -x) (-m)
  unfold maxI
  refine ⟨?_, by omega, fun y hy => ?_⟩
  · rcases h1 with h | h
    · exact .inl (by omega)
    · obtain ⟨x, hx, e⟩ := List.mem_map.mp h
      exact .inr (by rw [← e, Int.neg_neg]; exact hx)
  · have := h3 (-y) (List.mem_map.mpr ⟨y, hy, rfl⟩)
    omega
def gMinL : List D → Option Op
  | [.lst ds] => (intsOf ds).bind fun ns => match ns with
    | [] => none
    | x :: xs => some (.val (.int (minI xs x)))
  | _ => none
def gMaxL : List D → Option Op
  | [.lst ds] => (intsOf ds).bind fun ns => match ns with
    | [] => none
    | x :: xs => some (.val (.int (maxI xs x)))
  | _ => none
theorem rc_minL {K : PySem.W.Frag} {mg : Mg} : RC K mg (L2.rMin K) gMinL := fun G H xs ds op Q s p eq q => by
  unfold gMinL at eq
  split at eq
  · obtain ⟨ns, e1, eq⟩ := bind_some' eq
    cases ns with
    | nil => cases eq
    | cons x xs =>
      cases eq
      cases p with
      | cons p p' =>
        cases p'
        obtain ⟨a, vs, rfl, hq, r⟩ := p.lst s
        rw [intsOf_rp r e1] at hq
        obtain ⟨h1, h2, h3⟩ := minI_spec xs x
        refine ⟨a, x :: xs, rfl, hq, by simp, fun m hm hle => ?_⟩
        have e : m = minI xs x := by
          have b1 : m ≤ minI xs x := by
            rcases h1 with h | h
            · rw [h]; exact hle x List.mem_cons_self
            · exact hle _ (List.mem_cons_of_mem _ h)
          have b2 : minI xs x ≤ m := by
            rcases List.mem_cons.mp hm with rfl | h
            · exact h2
            · exact h3 m h
          omega
        subst e
        exact q _ G H (Nw.refl s) (.val (.int _))
  · cases eq
theorem rc_maxL {K : PySem.W.Frag} {mg : Mg} : RC K mg (L2.rMax K) gMaxL := fun G H xs ds op Q s p eq q => by
  unfold gMaxL at eq
  split at eq
  · obtain ⟨ns, e1, eq⟩ := bind_some' eq
    cases ns with
    | nil => cases eq
    | cons x xs =>
      cases eq
      cases p with
      | cons p p' =>
        cases p'
        obtain ⟨a, vs, rfl, hq, r⟩ := p.lst s
        rw [intsOf_rp r e1] at hq
        obtain ⟨h1, h2, h3⟩ := maxI_spec xs x
        refine ⟨a, x :: xs, rfl, hq, by simp, fun m hm hle => ?_⟩
        have e : m = maxI xs x := by
          have b1 : maxI xs x ≤ m := by
            rcases h1 with h | h
            · rw [h]; exact hle x List.mem_cons_self
            · exact hle _ (List.mem_cons_of_mem _ h)
          have b2 : m ≤ maxI xs x := by
            rcases List.mem_cons.mp hm with rfl | h
            · exact h2
            · exact h3 m h
          omega
        subst e
        exact q _ G H (Nw.refl s) (.val (.int _))
  · cases eq
section
variable {X : Cx} {e : Expr} {t : TA} {fp : FP} {pos p : Pos}
theorem je_minL {K : PySem.W.Frag} (hc : X.calm = true) (hg : Gl X "min") (hm : X.mg "min" = none) (ha : JP X [e] t fp) (he : starEach (e :: []) X.env = (false, eval e X.env) :: starEach [] X.env := by rfl) (hpl : (backTo pos (starEach [] X.env)).any (·.1) = false := by rfl) (hK : X.K = K := by rfl) : JE X (.Call (.Name "min" p) [e] [] pos) (tCB (L2.rMin K) t) (fCB gMinL fp) := by
  subst hK
  exact je_cb (cr_min hc) rc_minL hg hm (by decide +kernel) ha (by decide) (by decide) he hpl
theorem je_maxL {K : PySem.W.Frag} (hc : X.calm = true) (hg : Gl X "max") (hm : X.mg "max" = none) (ha : JP X [e] t fp) (he : starEach (e :: []) X.env = (false, eval e X.env) :: starEach [] X.env := by rfl) (hpl : (backTo pos (starEach [] X.env)).any (·.1) = false := by rfl) (hK : X.K = K := by rfl) : JE X (.Call (.Name "max" p) [e] [] pos) (tCB (L2.rMax K) t) (fCB gMaxL fp) := by
  subst hK
  exact je_cb (cr_max hc) rc_maxL hg hm (by decide +kernel) ha (by decide) (by decide) he hpl
end
end J
namespace J
open PySem PySem.Spec PyProof.Rows L2

/-! ### name = {k: v for ..} on one line -/
theorem ps_setDc {X : Cx} {i : Nat} {y : PySem.Str} {py : Pos} {kx vx tg iter : Expr} {ifs : List Expr} {scope : Scope} {own : List (PySem.Str × Nat)} {pos spos : Pos} {wi : TI} {g : TG} {tt : TT} {tk tv : TE} (hc : X.calm = true) (hN : X.N.Nodup) (hy : X.N[i]? = some y) (hyl : X.env.scope.names.lookup y = some .local)
    (hsw : swapsWith (.DictComp kx vx [⟨tg, iter, ifs, 0⟩] scope pos) (some (.Name y py)) spos.line X.env = pure true) (hi : PI X tg iter wi) (ok : BlkOk X.N X.env.scope scope own)
    (hg : ∀ (s : Shared) (H : Hp) (C : Addr) (cl : List (PySem.Str × Addr)) (fp : List Addr), PG (X.blk s H scope (compEnvC scope cl C X.env) fp) tg g) (ht : ∀ (s : Shared) (H : Hp) (C : Addr) (cl : List (PySem.Str × Addr)) (fp : List Addr), PTs (X.blk s H scope (compEnvC scope cl C X.env) fp) ifs tt)
    (hk : ∀ (s : Shared) (H : Hp) (C : Addr) (cl : List (PySem.Str × Addr)) (fp : List Addr), PE (X.blk s H scope (compEnvC scope cl C X.env) fp) kx tk)
    (he : ∀ (s : Shared) (H : Hp) (C : Addr) (cl : List (PySem.Str × Addr)) (fp : List Addr), PE (X.blk s H scope (compEnvC scope cl C X.env) fp) vx tv) (hs : ∀ x, foldedSetIterable iter X.env x = pure x := by intro _; rfl) :
    PS X (.Assign [.Name y py] (.DictComp kx vx [⟨tg, iter, ifs, 0⟩] scope pos) spos) (tAsg (tDc wi g tt tk tv (own.map (·.2))) (gName i)) := by
  refine ⟨fun pins s σ H D I h => ?_⟩
  rw [exec_Assign_Name_used _ _ _ _ hsw]
  refine wpAny_bind (wpAny_standAt (wpAny_bind ?_))
  show wpAny _ X.A (do let _ ← comprehension (.DictComp kx vx [⟨tg, iter, ifs, 0⟩] scope pos) scope X.env (firstIterPos [⟨tg, iter, ifs, 0⟩] pos) newDict false (eval iter X.env) (some (assign (.Name y py) X.env))) _ _ s
  have h : tDc wi g tt tk tv (own.map (·.2)) σ H (fun x H1 => gName i x σ H1 D.nx) := h
  refine wpAny_bind (thn (dc_core (Qf := fun _ s' => SP X pins D .next s') hc hN I hi ok hg ht hk he hs h fun L C s' m H' I' q hn f => ?_) fun _ s' hq => wpAny_pure (wpAny_pure hq))
  show wpAny _ _ (assign (.Name y py) X.env (.ref L)) _ _ _
  refine wpAny_assign_Name (store_ok2 (v := V.ref L) I' hN hy (.inl hyl) rfl (fun s2 I2 ⟨a, sb, ha⟩ => ?_) (.inr hyl))
  obtain ⟨f0, f1, f2, f3, f4, f5⟩ := f
  have haC : C ≠ a := by
    rcases ha with z | z
    · rw [z]; exact f1
    · exact fun e => f4 y a z e.symm
  refine ⟨m, hn.sameBut sb haC, fun h3 sb3 => ?_⟩
  exact ⟨_, H', I2.turned (t' := s2.toks) (fun b o hb e => (sb3.2 b hb).trans e) f0 f1 f3 f4 f5, q⟩
theorem swD_true {kx vx : Expr} {gs : List Comprehension} {scope : Scope} {pos py : Pos} {y : PySem.Str} {l : Nat} {env : Env} (hk : env.scope.kind = .function) (hy : env.scope.names.lookup y = some .local) (hl : (py.line == pos.line) = true)
    (ha : (scope.names.any fun (n, k) => n == y && (k == .local || k == .cell)) = false) : swapsWith (.DictComp kx vx gs scope pos) (some (.Name y py)) l env = pure true := by
  have ky : env.kindOf y = some .local := hy
  have hb : env.blockKind = .function := by unfold Env.blockKind; rw [hk]; rfl
  unfold swapsWith
  simp only [hb, ky, ha, Expr.pos, hl]
  rfl
section
variable {X : Cx} {kx vx tgt iter : Expr} {ifs : List Expr} {scope : Scope} {own : List (PySem.Str × Nat)} {pos spos : Pos} {wi : TI} {w : FI} {tg : TG} {g : FG} {is : List Nat} {tt : TT} {ft : FT} {tk te : TE} {fk fe : FE} {b : Bool} {i : Nat} {y : PySem.Str} {py : Pos}
theorem js_setDc (hb : b = false ∨ i ≠ 0) (hc : X.calm = true) (hN : X.N.Nodup) (hyl : X.env.scope.names.lookup y = some .local) (hsw : swapsWith (.DictComp kx vx [⟨tgt, iter, ifs, 0⟩] scope pos) (some (.Name y py)) spos.line X.env = pure true)
    (hi : JI X tgt iter wi w) (ok : BlkOk X.N X.env.scope scope own) (hs : ∀ i ∈ is, i ∈ own.map (·.2)) (hg : ∀ (s : Shared) (H : Hp) (C : Addr) (cl : List (PySem.Str × Addr)) (fp : List Addr), JG (X.blk s H scope (compEnvC scope cl C X.env) fp) tgt is tg g) (ht : ∀ (s : Shared) (H : Hp) (C : Addr) (cl : List (PySem.Str × Addr)) (fp : List Addr), JTs (X.blk s H scope (compEnvC scope cl C X.env) fp) ifs tt ft)
    (hk : ∀ (s : Shared) (H : Hp) (C : Addr) (cl : List (PySem.Str × Addr)) (fp : List Addr), JE (X.blk s H scope (compEnvC scope cl C X.env) fp) kx tk fk) (he : ∀ (s : Shared) (H : Hp) (C : Addr) (cl : List (PySem.Str × Addr)) (fp : List Addr), JE (X.blk s H scope (compEnvC scope cl C X.env) fp) vx te fe)
    (hy : X.N[i]? = some y := by rfl) (hf : ∀ x, foldedSetIterable iter X.env x = pure x := by intro _; rfl) : JS X b (.Assign [.Name y py] (.DictComp kx vx [⟨tgt, iter, ifs, 0⟩] scope pos) spos) (tAsg (tDc wi tg tt tk te (own.map (·.2))) (gName i)) (sSet i (fDc (own.map (·.2)) w g ft fk fe)) :=
  ⟨ps_setDc hc hN hy hyl hsw hi.pi ok (fun s H C cl fp => (hg s H C cl fp).pg) (fun s H C cl fp => (ht s H C cl fp).pts) (fun s H C cl fp => (hk s H C cl fp).pe) (fun s H C cl fp => (he s H C cl fp).pe) hf,
   rs_set hb (re_dc hs hi.ri (hg X.s_0 X.H_0 0 [] []).rg (ht X.s_0 X.H_0 0 [] []).rt (hk X.s_0 X.H_0 0 [] []).re (he X.s_0 X.H_0 0 [] []).re)⟩
theorem js_setDcF (hb : b = false ∨ i ≠ 0) (hc : X.calm = true) (hN : X.N.Nodup) (hyl : X.env.scope.names.lookup y = some .local) (hsw : swapsWith (.DictComp kx vx [⟨tgt, iter, ifs, 0⟩] scope pos) (some (.Name y py)) spos.line X.env = pure true)
    (hi : JI X tgt iter wi w) (ok : BlkOk X.N X.env.scope scope own) (hs : ∀ i ∈ is, i ∈ own.map (·.2)) (hg : ∀ (s : Shared) (H : Hp) (C : Addr) (cl : List (PySem.Str × Addr)) (fp : List Addr), JG (X.blk s H scope (compEnvC scope cl C X.env) fp) tgt is tg g) (ht : ∀ (s : Shared) (H : Hp) (C : Addr) (cl : List (PySem.Str × Addr)) (fp : List Addr), JTs (X.blk s H scope (compEnvC scope cl C X.env) fp) ifs tt ft)
    (hk : ∀ (s : Shared) (H : Hp) (C : Addr) (cl : List (PySem.Str × Addr)) (fp : List Addr), JE (X.blk s H scope (compEnvC scope cl C X.env) fp) kx tk fk) (he : ∀ (s : Shared) (H : Hp) (C : Addr) (cl : List (PySem.Str × Addr)) (fp : List Addr), JE (X.blk s H scope (compEnvC scope cl C X.env) fp) vx te fe)
    (hy : X.N[i]? = some y := by rfl) (hf : ∀ x, foldedSetIterable iter X.env x = pure x := by intro _; rfl) : JS X b (.Assign [.Name y py] (.DictComp kx vx [⟨tgt, iter, ifs, 0⟩] scope pos) spos) (tAsg (tDc wi tg tt tk te (own.map (·.2))) (gName i)) (sSetF i (fDc (own.map (·.2)) w g ft fk fe)) :=
  ⟨ps_setDc hc hN hy hyl hsw hi.pi ok (fun s H C cl fp => (hg s H C cl fp).pg) (fun s H C cl fp => (ht s H C cl fp).pts) (fun s H C cl fp => (hk s H C cl fp).pe) (fun s H C cl fp => (he s H C cl fp).pe) hf,
   rs_setF hb (re_dc hs hi.ri (hg X.s_0 X.H_0 0 [] []).rg (ht X.s_0 X.H_0 0 [] []).rt (hk X.s_0 X.H_0 0 [] []).re (he X.s_0 X.H_0 0 [] []).re)⟩
end
end J
namespace J
open PySem PySem.Spec PyProof.Rows L2

/-! ### min(xs, default=d) -/
section
variable {prog : Program} {w : World} {A : Around} {R : Result → Shared → Prop} {E : Value → Shared → Prop} {s : Shared} {I : Addr} {fp wr : List Addr} {n : Nat} {P : Nat → Value → Prop} {St : Nat → Heap → Prop}
abbrev kwD (dv : Value) : List (PySem.Str × Value) := [(PySem.Str.ofString "default", dv)]
/-- what the loop holds: nothing yet, or the best of those that it saw -/
def Held (P : Nat → Value → Prop) (bt : Nat → Nat → Bool) (j : Nat) (xs : Array Value) : Prop := (j = 0 ∧ xs = #[]) ∨ ∃ i vb, j = i + 1 ∧ xs = #[vb, vb] ∧ P (argBest bt i) vb
theorem minD_loop (W : Walks prog w A.in1 I fp wr n P St) (bt : Nat → Nat → Bool) (hcmp : CmpOf prog w A.in1 .Lt P bt) (S : Addr) (hSf : S ∉ fp) (dv : Value) :
    ∀ (k j : Nat) (s : Shared) (xs : Array Value) (c : Nat), n - j = k → j ≤ n → St j s.heap → Held P bt j xs →
    s.heap.get? S = some { cls := .type "list", dict := none, data := .seq xs c, slots := #[] } →
    (n = 0 → ∀ h' tk, (∀ b o, b ∉ wr → b ≠ S → s.heap.get? b = some o → h'.get? b = some o) → R (.ok (.ret dv)) { s with heap := h', toks := tk }) →
    (0 < n → ∀ v h' tk, P (argBest bt (n - 1)) v → (∀ b o, b ∉ wr → b ≠ S → s.heap.get? b = some o → h'.get? b = some o) → R (.ok (.ret v)) { s with heap := h', toks := tk }) →
    codeAny (model prog w) A (.builtin "min.loop" ⟨[.ref I, .none, .ref S], kwD dv⟩) R s := by
  have hSw : S ∉ wr := fun h => hSf (W.sub _ h)
  have hname : (toString "min" ++ toString ".loop" : String) = "min.loop" := by decide
  intro k
  induction k with
  | zero =>
    intro j s xs c hk hj hst hx hS h0 hR
    have hin : j = n := by omega
    refine codeAny_builtin F.entry_min_loop ?_
    rw [Around.under_plainId F.plain_min_loop _]
    show wpAny _ A.in1 (seqItems? (.ref S) >>= _) _ _ s
    refine wpAny_bind (wpAny_seqItems hS rfl ?_)
    rcases hx with ⟨rfl, rfl⟩ | ⟨i, vb, rfl, rfl, hp⟩
    · show wpAny _ A.in1 (tryCatch (pyNext (.ref I)) _ >>= _) _ _ s
      refine wpAny_bind (wpAny_tryCatch (W.done s _ _ (hin ▸ hst) fun h' tk hk' => ?_))
      refine wpAny_bind (wpAny_rule (wpAny_pure ?_))
      exact h0 hin.symm h' tk fun b o hbw hbS e => hk' b o hbw e
    · show wpAny _ A.in1 (tryCatch (pyNext (.ref I)) _ >>= _) _ _ s
      refine wpAny_bind (wpAny_tryCatch (W.done s _ _ (hin ▸ hst) fun h' tk hk' => ?_))
      have hS' := hk' S _ hSw hS
      show wpAny _ A.in1 (updateSeq S (fun _ => #[]) >>= _) _ _ _
      refine wpAny_bind ?_
      refine wpAny_updateSeq hS' rfl (wpAny_bind (wpAny_letGo (wpAny_pure ?_)))
      exact hR (by omega) vb _ tk (by rw [← hin]; exact hp) fun b o hbw hbS e => (Heap.get?_update_other _ _ (Ne.symm hbS)).trans (hk' b o hbw e)
  | succ k ih =>
    intro j s xs c hk hj hst hx hS h0 hR
    have hlt : j < n := by omega
    refine codeAny_builtin F.entry_min_loop ?_
    rw [Around.under_plainId F.plain_min_loop _]
    show wpAny _ A.in1 (seqItems? (.ref S) >>= _) _ _ s
    refine wpAny_bind (wpAny_seqItems hS rfl ?_)
    have go : ∀ (h' : Heap) (tk : Nat) (ys : Array Value) (c' : Nat), St (j + 1) h' → Held P bt (j + 1) ys → (∀ b o, b ∉ wr → b ≠ S → s.heap.get? b = some o → h'.get? b = some o) → h'.get? S = some { cls := .type "list", dict := none, data := .seq ys c', slots := #[] } →
        codeAny (model prog w) A (.builtin "min.loop" ⟨[.ref I, .none, .ref S], kwD dv⟩) R { s with heap := h', toks := tk } := fun h' tk ys c' hst' hy hk' hS' =>
      ih (j + 1) _ ys c' (by omega) hlt hst' hy hS' (fun z => by omega) fun hn v h'' tk' hp hk'' => hR hn v h'' tk' hp fun b o hbw hbS e => hk'' b o hbw hbS (hk' b o hbw hbS e)
    rcases hx with ⟨rfl, rfl⟩ | ⟨i, vb, rfl, rfl, hp⟩
    · show wpAny _ A.in1 (tryCatch (pyNext (.ref I)) _ >>= _) _ _ s
      refine wpAny_bind (wpAny_tryCatch (W.item 0 s _ _ hlt hst fun v h' tk hP hst' hk' => ?_))
      have hS' := hk' S _ hSw hS
      show wpAny _ A.in1 (updateSeq S (fun _ => #[v, v]) >>= _) _ _ _
      refine wpAny_bind ?_
      refine wpAny_updateSeq hS' rfl ?_
      rw [hname]
      refine wpAny_pure ⟨plainId_quiet F.plain_min_loop _, go _ tk _ _ (W.frame _ _ _ hst' fun b hbf o e => ?_) (.inr ⟨0, v, rfl, rfl, hP⟩) (fun b o hbw hbS e => ?_) (Heap.get?_update_self _ hS' rfl)⟩
      · exact (Heap.get?_update_other _ _ (fun h : S = b => hSf (by rw [h]; exact hbf))).trans e
      · exact (Heap.get?_update_other _ _ (Ne.symm hbS)).trans (hk' b o hbw e)
    · show wpAny _ A.in1 (tryCatch (pyNext (.ref I)) _ >>= _) _ _ s
      refine wpAny_bind (wpAny_tryCatch (W.item (i + 1) s _ _ hlt hst fun v h' tk hP hst' hk' => ?_))
      have hS' := hk' S _ hSw hS
      show wpAny _ A.in1 (tryCatch (holding [v, v] (richCompare .Lt v vb >>= _)) _ >>= _) _ _ _
      refine wpAny_bind (wpAny_tryCatch (wpAny_holding (wpAny_bind (hcmp (i + 1) (argBest bt i) v vb _ _ _ hP hp ?_))))
      refine wpAny_bind (wpAny_holding (wpAny_truthy_bool ?_))
      refine wpAny_bind (wpAny_letGo (wpAny_pure ?_))
      cases hb : bt (i + 1) (argBest bt i) with
      | true =>
        simp only [if_true]
        refine wpAny_bind ?_
        refine wpAny_updateSeq hS' rfl (wpAny_bind (wpAny_letGo ?_))
        rw [hname]
        refine wpAny_pure ⟨plainId_quiet F.plain_min_loop _, go _ tk _ _ (W.frame _ _ _ hst' fun b hbf o e => ?_) (.inr ⟨i + 1, v, rfl, rfl, by simp only [argBest, hb, if_true]; exact hP⟩) (fun b o hbw hbS e => ?_) (Heap.get?_update_self _ hS' rfl)⟩
        · exact (Heap.get?_update_other _ _ (fun h : S = b => hSf (by rw [h]; exact hbf))).trans e
        · exact (Heap.get?_update_other _ _ (Ne.symm hbS)).trans (hk' b o hbw e)
      | false =>
        simp only [Bool.false_eq_true, if_false]
        refine wpAny_bind (wpAny_letGo ?_)
        rw [hname]
        exact wpAny_pure ⟨plainId_quiet F.plain_min_loop _, go _ tk _ _ hst' (.inr ⟨i + 1, vb, rfl, rfl, by simp only [argBest, hb, Bool.false_eq_true, if_false]; exact hp⟩) (fun b o hbw _ e => hk' b o hbw e) hS'⟩
theorem args_minD (a d : Value) : argsOk "min" ⟨[a], kwD d⟩ := by unfold argsOk; kernel_rfl
theorem call_kw_tree {id : String} {b : Builtin} {args : List Value} {kw : List (PySem.Str × Value)} {Q : Value → Shared → Prop} (hk : builtinKind id = none) (hp : plainId id = true) (hb : entryFor table id = some b) (ha : argsOk id ⟨args, kw⟩)
    (hc : wpAny (model prog w) A.in1 (b ⟨args, kw⟩) (fun fin s' => match fin with
      | .done f => (match (Except.ok f : Result) with | .ok (.ret v) => Q v s' | .ok _ => False | .error e => E e s')
      | .again c' => c'.quiet = true ∧ codeAny (model prog w) A c' (fun r s' => match r with | .ok (.ret v) => Q v s' | .ok _ => False | .error e => E e s') s') E s) :
    wpAny (model prog w) A (call (.builtin id) args kw) Q E s := by
  refine wpAny_call (codeAny_call_builtin hp hb ?_)
  simp only [checkBuiltinCall, hk]
  cases hsig : Manifest.signature? id with
  | none => exact wpAny_pure hc
  | some sig =>
    have ha' : Bind.checkArgs id sig ⟨args, kw⟩ = pure () := by simpa only [argsOk, hsig] using ha
    simp only [ha']
    exact wpAny_pure hc
theorem call_minD {x dv : Value} {Q : Value → Shared → Prop}
    (h : wpAny (model prog w) A.in1 (pyIter x) (fun it s₂ => ∃ I fp wr n P St bt, it = .ref I ∧ Walks prog w A.in1 I fp wr n P St ∧ St 0 s₂.heap ∧ (∀ b ∈ fp, b < s₂.heap.objs.size) ∧ CmpOf prog w A.in1 .Lt P bt ∧
      (n = 0 → ∀ h' tk, (∀ b o, b ∉ wr → s₂.heap.get? b = some o → h'.get? b = some o) → Q dv { s₂ with heap := h', toks := tk }) ∧
      (0 < n → ∀ v h' tk, P (argBest bt (n - 1)) v → (∀ b o, b ∉ wr → s₂.heap.get? b = some o → h'.get? b = some o) → Q v { s₂ with heap := h', toks := tk })) E s) :
    wpAny (model prog w) A (call (.builtin "min") [x] (kwD dv)) Q E s := by
  have hname : (toString "min" ++ toString ".loop" : String) = "min.loop" := by decide
  refine call_kw_tree F.kind_min F.plain_min F.entry_min (args_minD _ _) ?_
  show wpAny _ A.in1 (Builtin.Builtins.bindParams "min" ["key", "default"] 0 ⟨[], kwD dv⟩ >>= _) _ _ s
  refine wpAny_bind (wpAny_of_eq (show Builtin.Builtins.bindParams "min" ["key", "default"] 0 ⟨[], kwD dv⟩ = pure [none, some dv] from rfl) ?_)
  refine wpAny_bind (wpAny_pure ?_)
  refine wpAny_bind (wpAny_mono h (fun it s₂ h₂ => ?_) fun _ _ e => e)
  obtain ⟨I, fp, wr, n, P, St, bt, rfl, W, hst, hfp, hcmp, hQ0, hQ⟩ := h₂
  refine wpAny_bind (wpAny_newObj_type ?_)
  have hSf : s₂.heap.objs.size ∉ fp := fun hm => Nat.lt_irrefl _ (hfp _ hm)
  rw [hname]
  refine wpAny_pure ⟨plainId_quiet F.plain_min_loop _, minD_loop W bt hcmp s₂.heap.objs.size hSf dv _ 0 _ #[] 0 rfl (Nat.zero_le _) (W.frame _ _ _ hst fun b _ o e => Heap.get?_push_of_some _ e) (.inl ⟨rfl, rfl⟩) (Heap.get?_push_size _ rfl) (fun hn h' tk hk => ?_) fun hn v h' tk hP hk => ?_⟩
  · exact hQ0 hn h' tk fun b o hbw e => hk b o hbw (Nat.ne_of_lt (Heap.lt_size e)) (Heap.get?_push_of_some _ e)
  · exact hQ hn v h' tk hP fun b o hbw e => hk b o hbw (Nat.ne_of_lt (Heap.lt_size e)) (Heap.get?_push_of_some _ e)
theorem minD_raw {l : Addr} {its : List Value} {ns : List Int} {dv : Value} {Q : Value → Shared → Prop} (hh : A.handled = none) (hl : s.heap.IsList l its.toArray) (hi : IntsAre its ns)
    (h0 : ns = [] → ∀ h' tk, (∀ b o, s.heap.get? b = some o → h'.get? b = some o) → Q dv { s with heap := h', toks := tk })
    (h : ∀ h' tk M t', (∀ b o, s.heap.get? b = some o → h'.get? b = some o) → M ∈ ns → (∀ a, a ∈ ns → M ≤ a) → Q (.int M t') { s with heap := h', toks := tk }) : wpAny (model prog w) A (call (.builtin "min") [.ref l] (kwD dv)) Q E s := by
  obtain ⟨xs, e⟩ := hi.allInts.items
  have hn : numsOf (intItems xs).toList = ns := by rw [← e]; exact hi.numsOf
  rw [nums_intItems] at hn
  subst hn
  rw [e] at hl
  refine call_minD (iter_intList hl fun s₂ e st hfp hlI => ?_)
  subst e
  refine ⟨_, _, _, _, _, _, _, rfl, Walks.list (A := A.in1) hh _ l hlI (intItems xs), st, hfp, CmpOf.ints_lt (numAt xs) (fun _ _ => intItems_at), fun hz h' tk hk => ?_, fun hz v h' tk hP hk => ?_⟩
  · refine h0 ?_ h' tk (old_kept hk)
    have : xs.size = 0 := by simpa [intItems] using hz
    have e2 : xs = #[] := by simpa using this
    rw [e2]; rfl
  · have hsz : 0 < xs.size := by simpa [intItems] using hz
    have hP : (intItems xs)[argBest (fun i j => decide (numAt xs i < numAt xs j)) (xs.size - 1)]? = some v := by simpa [intItems] using hP
    obtain ⟨t, rfl⟩ := intItems_at hP
    obtain ⟨h1, h2⟩ := argBest_lt (numAt xs) (xs.size - 1)
    refine h h' tk _ t (old_kept hk) ?_ fun a ha => ?_
    · rw [numAt_eq]; exact PySem.getD_mem (by rw [List.length_map, Array.length_toList]; omega)
    · obtain ⟨j, hj, rfl⟩ := mem_getD ha
      rw [List.length_map, Array.length_toList] at hj
      rw [← numAt_eq]; exact h2 j (by omega)
end
def rMinD (K : PySem.W.Frag) : List V → List V → Hp → VK → Prop := fun vs zs H Q => ∃ (a : Addr) (ns : List Int) (d : V), vs = [V.ref a] ∧ zs = [d] ∧ SqL K H a (ns.map V.int) ∧ (ns = [] → Q d H) ∧ ∀ m, m ∈ ns → (∀ y, y ∈ ns → m ≤ y) → Q (.int m) H
theorem cr_minD {X : Cx} (hc : X.calm = true) : CallRK X (.builtin "min") [PySem.Str.ofString "default"] (rMinD X.K) := by
  intro pins s σ H xs zs us ws Q I rx rz h
  obtain ⟨a, ns, d, rfl, rfl, hs, q0, q⟩ := h
  obtain ⟨u, rfl, ru⟩ := rx.one
  obtain ⟨w, rfl, rw'⟩ := rz.one
  cases ru
  obtain ⟨its, r, pl, hl⟩ := I.list hs
  refine minD_raw (I.ok.hd hc) pl.isList (ns := ns) r.ints (fun z h' tk k => ?_) fun h' tk M t' k hm hle => ?_
  · exact ⟨d, H, I.kept k, rw', q0 z⟩
  · exact ⟨.int M, H, I.kept k, ⟨_, rfl⟩, q M hm hle⟩
def gMinN : List D → Option Op
  | [.lst ds] => (intsOf ds).bind fun ns => match ns with
    | [] => some (.val .non)
    | x :: xs => some (.val (.int (minI xs x)))
  | _ => none
theorem rc_minN {K : PySem.W.Frag} {mg : Mg} : RC K mg (fun xs H Q => rMinD K xs [.non] H Q) gMinN := fun G H xs ds op Q s p eq q => by
  unfold gMinN at eq
  split at eq
  · obtain ⟨ns, e1, eq⟩ := bind_some' eq
    cases p with
    | cons p p' =>
      cases p'
      obtain ⟨a, vs, rfl, hq, r⟩ := p.lst s
      rw [intsOf_rp r e1] at hq
      cases ns with
      | nil =>
        cases eq
        exact ⟨a, [], .non, rfl, rfl, hq, fun _ => q _ G H (Nw.refl s) (.val .non), fun m hm => absurd hm (by simp)⟩
      | cons x xs =>
        cases eq
        obtain ⟨h1, h2, h3⟩ := minI_spec xs x
        refine ⟨a, x :: xs, .non, rfl, rfl, hq, (fun z => nomatch z), fun m hm hle => ?_⟩
        have e : m = minI xs x := by
          have b1 : m ≤ minI xs x := by
            rcases h1 with h | h
            · rw [h]; exact hle x List.mem_cons_self
            · exact hle _ (List.mem_cons_of_mem _ h)
          have b2 : minI xs x ≤ m := by
            rcases List.mem_cons.mp hm with rfl | h
            · exact h2
            · exact h3 m h
          omega
        subst e
        exact q _ G H (Nw.refl s) (.val (.int _))
  · cases eq
section
variable {X : Cx} {e : Expr} {t : TA} {fp : FP} {pos p kpos cpos : Pos}
theorem je_minN {K : PySem.W.Frag} {j : Nat} (hc : X.calm = true) (hg : Gl X "min") (hm : X.mg "min" = none) (ha : JP X [e] t fp) (hK : X.K = K := by rfl)
    (he : backTo pos (starEach (e :: []) X.env) = (false, eval e X.env) :: backTo pos (starEach [] X.env) := by rfl) (hpl : (backTo pos (starEach (e :: []) X.env)).any (·.1) = false := by rfl)
    (hall : (backToKw pos (keywordEach [⟨some (PySem.Str.ofString "default"), .Constant .none j cpos, kpos⟩] X.env)).all (·.1.isSome) = true := by rfl) (hnone : (backToKw pos (keywordEach [⟨some (PySem.Str.ofString "default"), .Constant .none j cpos, kpos⟩] X.env)).any (·.1.isNone) = false := by rfl) (hks : (backToKw pos (keywordEach [⟨some (PySem.Str.ofString "default"), .Constant .none j cpos, kpos⟩] X.env)).filterMap (·.1) = [PySem.Str.ofString "default"] := by rfl) :
    JE X (.Call (.Name "min" p) [e] [⟨some (PySem.Str.ofString "default"), .Constant .none j cpos, kpos⟩] pos) (tCB (fun xs H Q => rMinD K xs [.non] H Q) t) (fCB gMinN fp) := by
  subst hK
  exact ⟨pe_callBK (cr_minD hc) hg hm (by decide +kernel) ha.pa (pk_cons pe_non pk_nil) (by decide) (by decide) he hpl hall hnone hks, re_cb rc_minN ha.rp⟩
end
end J
namespace J
open PySem PySem.Spec PyProof.Rows L2

/-! ### a list comprehension over an owned name: the name's slot is taken out and put back -/
section
variable {K : PySem.W.Frag} {mg : Mg} {own : List Nat}
theorem lc_run {J : It} {G1 H1 : Hp} {σ : L2.St} {τ1 τr : Tau} {ds res : List D} {Q : VK} {tg : TG} {tgf : FG} {is : List Nat} {tt : TT} {ft : FT} {te : TE} {fe : FE} (A1 : At K mg G1 H1 σ τ1)
    (it : ∀ τ G H, Go K mg σ τ1 G1 H1 τ G H → (∀ i, ds.length ≤ i → J.stop i H) ∧ ∀ i d, ds[i]? = some d → J.go i H ∧ ∀ x H', J.yld i H x H' → ∃ G', Nw K mg G H G' H' ∧ Rp K mg G' x d)
    (hs : ∀ i ∈ is, i ∈ own) (hg : RG K mg is tg tgf) (ht : RT K mg tt ft) (he : RE K mg te fe) (e2 : lcD own tgf ft fe ds [] τ1 = some (res, τr)) (D : Addr) (hD : H1 D = none)
    (q : ∀ G H accV, Go K mg σ τ1 G1 H1 τr G H → G D = none → H D = some (.lst accV) → RpL K mg G accV res → ¬ Ro σ τr D → Q (.ref D) H) :
    ∃ W : Nat → Nat → Hp → Prop, (∃ m, W 0 m (upd H1 D (.lst []))) ∧ ∀ i m H, W i m H →
      (J.stop i H ∧ Q (.ref D) H) ∨ (J.go i H ∧ ∃ Nx : Hp → Prop, (∀ H', Nx H' → ∃ m', m' < m ∧ W (i + 1) m' H') ∧ ∀ x H', J.yld i H x H' → tg x (L2.wipe σ own) H' fun σ2 H2 => L2.wipe σ2 own = L2.wipe σ own ∧ tt σ2 H2 fun b H3 =>
        if b = true then te σ2 H3 fun y H4 => ∃ acc, H4 D = some (.lst acc) ∧ acc.length < sizeLine ∧ Nx (upd H4 D (.lst (acc ++ [y]))) else Nx H3) := by
  have gD : G1 D = none := A1.gh.free hD
  have nD : ¬ Ro σ τ1 D := fun z => by
    obtain ⟨_, o, e⟩ := A1.root z
    rw [hD] at e; cases e
  refine ⟨fun i m H => ∃ G τ accV acc, Go K mg σ τ1 G1 H1 τ G H ∧ H D = some (.lst accV) ∧ G D = none ∧ RpL K mg G accV acc ∧ lcD own tgf ft fe (ds.drop i) acc τ = some (res, τr) ∧ m = ds.length - i ∧ i ≤ ds.length,
    ⟨ds.length, G1, τ1, [], [], Go.new A1 hD, upd_same, gD, .nil, e2, by simp, Nat.zero_le _⟩, ?_⟩
  rintro i m H ⟨G, τ, accV, acc, g, h1, h2, r, e, rfl, hle⟩
  have A := g.at'
  obtain ⟨st, gn⟩ := it τ G H g
  by_cases hlt : i < ds.length
  · have hd : ds[i]? = some ds[i] := List.getElem?_eq_getElem hlt
    obtain ⟨go, yl⟩ := gn i _ hd
    rw [List.drop_eq_getElem_cons hlt] at e
    obtain ⟨τ2, e3, e⟩ := bind_some' e
    obtain ⟨⟨b, τ3⟩, e4, e⟩ := bind_some' e
    refine .inr ⟨go, fun H => ∃ G τ accV acc, Go K mg σ τ1 G1 H1 τ G H ∧ H D = some (.lst accV) ∧ G D = none ∧ RpL K mg G accV acc ∧ lcD own tgf ft fe (ds.drop (i + 1)) acc τ = some (res, τr),
      fun H' ⟨G', τ', a', c', x1, x2, x3, x4, x5⟩ => ⟨_, by omega, G', τ', a', c', x1, x2, x3, x4, x5, rfl, hlt⟩, fun x H' y => ?_⟩
    obtain ⟨G', n, rx⟩ := yl x H' y
    have g2 := g.trans (n.go A)
    have A2 := g2.at'
    have h1' := n.hh _ _ h1
    have h2' := n.gf _ _ h1 h2
    obtain ⟨Aw, row⟩ := A2.wipeS own
    refine hg G' H' (L2.wipe σ own) (wipeT own τ) x _ τ2 _ Aw Aw.ll rx e3 fun σ2 A3 l3 ro3 k3 t3 kt3 ls3 => ?_
    -- the block's slots against the outer ones
    have hσ : ∀ j, j ∉ own → σ2[j]? = σ[j]? := fun j hj => by rw [k3 j (fun z => hj (hs j z)), wipe_out' hj]
    have hτ : ∀ j, j ∉ own → τ2[j]? = τ[j]? := fun j hj => by rw [kt3 j (fun z => hj (hs j z)), wipeT_out hj]
    have hl : τ2.length = τ.length := by rw [t3, wipeT_length]
    have no : ∀ j d, j ∈ own → τ2[j]? ≠ some (some (Cell.ow d)) := fun j d hj z => by
      obtain ⟨p, o, a1, a2, a3, a4⟩ := A3.ow j d z
      obtain ⟨k, d', b1, b2⟩ := ro3 p ⟨j, d, z, a1⟩
      obtain ⟨nk, c1⟩ := wipeT_get b1
      rw [wipe_out' nk] at b2
      have := A3.ap j k p d d' z (by rw [hτ k nk]; exact c1) a1 (by rw [hσ k nk]; exact b2)
      subst this
      exact nk hj
    refine ⟨?_, ?_⟩
    · refine List.ext_getElem? fun j => ?_
      by_cases hj : j ∈ own
      · have key : ∀ (vs : List Nat) (ρ : L2.St), j ∈ vs → (L2.wipe ρ vs)[j]? = if j < ρ.length then some none else none := by
          intro vs
          induction vs with
          | nil => intro ρ h; cases h
          | cons v vs ih =>
            intro ρ h
            unfold L2.wipe
            by_cases hv : v = j
            · subst hv
              by_cases hlj : v < (L2.wipe ρ vs).length
              · rw [List.getElem?_set_self hlj, if_pos (by rw [L2.wipe_length] at hlj; exact hlj)]
              · rw [List.getElem?_eq_none (by rw [List.length_set]; omega), if_neg (by rw [L2.wipe_length] at hlj; exact hlj)]
            · rw [List.getElem?_set_ne hv]
              exact ih ρ (by rcases List.mem_cons.mp h with z | z; exact absurd z.symm hv; exact z)
        rw [key own σ2 hj, key own σ hj, ls3, wipe_length']
      · rw [wipe_out' hj, wipe_out' hj, hσ j hj]
    have nD2 : ∀ {τx : Tau} {Gx Hx : Hp}, Go K mg σ2 τ2 G' H' τx Gx Hx → Hx D = some (.lst accV) ∧ Gx D = none ∧ ¬ Ro σ2 τx D := fun {τx Gx Hx} gx => by
      have nr : ¬ Ro σ2 τ2 D := fun z => nD (g2.rr D (row D (ro3 D z)))
      exact ⟨gx.hh _ _ nr h1', gx.gf _ _ nr h1' h2', fun z => nr (gx.rr _ z)⟩
    refine ht σ2 τ2 G' H' b τ3 _ A3 e4 fun G4 H4 g4 => ?_
    dsimp only at e
    cases b with
    | false =>
      rw [if_neg Bool.false_ne_true] at e ⊢
      obtain ⟨y1, y2, _⟩ := nD2 g4
      exact ⟨G4, _, accV, acc, g2.trans (blk_go A2 hσ hτ hl no g4), y1, y2, (r.mono n.gg).mono g4.gg, e⟩
    | true =>
      rw [if_pos rfl] at e ⊢
      obtain ⟨⟨o, τ4⟩, e5, e⟩ := bind_some' e
      obtain ⟨⟨z, τ5⟩, e6, e⟩ := bind_some' e
      dsimp only at e
      by_cases hlen : acc.length < 16777216
      · rw [if_pos hlen] at e
        refine he σ2 τ3 G4 H4 o τ4 _ g4.at' e5 fun y G5 H5 g5 o5 => ?_
        have g45 := g4.trans g5
        obtain ⟨G6, g6, s6, r6⟩ := (o5.weak g4.kp).fz g45 e6
        obtain ⟨y1, y2, y3⟩ := nD2 g6
        refine ⟨accV, y1, by rw [sizeLine_eq, r.length]; exact hlen, ?_⟩
        have gg := g2.trans (blk_go A2 hσ hτ hl no g6)
        have AA := gg.at'
        have racc : RpL K mg G6 accV acc := (r.mono n.gg).mono g6.gg
        have sub : ∀ b, Ro σ (backT own τ τ5) b → b ≠ D := fun b hb z => nD (by rw [← z]; exact gg.rr b hb)
        refine ⟨G6, _, accV ++ [y], acc ++ [z], ⟨⟨fun b x hb => ?_, AA.sh, fun j d hj => ?_, AA.ap, AA.ll⟩, gg.gg, fun b hb => ?_, fun b x nb hb => ?_, fun b x nb hb he => gg.gf b x nb hb he, gg.ri, gg.tl⟩, upd_same, y2, racc.append (.cons r6 .nil), e⟩
        · rw [upd_ne (fun w => by rw [w, y2] at hb; cases hb)]; exact AA.gh _ _ hb
        · obtain ⟨p, o, c1, c2, c3, c4⟩ := AA.ow j d hj
          exact ⟨p, o, c1, c2, by rw [upd_ne (sub p ⟨j, d, hj, c1⟩)]; exact c3, c4⟩
        · by_cases w : b = D
          · rw [w]; exact hD
          · rw [upd_ne w] at hb; exact gg.kp b hb
        · rw [upd_ne (fun w => by rw [w, hD] at hb; cases hb)]; exact gg.hh b x nb hb
      · rw [if_neg hlen] at e; cases e
  · have z : i = ds.length := by omega
    subst z
    rw [List.drop_length] at e
    cases e
    exact .inl ⟨st _ (Nat.le_refl _), q G H accV g h2 h1 r fun w => nD (g.rr _ w)⟩
/-- a slot is taken out -/
theorem At.drop {G H : Hp} {σ : L2.St} {τ : Tau} (A : At K mg G H σ τ) (i : Nat) : At K mg G H σ (τ.set i none) := by
  have key : ∀ {j : Nat} {c : Cell}, (τ.set i none)[j]? = some (some c) → τ[j]? = some (some c) := fun {j c} h => by
    rcases get_set h with ⟨_, z⟩ | ⟨_, z⟩
    · cases z
    · exact z
  exact ⟨A.gh, fun j d h => A.sh j d (key h), fun j d h => A.ow j d (key h), fun j l p d e h1 h2 => A.ap j l p d e (key h1) (key h2), by rw [List.length_set]; exact A.ll⟩
def fLcW (own : List Nat) (i : Nat) (g : FG) (ft : FT) (fe : FE) (τ : Tau) : Option (Op × Tau) := match τ[i]? with
  | some (some (.ow (.lst ds))) => (lcD own g ft fe ds [] (τ.set i none)).bind fun r => some (.tmp (.lst r.1), backT [i] τ r.2)
  | _ => none
theorem re_lcW {i : Nat} {tg : TG} {tgf : FG} {is : List Nat} {tt : TT} {ft : FT} {te : TE} {fe : FE} (hs : ∀ i ∈ is, i ∈ own) (hg : RG K mg is tg tgf) (ht : RT K mg tt ft) (he : RE K mg te fe) : RE K mg (tLc (iSeq K (tVar i)) tg tt te own) (fLcW own i tgf ft fe) := fun σ τ G H op τ' Q A e q => by
  unfold fLcW at e
  split at e
  · rename_i ds hi
    obtain ⟨⟨res, τr⟩, e2, e⟩ := bind_some' e
    cases e
    obtain ⟨p, o, a1, a2, a3, a4⟩ := A.ow i _ hi
    cases a4 with
    | @lst vs _ r =>
      have A1 := A.drop i
      have np : ¬ Ro σ (τ.set i none) p := fun ⟨j, d, h, z⟩ => by
        rcases get_set h with ⟨_, y⟩ | ⟨n, y⟩
        · cases y
        · exact n (A.ap j i p d _ y hi z a1)
      refine ⟨.ref p, a1, p, rfl, .inl ⟨⟨vs, SqL.of a3⟩, fun D hD => ?_⟩⟩
      refine lc_run A1 (fun τ2 G2 H2 g => ?_) hs hg ht he e2 D hD fun G2 H2 accV g b1 b2 b3 b4 => ?_
      · have hq : SqL K H2 p vs := SqL.of (g.hh _ _ np a3)
        refine ⟨fun i hi => ⟨vs, hq, by rw [r.length]; exact hi⟩, fun i d e => ?_⟩
        obtain ⟨v, hv, rv⟩ := r.get e
        exact ⟨⟨vs, v, hq, hv⟩, fun x H' ⟨e1, e2⟩ => by
          subst e1
          have := e2 vs hq
          rw [hv] at this
          cases this
          exact ⟨G2, Nw.refl g.at'.gh, rv.mono g.gg⟩⟩
      · have hτ : ∀ j, j ∉ [i] → (τ.set i none)[j]? = τ[j]? := fun j hj => by
          rw [List.getElem?_set_ne (fun z => hj (by simp [z]))]
        have g2 := blk_go (own := [i]) A (fun j _ => rfl) hτ (by rw [List.length_set]) (fun j d hj z => by
          simp only [List.mem_cons, List.not_mem_nil, or_false] at hj
          subst hj
          rcases get_set z with ⟨_, y⟩ | ⟨n, _⟩
          · cases y
          · exact n rfl) g
        refine q _ G2 H2 g2 (.tmp hD b1 b2 (.lst b3) fun ⟨j, d, h, z⟩ => ?_)
        rcases backT_get h with ⟨hj, y⟩ | ⟨hj, y⟩
        · simp only [List.mem_cons, List.not_mem_nil, or_false] at hj
          subst hj
          rw [a1] at z
          cases z
          rw [a3] at hD
          cases hD
        · exact b4 ⟨j, d, y, z⟩
  · cases e
end
section
variable {X : Cx} {elt tgt : Expr} {ifs : List Expr} {scope : Scope} {own : List (PySem.Str × Nat)} {pos spos p : Pos} {tg : TG} {g : FG} {is : List Nat} {tt : TT} {ft : FT} {te : TE} {fe : FE} {i : Nat} {x : PySem.Str}
theorem je_lcW {K : PySem.W.Frag} (hc : X.calm = true) (hN : X.N.Nodup) (hi : JE X (.Name x p) (tVar i) (fVar i)) (ok : BlkOk X.N X.env.scope scope own) (hs : ∀ i ∈ is, i ∈ own.map (·.2)) (hg : ∀ (s : Shared) (H : Hp) (C : Addr) (cl : List (PySem.Str × Addr)) (fp : List Addr), JG (X.blk s H scope (compEnvC scope cl C X.env) fp) tgt is tg g) (ht : ∀ (s : Shared) (H : Hp) (C : Addr) (cl : List (PySem.Str × Addr)) (fp : List Addr), JTs (X.blk s H scope (compEnvC scope cl C X.env) fp) ifs tt ft) (he : ∀ (s : Shared) (H : Hp) (C : Addr) (cl : List (PySem.Str × Addr)) (fp : List Addr), JE (X.blk s H scope (compEnvC scope cl C X.env) fp) elt te fe)
    (hf : ∀ y, foldedSetIterable (.Name x p) X.env y = pure y := by intro _; rfl) (hK : X.K = K := by rfl) : JE X (.ListComp elt [⟨tgt, .Name x p, ifs, 0⟩] scope pos) (tLc (iSeq K (tVar i)) tg tt te (own.map (·.2))) (fLcW (own.map (·.2)) i g ft fe) := by
  subst hK
  exact ⟨pe_lc hc hN (pi_seq hi.pe) ok (fun s H C cl fp => (hg s H C cl fp).pg) (fun s H C cl fp => (ht s H C cl fp).pts) (fun s H C cl fp => (he s H C cl fp).pe) hf,
   re_lcW hs (hg X.s_0 X.H_0 0 [] []).rg (ht X.s_0 X.H_0 0 [] []).rt (he X.s_0 X.H_0 0 [] []).re⟩
theorem js_setLcW {b : Bool} {l : Nat} {y : PySem.Str} {py : Pos} {K : PySem.W.Frag} (hb : b = false ∨ l ≠ 0) (hc : X.calm = true) (hN : X.N.Nodup) (hyl : X.env.scope.names.lookup y = some .local) (hsw : swapsWith (.ListComp elt [⟨tgt, .Name x p, ifs, 0⟩] scope pos) (some (.Name y py)) spos.line X.env = pure true)
    (hi : JE X (.Name x p) (tVar i) (fVar i)) (ok : BlkOk X.N X.env.scope scope own) (hs : ∀ i ∈ is, i ∈ own.map (·.2)) (hg : ∀ (s : Shared) (H : Hp) (C : Addr) (cl : List (PySem.Str × Addr)) (fp : List Addr), JG (X.blk s H scope (compEnvC scope cl C X.env) fp) tgt is tg g) (ht : ∀ (s : Shared) (H : Hp) (C : Addr) (cl : List (PySem.Str × Addr)) (fp : List Addr), JTs (X.blk s H scope (compEnvC scope cl C X.env) fp) ifs tt ft) (he : ∀ (s : Shared) (H : Hp) (C : Addr) (cl : List (PySem.Str × Addr)) (fp : List Addr), JE (X.blk s H scope (compEnvC scope cl C X.env) fp) elt te fe)
    (hy : X.N[l]? = some y := by rfl) (hf : ∀ y, foldedSetIterable (.Name x p) X.env y = pure y := by intro _; rfl) (hK : X.K = K := by rfl) : JS X b (.Assign [.Name y py] (.ListComp elt [⟨tgt, .Name x p, ifs, 0⟩] scope pos) spos) (tAsg (tLc (iSeq K (tVar i)) tg tt te (own.map (·.2))) (gName l)) (sSet l (fLcW (own.map (·.2)) i g ft fe)) := by
  subst hK
  exact ⟨ps_setLc hc hN hy hyl hsw (pi_seq hi.pe) ok (fun s H C cl fp => (hg s H C cl fp).pg) (fun s H C cl fp => (ht s H C cl fp).pts) (fun s H C cl fp => (he s H C cl fp).pe) hf,
   rs_set hb (re_lcW hs (hg X.s_0 X.H_0 0 [] []).rg (ht X.s_0 X.H_0 0 [] []).rt (he X.s_0 X.H_0 0 [] []).re)⟩
theorem js_setLcWF {b : Bool} {l : Nat} {y : PySem.Str} {py : Pos} {K : PySem.W.Frag} (hb : b = false ∨ l ≠ 0) (hc : X.calm = true) (hN : X.N.Nodup) (hyl : X.env.scope.names.lookup y = some .local) (hsw : swapsWith (.ListComp elt [⟨tgt, .Name x p, ifs, 0⟩] scope pos) (some (.Name y py)) spos.line X.env = pure true)
    (hi : JE X (.Name x p) (tVar i) (fVar i)) (ok : BlkOk X.N X.env.scope scope own) (hs : ∀ i ∈ is, i ∈ own.map (·.2)) (hg : ∀ (s : Shared) (H : Hp) (C : Addr) (cl : List (PySem.Str × Addr)) (fp : List Addr), JG (X.blk s H scope (compEnvC scope cl C X.env) fp) tgt is tg g) (ht : ∀ (s : Shared) (H : Hp) (C : Addr) (cl : List (PySem.Str × Addr)) (fp : List Addr), JTs (X.blk s H scope (compEnvC scope cl C X.env) fp) ifs tt ft) (he : ∀ (s : Shared) (H : Hp) (C : Addr) (cl : List (PySem.Str × Addr)) (fp : List Addr), JE (X.blk s H scope (compEnvC scope cl C X.env) fp) elt te fe)
    (hy : X.N[l]? = some y := by rfl) (hf : ∀ y, foldedSetIterable (.Name x p) X.env y = pure y := by intro _; rfl) (hK : X.K = K := by rfl) : JS X b (.Assign [.Name y py] (.ListComp elt [⟨tgt, .Name x p, ifs, 0⟩] scope pos) spos) (tAsg (tLc (iSeq K (tVar i)) tg tt te (own.map (·.2))) (gName l)) (sSetF l (fLcW (own.map (·.2)) i g ft fe)) := by
  subst hK
  exact ⟨ps_setLc hc hN hy hyl hsw (pi_seq hi.pe) ok (fun s H C cl fp => (hg s H C cl fp).pg) (fun s H C cl fp => (ht s H C cl fp).pts) (fun s H C cl fp => (he s H C cl fp).pe) hf,
   rs_setF hb (re_lcW hs (hg X.s_0 X.H_0 0 [] []).rg (ht X.s_0 X.H_0 0 [] []).rt (he X.s_0 X.H_0 0 [] []).re)⟩
end
end J
namespace J
open PySem PySem.Spec PyProof.Rows L2

/-! ### d[k] op= e, d an owned name -/
def getAtD (o : Op) (k : Key) (τ : Tau) : Option D := match o with
  | .slot j => match τ[j]? with
    | some (some (.ow (.dic ds))) => getK ds k
    | _ => none
  | _ => none
def opVal : Op → Option D
  | .val d => some d
  | _ => none
def sDAugF (g : G2) (fo fi fe : FE) (τ : Tau) : Option Flow := (fo τ).bind fun o => (fi o.2).bind fun i => (deref i.2 i.1).bind fun n => (keyD n).bind fun k => (getAtD o.1 k i.2).bind fun d0 => (fe i.2).bind fun a => (deref a.2 a.1).bind fun d1 => (g d0 d1).bind fun z => (opVal z).bind fun d => (setAtD o.1 k d a.2).bind fun τ' => some (.nx τ')
section
variable {K : PySem.W.Frag} {mg : Mg} {to ti te : TE} {fo fi fe : FE} {b : Bool} {rd : R2} {g : G2}
theorem rs_daug (hr : RB K mg rd g) (ho : RE K mg to fo) (hi : RE K mg ti fi) (he : RE K mg te fe) : RS K mg b (sDAug to ti te rd) (sDAugF g fo fi fe) := fun io R0 G0 H0 G H σ τ D fl hb F e k => by
  obtain ⟨⟨oo, τ1⟩, e1, e⟩ := bind_some' e
  obtain ⟨⟨oi, τ2⟩, e2, e⟩ := bind_some' e
  obtain ⟨n, e3, e⟩ := bind_some' e
  obtain ⟨kk, e4, e⟩ := bind_some' e
  obtain ⟨d0, e5, e⟩ := bind_some' e
  obtain ⟨⟨oa, τ3⟩, e6, e⟩ := bind_some' e
  obtain ⟨d1, e7, e⟩ := bind_some' e
  obtain ⟨z, e8, e⟩ := bind_some' e
  obtain ⟨d, e9, e⟩ := bind_some' e
  obtain ⟨τ5, e10, e⟩ := bind_some' e
  cases e
  dsimp only at e2 e3 e4 e5 e6 e7 e8 e9 e10
  refine ho σ τ G H oo τ1 _ F.at' e1 fun x G1 H1 g1 o1 => ?_
  refine hi σ τ1 G1 H1 oi τ2 _ g1.at' e2 fun y G2 H2 g2 o2 => ?_
  cases key_pk (o2.pk g2.at' e3) e4
  cases o1 with
  | val _ => cases e5
  | tmp _ _ _ _ _ => cases e5
  | @slot _ j hs =>
    unfold getAtD at e5
    dsimp only at e5
    split at e5
    · rename_i ds hj
      obtain ⟨p, o, a1, a2, a3, a4⟩ := g2.at'.ow j _ hj
      rw [hs] at a1
      cases a1
      cases a4 with
      | @dic vs _ r =>
        rcases r.val kk with ⟨_, h2⟩ | ⟨v, d', h1, h2, h3⟩
        · unfold getK at e5; rw [h2] at e5; cases e5
        · unfold getK at e5; rw [h2] at e5; cases e5
          refine ⟨p, v, rfl, h1 ▸ DGet.k a3, ?_⟩
          refine he σ τ2 G2 H2 oa τ3 _ g2.at' e6 fun w G3 H3 g3 o3 => ?_
          refine hr G3 H3 v w d0 d1 z _ g3.at'.gh (.frz (h3.mono g3.gg)) (o3.pk g3.at' e7) e8 fun u G4 H4 n on => ?_
          cases on with
          | tmp _ _ _ _ => cases e9
          | val r4 =>
            cases e9
            have gg := ((g1.trans g2).trans g3).trans (n.go g3.at')
            unfold setAtD at e10
            dsimp only at e10
            split at e10
            · rename_i ds' hj'
              obtain ⟨hl, z⟩ := if_get e10
              cases z
              obtain ⟨p', o', b1, b2, b3, b4⟩ := gg.at'.ow j _ hj'
              rw [hs] at b1
              cases b1
              cases b4 with
              | @dic vs' _ r' =>
                exact ⟨_, DPut.k b3 (by rw [sizeLine_eq, r'.length]; exact hl), k σ G4 _ (F.go (gg.trans (Go.put gg.at' hj' hs (.dic (r'.put r4)))))⟩
            · cases e10
    · cases e5
end
section
variable {X : Cx} {b : Bool} {j : Nat} {o i e : Expr} {te to ti : TE} {fe fo fi : FE} {pos pos' : Pos}
theorem js_daugSub (hr : Room j X.A) (ho : JE X o to fo) (hi : JE X i ti fi) (he : JE X e te fe) (ha : ∀ ov iv new, augStore i ov iv new = (do holding [new, ov, iv] (setItem ov iv new); release [new, ov, iv] []; pure .next) := by intro _ _ _; rfl) : JS X b (.AugAssign (.Subscript o i pos') .Sub e pos) (sDAug to ti te rSub) (sDAugF gSub fo fi fe) :=
  ⟨ps_daug (by have := hr.units; omega) ho.pe hi.pe he.pe in_sub ha, rs_daug (rb_I0 fun i j G => .int (i - j)) ho.re hi.re he.re⟩
theorem js_daugAdd (hr : Room j X.A) (ho : JE X o to fo) (hi : JE X i ti fi) (he : JE X e te fe) (ha : ∀ ov iv new, augStore i ov iv new = (do holding [new, ov, iv] (setItem ov iv new); release [new, ov, iv] []; pure .next) := by intro _ _ _; rfl) : JS X b (.AugAssign (.Subscript o i pos') .Add e pos) (sDAug to ti te rAdd) (sDAugF gAdd fo fi fe) :=
  ⟨ps_daug (by have := hr.units; omega) ho.pe hi.pe he.pe in_add ha, rs_daug (rb_I0 fun i j G => .int (i + j)) ho.re hi.re he.re⟩
end

/-! ### a comprehension over a dict that a name holds: the dict is locked meanwhile -/
mutual
def noD : D → Bool
  | .non => true
  | .bl _ => true
  | .int _ => true
  | .str _ => true
  | .lst xs => noDL xs
  | .tup xs => noDL xs
  | .dic _ => false
  | .dicL _ => false
  | .ins _ fs => noDF fs
  | .exc _ _ _ v => noD v
def noDL : List D → Bool
  | [] => true
  | x :: xs => noD x && noDL xs
def noDF : List (String × D) → Bool
  | [] => true
  | x :: xs => noD x.2 && noDF xs
end
def noDK : List (Key × D) → Bool
  | [] => true
  | x :: xs => noD x.2 && noDK xs
/-- what stands at the locked dict's place -/
def IsDk (u : Option HO) : Prop := ∃ vs, u = some (.dK vs) ∨ ∃ o, u = some (.frz o (.dK vs))
section
variable {K : PySem.W.Frag} {mg : Mg} {G G' H H' : Hp} {p : Addr}
theorem rd_swap {a : Addr} {u : HO} (hp : IsDk (G p)) (hn : ∀ vs, u ≠ .dK vs) (hn2 : ∀ o vs, u ≠ .frz o (.dK vs)) (h : ∀ b, b ≠ p → G' b = G b) (r : Rd G a u) : Rd G' a u := by
  have na : a ≠ p := fun z => by
    subst z
    obtain ⟨vs, hp⟩ := hp
    rcases r with r | ⟨o, r⟩ <;> rcases hp with hp | ⟨o', hp⟩ <;> rw [r] at hp <;> cases hp
    · exact hn _ rfl
    · exact hn2 _ _ rfl
    · exact hn _ rfl
  rcases r with r | ⟨o, r⟩
  · exact .inl (by rw [h a na]; exact r)
  · exact .inr ⟨o, by rw [h a na]; exact r⟩
mutual
theorem Rp.swap (hp : IsDk (G p)) (h : ∀ b, b ≠ p → G' b = G b) : ∀ {v : V} {d : D}, Rp K mg G v d → noD d = true → Rp K mg G' v d
  | _, _, .non, _ => .non
  | _, _, .bl b, _ => .bl b
  | _, _, .int i, _ => .int i
  | _, _, .str x, _ => .str x
  | _, _, .lst hq r, n => by
    unfold noD at n
    refine .lst ?_ (RpL.swap hp h r n)
    rcases hq with z | z
    · exact .inl (rd_swap hp (fun _ z => nomatch z) (fun _ _ z => nomatch z) h z)
    · exact .inr z
  | _, _, .tup hq r, n => by
    unfold noD at n
    refine .tup ?_ (RpL.swap hp h r n)
    rcases hq with z | z
    · exact .inl (rd_swap hp (fun _ z => nomatch z) (fun _ _ z => nomatch z) h z)
    · exact .inr z
  | _, _, .dic hq r, n => by unfold noD at n; cases n
  | _, _, .dicL hq r, n => by unfold noD at n; cases n
  | _, _, .ins (a := a) (dx := dx) m hq r, n => by
    unfold noD at n
    refine .ins (dx := dx) m ?_ (RpF.swap hp h r n)
    rw [h a fun z => by
      subst z
      obtain ⟨vs, hp⟩ := hp
      rcases hp with hp | ⟨o', hp⟩ <;> rw [hq] at hp <;> cases hp]
    exact hq
  | _, _, .exc (dx := dx) hq r, n => by
    unfold noD at n
    refine .exc (dx := dx) ?_ (Rp.swap hp h r n)
    rw [h dx fun z => by
      subst z
      obtain ⟨vs, hp⟩ := hp
      rcases hp with hp | ⟨o', hp⟩ <;> rw [hq] at hp <;> cases hp]
    exact hq
theorem RpL.swap (hp : IsDk (G p)) (h : ∀ b, b ≠ p → G' b = G b) : ∀ {v : List V} {d : List D}, RpL K mg G v d → noDL d = true → RpL K mg G' v d
  | _, _, .nil, _ => .nil
  | _, _, .cons r rr, n => by
    unfold noDL at n
    rw [Bool.and_eq_true] at n
    exact .cons (Rp.swap hp h r n.1) (RpL.swap hp h rr n.2)
theorem RpF.swap (hp : IsDk (G p)) (h : ∀ b, b ≠ p → G' b = G b) : ∀ {v : List (PySem.Str × V)} {d : List (String × D)}, RpF K mg G v d → noDF d = true → RpF K mg G' v d
  | _, _, .nil, _ => .nil
  | _, _, .cons r rr, n => by
    unfold noDF at n
    rw [Bool.and_eq_true] at n
    exact .cons (Rp.swap hp h r n.1) (RpF.swap hp h rr n.2)
end
theorem RpK.swap (hp : IsDk (G p)) (h : ∀ b, b ≠ p → G' b = G b) : ∀ {v : List (Key × V)} {d : List (Key × D)}, RpK K mg G v d → noDK d = true → RpK K mg G' v d
  | _, _, .nil, _ => .nil
  | _, _, .cons r rr, n => by
    unfold noDK at n
    rw [Bool.and_eq_true] at n
    exact .cons (r.swap hp h n.1) (rr.swap hp h n.2)
theorem Rt.swap (hp : IsDk (G p)) (h : ∀ b, b ≠ p → G' b = G b) {o : HO} {d : D} (r : Rt K mg G o d) (n : noD d = true) : Rt K mg G' o d := by
  cases r with
  | lst r => unfold noD at n; exact .lst (r.swap hp h n)
  | dic r => unfold noD at n; cases n
  | ins m r => unfold noD at n; exact .ins m (r.swap hp h n)
end
def noC : Option Cell → Bool
  | none => true
  | some (.sh d) => noD d
  | some (.ow d) => noD d
/-- the other cells hold no dict -/
def othersFree (i : Nat) (τ : Tau) : Bool := (τ.set i none).all noC
theorem othersFree_get {i j : Nat} {τ : Tau} {c : Cell} (h : othersFree i τ = true) (hj : τ[j]? = some (some c)) (n : j ≠ i) : noC (some c) = true := by
  unfold othersFree at h
  rw [List.all_eq_true] at h
  refine h _ ?_
  have : (τ.set i none)[j]? = some (some c) := by rw [List.getElem?_set_ne (fun z => n z.symm)]; exact hj
  exact List.mem_of_getElem? this
def keyDD : Key → D
  | .inl i => .int i
  | .inr x => .str x
def fLcK (own : List Nat) (i : Nat) (g : FG) (ft : FT) (fe : FE) (τ : Tau) : Option (Op × Tau) := match τ[i]? with
  | some (some (.sh (.dic ds))) => if othersFree i τ = true ∧ noDK ds = true then (lcD own g ft fe (ds.map fun kv => keyDD kv.1) [] (τ.set i (some (.sh (.dicL ds))))).bind fun r => if othersFree i r.2 = true ∧ noDL r.1 = true then some (.tmp (.lst r.1), r.2.set i (some (.sh (.dic ds)))) else none else none
  | _ => none
section
variable {K : PySem.W.Frag} {mg : Mg} {own : List Nat}
theorem RpK.keys : ∀ {G : Hp} {vs : List (Key × V)} {ds : List (Key × D)}, RpK K mg G vs ds → ∀ i : Nat, (vs[i]?).map (·.1) = (ds[i]?).map (·.1)
  | _, _, _, .nil, i => rfl
  | _, _, _, .cons _ r, 0 => rfl
  | _, _, _, .cons _ r, i + 1 => by simpa using r.keys i
theorem re_lcK {i : Nat} {tg : TG} {tgf : FG} {is : List Nat} {tt : TT} {ft : FT} {te : TE} {fe : FE} (hs : ∀ i ∈ is, i ∈ own) (hg : RG K mg is tg tgf) (ht : RT K mg tt ft) (he : RE K mg te fe) : RE K mg (tLockE (tLc (iKeys (tVar i)) tg tt te own)) (fLcK own i tgf ft fe) := fun σ τ G H op τ' Q A e q => by
  unfold fLcK at e
  split at e
  · rename_i ds hi
    obtain ⟨⟨of, nk⟩, e⟩ := if_get' e
    obtain ⟨⟨res, τr⟩, e2, e⟩ := bind_some' e
    obtain ⟨⟨of2, nr⟩, e⟩ := if_get e
    cases e
    obtain ⟨v, hv, rv⟩ := A.sh i _ hi
    cases rv with
    | @dic p vs _ hgp rk =>
      have hHp : H p = some (.dK vs) := A.gh _ _ hgp
      refine ⟨p, .dK vs, hHp, trivial, fun od => ?_⟩
      have kp0 : IsDk (G p) := ⟨vs, .inl hgp⟩
      have ug : ∀ b, b ≠ p → upd G p (.frz od (.dK vs)) b = G b := fun b n => upd_ne n
      have cell : ∀ {j : Nat} {c : Cell}, (τ.set i (some (.sh (.dicL ds))))[j]? = some (some c) → (j = i ∧ c = .sh (.dicL ds)) ∨ (j ≠ i ∧ τ[j]? = some (some c) ∧ noC (some c) = true) := fun {j c} h => by
        rcases get_set h with ⟨z, y⟩ | ⟨n, y⟩
        · cases y; exact .inl ⟨z, rfl⟩
        · exact .inr ⟨n, y, othersFree_get of y n⟩
      have rk1 : ∀ {G2 : Hp}, (∀ b, b ≠ p → G2 b = G b) → RpK K mg G2 vs ds := fun h => rk.swap kp0 h nk
      have e2p : (upd G p (.frz od (.dK vs))) p = some (.frz od (.dK vs)) := upd_same
      have A1 : At K mg (upd G p (.frz od (.dK vs))) (upd H p (.frz od (.dK vs))) σ (τ.set i (some (.sh (.dicL ds)))) := by
        refine ⟨fun b o h => ?_, fun j d h => ?_, fun j d h => ?_, fun j k q d e h1 h2 h3 h4 => ?_, by rw [List.length_set]; exact A.ll⟩
        · by_cases z : b = p
          · rw [z, upd_same] at h ⊢; exact h
          · rw [upd_ne z] at h ⊢; exact A.gh _ _ h
        · rcases cell h with ⟨z, y⟩ | ⟨n, y, f⟩
          · cases y; subst z; exact ⟨_, hv, .dicL e2p (rk1 ug)⟩
          · obtain ⟨w, a, r⟩ := A.sh j d y
            exact ⟨w, a, r.swap kp0 ug f⟩
        · rcases cell h with ⟨_, y⟩ | ⟨n, y, f⟩
          · cases y
          · obtain ⟨q', o, a1, a2, a3, a4⟩ := A.ow j d y
            have nq : q' ≠ p := fun z => by rw [z, hgp] at a2; cases a2
            exact ⟨q', o, a1, by rw [upd_ne nq]; exact a2, by rw [upd_ne nq]; exact a3, a4.swap kp0 ug f⟩
        · rcases cell h1 with ⟨_, y⟩ | ⟨_, y, _⟩
          · cases y
          · rcases cell h2 with ⟨_, y2⟩ | ⟨_, y2, _⟩
            · cases y2
            · exact A.ap j k q d e y y2 h3 h4
      have ro1 : ∀ b, Ro σ (τ.set i (some (.sh (.dicL ds)))) b → Ro σ τ b := fun b ⟨j, d, h, z⟩ => by
        rcases cell h with ⟨_, y⟩ | ⟨_, y, _⟩
        · cases y
        · exact ⟨j, d, y, z⟩
      refine ⟨_, hv, p, od, rfl, .inl ⟨vs, upd_same, fun D hD => ?_⟩⟩
      have nDp : D ≠ p := fun z => by rw [z, upd_same] at hD; cases hD
      refine lc_run (J := Itk p od vs) (Q := fun v H' => H' p = some (.frz od (.dK vs)) ∧ Q v (upd H' p (.dK vs))) A1 (fun τ2 G2 H2 g => ?_) hs hg ht he e2 D hD fun G2 H2 accV g b1 b2 b3 b4 => ?_
      · have hq : H2 p = some (.frz od (.dK vs)) := g.at'.gh _ _ (g.gg _ _ e2p)
        refine ⟨fun i hi => ⟨hq, by rw [rk.length]; simpa using hi⟩, fun i d e => ?_⟩
        have ek := rk.keys i
        have e' : (ds[i]?).map (fun kv => keyDD kv.1) = some d := by rw [← e, List.getElem?_map]
        obtain ⟨kv, h1, h2⟩ := Option.map_eq_some_iff.mp e'
        rw [h1] at ek
        obtain ⟨kw, h3, h4⟩ := Option.map_eq_some_iff.mp ek
        have hlt : i < vs.length := by
          rcases Nat.lt_or_ge i vs.length with z | z
          · exact z
          · rw [List.getElem?_eq_none z] at h3; cases h3
        refine ⟨⟨hq, hlt⟩, fun x H' ⟨e1, k, w, e3, e4⟩ => ?_⟩
        subst e1 e4
        rw [h3] at e3
        cases e3
        dsimp only at h4
        subst h4 h2
        refine ⟨G2, Nw.refl g.at'.gh, ?_⟩
        cases kv with
        | mk kk vv => cases kk with
          | inl n => exact .int n
          | inr x => exact .str x
      · have hGp : G2 p = some (.frz od (.dK vs)) := g.gg _ _ e2p
        have hHp2 : H2 p = some (.frz od (.dK vs)) := g.at'.gh _ _ hGp
        have kp2 : IsDk (G2 p) := ⟨vs, .inr ⟨od, hGp⟩⟩
        have ug2 : ∀ b, b ≠ p → upd G2 p (.dK vs) b = G2 b := fun b n => upd_ne n
        refine ⟨hHp2, ?_⟩
        have cell2 : ∀ {j : Nat} {c : Cell}, (τr.set i (some (.sh (.dic ds))))[j]? = some (some c) → (j = i ∧ c = .sh (.dic ds)) ∨ (j ≠ i ∧ τr[j]? = some (some c) ∧ noC (some c) = true) := fun {j c} h => by
          rcases get_set h with ⟨z, y⟩ | ⟨n, y⟩
          · cases y; exact .inl ⟨z, rfl⟩
          · exact .inr ⟨n, y, othersFree_get of2 y n⟩
        have s3 : Same G (upd G2 p (.dK vs)) := fun b o h => by
          by_cases z : b = p
          · rw [z, upd_same]; rw [z, hgp] at h; exact h
          · rw [upd_ne z]; exact g.gg _ _ (by rw [upd_ne z]; exact h)
        have gg : Go K mg σ τ G H (τr.set i (some (.sh (.dic ds)))) (upd G2 p (.dK vs)) (upd H2 p (.dK vs)) := by
          refine ⟨⟨fun b o h => ?_, fun j d h => ?_, fun j d h => ?_, fun j k q d e h1 h2 h3 h4 => ?_, by rw [List.length_set]; exact g.at'.ll⟩, s3, fun b h => ?_, fun b o n h => ?_, fun b o n h h2 => ?_, fun j d h => ?_, by rw [List.length_set, g.tl, List.length_set]⟩
          · by_cases z : b = p
            · rw [z, upd_same] at h ⊢; exact h
            · rw [upd_ne z] at h ⊢; exact g.at'.gh _ _ h
          · rcases cell2 h with ⟨z, y⟩ | ⟨n, y, f⟩
            · cases y; subst z; exact ⟨_, hv, .dic upd_same (rk.mono s3)⟩
            · obtain ⟨w, a, r⟩ := g.at'.sh j d y
              exact ⟨w, a, r.swap kp2 ug2 f⟩
          · rcases cell2 h with ⟨_, y⟩ | ⟨n, y, f⟩
            · cases y
            · obtain ⟨q', o, a1, a2, a3, a4⟩ := g.at'.ow j d y
              have nq : q' ≠ p := fun z => by rw [z, hGp] at a2; cases a2
              exact ⟨q', o, a1, by rw [upd_ne nq]; exact a2, by rw [upd_ne nq]; exact a3, a4.swap kp2 ug2 f⟩
          · rcases cell2 h1 with ⟨_, y⟩ | ⟨_, y, _⟩
            · cases y
            · rcases cell2 h2 with ⟨_, y2⟩ | ⟨_, y2, _⟩
              · cases y2
              · exact g.at'.ap j k q d e y y2 h3 h4
          · by_cases z : b = p
            · rw [z, upd_same] at h; cases h
            · rw [upd_ne z] at h
              have := g.kp b h
              rwa [upd_ne z] at this
          · by_cases z : b = p
            · rw [z, upd_same]; rw [z, hHp] at h; exact h
            · rw [upd_ne z]
              exact g.hh b o (fun w => n (ro1 b w)) (by rw [upd_ne z]; exact h)
          · have z : b ≠ p := fun z => by rw [z, hgp] at h2; cases h2
            rw [upd_ne z]
            exact g.gf b o (fun w => n (ro1 b w)) (by rw [upd_ne z]; exact h) (by rw [upd_ne z]; exact h2)
          · rcases cell2 h with ⟨_, y⟩ | ⟨_, y, _⟩
            · cases y
            · obtain ⟨d', y'⟩ := g.ri j d y
              rcases cell y' with ⟨_, y2⟩ | ⟨_, y2, _⟩
              · cases y2
              · exact ⟨d', y2⟩
        rw [upd_ne nDp] at hD
        refine q _ _ _ gg (.tmp hD (by rw [upd_ne nDp]; exact b1) (by rw [upd_ne nDp]; exact b2) (.lst (b3.swap kp2 ug2 nr)) fun ⟨j, d, h, z⟩ => ?_)
        rcases cell2 h with ⟨_, y⟩ | ⟨_, y, _⟩
        · cases y
        · exact b4 ⟨j, d, y, z⟩
  · cases e
end
section
variable {X : Cx} {elt tgt : Expr} {ifs : List Expr} {scope : Scope} {own : List (PySem.Str × Nat)} {pos p : Pos} {tg : TG} {g : FG} {is : List Nat} {tt : TT} {ft : FT} {te : TE} {fe : FE} {i : Nat} {x : PySem.Str}
theorem je_lcK (hc : X.calm = true) (hN : X.N.Nodup) (hi : JE X (.Name x p) (tVar i) (fVar i)) (ok : BlkOk X.N X.env.scope scope own) (hs : ∀ i ∈ is, i ∈ own.map (·.2)) (hg : ∀ (s : Shared) (H : Hp) (C : Addr) (cl : List (PySem.Str × Addr)) (fp : List Addr), JG (X.blk s H scope (compEnvC scope cl C X.env) fp) tgt is tg g) (ht : ∀ (s : Shared) (H : Hp) (C : Addr) (cl : List (PySem.Str × Addr)) (fp : List Addr), JTs (X.blk s H scope (compEnvC scope cl C X.env) fp) ifs tt ft) (he : ∀ (s : Shared) (H : Hp) (C : Addr) (cl : List (PySem.Str × Addr)) (fp : List Addr), JE (X.blk s H scope (compEnvC scope cl C X.env) fp) elt te fe)
    (hf : ∀ y, foldedSetIterable (.Name x p) X.env y = pure y := by intro _; rfl) : JE X (.ListComp elt [⟨tgt, .Name x p, ifs, 0⟩] scope pos) (tLockE (tLc (iKeys (tVar i)) tg tt te (own.map (·.2)))) (fLcK (own.map (·.2)) i g ft fe) :=
  ⟨pe_lock (pe_lc hc hN (pi_keys hi.pe) ok (fun s H C cl fp => (hg s H C cl fp).pg) (fun s H C cl fp => (ht s H C cl fp).pts) (fun s H C cl fp => (he s H C cl fp).pe) hf),
   re_lcK hs (hg X.s_0 X.H_0 0 [] []).rg (ht X.s_0 X.H_0 0 [] []).rt (he X.s_0 X.H_0 0 [] []).re⟩
end
end J
namespace J
open PySem PySem.Spec PyProof.Rows L2

/-! ### an own operator with an int on the right -/
def rMI (C : Addr) (sp : Sp) : R2 := fun x y H Q => ∃ a dx fs i, x = .ref a ∧ y = .int i ∧ H a = some (.ins C dx fs) ∧ sp [x, y] H Q E0
/-- what a class's * wants of int -/
structure SmOk (K : PySem.W.Frag) (mg : Mg) (cn : String) : Prop where
  sf : ∀ C, mg (os cn) = some (.ref C) → PySem.W.selfFirst K C = true ∧ PySem.W.findIn K (.ref C) "__rmul__" = some none ∧ PySem.W.subIn K (.type "int") (.ref C) = some false
theorem int_mul (K : PySem.W.Frag) : ∃ fo, PySem.W.findIn K (.type "int") (PySem.dunder (Operator.info .Mult).2) = some fo := ⟨_, rfl⟩
theorem int_rmul (K : PySem.W.Frag) : ∃ fo, PySem.W.findIn K (.type "int") (PySem.dunderR (Operator.info .Mult).2) = some fo := ⟨_, rfl⟩
def gM2I (cn : String) (m : Mir) (d e : D) : Option Op := match e with
  | .int _ => if insC cn d = true then (m [d, e]).bind fun r => some (mkOp r.1 r.2.1) else none
  | _ => none
section
variable {X : Cx} {k : Nat} {f C : Addr} {fd : FuncData} {ps : List PySem.Str} {sp : Sp}
theorem op_mulMI (F : FnOk X.prog X.w X.K X.mg X.base CX0 k f fd ps sp) (hr : Room k X.A) (hb : Binds X.K fd ps []) (hs : PySem.W.findIn X.K (.ref C) (PySem.dunder (Operator.info .Mult).2) = some (some (.ref f))) (hf : PySem.W.isFn X.K (.ref f) = true)
    (hc : PySem.W.selfFirst X.K C = true) (h1 : PySem.W.findIn X.K (.ref C) "__rmul__" = some none) (h2 : PySem.W.subIn X.K (.type "int") (.ref C) = some false) : OpR X (binaryOp .Mult) (rMI C sp) := by
  intro pins s σ H x y v u Q I rx ry h
  obtain ⟨a, dx, fs, i, rfl, rfl, ha, hsp⟩ := h
  cases rx
  obtain ⟨t, rfl⟩ := (show ∃ t, u = Value.int i t from ry)
  obtain ⟨mA, J, _⟩ := ins_get I.hok ha
  obtain ⟨od, J, _⟩ := J.look
  obtain ⟨_, hF⟩ := I.fr
  obtain ⟨fo, e1⟩ := int_mul X.K
  obtain ⟨ro, e2⟩ := int_rmul X.K
  refine PySem.W.ksp_binT (T := "int") hF I.ok.mod.kin J rfl hc hs hf (rc := none) h1 (.inl rfl) e1 e2 h2 ?_
  exact wpAny_mono (run_fn (us := [.ref a, .int i t]) (vs := [.ref a, .int i]) F hr hb .nil pass0 I (.cons rfl (.cons ⟨t, rfl⟩ .nil)) (by rw [List.append_nil]; exact hsp)) (fun u s' h => back_of h) fun _ _ e => e
end
section
variable {K : PySem.W.Frag} {mg : Mg} {m : Mir} {cn : String} {C : Addr}
theorem rb_M2I (gC : mg (os cn) = some (.ref C)) : RBF K mg (rMI C (spM K mg false m)) (gM2I cn m) := fun G H x y d e op Q s r1 r2 eq q => by
  cases e <;> first | (cases eq; done) | skip
  rename_i i
  obtain ⟨hi, eq⟩ := if_get' (show (if insC cn d = true then _ else none) = some op from eq)
  obtain ⟨a, dx, fs, rfl, ha⟩ := insC_ok gC s (Pk.frz r1 : Pk K mg G H x d) hi
  have hy := (Pk.frz r2 : Pk K mg G H y (.int i)).int
  subst hy
  exact ⟨a, dx, fs, i, rfl, rfl, ha, sp_both s r1 r2 eq q⟩
end
theorem km_opI {X : Cx} {a b : Expr} {ta tb : TE} {fa fb : FE} {pos : Pos} {cn : String} {C f : Addr} {fd : FuncData} {ps : List PySem.Str} {k j : Nat} {m : Mir} {K : PySem.W.Frag} {mg : Mg} (N : SmOk K mg cn) (h : KnM X.prog X.w K mg X.base C f fd cn "__mul__" ps false k m) (hr : Room j X.A) (ha : JE X a ta fa) (hb : JE X b tb fb) (hj : k ≤ j := by decide) (hK : X.K = K := by rfl) (hM : X.mg = mg := by rfl) :
    JE X (.BinOp a .Mult b pos) (tOp (rMI C (spM K mg false m)) ta tb) (fBinF (gM2I cn m) fa fb) := by
  subst hK hM
  have hm : PySem.dunder (Operator.info .Mult).2 = os "__mul__" := rfl
  exact ⟨pe_op (op_mulMI h.ok (hr.mono hj) h.bi (hm ▸ h.me.at_) h.me.fn (N.sf C h.g).1 (N.sf C h.g).2.1 (N.sf C h.g).2.2) ha.pe hb.pe, re_binF (rb_M2I h.g) ha.re hb.re⟩

/-! ### reverse, clear, pop, insert of an owned list -/
def fLMut (g : List D → List D) (fo : FE) (τ : Tau) : Option (Op × Tau) := (fo τ).bind fun o => (owL o.2 o.1).bind fun l => some (.val .non, o.2.set l.1 (some (.ow (.lst (g l.2)))))
def fPop (fo : FE) (τ : Tau) : Option (Op × Tau) := (fo τ).bind fun o => (owL o.2 o.1).bind fun l => (l.2[l.2.length - 1]?).bind fun d => some (.val d, o.2.set l.1 (some (.ow (.lst l.2.dropLast))))
def ixD (n : Nat) (d : D) : Option Nat := match d with
  | .int i => if -(2 ^ 63) ≤ i ∧ i < 2 ^ 63 then ixN n i else none
  | _ => none
def fPopAt (fo fe : FE) (τ : Tau) : Option (Op × Tau) := (fo τ).bind fun o => (owL o.2 o.1).bind fun _ => (fe o.2).bind fun a => (deref a.2 a.1).bind fun n => (owL a.2 o.1).bind fun l => (ixD l.2.length n).bind fun k => (l.2[k]?).bind fun d => some (.val d, a.2.set l.1 (some (.ow (.lst (l.2.eraseIdx k)))))
def natD (d : D) : Option Nat := match d with
  | .int i => if 0 ≤ i ∧ i < 2 ^ 63 then some i.toNat else none
  | _ => none
section
variable {K : PySem.W.Frag} {mg : Mg} {to te : TE} {fo fe : FE}
theorem RpL.dropLast {G : Hp} {vs : List V} {ds : List D} (r : RpL K mg G vs ds) : RpL K mg G vs.dropLast ds.dropLast := by
  rw [List.dropLast_eq_take, List.dropLast_eq_take, r.length]
  exact r.take _
theorem RpL.erase {G : Hp} {vs : List V} {ds : List D} (k : Nat) (r : RpL K mg G vs ds) : RpL K mg G (vs.eraseIdx k) (ds.eraseIdx k) := by
  rw [List.eraseIdx_eq_take_drop_succ, List.eraseIdx_eq_take_drop_succ]
  exact (r.take _).append (r.drop _)
theorem re_lmut {g : List D → List D} {h : List V → List V} {r : V → List V → Hp → VK → Prop} (hr : ∀ l xs H Q, H l = some (.lst xs) → Q .non (upd H l (.lst (h xs))) → r (.ref l) [] H Q) (hh : ∀ {G : Hp} {vs ds}, RpL K mg G vs ds → RpL K mg G (h vs) (g ds)) (ho : RE K mg to fo) : RE K mg (tBM0 K "list" r to) (fLMut g fo) := fun σ τ G H op τ' Q A e q => by
  obtain ⟨⟨o, τ1⟩, e1, e⟩ := bind_some' e
  obtain ⟨l, e2, e⟩ := bind_some' e
  cases e
  refine ho σ τ G H o τ1 _ A e1 fun x G1 H1 g1 o1 => ?_
  obtain ⟨p, vs, rfl, _, hs, hi, hp, rr⟩ := owL_ok g1.at' o1 e2
  exact ⟨.inl ⟨rfl, vs, SqL.of hp⟩, hr p vs H1 _ hp (q _ G1 _ (g1.trans (Go.put g1.at' hi hs (.lst (hh rr)))) (.val .non))⟩
theorem re_pop (ho : RE K mg to fo) : RE K mg (tBM0 K "list" L2.rPop to) (fPop fo) := fun σ τ G H op τ' Q A e q => by
  obtain ⟨⟨o, τ1⟩, e1, e⟩ := bind_some' e
  obtain ⟨l, e2, e⟩ := bind_some' e
  obtain ⟨d, e3, e⟩ := bind_some' e
  cases e
  refine ho σ τ G H o τ1 _ A e1 fun x G1 H1 g1 o1 => ?_
  obtain ⟨p, vs, rfl, _, hs, hi, hp, rr⟩ := owL_ok g1.at' o1 e2
  obtain ⟨v, hv, rv⟩ := rr.get e3
  exact ⟨.inl ⟨rfl, vs, SqL.of hp⟩, p, vs, v, rfl, rfl, hp, by rw [rr.length]; exact hv, q _ G1 _ (g1.trans (Go.put g1.at' hi hs (.lst rr.dropLast))) (.val rv)⟩
theorem re_popAt (ho : RE K mg to fo) (he : RE K mg te fe) : RE K mg (tBM K "list" L2.rPopAt to (tCons te tNil)) (fPopAt fo fe) := fun σ τ G H op τ' Q A e q => by
  obtain ⟨⟨o, τ1⟩, e1, e⟩ := bind_some' e
  obtain ⟨l0, e0, e⟩ := bind_some' e
  obtain ⟨⟨o2, τ2⟩, e2, e⟩ := bind_some' e
  obtain ⟨n, e3, e⟩ := bind_some' e
  obtain ⟨l, e4, e⟩ := bind_some' e
  obtain ⟨k, e5, e⟩ := bind_some' e
  obtain ⟨d, e6, e⟩ := bind_some' e
  dsimp only at e e0 e2 e3 e4 e5 e6
  cases e
  refine ho σ τ G H o τ1 _ A e1 fun x G1 H1 g1 o1 => ?_
  obtain ⟨p, vs0, rfl, _, _, _, hp, _⟩ := owL_ok g1.at' o1 e0
  refine ⟨.inl ⟨rfl, vs0, SqL.of hp⟩, ?_⟩
  refine he σ τ1 G1 H1 o2 τ2 _ g1.at' e2 fun y G2 H2 g2 o2' => ?_
  obtain ⟨p', vs, ex, _, hs, hi, hp', r⟩ := owL_ok g2.at' (o1.step g2) e4
  cases ex
  obtain ⟨i, rfl, e5⟩ : ∃ i, n = .int i ∧ (if -(2 ^ 63) ≤ i ∧ i < 2 ^ 63 then ixN l.2.length i else none) = some k := by
    cases n <;> first | (cases e5; done) | exact ⟨_, rfl, e5⟩
  obtain ⟨⟨b1, b2⟩, e5⟩ := if_get' e5
  cases (o2'.pk g2.at' e3).int
  obtain ⟨v, hv, rv⟩ := r.get e6
  exact ⟨p, vs, i, k, v, rfl, rfl, hp', b1, b2, by rw [r.length]; exact (ixN_seq e5).1, hv, q _ G2 _ ((g1.trans g2).trans (Go.put g2.at' hi hs (.lst (r.erase k)))) (.val rv)⟩
end
section
variable {X : Cx} {o e : Expr} {to te : TE} {fo fe : FE} {apos pos : Pos}
theorem je_reverse {K : PySem.W.Frag} (ho : JE X o to fo) (hbase : attributeBase o (os "reverse") X.env (eval o X.env) = eval o X.env := by rfl) (hline : (apos.endLine == pos.line) = true := by rfl) (hK : X.K = K := by rfl) : JE X (.Call (.Attribute o (os "reverse") apos) [] [] pos) (tBM0 K "list" L2.rReverse to) (fLMut List.reverse fo) := by
  subst hK
  exact ⟨pe_bm0 PySem.F.plainAttrs_list PySem.F.slot_list_reverse PySem.F.type_list_reverse mt_reverse ho.pe hbase hline, re_lmut (fun l xs H Q h q => ⟨l, xs, rfl, rfl, h, q⟩) rpl_rev ho.re⟩
theorem je_clear {K : PySem.W.Frag} (ho : JE X o to fo) (hbase : attributeBase o (os "clear") X.env (eval o X.env) = eval o X.env := by rfl) (hline : (apos.endLine == pos.line) = true := by rfl) (hK : X.K = K := by rfl) : JE X (.Call (.Attribute o (os "clear") apos) [] [] pos) (tBM0 K "list" L2.rClear to) (fLMut (fun _ => []) fo) := by
  subst hK
  exact ⟨pe_bm0 PySem.F.plainAttrs_list PySem.F.slot_list_clear PySem.F.type_list_clear mt_clear ho.pe hbase hline, re_lmut (h := fun _ => []) (fun l xs H Q h q => ⟨l, xs, rfl, rfl, h, q⟩) (fun _ => .nil) ho.re⟩
theorem je_pop {K : PySem.W.Frag} (ho : JE X o to fo) (hbase : attributeBase o (os "pop") X.env (eval o X.env) = eval o X.env := by rfl) (hline : (apos.endLine == pos.line) = true := by rfl) (hK : X.K = K := by rfl) : JE X (.Call (.Attribute o (os "pop") apos) [] [] pos) (tBM0 K "list" L2.rPop to) (fPop fo) := by
  subst hK
  exact ⟨pe_bm0 PySem.F.plainAttrs_list PySem.F.slot_list_pop PySem.F.type_list_pop mt_pop ho.pe hbase hline, re_pop ho.re⟩
theorem je_popAt {K : PySem.W.Frag} (ho : JE X o to fo) (he : JE X e te fe) (hbase : attributeBase o (os "pop") X.env (eval o X.env) = eval o X.env := by rfl)
    (hfew : ((backTo pos (starEach (e :: []) X.env)).all (fun x => !x.1) && (backToKw pos (keywordEach [] X.env)).all (fun x => x.1.isSome)
      && decide ((e :: []).length + ([] : List Keyword).length + (if ([] : List Keyword).isEmpty then 0 else 1) < 30)) = true := by rfl)
    (hline : (apos.endLine == pos.line) = true := by rfl) (hs : starEach (e :: []) X.env = (false, eval e X.env) :: starEach [] X.env := by rfl) (hplain : (backTo pos (starEach [] X.env)).any (·.1) = false := by rfl) (hK : X.K = K := by rfl) :
    JE X (.Call (.Attribute o (os "pop") apos) [e] [] pos) (tBM K "list" L2.rPopAt to (tCons te tNil)) (fPopAt fo fe) := by
  subst hK
  exact ⟨pe_bm PySem.F.plainAttrs_list PySem.F.slot_list_pop PySem.F.type_list_pop mt_popAt ho.pe (pa_cons he.pe pa_nil hs) hbase hfew hline hs hplain, re_popAt ho.re he.re⟩
end
/-! ### divmod -/
def gDivM : List D → Option Op
  | [.int i, .int j] => if divOk j = true then some (.val (.tup [.int (i / j), .int (i % j)])) else none
  | _ => none
def qDivM : List V → Hp → VK → Prop := fun xs H Q => ∃ i j, xs = [.int i, .int j] ∧ CDivP i j ∧ ∀ p, H p = none → Q (.ref p) (upd H p (.tup [.int (i / j), .int (i % j)]))
theorem divP_of {i j : Int} (h : divOk j = true) : CDivP i j := by
  unfold divOk at h
  simp only [Bool.and_eq_true, decide_eq_true_eq] at h
  refine ⟨h.1, ?_⟩
  unfold Builtin.divisionGoesByPylong
  have hj : (j == 0) = false := by simp; omega
  simp only [hj, Bool.false_eq_true, if_false, Bool.and_eq_false_iff, decide_eq_false_iff_not]
  left
  have := h.2
  omega
theorem rc_divM {K : PySem.W.Frag} {mg : Mg} : RC K mg qDivM gDivM := fun G H xs ds op Q s p eq q => by
  unfold gDivM at eq
  split at eq
  · rename_i i j
    obtain ⟨hd, rfl⟩ := if_get eq
    cases p with
    | cons p1 p =>
      cases p with
      | cons p2 p =>
        cases p
        cases p1.int
        cases p2.int
        refine ⟨i, j, rfl, divP_of hd, fun a ha => ?_⟩
        exact q _ _ _ (Nw.newF s ha) (.val (.tup (SqT.of upd_same) (.cons (.int _) (.cons (.int _) .nil))))
  · cases eq
theorem je_divM {X : Cx} {a b : Expr} {t : TA} {fp : FP} {pos p : Pos} (hg : Gl X "divmod") (hm : X.mg "divmod" = none) (ha : JP X [a, b] t fp) (he : starEach (a :: [b]) X.env = (false, eval a X.env) :: starEach [b] X.env := by rfl) (hpl : (backTo pos (starEach [b] X.env)).any (·.1) = false := by rfl) : JE X (.Call (.Name "divmod" p) [a, b] [] pos) (tCB qDivM t) (fCB gDivM fp) :=
  je_cb call_divmodW rc_divM hg hm (by decide +kernel) ha (by decide) (by decide) he hpl
end J
namespace J
open PySem PySem.Spec PyProof.Rows L2

/-! ### is, is not of bools -/
def gIsB (neg : Bool) (d e : D) : Option Op := match d with
  | .bl a => match e with
    | .bl b => some (.val (.bl (if neg then !decide (a = b) else decide (a = b))))
    | _ => none
  | _ => none
section
variable {X : Cx} {a b : Expr} {ta tb : TE} {fa fb : FE} {pos : Pos}
theorem rb_isB {K : PySem.W.Frag} {mg : Mg} : RB K mg rIsB (gIsB false) := fun G H x y d e op Q s p1 p2 eq q => by
  cases d <;> first | (cases eq; done) | skip
  cases e <;> first | (cases eq; done) | skip
  cases eq
  cases p1.bl
  cases p2.bl
  exact ⟨_, _, rfl, rfl, q _ G H (Nw.refl s) (.val (.bl _))⟩
theorem rb_isnB {K : PySem.W.Frag} {mg : Mg} : RB K mg rNotB (gIsB true) := fun G H x y d e op Q s p1 p2 eq q => by
  cases d <;> first | (cases eq; done) | skip
  cases e <;> first | (cases eq; done) | skip
  cases eq
  cases p1.bl
  cases p2.bl
  exact ⟨_, _, rfl, rfl, q _ G H (Nw.refl s) (.val (.bl _))⟩
theorem je_isB (ha : JE X a ta fa) (hb : JE X b tb fb) : JE X (.Compare a [.Is] [b] pos) (tOp rIsB ta tb) (fBin (gIsB false) fa fb) := je_cmp op_isBl rb_isB ha hb (nomark _)
theorem je_isnB (ha : JE X a ta fa) (hb : JE X b tb fb) : JE X (.Compare a [.IsNot] [b] pos) (tOp rNotB ta tb) (fBin (gIsB true) fa fb) := je_cmp op_notBl rb_isnB ha hb (nomark _)
theorem jt_isB (ha : JE X a ta fa) (hb : JE X b tb fb) : JT X (.Compare a [.Is] [b] pos) (tTest (tOp rIsB ta tb)) (fTB (fBin (gIsB false) fa fb)) := jt_cmp op_isBl rb_isB ha hb (nomark _)
theorem jt_isnB (ha : JE X a ta fa) (hb : JE X b tb fb) : JT X (.Compare a [.IsNot] [b] pos) (tTest (tOp rNotB ta tb)) (fTB (fBin (gIsB true) fa fb)) := jt_cmp op_notBl rb_isnB ha hb (nomark _)
end
end J
namespace J
open PySem PySem.Spec PyProof.Rows L2

/-! ### a, b = [], []: both own their lists -/
section
variable {X : Cx} {b : Bool} {pos : Pos}
theorem js_par2E {i j : Nat} {x y : PySem.Str} {px py pt p1 p2 : Pos} {kt k2 pt2} (hc : X.calm = true) (hN : X.N.Nodup) (h0 : b = false ∨ 0 ∉ [i, j]) (hi : X.N[i]? = some x := by rfl) (hj : X.N[j]? = some y := by rfl) (hij : i ≠ j := by decide)
    (hx : X.env.scope.names.lookup x = some .local := by rfl) (hy : X.env.scope.names.lookup y = some .local := by rfl)
    (hw : swappedStores [.Tuple [.Name x px, .Name y py] kt pt] (.Tuple [.List [] p1, .List [] p2] k2 pt2) X.env = pure (some [x, y]) := by rfl)
    (hs : swapsWithSole [.Tuple [.Name x px, .Name y py] kt pt] (.Tuple [.List [] p1, .List [] p2] k2 pt2) pos.line X.env = pure false := by rfl) :
    JS X b (.Assign [.Tuple [.Name x px, .Name y py] kt pt] (.Tuple [.List [] p1, .List [] p2] k2 pt2) pos) (tPar i j (tCons (tLst tNil) (tCons (tLst tNil) tNil))) (sSeq (sSet i (fLst aNil)) (sSet j (fLst aNil))) :=
  ⟨ps_par hc hN hi hj hij hx hy (ja_cons (je_lst ja_nil) (ja_cons (je_lst ja_nil) ja_nil)).pa hw hs, fun io R0 G0 H0 G H σ τ D fl hb F e k => by
    have bi : b = false ∨ i ≠ 0 := h0.imp id fun h z => h (by simp [z])
    have bj : b = false ∨ j ≠ 0 := h0.imp id fun h z => h (by simp [z])
    have re : RE X.K X.mg (tLst tNil) (fLst aNil) := re_lst ra_nil
    have h := rs_seq (rs_set bi re) (rs_set bj re) io R0 G0 H0 G H σ τ D fl hb F e k
    exact ⟨h.1, fun p hp => ⟨(h.2 p hp).1, fun q hq => ⟨_, _, rfl, (h.2 p hp).2 q hq⟩⟩⟩⟩
end
end J
namespace J
open PySem PySem.Spec PyProof.Rows L2

/-! ### constants of the modules: a tuple of texts -/
def GcS (K : PySem.W.Frag) (mg : Mg) (x : String) (is : List PySem.Str) : Prop := ∃ a, mg (os x) = some (.ref a) ∧ ∃ (o : Obj) (its : Array Value) (n : Nat), K.lookup a = some o ∧ o.cls = .type "tuple" ∧ o.data = .seq its n ∧ its.size ≤ sizeLine ∧ Vals (is.map V.str) its.toList
theorem strs_rp {K : PySem.W.Frag} {mg : Mg} {G : Hp} : ∀ ns : List PySem.Str, RpL K mg G (ns.map V.str) (ns.map D.str)
  | [] => .nil
  | _ :: ns => .cons (.str _) (strs_rp ns)
section
variable {X : Cx} {x : String} {pos : Pos}
theorem je_gcs {K : PySem.W.Frag} {mg : Mg} {is : List PySem.Str} (h : GcS K mg x is) (hg : Gl X (os x) := by rfl) (hd : (os x == ("__debug__" : PySem.Str)) = false := by decide) (hK : X.K = K := by rfl) (hM : X.mg = mg := by rfl) : JE X (.Name (os x) pos) (tC (.ref (Classical.choose h))) (fC (.tup (is.map D.str))) := by
  subst hK hM
  obtain ⟨h1, h2⟩ := Classical.choose_spec h
  exact ⟨pe_glob hg h1 rfl hd, re_c fun G => .tup (.inr h2) (strs_rp is)⟩
end
end J
namespace J
open PySem PySem.Spec PyProof.Rows L2

/-! ### t > u of pairs of ints -/
def rGtT (K : PySem.W.Frag) : R2 := fun x y H Q => ∃ (a b : Addr) (ns ms : List Int), x = .ref a ∧ y = .ref b ∧ SqT K H a (ns.map V.int) ∧ SqT K H b (ms.map V.int) ∧
  Q (.bl (Ob.lexAt (fun j => decide (ns.getD j 0 = ms.getD j 0)) (fun j => decide (ms.getD j 0 < ns.getD j 0)) (decide (ns.length > ms.length)) 0 (min ns.length ms.length))) H
theorem op_gtT {X : Cx} (hu : X.A.units < cLine) : OpR X (compareOp .Gt) (rGtT X.K) := by
  intro pins s σ H x y v u Q I rx ry h
  obtain ⟨a, b, ns, ms, rfl, rfl, ha, hb, q⟩ := h
  cases rx
  cases ry
  obtain ⟨its, r1, p1, _⟩ := I.tuple ha
  obtain ⟨its2, r2, p2, _⟩ := I.tuple hb
  have i1 : IntsAre its ns := Vals.ints r1
  have i2 : IntsAre its2 ms := Vals.ints r2
  have e1 : its.toArray.size = ns.length := by rw [List.size_toArray]; exact i1.length
  have e2 : its2.toArray.size = ms.length := by rw [List.size_toArray]; exact i2.length
  have at1 : ∀ j (h1 : j < its.toArray.size), ∃ t, its.toArray[j] = .int (ns.getD j 0) t := fun j h1 => PyProof.Rows.IntsAre.int_at i1 _ _ (by simp at h1; simp [h1])
  have at2 : ∀ j (h1 : j < its2.toArray.size), ∃ t, its2.toArray[j] = .int (ms.getD j 0) t := fun j h1 => PyProof.Rows.IntsAre.int_at i2 _ _ (by simp at h1; simp [h1])
  have R := Ob.RcOp.tuples_gt (A := X.A) (s := s) (e := fun j => decide (ns.getD j 0 = ms.getD j 0)) (r := fun j => decide (ms.getD j 0 < ns.getD j 0)) p1 p2 hu (fun j h1 h2 => by
    obtain ⟨t, et⟩ := at1 j h1
    obtain ⟨t', et'⟩ := at2 j h2
    rw [et, et']
    have z : (ns.getD j 0 == ms.getD j 0) = decide (ns.getD j 0 = ms.getD j 0) := by
      by_cases q : ns.getD j 0 = ms.getD j 0
      · rw [decide_eq_true q]; exact beq_iff_eq.mpr q
      · rw [decide_eq_false q]; exact beq_eq_false_iff_ne.mpr q
    rw [← z]
    exact SeqAt.EqAt.int_int _ _ _ _) (fun j h1 h2 _ => by
    obtain ⟨t, et⟩ := at1 j h1
    obtain ⟨t', et'⟩ := at2 j h2
    rw [et, et']
    exact Ob.RcOp.gt_int _ _ _ _)
  rw [e1, e2] at R
  have z : wpAny (model X.prog X.w) X.A (compareOp .Gt (.ref a) (.ref b)) (EP X pins σ Q) X.xe s := R X.prog X.w X.xe (EP X pins σ Q) ⟨.bl _, H, I, rfl, q⟩
  exact z
def gGt2 (d e : D) : Option Op := match d with
  | .tup [.int a, .int b] => match e with
    | .tup [.int c, .int f] => some (.val (.bl (if a = c then decide (f < b) else decide (c < a))))
    | _ => none
  | _ => none
section
variable {X : Cx} {a b : Expr} {ta tb : TE} {fa fb : FE} {pos : Pos}
theorem rb_gt2 {K : PySem.W.Frag} {mg : Mg} : RB K mg (rGtT K) gGt2 := fun G H x y d e op Q s p1 p2 eq q => by
  unfold gGt2 at eq
  split at eq
  · rename_i i j
    split at eq
    · rename_i k l
      cases eq
      obtain ⟨ad, vs, rfl, hs, r⟩ := p1.tup s
      obtain ⟨ad2, vs2, rfl, hs2, r2⟩ := p2.tup s
      cases r with
      | cons x1 r =>
        cases r with
        | cons x2 r =>
          cases r
          cases r2 with
          | cons y1 r2 =>
            cases r2 with
            | cons y2 r2 =>
              cases r2
              cases x1
              cases x2
              cases y1
              cases y2
              refine ⟨ad, ad2, [i, j], [k, l], rfl, rfl, hs, hs2, ?_⟩
              have e : Ob.lexAt (fun t => decide ([i, j].getD t 0 = [k, l].getD t 0)) (fun t => decide ([k, l].getD t 0 < [i, j].getD t 0)) (decide ([i, j].length > [k, l].length)) 0 (min [i, j].length [k, l].length) = if i = k then decide (l < j) else decide (k < i) := by
                show Ob.lexAt _ _ false 0 2 = _
                rw [Ob.lexAt_succ, Ob.lexAt_succ, Ob.lexAt_zero]
                by_cases c1 : i = k <;> by_cases c2 : j = l <;> simp [c1, c2]
              rw [e]
              exact q _ G H (Nw.refl s) (.val (.bl _))
    · cases eq
  · cases eq
theorem je_gt2 {K : PySem.W.Frag} {k : Nat} (hr : Room k X.A) (ha : JE X a ta fa) (hb : JE X b tb fb) (hK : X.K = K := by rfl) : JE X (.Compare a [.Gt] [b] pos) (tOp (rGtT K) ta tb) (fBin gGt2 fa fb) := by
  subst hK
  exact je_cmp (op_gtT (Nat.lt_of_le_of_lt (Nat.le_add_right _ _) hr.units)) rb_gt2 ha hb (nomark _)
theorem jt_gt2 {K : PySem.W.Frag} {k : Nat} (hr : Room k X.A) (ha : JE X a ta fa) (hb : JE X b tb fb) (hK : X.K = K := by rfl) : JT X (.Compare a [.Gt] [b] pos) (tTest (tOp (rGtT K) ta tb)) (fTB (fBin gGt2 fa fb)) := by
  subst hK
  exact jt_cmp (op_gtT (Nat.lt_of_le_of_lt (Nat.le_add_right _ _) hr.units)) rb_gt2 ha hb (nomark _)
end
end J
namespace J
open PySem PySem.Spec PyProof.Rows L2

/-! ### sorted(pairs of ints) -/
def pairD (p : Int × Int) : D := .tup [.int p.1, .int p.2]
def pairOf : D → Option (Int × Int)
  | .tup [.int i, .int j] => some (i, j)
  | _ => none
def pairsOf : List D → Option (List (Int × Int))
  | [] => some []
  | d :: ds => (pairOf d).bind fun p => (pairsOf ds).map fun ps => p :: ps
theorem pairOf_eq {d : D} {p : Int × Int} (h : pairOf d = some p) : d = pairD p := by
  unfold pairOf at h
  split at h
  · cases h; rfl
  · cases h
theorem pairsOf_eq : ∀ {ds : List D} {ps : List (Int × Int)}, pairsOf ds = some ps → ds = ps.map pairD
  | [], ps, h => by cases h; rfl
  | d :: ds, ps, h => by
    obtain ⟨p, h1, h⟩ := bind_some' h
    obtain ⟨qs, h2, rfl⟩ := Option.map_eq_some_iff.mp h
    rw [pairOf_eq h1, pairsOf_eq h2]
    rfl
theorem pairsOf_map : ∀ ps : List (Int × Int), pairsOf (ps.map pairD) = some ps
  | [] => rfl
  | p :: ps => by
    show (pairOf (pairD p)).bind (fun q => (pairsOf (ps.map pairD)).map fun qs => q :: qs) = _
    rw [pairsOf_map ps]
    rfl
def lexLe (p q : Int × Int) : Bool := decide (p.1 < q.1 ∨ (p.1 = q.1 ∧ p.2 ≤ q.2))
def sortP (ps : List (Int × Int)) : List (Int × Int) := ps.mergeSort lexLe
theorem sortP_perm (ps : List (Int × Int)) : (sortP ps).Perm ps := List.mergeSort_perm ..
theorem sortP_sorted (ps : List (Int × Int)) : (sortP ps).Pairwise (fun p q => lexLe p q = true) :=
  List.pairwise_mergeSort (le := lexLe) (fun a b c h1 h2 => by simp [lexLe] at *; omega) (fun a b => by simp [lexLe]; omega) ps
theorem sortedP_uniq : ∀ {xs ys : List (Int × Int)}, xs.Perm ys → xs.Pairwise (fun p q => lexLe p q = true) → ys.Pairwise (fun p q => lexLe p q = true) → xs = ys
  | [], ys, p, _, _ => by rw [List.nil_perm.mp p]
  | x :: xs, [], p, _, _ => absurd p.length_eq (by simp)
  | x :: xs, y :: ys, p, h1, h2 => by
    have hx : x = y := by
      have a : x ∈ y :: ys := p.mem_iff.mp List.mem_cons_self
      have b : y ∈ x :: xs := p.mem_iff.mpr List.mem_cons_self
      rcases List.mem_cons.mp a with a | a
      · exact a
      · rcases List.mem_cons.mp b with b | b
        · exact b.symm
        · have c := (List.pairwise_cons.mp h1).1 y b
          have d := (List.pairwise_cons.mp h2).1 x a
          simp [lexLe] at c d
          exact Prod.ext (by omega) (by omega)
    subst hx
    rw [sortedP_uniq (List.Perm.cons_inv p) (List.pairwise_cons.mp h1).2 (List.pairwise_cons.mp h2).2]
def gSortP : List D → Option Op
  | [.lst ds] => (pairsOf ds).map fun ps => .tmp (.lst ((sortP ps).map pairD))
  | _ => none
def PrR (K : PySem.W.Frag) (H : Hp) (x : V) (p : Int × Int) : Prop := ∃ t, x = V.ref t ∧ SqT K H t [.int p.1, .int p.2]
def rSortedPQ (K : PySem.W.Frag) : List V → Hp → VK → Prop := fun vs H Q => ∃ (a : Addr) (xs : List V) (ps : List (Int × Int)), vs = [V.ref a] ∧ SqL K H a xs ∧ xs.length = ps.length ∧ (∀ (i : Nat) (x : V) (p : Int × Int), xs[i]? = some x → ps[i]? = some p → PrR K H x p) ∧
  ∀ (k : V → Int × Int) ys p, ps = xs.map k → ys.Perm xs → ys.map k = sortP ps → H p = none → Q (.ref p) (upd H p (.lst ys))
theorem cr_sortedPQ {X : Cx} : CallR X (.builtin "sorted") (rSortedPQ X.K) := by
  intro pins s σ H vs us Q I r h
  obtain ⟨a, xs, ps, rfl, hs, hl, hx, q⟩ := h
  obtain ⟨its, rv, pl, hz⟩ := I.list hs
  obtain ⟨u, rfl, ru⟩ := vals1 r
  obtain rfl : u = Value.ref a := ru
  let k : V → Int × Int := fun x => open Classical in if c : ∃ p, PrR X.K H x p then Classical.choose c else (0, 0)
  have hk : ∀ x p, PrR X.K H x p → k x = p := fun x p hp => by
    have c : ∃ p, PrR X.K H x p := ⟨p, hp⟩
    have e : k x = Classical.choose c := dif_pos c
    rw [e]
    obtain ⟨t, e1, h1⟩ := Classical.choose_spec c
    obtain ⟨t', e2, h2⟩ := hp
    rw [e1] at e2
    cases e2
    have z := I.tuple_inj h1 h2
    simp only [List.cons.injEq, and_true] at z
    obtain ⟨z1, z2⟩ := z
    injection z1 with z1
    injection z2 with z2
    exact Prod.ext z1 z2
  have hxm : ∀ x ∈ xs, PrR X.K H x (k x) := fun x hm => by
    obtain ⟨i, hi, e⟩ := List.getElem_of_mem hm
    have h1 : xs[i]? = some x := by rw [List.getElem?_eq_getElem hi, e]
    have h2 : ps[i]? = some (ps[i]'(hl ▸ hi)) := List.getElem?_eq_getElem _
    have h3 := hx i x _ h1 h2
    rw [hk x _ h3]
    exact h3
  have hps : ps = xs.map k := by
    refine List.ext_getElem? fun i => ?_
    rw [List.getElem?_map]
    cases h1 : xs[i]? with
    | none =>
      have := List.getElem?_eq_none_iff.mp h1
      rw [List.getElem?_eq_none (by omega)]
      rfl
    | some x =>
      have hi := (List.getElem?_eq_some_iff.mp h1).1
      have h2 : ps[i]? = some (ps[i]'(hl ▸ hi)) := List.getElem?_eq_getElem _
      rw [h2, ← hk x _ (hx i x _ h1 h2)]
      rfl
  obtain ⟨e1, e2⟩ := refs_back rv fun x m => by
    obtain ⟨t, e, _⟩ := hxm x m
    exact ⟨t, e⟩
  refine SrtO.sorted_pairsO (k := fun u => k (backV u)) pl.isList (by rw [← rv.length]; exact hz) (fun v hv => ?_) fun h' d out h1 h2 kp hd hn => ?_
  · obtain ⟨t, rfl⟩ := e2 v hv
    have hm : V.ref t ∈ xs := by rw [e1]; exact List.mem_map.mpr ⟨_, hv, rfl⟩
    obtain ⟨t', e, ht⟩ := hxm _ hm
    cases e
    obtain ⟨its2, r2, ⟨o, ho, hc, n, hd⟩, _⟩ := I.tuple ht
    obtain ⟨u1, u2, rfl, ri, rj⟩ := vals2 r2
    obtain ⟨t1, rfl⟩ := ri
    obtain ⟨t2, rfl⟩ := rj
    exact ⟨t, o, t1, t2, n, rfl, ho, hc, hd⟩
  · have h3 : ∀ u ∈ out, ∃ a, u = Value.ref a := fun u hu => e2 u (h2.perm.mem_iff.mp hu)
    obtain ⟨n, hn⟩ := hn
    have hb : (out.map backV).Perm xs := by
      rw [e1]
      exact h2.perm.map backV
    have hs2 : ((out.map backV).map k).Pairwise fun p q => lexLe p q = true := by
      rw [List.map_map, List.pairwise_map]
      refine h1.imp fun {x y} hxy => ?_
      have := SrtO.lexB_no.mp hxy
      show lexLe (k (backV x)) (k (backV y)) = true
      simp [lexLe]
      omega
    have hf : (out.map backV).map k = sortP ps := by
      refine sortedP_uniq ?_ hs2 (sortP_sorted ps)
      rw [hps]
      exact (hb.map k).trans (sortP_perm _).symm
    refine ⟨.ref d, upd H d (.lst (out.map backV)), I.laid (t' := s.toks) kp hd ⟨?_, out, n, vals_back h3, hn⟩, rfl, q k _ d hps hb hf (I.hok.fresh hd)⟩
    rw [hb.length_eq]
    exact hz
section
variable {K : PySem.W.Frag} {mg : Mg}
theorem rpl_pairs {G : Hp} : ∀ {ys : List V} {k : V → Int × Int}, (∀ y ∈ ys, Rp K mg G y (pairD (k y))) → RpL K mg G ys ((ys.map k).map pairD)
  | [], _, _ => .nil
  | y :: ys, k, h => .cons (h y List.mem_cons_self) (rpl_pairs fun z hz => h z (List.mem_cons_of_mem _ hz))
theorem pair_rp {G : Hp} {x : V} {p : Int × Int} (h : Rp K mg G x (pairD p)) : PrR K G x p := by
  unfold pairD at h
  cases h with
  | tup hs r =>
    cases r with
    | cons x1 r =>
      cases r with
      | cons x2 r =>
        cases r
        cases x1
        cases x2
        exact ⟨_, rfl, hs⟩
theorem rc_sortP : RC K mg (rSortedPQ K) gSortP := fun G H xs ds op Q s p eq q => by
  unfold gSortP at eq
  split at eq
  · rename_i ds0
    obtain ⟨ps, e1, rfl⟩ := Option.map_eq_some_iff.mp eq
    cases p with
    | cons p p' =>
      cases p'
      obtain ⟨a, vs, rfl, hq, r⟩ := p.lst s
      rw [pairsOf_eq e1] at r
      have key : ∀ i x p, vs[i]? = some x → ps[i]? = some p → Rp K mg G x (pairD p) := fun i x p h1 h2 => by
        obtain ⟨d, h3, h4⟩ := r.get' h1
        rw [List.getElem?_map, h2] at h3
        cases h3
        exact h4
      refine ⟨a, vs, ps, rfl, hq, by rw [r.length, List.length_map], fun i x p h1 h2 => ?_, fun k ys l hk pm hf hl => ?_⟩
      · obtain ⟨t, e, h⟩ := pair_rp (key i x p h1 h2)
        exact ⟨t, e, same_sqt s h⟩
      · refine q _ _ _ (Nw.new s hl) (On.new s hl (.lst ?_))
        rw [← hf]
        refine rpl_pairs fun y hy => ?_
        obtain ⟨i, hi, e⟩ := List.getElem_of_mem (pm.mem_iff.mp hy)
        have h1 : vs[i]? = some y := by rw [List.getElem?_eq_getElem hi, e]
        refine key i y (k y) h1 ?_
        rw [hk, List.getElem?_map, h1]
        rfl
  · cases eq
end
section
variable {X : Cx} {e : Expr} {t : TA} {fp : FP} {pos p : Pos}
theorem je_sortP {K : PySem.W.Frag} (hg : Gl X "sorted") (hm : X.mg "sorted" = none) (ha : JP X [e] t fp) (he : starEach (e :: []) X.env = (false, eval e X.env) :: starEach [] X.env := by rfl) (hpl : (backTo pos (starEach [] X.env)).any (·.1) = false := by rfl) (hK : X.K = K := by rfl) : JE X (.Call (.Name "sorted" p) [e] [] pos) (tCB (rSortedPQ K) t) (fCB gSortP fp) := by
  subst hK
  exact je_cb cr_sortedPQ rc_sortP hg hm (by decide +kernel) ha (by decide) (by decide) he hpl
end

/-! ### sum(range(a, b)) -/
def tSumRg (te : L2.St → Hp → (Int → Int → Hp → Prop) → Prop) : TE := fun σ H Q => te σ H fun a b H1 => RgOk a b ∧ Q (.int (((List.range (b - a).toNat).map fun (i : Nat) => a + (i : Int)).sum)) H1
theorem preSum_rg (a : Int) : ∀ n, preSum (fun (i : Nat) => a + (i : Int) * 1) n = ((List.range n).map fun (i : Nat) => a + (i : Int)).sum
  | 0 => rfl
  | n + 1 => by
    show preSum _ n + (a + (n : Int) * 1) = _
    rw [preSum_rg a n, List.range_succ, List.map_append, List.sum_append]
    simp
theorem pe_sumRg {X : Cx} {e : Expr} {te : L2.St → Hp → (Int → Int → Hp → Prop) → Prop} {p pos : Pos} (hc : X.calm = true) (hg : Gl X "sum") (hm : X.mg "sum" = none) (he : PRg X e te) (na : starEach [e] X.env = (false, eval e X.env) :: starEach [] X.env := by rfl) : PE X (.Call (.Name "sum" p) [e] [] pos) (tSumRg te) := by
  refine ⟨fun pins s σ H Q I h => ?_⟩
  refine Call_ (ld_blt I hg hm (u := .builtin "sum") (by decide +kernel) (callWith_builtin1 (args_cons (thn (he pins s σ H _ I h) fun x s1 ⟨r, a, b, t, u, v, H1, ex, hr, I1, ok, q⟩ => args_nil ?_) na) na rfl))
  subst ex
  obtain ⟨b1, b2, b3, b4, b5⟩ := ok
  have hh : X.A.in1.handled = none := I1.ok.hd hc
  have hsz : Builtin.Range.rangeSize a b 1 = ((b - a).toNat : Int) := rangeSize_nat a b
  refine call_sum_walkAnyS (wpAny_pyIter_range hr (small_one b1 b2 b3 b4) ?_)
  refine ⟨_, _, _, _, (b - a).toNat, _, _, fun (i : Nat) => a + (i : Int) * 1, rfl, (Walks.range (prog := X.prog) (w := X.w) (A := X.A.in1) hh s1.heap.objs.size a 1 (b - a).toNat).toS, ?_, fun b hb => ?_, fun i v hv => hv, fun s' t' hm => ?_⟩
  · show IsRangeIter _ _ _ _ _
    rw [hsz]
    simpa using Heap.get?_push_size s1.heap rfl
  · rw [List.mem_singleton.mp hb]
    show s1.heap.objs.size < (s1.heap.push _).objs.size
    rw [Heap.size_push]
    exact Nat.lt_succ_self _
  · rw [Moved.eq_with hm]
    refine ⟨.int _, H1, ?_, ⟨t', rfl⟩, ?_⟩
    · exact I1.kept fun b o e => hm.heap b o (fun hmem => Nat.ne_of_lt (Heap.lt_size e) (List.mem_singleton.mp hmem)) (Heap.get?_push_of_some _ e)
    · rw [preSum_rg]
      exact q
def fSr1 (fa : FE) (τ : Tau) : Option (Op × Tau) := (fa τ).bind fun a => (deref a.2 a.1).bind fun x => match x with
  | .int n => if lrOk 0 n = true then some (.val (.int (((List.range (n - 0).toNat).map fun (i : Nat) => 0 + (i : Int)).sum)), a.2) else none
  | _ => none
def fSr2 (fa fb : FE) (τ : Tau) : Option (Op × Tau) := (fa τ).bind fun a => (fb a.2).bind fun b => (deref b.2 a.1).bind fun x => (deref b.2 b.1).bind fun y => match x, y with
  | .int i, .int j => if lrOk i j = true then some (.val (.int (((List.range (j - i).toNat).map fun (k : Nat) => i + (k : Int)).sum)), b.2) else none
  | _, _ => none
section
variable {K : PySem.W.Frag} {mg : Mg} {ta tb : TE} {fa fb : FE}
theorem re_sr2 (ha : RE K mg ta fa) (hb : RE K mg tb fb) : RE K mg (tSumRg (tRg2 ta tb)) (fSr2 fa fb) := fun σ τ G H op τ' Q A e q => by
  obtain ⟨⟨oa, τ1⟩, e1, e⟩ := bind_some' e
  obtain ⟨⟨ob, τ2⟩, e2, e⟩ := bind_some' e
  obtain ⟨d, e3, e⟩ := bind_some' e
  obtain ⟨d', e4, e⟩ := bind_some' e
  dsimp only at e2 e3 e4 e
  cases d <;> first | (cases e; done) | skip
  cases d' <;> first | (cases e; done) | skip
  obtain ⟨h, z⟩ := if_get e
  cases z
  refine ha σ τ G H oa τ1 _ A e1 fun x G1 H1 g1 o1 => ?_
  refine hb σ τ1 G1 H1 ob _ _ g1.at' e2 fun y G2 H2 g2 o2 => ?_
  have g12 := g1.trans g2
  cases ((o1.step g2).pk g2.at' e3).int
  cases (o2.pk g2.at' e4).int
  exact ⟨_, _, rfl, rfl, lrOk_ok h, q _ _ _ g12 (.val (.int _))⟩
end
section
variable {X : Cx} {a b : Expr} {ta tb : TE} {fa fb : FE} {p p' pos pos' : Pos}
theorem je_sr2 (hc : X.calm = true) (hg : Gl X "sum") (hm : X.mg "sum" = none) (hg' : Gl X "range") (hm' : X.mg "range" = none) (ha : JE X a ta fa) (hb : JE X b tb fb) (na : starEach [a, b] X.env = (false, eval a X.env) :: starEach [b] X.env := by rfl) (nc : starEach [b] X.env = (false, eval b X.env) :: starEach [] X.env := by rfl) (np : (backTo pos' (starEach [b] X.env)).any (·.1) = false := by rfl)
    (nb : starEach [.Call (.Name "range" p') [a, b] [] pos'] X.env = (false, eval (.Call (.Name "range" p') [a, b] [] pos') X.env) :: starEach [] X.env := by rfl) : JE X (.Call (.Name "sum" p) [.Call (.Name "range" p') [a, b] [] pos'] [] pos) (tSumRg (tRg2 ta tb)) (fSr2 fa fb) := ⟨pe_sumRg hc hg hm (prg_2 hg' hm' ha.pe hb.pe na nc np) nb, re_sr2 ha.re hb.re⟩
end

/-! ### x op= y of own things without an own __iop__ -/
open PySem.W PySem.Calls in
theorem fillsI_no {M : Model} {K : PySem.W.Frag} {C : Addr} {nm : String} {h : Heap} {cd : ClassData} {add : Bool} (X : K.In h) (hc : clsIn K C = some cd) (hm : cd.mro = [.ref C, .type "object"]) (h1 : findIn K (.ref C) (dunderI nm) = some none) (h2 : findIn K (.type "object") (dunderI nm) = some none) :
    Looks M h (fillsInplaceSlot (.ref C) nm add) false := by
  intro A Q E s k q
  unfold fillsInplaceSlot
  refine wpAny_bind ((looks_clsIn X hc).andThen (f := fun cd => pure cd.mro) .now A _ E s k ?_)
  rw [hm, List.anyM_cons]
  refine wpAny_bind (wpAny_bind (looks_findIn X h1 A _ E s k ?_))
  refine wpAny_pure ?_
  rw [List.anyM_cons]
  refine wpAny_bind (wpAny_bind (looks_findIn X h2 A _ E s k ?_))
  refine wpAny_pure ?_
  rw [List.anyM_nil]
  exact wpAny_pure q
section
open PySem.W PySem.Calls
variable {prog : Program} {w : World} {A : Around} {E : Value → Shared → Prop} {s : Shared} {K : PySem.W.Frag} {x C L f : Addr} {h₀ : Heap} {m : PySem.Str → Option Value} {ox : Obj} {od : Option Obj} {T : String}
theorem inplace_K {op : Operator} {b : Value} {cd : ClassData} {Q : Value → Shared → Prop} (F : PyProof.Rows.Fr h₀ L s.heap m) (X₀ : K.In h₀) (I : InstAt s.heap x ox C od) (hb : Looks (model prog w) s.heap (typeOf b) (.ref C)) (hc : selfFirst K C = true)
    (hcd : clsIn K C = some cd) (hmr : cd.mro = [.ref C, .type "object"]) (hi1 : findIn K (.ref C) (dunderI op.info.2) = some none) (hi2 : findIn K (.type "object") (dunderI op.info.2) = some none)
    (hs : findIn K (.ref C) (PySem.dunder op.info.2) = some (some (.ref f))) (hf : isFn K (.ref f) = true)
    (h : wpAny (model prog w) A (call (.ref f) [.ref x, b]) (PySem.W.CmpBack Q) E s) : wpAny (model prog w) A (inplaceOp op (.ref x) b) Q E s := by
  have X := X₀.keeps F.keep
  unfold inplaceOp
  refine wpAny_holding ?_
  refine wpAny_bind (I.type.here (wpAny_bind ((fillsI_no X hcd hmr hi1 hi2).here ?_)))
  simp only [Bool.false_eq_true, if_false]
  refine wpAny_bind ?_
  unfold binaryOp1
  refine wpAny_bind (I.type.here (wpAny_bind (hb.here (wpAny_bind ((fills_K X hcd hmr hs).here ?_)))))
  simp only [beq_self_eq_true, if_true]
  refine wpAny_bind (wpAny_pure ?_)
  simp only [Bool.and_false, Bool.false_eq_true, if_false, Bool.false_and]
  refine wpAny_bind (wpAny_pure ?_)
  simp only [Bool.false_eq_true, if_false]
  refine wpAny_bind (m := tryMethod (.ref x) _ b) ?_
  unfold tryMethod
  refine wpAny_bind (special_fn X I hs (beq_iff_eq.mp hf) (wpAny_mono h (fun v s' hv => ?_) fun _ _ e => e))
  cases v <;> first | exact hv.elim | exact wpAny_pure (wpAny_pure (wpAny_pure hv))
theorem inplace_T {b : Value} {cd : ClassData} {fo ro rc : Option Value} {Q : Value → Shared → Prop} (F : PyProof.Rows.Fr h₀ L s.heap m) (X₀ : K.In h₀) (I : InstAt s.heap x ox C od) (hb : typeOf b = pure (.type T)) (hc : selfFirst K C = true)
    (hcd : clsIn K C = some cd) (hmr : cd.mro = [.ref C, .type "object"]) (hi1 : findIn K (.ref C) (dunderI "mul") = some none) (hi2 : findIn K (.type "object") (dunderI "mul") = some none)
    (hs : findIn K (.ref C) (PySem.dunder "mul") = some (some (.ref f))) (hf : isFn K (.ref f) = true) (hr : findIn K (.ref C) (dunderR "mul") = some rc) (hp : rc = none ∨ ∃ g : Addr, rc = some (.ref g))
    (h1 : findIn K (.type T) (PySem.dunder "mul") = some fo) (h2 : findIn K (.type T) (dunderR "mul") = some ro) (hsub : subIn K (.type T) (.ref C) = some false)
    (h : wpAny (model prog w) A (call (.ref f) [.ref x, b]) (PySem.W.CmpBack Q) E s) : wpAny (model prog w) A (inplaceOp .Mult (.ref x) b) Q E s := by
  have X := X₀.keeps F.keep
  have one := ksp_try X I hs hf h
  obtain ⟨hh, g, d, tt, os⟩ := s
  have L1 : Looks (model prog w) hh (typeOf (.ref x)) (.ref C) := I.type
  have L2 : Looks (model prog w) hh (typeOf b) (.type T) := Looks.of_pure hb
  have L3 : Looks (model prog w) hh (fillsNumberSlot (.ref C) "mul") true := fills_K X hcd hmr hs
  have L4 : Looks (model prog w) hh (fillsNumberSlot (.type T) "mul") ((fo.isSome && !isSeqSlot fo) || (ro.isSome && !isSeqSlot ro)) := ksp_fillsT X h1 h2
  have L5 : Looks (model prog w) hh (isSubtype (.type T) (.ref C)) false := looks_subIn X hsub
  have L6 : Looks (model prog w) hh (numberSlotInPython (.ref C) "mul") true := ksp_inPy X hs hr hp
  have L7 : Looks (model prog w) hh (numberSlotInPython (.type T) "mul") false := Looks.of_pure rfl
  have L8 : Looks (model prog w) hh (typeLookup (.type T) (dunderR "mul")) ro := looks_findIn X h2
  have L9 : Looks (model prog w) hh (fillsInplaceSlot (.ref C) "mul" false) false := fillsI_no X hcd hmr hi1 hi2
  generalize ((fo.isSome && !isSeqSlot fo) || (ro.isSome && !isSeqSlot ro)) = right at L4
  have hne : (Value.ref C == Value.type T) = false := Bool.eq_false_iff.mpr fun q => by cases beq_iff_eq.mp q
  unfold inplaceOp
  refine wpAny_holding ?_
  refine wpAny_bind (L1.at ?_)
  refine wpAny_bind (L9.at ?_)
  simp only [Bool.false_eq_true, if_false]
  refine wpAny_bind ?_
  show wpAny _ _ (binaryOp1 "mul" (.ref x) b) _ _ _
  unfold binaryOp1
  refine wpAny_bind (L1.at (wpAny_bind (L2.at (wpAny_bind (L3.at ?_)))))
  simp only [hne, Bool.false_eq_true, if_false]
  cases right with
  | false =>
    ksp_lk
    refine wpAny_mono one (fun r s' hr' => ?_) fun _ _ e => e
    obtain ⟨v, rfl, hq⟩ := hr'
    ksp_lk
    exact hq
  | true =>
    ksp_lk
    refine wpAny_mono one (fun r s' hr' => ?_) fun _ _ e => e
    obtain ⟨v, rfl, hq⟩ := hr'
    ksp_lk
    exact hq
end
/-- a class without op= -/
structure SiOk (K : PySem.W.Frag) (mg : Mg) (cn : String) (dn : String) : Prop where
  si : ∀ C, mg (os cn) = some (.ref C) → ∃ cd, PySem.W.clsIn K C = some cd ∧ cd.mro = [.ref C, .type "object"] ∧ PySem.W.findIn K (.ref C) dn = some none
section
variable {X : Cx} {k : Nat} {f C : Addr} {fd : FuncData} {ps : List PySem.Str} {sp : Sp} {cd : ClassData}
theorem ip_binM {op : Operator} (F : FnOk X.prog X.w X.K X.mg X.base CX0 k f fd ps sp) (hr : Room k X.A) (hb : Binds X.K fd ps []) (hs : PySem.W.findIn X.K (.ref C) (PySem.dunder op.info.2) = some (some (.ref f))) (hf : PySem.W.isFn X.K (.ref f) = true)
    (hc : PySem.W.selfFirst X.K C = true) (hcd : PySem.W.clsIn X.K C = some cd) (hmr : cd.mro = [.ref C, .type "object"]) (hi1 : PySem.W.findIn X.K (.ref C) (dunderI op.info.2) = some none) (hi2 : PySem.W.findIn X.K (.type "object") (dunderI op.info.2) = some none) : PIp X op (rM C sp) := by
  intro pins s σ H x y v u Q I rx ry h
  obtain ⟨a, b, dx, dy, fs, gs, rfl, rfl, ha, hb', hsp⟩ := h
  cases rx
  cases ry
  obtain ⟨mA, J, _⟩ := ins_get I.hok ha
  obtain ⟨mB, J', _⟩ := ins_get I.hok hb'
  obtain ⟨od, J, _⟩ := J.look
  obtain ⟨od', J', _⟩ := J'.look
  obtain ⟨_, hF⟩ := I.fr
  exact inplace_K hF I.ok.mod.kin J J'.type hc hcd hmr hi1 hi2 hs hf (run_opM F hr hb I hsp)
theorem ip_mulMI (F : FnOk X.prog X.w X.K X.mg X.base CX0 k f fd ps sp) (hr : Room k X.A) (hb : Binds X.K fd ps []) (hs : PySem.W.findIn X.K (.ref C) (PySem.dunder (Operator.info .Mult).2) = some (some (.ref f))) (hf : PySem.W.isFn X.K (.ref f) = true)
    (hc : PySem.W.selfFirst X.K C = true) (h1 : PySem.W.findIn X.K (.ref C) "__rmul__" = some none) (h2 : PySem.W.subIn X.K (.type "int") (.ref C) = some false)
    (hcd : PySem.W.clsIn X.K C = some cd) (hmr : cd.mro = [.ref C, .type "object"]) (hi1 : PySem.W.findIn X.K (.ref C) (dunderI (Operator.info .Mult).2) = some none) : PIp X .Mult (rMI C sp) := by
  intro pins s σ H x y v u Q I rx ry h
  obtain ⟨a, dx, fs, i, rfl, rfl, ha, hsp⟩ := h
  cases rx
  obtain ⟨t, rfl⟩ := (show ∃ t, u = Value.int i t from ry)
  obtain ⟨mA, J, _⟩ := ins_get I.hok ha
  obtain ⟨od, J, _⟩ := J.look
  obtain ⟨_, hF⟩ := I.fr
  obtain ⟨fo, e1⟩ := int_mul X.K
  obtain ⟨ro, e2⟩ := int_rmul X.K
  refine inplace_T (T := "int") hF I.ok.mod.kin J rfl hc hcd hmr hi1 rfl hs hf (rc := none) h1 (.inl rfl) e1 e2 h2 ?_
  exact wpAny_mono (run_fn (us := [.ref a, .int i t]) (vs := [.ref a, .int i]) F hr hb .nil pass0 I (.cons rfl (.cons ⟨t, rfl⟩ .nil)) (by rw [List.append_nil]; exact hsp)) (fun u s' h => back_of h) fun _ _ e => e
end
section
variable {X : Cx} {b : Bool} {e : Expr} {te : TE} {fe : FE} {pos : Pos} {cn : String} {C f : Addr} {fd : FuncData} {ps : List PySem.Str} {k j : Nat} {m : Mir} {mn : String}
theorem js_augM {op : Operator} {i : Nat} {x : PySem.Str} {pos' : Pos} {K : PySem.W.Frag} {mg : Mg} {dn : String} (N : SfOk K mg cn) (S : SiOk K mg cn dn) (h : KnM X.prog X.w K mg X.base C f fd cn mn ps false k m) (hr : Room j X.A) (hN : X.N.Nodup) (hb : b = false ∨ i ≠ 0) (he : JE X e te fe) (hi : X.N[i]? = some x := by rfl) (hx : Loc X.env.scope x := by first | exact Or.inl rfl | exact Or.inr rfl)
    (hf : X.fn x = true ∨ X.env.scope.names.lookup x = some .local := by first | exact .inl rfl | exact .inr rfl | assumption) (hm : PySem.dunder op.info.2 = os mn := by rfl) (hd : dunderI op.info.2 = os dn := by rfl) (ho : PySem.W.findIn K (.type "object") (dunderI op.info.2) = some none := by rfl) (hj : k ≤ j := by decide) (hK : X.K = K := by rfl) (hM : X.mg = mg := by rfl) :
    JS X b (.AugAssign (.Name x pos') op e pos) (tAug i te (rM C (spM K mg false m))) (sSetF i (fBinF (gM2 cn m) (fVar i) fe)) := by
  subst hK hM
  obtain ⟨cd, s1, s2, s3⟩ := S.si C h.g
  exact ⟨ps_aug hN hi hx he.pe (ip_binM h.ok (hr.mono hj) h.bi (hm ▸ h.me.at_) h.me.fn (N.sf C h.g) s1 s2 (hd ▸ s3) ho) hf, rs_setF hb (re_binF (rb_M2 h.g) (re_var i) he.re)⟩
theorem js_augMI {i : Nat} {x : PySem.Str} {pos' : Pos} {K : PySem.W.Frag} {mg : Mg} (N : SmOk K mg cn) (S : SiOk K mg cn "__imul__") (h : KnM X.prog X.w K mg X.base C f fd cn "__mul__" ps false k m) (hr : Room j X.A) (hN : X.N.Nodup) (hb : b = false ∨ i ≠ 0) (he : JE X e te fe) (hi : X.N[i]? = some x := by rfl) (hx : Loc X.env.scope x := by first | exact Or.inl rfl | exact Or.inr rfl)
    (hf : X.fn x = true ∨ X.env.scope.names.lookup x = some .local := by first | exact .inl rfl | exact .inr rfl | assumption) (hj : k ≤ j := by decide) (hK : X.K = K := by rfl) (hM : X.mg = mg := by rfl) :
    JS X b (.AugAssign (.Name x pos') .Mult e pos) (tAug i te (rMI C (spM K mg false m))) (sSetF i (fBinF (gM2I cn m) (fVar i) fe)) := by
  subst hK hM
  obtain ⟨cd, s1, s2, s3⟩ := S.si C h.g
  have hm : PySem.dunder (Operator.info .Mult).2 = os "__mul__" := rfl
  have hd : dunderI (Operator.info .Mult).2 = os "__imul__" := rfl
  exact ⟨ps_aug hN hi hx he.pe (ip_mulMI h.ok (hr.mono hj) h.bi (hm ▸ h.me.at_) h.me.fn (N.sf C h.g).1 (N.sf C h.g).2.1 (N.sf C h.g).2.2 s1 s2 (hd ▸ s3)) hf, rs_setF hb (re_binF (rb_M2I h.g) (re_var i) he.re)⟩
end
end J
namespace J
open PySem PySem.Spec PyProof.Rows L2

/-! ### xs.extend(ys), ys a list that is read -/
theorem list_extend_ll (l : Addr) (items : Array Value) (n : Nat) (b : Addr) (items2 : Array Value) (n2 : Nat) (sl : Array (Option Value)) (hc0 : ¬(!items.isEmpty && Builtin.List.listTooLong (items.size + items2.size)) = true) (hc1 : items.size ≤ sizeLine) (hs2 : items.size + items2.size ≤ sizeLine + 1) :
    Meets (Builtin.«list.extend» ⟨[.ref l, .ref b], []⟩) (fun _ R s => s.heap.get? l = some { cls := .type "list", dict := none, data := .seq items n, slots := #[] } ∧ s.heap.get? b = some { cls := .type "list", dict := none, data := .seq items2 n2, slots := sl } ∧ R (.ok (.ret Value.none)) { s with heap := s.heap.update l (Obj.mapSeq fun x => x ++ items2), toks := s.toks }) :=
  .of_wp fun prog w A R s h => by
    obtain ⟨hp, g, d, tk, os⟩ := s; obtain ⟨hl, hb, h⟩ := h; have f1 := AutoSeq1.idx_int; have f2 := AutoSeq1.sub_tuple_tuple; have f3 := AutoSeq1.sub_list_list; have f4 := AutoSeq1.sub_tuple_list; have f5 := AutoSeq1.sub_list_tuple;
    have hz' : (items ++ items2).size ≤ sizeLine + 1 := by rw [Array.size_append]; exact hs2
    wp_walk using (wpAny_updateSeq hl rfl (hz := hc1) (_hz' := hz')), wpAny_loadPart' hl, wpAny_loadPart' hb; exact ⟨_, rfl, h⟩
def rExtendS (K : PySem.W.Frag) : V → List V → Hp → VK → Prop := fun x vs H Q => ∃ l b xs zs, x = .ref l ∧ vs = [.ref b] ∧ H l = some (.lst xs) ∧ SqL K H b zs ∧ xs.length + zs.length ≤ sizeLine ∧ Q .non (upd H l (.lst (xs ++ zs)))
theorem mt_extendS {X : Cx} : MtM X "list.extend" (rExtendS X.K) := by
  intro pins s σ H x vs v us Q I rx rv h
  obtain ⟨l, b, xs, zs, rfl, rfl, hH, hB, hz, q⟩ := h
  cases rx
  obtain ⟨u, rfl, ru⟩ := rv.one
  cases ru
  obtain ⟨z, its, n, r, hl, e⟩ := I.lstM hH
  obtain ⟨its2, r2, ⟨⟨oc, od, oa, os⟩, n2, e2, c1, c2, c3⟩, z2⟩ := I.list hB
  dsimp only at c1 c2 c3
  subst c1 c2 c3
  have hl2 := r2.length
  have hsz : its.toArray.size + its2.toArray.size ≤ sizeLine := by rw [List.size_toArray, List.size_toArray]; omega
  have hlong : ¬ (!its.toArray.isEmpty && Builtin.List.listTooLong (its.toArray.size + its2.toArray.size)) = true := by
    rw [notLongL hsz, Bool.and_false]
    exact Bool.false_ne_true
  refine call_meets F.slot_list_extend ⟨_, e, rfl⟩ F.entry_list_extend (F.args_list_extend_2 _ _)
    (list_extend_ll l its.toArray n b its2.toArray n2 os hlong (by rw [List.size_toArray]; omega) (by omega)) ⟨e, e2, ?_⟩
  refine ⟨.non, _, I.lset (its' := its ++ its2) hH e (by simp) (r.append r2) ?_, rfl, q⟩
  rw [List.length_append]
  omega
def fExtS (fo fe : FE) (τ : Tau) : Option (Op × Tau) := (fo τ).bind fun o => (owL o.2 o.1).bind fun _ => (fe o.2).bind fun a => (deref a.2 a.1).bind fun d => match d with
  | .lst ys => (owL a.2 o.1).bind fun l => if l.2.length + ys.length ≤ 16777216 then some (.val .non, a.2.set l.1 (some (.ow (.lst (l.2 ++ ys))))) else none
  | _ => none
section
variable {K : PySem.W.Frag} {mg : Mg} {to te : TE} {fo fe : FE}
theorem re_extS (ho : RE K mg to fo) (he : RE K mg te fe) : RE K mg (tBM K "list" (rExtendS K) to (tCons te tNil)) (fExtS fo fe) := fun σ τ G H op τ' Q A e q => by
  obtain ⟨⟨o, τ1⟩, e1, e⟩ := bind_some' e
  obtain ⟨l0, e0, e⟩ := bind_some' e
  obtain ⟨⟨o2, τ2⟩, e2, e⟩ := bind_some' e
  obtain ⟨d, e3, e⟩ := bind_some' e
  dsimp only at e e0 e2 e3
  cases d <;> first | (cases e; done) | skip
  rename_i ys
  obtain ⟨l, e4, e⟩ := bind_some' e
  obtain ⟨hl, z⟩ := if_get e
  cases z
  refine ho σ τ G H o τ1 _ A e1 fun x G1 H1 g1 o1 => ?_
  obtain ⟨p, vs0, rfl, _, _, _, hp, _⟩ := owL_ok g1.at' o1 e0
  refine ⟨.inl ⟨rfl, vs0, SqL.of hp⟩, ?_⟩
  refine he σ τ1 G1 H1 o2 τ2 _ g1.at' e2 fun y G2 H2 g2 o2' => ?_
  obtain ⟨p', vs, ex, _, hs, hi, hp', r⟩ := owL_ok g2.at' (o1.step g2) e4
  cases ex
  obtain ⟨b, ws, rfl, hb, r2⟩ := (o2'.pk g2.at' e3).lst g2.at'.gh
  refine ⟨p, b, vs, ws, rfl, rfl, hp', hb, by rw [sizeLine_eq, r.length, r2.length]; exact hl, ?_⟩
  exact q _ G2 _ ((g1.trans g2).trans (Go.put g2.at' hi hs (.lst (r.append r2)))) (.val .non)
end
theorem je_extS {X : Cx} {K : PySem.W.Frag} {o e : Expr} {apos pos : Pos} {to te : TE} {fo fe : FE} (ho : JE X o to fo) (he : JE X e te fe) (hbase : attributeBase o (os "extend") X.env (eval o X.env) = eval o X.env := by rfl)
    (hfew : ((backTo pos (starEach (e :: []) X.env)).all (fun x => !x.1) && (backToKw pos (keywordEach [] X.env)).all (fun x => x.1.isSome)
      && decide ((e :: []).length + ([] : List Keyword).length + (if ([] : List Keyword).isEmpty then 0 else 1) < 30)) = true := by rfl)
    (hline : (apos.endLine == pos.line) = true := by rfl) (hs : starEach (e :: []) X.env = (false, eval e X.env) :: starEach [] X.env := by rfl) (hplain : (backTo pos (starEach [] X.env)).any (·.1) = false := by rfl) (hK : X.K = K := by rfl) :
    JE X (.Call (.Attribute o (os "extend") apos) [e] [] pos) (tBM K "list" (rExtendS K) to (tCons te tNil)) (fExtS fo fe) := by
  subst hK
  exact ⟨pe_bm PySem.F.plainAttrs_list PySem.F.slot_list_extend PySem.F.type_list_extend mt_extendS ho.pe (pa_cons he.pe pa_nil hs) hbase hfew hline hs hplain, re_extS ho.re he.re⟩
end J
namespace J
open PySem PySem.Spec PyProof.Rows L2

/-! ### xs[:c] = ys, xs[i], ys[j] = a pair, xs[:c], ys[:d] = a pair of lists -/
section
variable {prog : Program} {w : World} {A : Around} {E : Value → Shared → Prop} {s : Shared}
theorem bounds_to {c n : Nat} (hc : c ≤ n) : sliceBounds none (some (c : Int)) none n = ((0 : Int), (c : Int), 1) := by
  have h2 : ¬ ((c : Int) < 0) := by omega
  simp only [sliceBounds, Option.getD_none, h2, if_false, show (1 : Int) > 0 by decide, if_true]
  congr 1
  congr 1; omega
theorem put_slice {l b sl : Addr} {items new : Array Value} {n : Nat} {vl vu : Value} {c : Nat} {Q : Unit → Shared → Prop}
    (e : s.heap.get? l = some { cls := .type "list", data := .seq items n }) (e2 : PlainL s.heap b new) (hne : l ≠ b)
    (hs : s.heap.IsSliceOf sl vl vu .none) (pl : IsPart vl none) (pu : IsPart vu (some (c : Int))) (hc : c ≤ items.size)
    (hsz : items.size + new.size ≤ sizeLine) (h : Q () { s with heap := s.heap.update l (Obj.mapSeq fun xs => xs.extract 0 0 ++ new ++ xs.extract c xs.size) }) :
    wpAny (model prog w) A (setItem (.ref l) (.ref sl) (.ref b)) Q E s := by
  have hl : s.heap.IsList l items := PySem.IsL.isList e
  obtain ⟨ob, nb, gb, cb, xb, db⟩ := e2
  have hTb : s.TypeIs (.ref b) "list" := ⟨ob, gb, cb⟩
  obtain ⟨os, hos, hcs, hds⟩ := id hs
  have hTs : s.TypeIs (.ref sl) "slice" := ⟨os, hos, hcs⟩
  have hstep : ¬ ((rawPart none == rawInt 0) = true) := Bool.false_ne_true
  have hsame : Builtin.List.listSameRef (.ref l) (.ref b) = false := by
    unfold Builtin.List.listSameRef
    exact beq_eq_false_iff_ne.mpr hne
  have hmax : (max (0 : Int) (c : Int)).toNat = c := by omega
  have hz' : ((fun xs : Array Value => xs.extract 0 0 ++ new ++ xs.extract c xs.size) items).size ≤ sizeLine + 1 := by
    simp only [Array.size_append, Array.size_extract]
    omega
  unfold setItem
  try with_reducible refine wpAny_holding ?_
  first | refine wpAny_bind (wpAny_pure ?_) | skip
  refine wpAny_bind (wpAny_sequenceKey hl.typeIs (by decide) ?_)
  refine wpAny_bind (wpAny_callSpecial?_slot (name := Str.ofString "__setitem__") hl.typeIs slot_list_setitem
    (wpAny_call_entry slot_list_setitem hl.typeIs entry_list_setitem ?_ (args_list_setitem _ _ _)))
  show wpAny _ _ (Builtin.List.listSubscript? (.ref sl) >>= _) _ _ s
  refine wpAny_bind ?_
  unfold Builtin.List.listSubscript?
  refine wpAny_bind (wpAny_specialOf hTs slice_no_index ?_)
  simp only [Option.isNone_none, if_true]
  refine wpAny_pure ?_
  show wpAny _ _ (typeOf (.ref sl) >>= _) _ _ s
  refine wpAny_bind (wpAny_typeOf hTs ?_)
  first
    | rw [if_neg (by decide)]
    | refine PySem.W.KFB.if_not (by decide) ?_
  rw [listSliceParts_eq]
  refine wpAny_bind (wpAny_bind (wpAny_field hos hds (x := .none) rfl (wpAny_bind (wpAny_listPart .none ?_))))
  rw [if_neg hstep]
  refine wpAny_bind (wpAny_field hos hds (x := vl) rfl (wpAny_bind (wpAny_listPart pl ?_)))
  refine wpAny_bind (wpAny_field hos hds (x := vu) rfl (wpAny_bind (wpAny_listPart pu (wpAny_pure ?_))))
  first
    | simp only [hsame, Bool.false_eq_true, if_false]
    | refine PySem.W.KFB.if_not hsame ?_
  refine wpAny_bind (m := Builtin.List.listAllItems (.ref b) "must assign iterable to extended slice") ?_
  unfold Builtin.List.listAllItems
  refine wpAny_bind (wpAny_typeOf hTb ?_)
  first
    | refine PySem.W.KFB.if_so (by decide) ?_
    | rw [if_pos (by decide)]
  unfold Builtin.List.listItems
  refine wpAny_bind (wpAny_seqItems gb db (wpAny_pure ?_))
  refine wpAny_bind (wpAny_bind (wpAny_seqItems e rfl (wpAny_pure ?_)))
  refine wpAny_bind (wpAny_of_eq ((sliceIndices_raw none (some (c : Int)) none items.size (by simp)).trans (congrArg (pure : Int × Int × Int → Sem (Int × Int × Int)) (bounds_to hc))) ?_)
  show wpAny _ _ (if ((1 : Int) == 1) = true then _ else _) _ _ s
  rw [if_pos (by decide)]
  refine wpAny_bind (wpAny_rule ?_)
  first
    | simp only [notLongL hsz, Bool.false_eq_true, if_false]
    | refine PySem.W.KFB.if_not (notLongL hsz) ?_
  first | refine wpAny_bind (wpAny_pure ?_) | skip
  show wpAny _ _ (updateSeq l (fun xs => xs.extract 0 ((0 : Int)).toNat ++ new ++ xs.extract (max (0 : Int) (c : Int)).toNat xs.size) >>= _) _ _ s
  rw [hmax, show ((0 : Int)).toNat = 0 from rfl]
  refine wpAny_bind (wpAny_updateSeq (hz := Nat.le_trans (Nat.le_add_right _ _) hsz) (_hz' := hz') e rfl ?_)
  refine wpAny_bind (wpAny_letGo ?_)
  first
    | exact wpAny_bind (wpAny_pure (wpAny_pure ⟨.none, rfl, wpAny_pure h⟩))
    | exact wpAny_pure ⟨.none, rfl, wpAny_pure h⟩
end
/-- a target xs[:c] -/
def gSlc (K : PySem.W.Frag) (to th : TE) : TG := fun v σ H Q => to σ H fun o H1 => th σ H1 fun u H2 => ∃ p q xs ys c G, o = .ref p ∧ v = .ref q ∧ u = .int c ∧ 0 ≤ c ∧ c.toNat ≤ xs.length ∧ Same G H2 ∧ G p = none ∧ H2 p = some (.lst xs) ∧ SqL K G q ys ∧ xs.length + ys.length ≤ sizeLine ∧ Q σ (upd H2 p (.lst (ys ++ xs.drop c.toNat)))
theorem pg_slc {X : Cx} {o hi : Expr} {pos p2 : Pos} {to th : TE} (ho : PE X o to) (hu : PE X hi th) : PG X (.Subscript o (.Slice none (some hi) none p2) pos) (gSlc X.K to th) := by
  have ha : ∀ v, assign (.Subscript o (.Slice none (some hi) none p2) pos) X.env v = (do
      let ov ← holding [v] (eval o X.env)
      let iv ← holding [v, ov] (eval (.Slice none (some hi) none p2) X.env)
      standAt pos
      holding [v, ov, iv] (setItem ov iv v)
      release [iv, v, ov] []) := fun _ => rfl
  refine ⟨fun pins s σ H v u Q I r h => ?_⟩
  rw [ha]
  refine wpAny_bind (wpAny_holding (thn (ho.run pins s σ H _ I h) fun ov s1 ⟨x, H1, I1, r1, q1⟩ => ?_))
  refine wpAny_bind (wpAny_holding (wpAny_Slice ?_))
  rw [evalPart_none]
  refine wpAny_pure ?_
  rw [evalPart_some]
  refine thn (hu.run pins s1 σ H1 _ I1 q1) fun vu s2 ⟨y, H2, I2, r2, q2⟩ => ?_
  refine wpAny_pure ?_
  obtain ⟨p, q, xs, ys, c, G, rfl, rfl, rfl, hc0, hcl, gh, gp, hp, hq, hz, k⟩ := q2
  cases r
  cases r1
  obtain ⟨tc, rfl⟩ := r2
  have I3 : Inv X pins σ H2 { s2 with heap := s2.heap.push { cls := .type "slice", data := .fields #[.none, .int c tc, .none] } } := I2.kept (t' := s2.toks) fun b ob q => Heap.get?_push_of_some _ q
  have hne : p ≠ q := by
    rintro rfl
    rcases hq with (h | ⟨z, h⟩) | ⟨ob, its, n, hk, _⟩
    · rw [gp] at h; cases h
    · rw [gp] at h; cases h
    · have := (I3.bs _ _ (I3.mod.kin _ _ hk)).2
      rw [hp] at this
      cases this
  obtain ⟨its2, v2, pl2, _⟩ := I3.list (same_sql gh hq)
  obtain ⟨z, its, n, v1, hl1, e1⟩ := I3.lstM hp
  obtain ⟨c', rfl⟩ := Int.eq_ofNat_of_zero_le hc0
  simp only [Int.toNat_natCast] at hcl k
  have l2 := v2.length
  refine wpAny_bind (wpAny_standAt (wpAny_bind (wpAny_holding (put_slice (c := c') e1 pl2 hne (Heap.IsSliceOf.new ..) .none (.int _ _) (by rw [List.size_toArray]; omega) (by rw [List.size_toArray, List.size_toArray]; omega) ?_))))
  refine wpAny_release ⟨σ, _, ?_, k⟩
  refine I3.lset (its' := its2 ++ its.drop c') (t' := s2.toks) hp e1 ?_ (Vals.append v2 (v1.drop _)) ?_
  · have := splice_eq its its2 0 c'
    simpa using this
  · rw [List.length_append, List.length_drop]
    omega
/-- what a target does with a frozen value -/
def RTg (K : PySem.W.Frag) (mg : Mg) (tg : TG) (w : D → Tau → Option Tau) : Prop := ∀ (v : V) (d : D) (σ : L2.St) (τ : Tau) (G H : Hp) (τ' : Tau) (Q : L2.St → Hp → Prop), At K mg G H σ τ → Rp K mg G v d → w d τ = some τ' → (∀ G' H', Go K mg σ τ G H τ' G' H' → Q σ H') → tg v σ H Q
structure JTg (X : Cx) (t : Expr) (tg : TG) (w : D → Tau → Option Tau) : Prop where
  pg : PG X t tg
  rg : RTg X.K X.mg tg w
def slcAt (o : Op) (c : Int) (d : D) (τ : Tau) : Option Tau := match o with
  | .slot k => match τ[k]? with
    | some (some (.ow (.lst ds))) => match d with
      | .lst es => if 0 ≤ c ∧ c.toNat ≤ ds.length ∧ ds.length + es.length ≤ 16777216 then some (τ.set k (some (.ow (.lst (es ++ ds.drop c.toNat))))) else none
      | _ => none
    | _ => none
  | _ => none
def wIx (fo fi : FE) (d : D) (τ : Tau) : Option Tau := (fo τ).bind fun o => (fi o.2).bind fun k => (deref k.2 k.1).bind fun n => match n with
  | .int i => setAt o.1 i d k.2
  | _ => none
def wSlc (fo fi : FE) (d : D) (τ : Tau) : Option Tau := (fo τ).bind fun o => (fi o.2).bind fun k => (deref k.2 k.1).bind fun n => match n with
  | .int i => slcAt o.1 i d k.2
  | _ => none
def sOne (w : D → Tau → Option Tau) (fe : FE) (τ : Tau) : Option Flow := (fe τ).bind fun a => (fz a.2 a.1).bind fun d => (w d.1 d.2).bind fun τ' => some (.nx τ')
def sTwo (w1 w2 : D → Tau → Option Tau) (fe : FE) (τ : Tau) : Option Flow := (fe τ).bind fun a => (fz a.2 a.1).bind fun d => match d.1 with
  | .tup [d1, d2] => (w1 d1 d.2).bind fun τ' => (w2 d2 τ').bind fun τ'' => some (.nx τ'')
  | _ => none
section
variable {K : PySem.W.Frag} {mg : Mg} {to ti te : TE} {fo fi fe : FE} {b : Bool} {tg tg1 tg2 : TG} {w w1 w2 : D → Tau → Option Tau}
theorem RpL.drop2 {G : Hp} : ∀ {vs : List V} {ds : List D} (n : Nat), RpL K mg G vs ds → RpL K mg G (vs.drop n) (ds.drop n)
  | _, _, 0, r => r
  | _, _, _ + 1, .nil => .nil
  | _, _, n + 1, .cons _ r => RpL.drop2 n r
theorem RpL.app2 {G : Hp} : ∀ {vs ws : List V} {ds es : List D}, RpL K mg G vs ds → RpL K mg G ws es → RpL K mg G (vs ++ ws) (ds ++ es)
  | _, _, _, _, .nil, r => r
  | _, _, _, _, .cons h t, r => .cons h (RpL.app2 t r)
theorem rg_ix (ho : RE K mg to fo) (hi : RE K mg ti fi) : RTg K mg (L2.gSub to ti rSetL) (wIx fo fi) := fun v d σ τ G H τ' Q A rv e k => by
  obtain ⟨⟨oo, τ3⟩, e3, e⟩ := bind_some' e
  obtain ⟨⟨oi, τ4⟩, e4, e⟩ := bind_some' e
  obtain ⟨n, e5, e⟩ := bind_some' e
  dsimp only at e e3 e4 e5
  cases n <;> first | (cases e; done) | skip
  rename_i i
  refine ho σ τ G H oo τ3 _ A e3 fun x G3 H3 g3 o3 => ?_
  refine hi σ τ3 G3 H3 oi τ4 _ g3.at' e4 fun z G4 H4 g4 o4 => ?_
  cases (o4.pk g4.at' e5).int
  cases o3 with
  | val _ => cases e
  | tmp _ _ _ _ _ => cases e
  | @slot _ j hs =>
    unfold setAt at e
    dsimp only at e
    split at e
    · rename_i ds hj
      obtain ⟨kk, e7, e6⟩ := bind_some' e
      cases e6
      obtain ⟨p, o, a1, a2, a3, a4⟩ := g4.at'.ow j _ hj
      rw [hs] at a1
      cases a1
      cases a4 with
      | @lst vs _ r =>
        refine ⟨p, vs, i, kk, rfl, rfl, a3, by rw [r.length]; exact e7, ?_⟩
        have g := g3.trans g4
        exact k G4 _ (g.trans (Go.put g4.at' hj hs (.lst (r.set (rv.mono g.gg) kk))))
    · cases e
theorem rg_slc (ho : RE K mg to fo) (hi : RE K mg ti fi) : RTg K mg (gSlc K to ti) (wSlc fo fi) := fun v d σ τ G H τ' Q A rv e k => by
  obtain ⟨⟨oo, τ3⟩, e3, e⟩ := bind_some' e
  obtain ⟨⟨oi, τ4⟩, e4, e⟩ := bind_some' e
  obtain ⟨n, e5, e⟩ := bind_some' e
  dsimp only at e e3 e4 e5
  cases n <;> first | (cases e; done) | skip
  rename_i i
  refine ho σ τ G H oo τ3 _ A e3 fun x G3 H3 g3 o3 => ?_
  refine hi σ τ3 G3 H3 oi τ4 _ g3.at' e4 fun z G4 H4 g4 o4 => ?_
  cases (o4.pk g4.at' e5).int
  cases o3 with
  | val _ => cases e
  | tmp _ _ _ _ _ => cases e
  | @slot _ j hs =>
    unfold slcAt at e
    dsimp only at e
    split at e
    · rename_i ds hj
      cases d <;> first | (cases e; done) | skip
      rename_i es
      dsimp only at e
      obtain ⟨⟨h0, h1, h2⟩, z⟩ := if_get e
      cases z
      obtain ⟨p, o, a1, a2, a3, a4⟩ := g4.at'.ow j _ hj
      rw [hs] at a1
      cases a1
      have g := g3.trans g4
      cases rv with
      | @lst q ys _ hq ry =>
        cases a4 with
        | @lst vs _ r =>
          refine ⟨p, q, vs, ys, i, G4, rfl, rfl, rfl, h0, by rw [r.length]; exact h1, g4.at'.gh, a2, a3, same_sql g.gg hq, by rw [r.length, ry.length, sizeLine_eq]; exact h2, ?_⟩
          exact k G4 _ (g.trans (Go.put g4.at' hj hs (.lst (RpL.app2 (RpL.mono g.gg ry) (RpL.drop2 _ r)))))
    · cases e
theorem rs_one (hw : RTg K mg tg w) (he : RE K mg te fe) : RS K mg b (tAsg te tg) (sOne w fe) := fun io R0 G0 H0 G H σ τ D fl hb F e k => by
  obtain ⟨⟨oa, τ1⟩, e1, e⟩ := bind_some' e
  obtain ⟨⟨d, τ2⟩, e2, e⟩ := bind_some' e
  obtain ⟨τ5, e6, e⟩ := bind_some' e
  cases e
  refine he σ τ G H oa τ1 _ F.at' e1 fun y G1 H1 g1 o1 => ?_
  obtain ⟨G2, g2, s2, r2⟩ := o1.fz g1 e2
  exact hw y d σ τ2 G2 H1 τ5 _ g2.at' r2 e6 fun G' H' g => k σ G' H' (F.go (g2.trans g))
theorem rs_two (h1 : RTg K mg tg1 w1) (h2 : RTg K mg tg2 w2) (he : RE K mg te fe) : RS K mg b (tAsg te (gTup K 2 (gCons tg1 (gCons tg2 gNil)))) (sTwo w1 w2 fe) := fun io R0 G0 H0 G H σ τ D fl hb F e k => by
  obtain ⟨⟨oa, τ1⟩, e1, e⟩ := bind_some' e
  obtain ⟨⟨d, τ2⟩, e2, e⟩ := bind_some' e
  dsimp only at e
  split at e
  · rename_i d1 d2
    obtain ⟨τ4, e4, e⟩ := bind_some' e
    obtain ⟨τ6, e6, e⟩ := bind_some' e
    cases e
    refine he σ τ G H oa τ1 _ F.at' e1 fun y G1 H1 g1 o1 => ?_
    obtain ⟨G2, g2, s2, r2⟩ := o1.fz g1 e2
    cases r2 with
    | tup hq r =>
      cases r with
      | @cons v1 _ _ _ q1 r =>
        cases r with
        | @cons v2 _ _ _ q2 r =>
          cases r
          refine ⟨_, _, rfl, same_sqt g2.at'.gh hq, rfl, _, _, rfl, ?_⟩
          refine h1 v1 d1 σ τ2 G2 H1 τ4 _ g2.at' q1 e4 fun G3 H3 g3 => ?_
          refine ⟨_, _, rfl, ?_⟩
          refine h2 v2 d2 σ τ4 G3 H3 τ6 _ g3.at' (q2.mono g3.gg) e6 fun G4 H4 g4 => ?_
          exact ⟨rfl, k σ G4 H4 (F.go ((g2.trans g3).trans g4))⟩
  · cases e
end
theorem jg_ix {X : Cx} {o i : Expr} {pos : Pos} {to ti : TE} {fo fi : FE} (ho : JE X o to fo) (hi : JE X i ti fi)
    (ha : ∀ v, assign (.Subscript o i pos) X.env v = (do
      let ov ← holding [v] (eval o X.env)
      let iv ← holding [v, ov] (eval i X.env)
      standAt pos
      holding [v, ov, iv] (setItem ov iv v)
      release [v, ov, iv] []) := by intro _; rfl) : JTg X (.Subscript o i pos) (L2.gSub to ti rSetL) (wIx fo fi) := ⟨pg_sub ho.pe hi.pe set_list ha, rg_ix ho.re hi.re⟩
theorem jg_slc {X : Cx} {K : PySem.W.Frag} {o i : Expr} {p2 pos : Pos} {to ti : TE} {fo fi : FE} (ho : JE X o to fo) (hi : JE X i ti fi)
    (hK : X.K = K := by rfl) : JTg X (.Subscript o (.Slice none (some i) none p2) pos) (gSlc K to ti) (wSlc fo fi) := by
  subst hK
  exact ⟨pg_slc ho.pe hi.pe, rg_slc ho.re hi.re⟩
theorem js_one {X : Cx} {b : Bool} {t e : Expr} {pos : Pos} {tg : TG} {te : TE} {w : D → Tau → Option Tau} {fe : FE} (hg : JTg X t tg w) (he : JE X e te fe)
    (hs : swapsWithSole [t] e pos.line X.env = pure false := by rfl) (hw : swappedStores [t] e X.env = pure none := by rfl)
    (h1 : (assignEach [t] X.env).map (·.2) = [assign t X.env] := by rfl) : JS X b (.Assign [t] e pos) (tAsg te tg) (sOne w fe) :=
  ⟨ps_asg he.pe hg.pg hs hw h1, rs_one hg.rg he.re⟩
theorem js_two {X : Cx} {b : Bool} {K : PySem.W.Frag} {t1 t2 e : Expr} {tp pos : Pos} {kk : Nat} {tg1 tg2 : TG} {te : TE} {w1 w2 : D → Tau → Option Tau} {fe : FE} (hc : X.calm = true) (g1 : JTg X t1 tg1 w1) (g2 : JTg X t2 tg2 w2) (he : JE X e te fe)
    (hs : swapsWithSole [.Tuple [t1, t2] kk tp] e pos.line X.env = pure false := by rfl) (hw : swappedStores [.Tuple [t1, t2] kk tp] e X.env = pure none := by rfl)
    (hq1 : (assignEach [t1, t2] X.env).map (·.2) = assign t1 X.env :: (assignEach [t2] X.env).map (·.2) := by rfl) (hq2 : (assignEach [t2] X.env).map (·.2) = assign t2 X.env :: (assignEach [] X.env).map (·.2) := by rfl)
    (hn : (assignEach [t1, t2] X.env).length = 2 := by rfl) (hst : (assignEach [t1, t2] X.env).findIdx? (·.1) = none := by rfl)
    (h1 : (assignEach [.Tuple [t1, t2] kk tp] X.env).map (·.2) = [assign (.Tuple [t1, t2] kk tp) X.env] := by rfl) (hK : X.K = K := by rfl) :
    JS X b (.Assign [.Tuple [t1, t2] kk tp] e pos) (tAsg te (gTup K 2 (gCons tg1 (gCons tg2 gNil)))) (sTwo w1 w2 fe) := by
  subst hK
  exact ⟨ps_asg he.pe (pg_tup hc (pgs_cons g1.pg (pgs_cons g2.pg pgs_nil hq2) hq1) hn hst) hs hw h1, rs_two g1.rg g2.rg he.re⟩
end J
namespace J
open PySem PySem.Spec PyProof.Rows L2

/-! ### xs == ys of two lists of an own class, item by item equal by its own == -/
def rootL (τ : Tau) : Op → Option (List D)
  | .tmp (.lst ds) => some ds
  | .slot i => match τ[i]? with
    | some (some (.ow (.lst ds))) => some ds
    | _ => none
  | _ => none
def eqTrue (m : Mir) (x y : D) : Bool := match m [x, y] with
  | some (false, .bl true, _) => true
  | _ => false
def eqAll (cn : String) (m : Mir) : List D → List D → Bool
  | [], [] => true
  | x :: xs, y :: ys => insC cn x && insC cn y && eqTrue m x y && eqAll cn m xs ys
  | _, _ => false
def fEqO (cn : String) (m : Mir) (fa fb : FE) (τ : Tau) : Option (Op × Tau) := (fa τ).bind fun a => (fb a.2).bind fun b => (rootL b.2 a.1).bind fun xs => (rootL b.2 b.1).bind fun ys => if eqAll cn m xs ys = true then some (.val (.bl true), b.2) else none
def REq (K : PySem.W.Frag) (mg : Mg) (m : Mir) (a b : Addr) (H : Hp) : Prop := ∃ G d e z, Same G H ∧ Rp K mg G (.ref a) d ∧ Rp K mg G (.ref b) e ∧ m [d, e] = some (false, .bl true, z)
section
variable {K : PySem.W.Frag} {mg : Mg} {ta tb : TE} {fa fb : FE} {m : Mir} {cn : String} {C : Addr}
theorem ro_mon (a b : Addr) (H H' : Hp) (x : Ext H H') (h : REq K mg m a b H) : REq K mg m a b H' := by
  obtain ⟨G, d, e, z, s, r1, r2, hm⟩ := h
  exact ⟨G, d, e, z, fun p o hp => x p o (s p o hp), r1, r2, hm⟩
theorem rootL_ok {H0 G H : Hp} {σ : L2.St} {τ : Tau} {x : V} {o : Op} {ds : List D} (A : At K mg G H σ τ) (h : Or K mg H0 G H σ τ x o) (e : rootL τ o = some ds) : ∃ p vs, x = .ref p ∧ H p = some (.lst vs) ∧ RpL K mg G vs ds := by
  cases h with
  | val _ => cases e
  | tmp a1 a2 a3 a4 a5 =>
    cases a4 with
    | @lst ws _ r2 => cases e; exact ⟨_, _, rfl, a3, r2⟩
    | dic _ => cases e
    | ins _ _ => cases e
  | @slot _ i hs =>
    unfold rootL at e
    dsimp only at e
    split at e
    · rename_i ds' hi
      cases e
      obtain ⟨p, ob, a1, a2, a3, a4⟩ := A.ow i _ hi
      rw [hs] at a1
      cases a1
      cases a4 with
      | lst r => exact ⟨p, _, rfl, a3, r⟩
    · cases e
theorem prs_all (gC : mg (os cn) = some (.ref C)) {G H : Hp} (s : Same G H) : ∀ {vs ws : List V} {ds es : List D}, RpL K mg G vs ds → RpL K mg G ws es → eqAll cn m ds es = true → Prs (DIns C (REq K mg m)) vs ws H
  | _, _, _, _, .nil, .nil, _ => Prs.nil
  | _, _, _, _, .nil, .cons _ _, e => by simp [eqAll] at e
  | _, _, _, _, .cons _ _, .nil, e => by simp [eqAll] at e
  | _, _, _, _, @RpL.cons _ _ _ x d vs ds r1 t1, @RpL.cons _ _ _ y d' ws es r2 t2, e => by
    unfold eqAll at e
    rw [Bool.and_eq_true, Bool.and_eq_true, Bool.and_eq_true] at e
    obtain ⟨⟨⟨e1, e2⟩, e3⟩, e4⟩ := e
    refine Prs.cons ?_ (prs_all gC s t1 t2 e4)
    obtain ⟨a, b, dx, dy, fs, gs, rfl, rfl, ha, hb⟩ := both_ins gC s r1 r2 ⟨e1, e2⟩
    refine ⟨a, b, dx, dy, fs, gs, rfl, rfl, ha, hb, ?_⟩
    unfold eqTrue at e3
    split at e3
    · rename_i z hm
      exact ⟨G, _, _, z, s, r1, r2, hm⟩
    · cases e3
theorem re_eqO (gC : mg (os cn) = some (.ref C)) (ha : RE K mg ta fa) (hb : RE K mg tb fb) : RE K mg (tOp (rEqG (DList (DIns C (REq K mg m)))) ta tb) (fEqO cn m fa fb) := fun σ τ G H op τ' Q A e q => by
  obtain ⟨⟨oa, τ1⟩, e1, e⟩ := bind_some' e
  obtain ⟨⟨ob, τ2⟩, e2, e⟩ := bind_some' e
  obtain ⟨xs, e3, e⟩ := bind_some' e
  obtain ⟨ys, e4, e⟩ := bind_some' e
  obtain ⟨he, z⟩ := if_get e
  cases z
  dsimp only at e2 e3 e4
  refine ha σ τ G H oa τ1 _ A e1 fun x G1 H1 g1 o1 => ?_
  refine hb σ τ1 G1 H1 ob τ2 _ g1.at' e2 fun y G2 H2 g2 o2 => ?_
  obtain ⟨p, vs, rfl, hp, rp⟩ := rootL_ok g2.at' (o1.step g2) e3
  obtain ⟨p', ws, rfl, hp', rp'⟩ := rootL_ok g2.at' o2 e4
  refine ⟨⟨p, p', vs, ws, rfl, rfl, hp, hp', prs_all gC g2.at'.gh rp rp' he⟩, fun H' ext => ?_⟩
  exact q _ G2 H' ((g1.trans g2).trans (Nw.go ⟨Same.refl _, ext, fun b o h => ext _ _ (g2.at'.gh b o h), fun _ _ _ g => g⟩ g2.at')) (.val (.bl true))
end
section
variable {X : Cx} {k j : Nat} {ps : List PySem.Str} {m : Mir} {C f : Addr} {fd : FuncData} {cn : String} {pos : Pos} {a b : Expr} {ta tb : TE} {fa fb : FE}
theorem op_eqO {K : PySem.W.Frag} {mg : Mg} (h : KnM X.prog X.w K mg X.base C f fd cn "__eq__" ps false k m) (hr : Room j X.A) (hj : k + 1 ≤ j) (hK : X.K = K) (hM : X.mg = mg) : OpR X (compareOp .Eq) (rEqG (DList (DIns C (REq K mg m)))) := by
  subst hK hM
  have F : FnOk X.prog X.w X.K X.mg X.base CX0 k f fd ps (spEq (REq X.K X.mg m)) := h.ok.imp fun vs H Q E q => by
    obtain ⟨a, b, rfl, ⟨G, d, e, z, s, r1, r2, hm⟩, q⟩ := q
    refine ⟨G, [d, e], false, .bl true, z, s, .pure (.cons r1 (.cons r2 .nil)), hm, fun v G' H' B => ?_⟩
    have hr := B.rs
    cases hr with
    | old r => cases r; exact q H' (nw_of_bk B).hh
  exact op_eqG (rcG_list (mon_ins ro_mon) (eqG_ins (E := E0) F h.me.at_ h.me.fn h.bi pass0)) (hr.mono hj)
theorem km_eqO {K : PySem.W.Frag} {mg : Mg} (h : KnM X.prog X.w K mg X.base C f fd cn "__eq__" ps false k m) (hr : Room j X.A) (ha : JE X a ta fa) (hb : JE X b tb fb) (hj : k + 1 ≤ j := by decide) (hK : X.K = K := by rfl) (hM : X.mg = mg := by rfl) :
    JE X (.Compare a [.Eq] [b] pos) (tOp (rEqG (DList (DIns C (REq K mg m)))) ta tb) (fEqO cn m fa fb) :=
  ⟨pe_cmpR (op_eqO h hr hj hK hM) ha.pe hb.pe (nomark _), by subst hK hM; exact re_eqO h.g ha.re hb.re⟩
theorem km_eqOT {K : PySem.W.Frag} {mg : Mg} (h : KnM X.prog X.w K mg X.base C f fd cn "__eq__" ps false k m) (hr : Room j X.A) (ha : JE X a ta fa) (hb : JE X b tb fb) (hj : k + 1 ≤ j := by decide) (hK : X.K = K := by rfl) (hM : X.mg = mg := by rfl) :
    JT X (.Compare a [.Eq] [b] pos) (tTest (tOp (rEqG (DList (DIns C (REq K mg m)))) ta tb)) (fTB (fEqO cn m fa fb)) :=
  ⟨pt_cmpR (op_eqO h hr hj hK hM) ha.pe hb.pe (nomark _), by subst hK hM; exact re_testE (re_eqO h.g ha.re hb.re)⟩
end
end J
namespace J
open PySem PySem.Spec PyProof.Rows L2

/-! ### for t in name: if c: return e — the name stays owned -/
def sForW (i : Nat) (g : FG) (f : FS) (τ : Tau) : Option Flow := match τ[i]? with
  | some (some (.ow (.lst ds))) => (forD g f ds (τ.set i none)).bind fun fl => match fl with
    | .nx τ' => some (.nx (τ'.set i (some (.ow (.lst ds)))))
    | .rt o τ' => some (.rt o τ')
    | _ => none
  | _ => none
section
variable {K : PySem.W.Frag} {mg : Mg} {b : Bool} {i : Nat} {tg : TG} {g : FG} {is : List Nat} {tc : TT} {ft : FT} {te : TE} {fe : FE}
theorem rs_forW (h0 : b = false ∨ 0 ∉ is) (hn : i ∉ is) (hg : RG K mg is tg g) (ht : RT K mg tc ft) (he : RE K mg te fe) : RS K mg b (tFor (iSeq K (tVar i)) tg (tIfS tc (tRet te) tNext)) (sForW i g (sIf ft (sRet fe) sNext)) := fun io R0 G0 H0 G H σ τ D fl hb F e k => by
  unfold sForW at e
  split at e
  · rename_i ds hi
    obtain ⟨fl1, e1, e⟩ := bind_some' e
    obtain ⟨p, o, a1, a2, a3, a4⟩ := F.at'.ow i _ hi
    cases a4 with
    | @lst vs _ r =>
      have A1 := F.at'.drop i
      have key : ∀ {j : Nat} {c : Cell}, (τ.set i none)[j]? = some (some c) → j ≠ i ∧ τ[j]? = some (some c) := fun {j c} h => by
        rcases get_set h with ⟨_, z⟩ | ⟨n, z⟩
        · cases z
        · exact ⟨n, z⟩
      have sub : ∀ b, Ro σ (τ.set i none) b → Ro σ τ b := fun b ⟨j, d, h, z⟩ => ⟨j, d, (key h).2, z⟩
      have np : ¬ Ro σ (τ.set i none) p := fun ⟨j, d, h, z⟩ => (key h).1 (F.at'.ap j i p d _ (key h).2 hi z a1)
      have F1 : Fr K mg io R0 G0 H0 G H σ (τ.set i none) := ⟨A1, F.gg, F.kp, F.hh, F.gf, fun b h => F.rr b (sub b h), F.pr, by rw [List.length_set]; exact F.ll⟩
      have rp := F.rr p ⟨i, _, hi, a1⟩
      refine ⟨.ref p, a1, p, rfl, .inl ⟨⟨vs, SqL.of a3⟩, ?_⟩⟩
      refine ⟨fun j m σ H => ∃ G τ', Fr K mg io R0 G0 H0 G H σ τ' ∧ σ[i]? = some (some (V.ref p)) ∧ H p = some (.lst vs) ∧ G p = none ∧ ¬ Ro σ τ' p ∧ RpL K mg G vs ds ∧ m = ds.length - j ∧ j ≤ ds.length ∧ forD g (sIf ft (sRet fe) sNext) (ds.drop j) τ' = some fl1,
        ⟨ds.length, G, τ.set i none, F1, a1, a3, a2, np, r, by simp, Nat.zero_le _, e1⟩, ?_⟩
      rintro j m σ2 H2 ⟨G2, τ2, F2, b1, b2, b3, b4, b5, rfl, hle, e2⟩
      by_cases hlt : j < ds.length
      · have hd : ds[j]? = some ds[j] := List.getElem?_eq_getElem hlt
        obtain ⟨v, hv, rv⟩ := b5.get hd
        rw [List.drop_eq_getElem_cons hlt] at e2
        obtain ⟨τ3, e3, e2⟩ := bind_some' e2
        obtain ⟨fl2, e4, e2⟩ := bind_some' e2
        obtain ⟨⟨c, τ4⟩, e5, e4⟩ := bind_some' e4
        refine .inr ⟨⟨vs, v, SqL.of b2, hv⟩, fun σ H => ∃ G τ', Fr K mg io R0 G0 H0 G H σ τ' ∧ σ[i]? = some (some (V.ref p)) ∧ H p = some (.lst vs) ∧ G p = none ∧ ¬ Ro σ τ' p ∧ RpL K mg G vs ds ∧ forD g (sIf ft (sRet fe) sNext) (ds.drop (j + 1)) τ' = some fl1,
          fun σ' H' ⟨G', τ', x1, x2, x3, x4, x5, x6, x7⟩ => ⟨_, by omega, G', τ', x1, x2, x3, x4, x5, x6, rfl, hlt, x7⟩, fun x H' ⟨y1, y2⟩ => ?_⟩
        subst y1
        have := y2 vs (SqL.of b2)
        rw [hv] at this
        cases this
        refine hg G2 _ σ2 τ2 _ _ τ3 _ F2.at' F2.ll rv e3 fun σ3 A3 l3 ro3 k3 t3 kt3 ls3 => ?_
        have F3 : Fr K mg io R0 G0 H0 G2 _ σ3 τ3 := F2.slots A3 (fun b h => F2.rr b (ro3 b h)) (fun v hv => by
          rcases h0 with z | z
          · rw [hb z] at hv; cases hv
          · rw [k3 0 z]; exact F2.pr v hv) l3
        have np3 : ¬ Ro σ3 τ3 p := fun z => b4 (ro3 p z)
        refine ht σ3 τ3 G2 _ c τ4 _ A3 e5 fun G4 H4 g4 => ?_
        dsimp only at e4
        cases c with
        | false =>
          rw [if_neg Bool.false_ne_true] at e4 ⊢
          cases e4
          exact ⟨G4, τ4, F3.go g4, by rw [k3 i hn]; exact b1, g4.hh _ _ np3 b2, g4.gf _ _ np3 b2 b3, fun z => np3 (g4.rr _ z), b5.mono g4.gg, e2⟩
        | true =>
          rw [if_pos rfl] at e4 ⊢
          obtain ⟨⟨oa, τ5⟩, e6, e4⟩ := bind_some' e4
          cases e4
          cases e2
          cases e
          exact he σ3 τ4 G4 H4 oa τ5 _ g4.at' e6 fun v G5 H5 g5 o5 => k v σ3 G5 H5 ((F3.go g4).go g5) (o5.weak (F3.go g4).kp)
      · have z : j = ds.length := by omega
        subst z
        rw [List.drop_length] at e2
        cases e2
        cases e
        have key2 : ∀ {j : Nat} {c : Cell}, (τ2.set i (some (.ow (.lst ds))))[j]? = some (some c) → (j = i ∧ c = .ow (.lst ds)) ∨ τ2[j]? = some (some c) := fun {j c} h => by
          rcases get_set h with ⟨h1, z⟩ | ⟨_, z⟩
          · cases z; exact .inl ⟨h1, rfl⟩
          · exact .inr z
        have B := F2.at'
        refine .inl ⟨⟨vs, SqL.of b2, by rw [b5.length]; exact Nat.le_refl _⟩, k σ2 G2 H2 ⟨⟨B.gh, fun l d h => ?_, fun l d h => ?_, fun l l' q d d' h1 h2 s1 s2 => ?_, by rw [List.length_set]; exact B.ll⟩, F2.gg, F2.kp, F2.hh, F2.gf, fun q ⟨l, d, h, s1⟩ => ?_, F2.pr, by rw [List.length_set]; exact F2.ll⟩⟩
        · rcases key2 h with ⟨_, h⟩ | h
          · cases h
          · exact B.sh l d h
        · rcases key2 h with ⟨e9, hz⟩ | h
          · subst e9
            cases hz
            exact ⟨p, _, b1, b3, b2, .lst b5⟩
          · exact B.ow l d h
        · rcases key2 h1 with ⟨rfl, z1⟩ | z1
          · rcases key2 h2 with ⟨rfl, _⟩ | z2
            · rfl
            · rw [b1] at s1
              cases s1
              exact absurd ⟨l', d', z2, s2⟩ b4
          · rcases key2 h2 with ⟨rfl, _⟩ | z2
            · rw [b1] at s2
              cases s2
              exact absurd ⟨l, d, z1, s1⟩ b4
            · exact B.ap l l' q d d' z1 z2 s1 s2
        · rcases key2 h with ⟨rfl, z1⟩ | z1
          · rw [b1] at s1
            cases s1
            exact rp
          · exact F2.rr q ⟨l, d, z1, s1⟩
  · cases e
end
theorem js_forW {X : Cx} {b : Bool} {K : PySem.W.Frag} {tgt c e : Expr} {x : PySem.Str} {p rp ip pos : Pos} {i : Nat} {tg : TG} {gg : FG} {is : List Nat} {tc : TT} {fc : FT} {te : TE} {fe : FE} (hp : PassesOwn (model X.prog X.w) X.A X.env X.xe) (hc : X.calm = true) (h0 : b = false ∨ 0 ∉ is) (hn : i ∉ is) (hi : JE X (.Name x p) (tVar i) (fVar i)) (hg : JG X tgt is tg gg) (ht : JT X c tc fc) (he : JE X e te fe)
    (hs : ∀ y, foldedSetIterable (.Name x p) X.env y = pure y := by intro _; rfl) (hK : X.K = K := by rfl) : JS X b (.For tgt (.Name x p) [.If c [.Return (some e) rp] [] ip] [] pos) (tFor (iSeq K (tVar i)) tg (tIfS tc (tRet te) tNext)) (sForW i gg (sIf fc (sRet fe) sNext)) := by
  subst hK
  exact ⟨ps_for hp hc (pi_seq hi.pe) hg.pg (jss_one (js_if ht (jss_one (js_ret (b := b) he)) jss_nil)).ps hs, rs_forW h0 hn hg.rg ht.rt he.re⟩
end J
namespace J
open PySem PySem.Spec PyProof.Rows L2

/-! ### {k: v, ..} with keys ints or texts; d.get(k, x) -/
def pairsF : List (FE × FE) → Tau → Option (List (Key × D) × Tau)
  | [], τ => some ([], τ)
  | (fk, fv) :: r, τ => (fk τ).bind fun a => (deref a.2 a.1).bind fun dk => (keyD dk).bind fun k => (fv a.2).bind fun b => (fz b.2 b.1).bind fun d => (pairsF r d.2).bind fun q => some ((k, d.1) :: q.1, q.2)
def mergeD (ds more : List (Key × D)) : List (Key × D) := more.foldl (fun acc kv => putDK acc kv.1 kv.2) ds
def fDisp (fs : List (FE × FE)) (τ : Tau) : Option (Op × Tau) := (pairsF fs τ).bind fun r => if r.1.length ≤ 15 then some (.tmp (.dic (mergeD [] r.1)), r.2) else none
inductive RPs (K : PySem.W.Frag) (mg : Mg) : List (TE × TE) → List (FE × FE) → Prop
  | nil : RPs K mg [] []
  | cons {tk tv : TE} {fk fv : FE} {ts : List (TE × TE)} {fs : List (FE × FE)} : RE K mg tk fk → RE K mg tv fv → RPs K mg ts fs → RPs K mg ((tk, tv) :: ts) ((fk, fv) :: fs)
section
variable {K : PySem.W.Frag} {mg : Mg}
theorem mergeRp {G : Hp} : ∀ {vs : List (Key × V)} {ds : List (Key × D)} {vs0 : List (Key × V)} {ds0 : List (Key × D)}, RpK K mg G vs ds → RpK K mg G vs0 ds0 → RpK K mg G (mergeK vs0 vs) (mergeD ds0 ds)
  | _, _, _, _, .nil, r => r
  | _, _, vs0, ds0, @RpK.cons _ _ _ k v d vs ds h t, r => mergeRp (vs0 := putK vs0 k v) (ds0 := putDK ds0 k d) t (r.put h)
theorem re_pairs : ∀ {ts : List (TE × TE)} {fs : List (FE × FE)}, RPs K mg ts fs → ∀ (σ : L2.St) (τ : Tau) (G H : Hp) (kvs : List (Key × D)) (τ' : Tau) (Q : List (V × V) → Hp → Prop), At K mg G H σ τ → pairsF fs τ = some (kvs, τ') →
    (∀ G' H' vs, Go K mg σ τ G H τ' G' H' → RpK K mg G' vs kvs → Q (vs.map fun kv => (kV kv.1, kv.2)) H') → tPairs ts σ H Q
  | _, _, .nil, σ, τ, G, H, kvs, τ', Q, A, e, q => by
    cases e
    exact q G H [] (Nw.go (Nw.refl A.gh) A) .nil
  | _, _, .cons hk hv r, σ, τ, G, H, kvs, τ', Q, A, e, q => by
    obtain ⟨⟨ok, τ1⟩, e1, e⟩ := bind_some' e
    obtain ⟨dk, e2, e⟩ := bind_some' e
    obtain ⟨k, e3, e⟩ := bind_some' e
    obtain ⟨⟨ov, τ2⟩, e4, e⟩ := bind_some' e
    obtain ⟨⟨d, τ3⟩, e5, e⟩ := bind_some' e
    obtain ⟨⟨more, τ4⟩, e6, e⟩ := bind_some' e
    cases e
    dsimp only at e2 e4 e5 e6
    refine hk σ τ G H ok τ1 _ A e1 fun x G1 H1 g1 o1 => ?_
    have ex := key_pk (o1.pk g1.at' e2) e3
    refine hv σ τ1 G1 H1 ov τ2 _ g1.at' e4 fun y G2 H2 g2 o2 => ?_
    obtain ⟨G3, g3, s3, r3⟩ := o2.fz g2 e5
    refine re_pairs r σ τ3 G3 H2 more τ4 _ g3.at' e6 fun G4 H4 vs g4 r4 => ?_
    rw [ex]
    exact q G4 H4 ((k, y) :: vs) ((g1.trans g3).trans g4) (.cons (r3.mono g4.gg) r4)
theorem re_disp {ts : List (TE × TE)} {fs : List (FE × FE)} (h : RPs K mg ts fs) : RE K mg (tDisp ts) (fDisp fs) := fun σ τ G H op τ' Q A e q => by
  obtain ⟨⟨kvs, τ1⟩, e1, e⟩ := bind_some' e
  dsimp only at e
  obtain ⟨hl, z⟩ := if_get e
  injection z with z1 z2
  subst z1
  subst z2
  intro p hp
  have gp : G p = none := A.gh.free hp
  have np : ¬ Ro σ τ p := fun z => by
    obtain ⟨_, o, e⟩ := A.root z
    rw [hp] at e; cases e
  have g0 : Go K mg σ τ G H τ G (upd H p (.dK [])) := Go.new A hp
  refine re_pairs h σ τ G _ kvs τ1 _ g0.at' e1 fun G1 H1 vs g1 r1 => ?_
  have hp1 : H1 p = some (.dK []) := g1.hh _ _ np upd_same
  have gp1 : G1 p = none := g1.gf _ _ np upd_same gp
  have np1 : ¬ Ro σ τ1 p := fun z => np (g1.rr _ z)
  refine ⟨hp1, vs, rfl, by rw [r1.length]; exact hl, ?_⟩
  have B := g1.at'
  have sub : ∀ b, Ro σ τ1 b → b ≠ p := fun b hb z => np1 (z ▸ hb)
  have gg := g0.trans g1
  refine q _ G1 _ ⟨⟨fun b x hb => ?_, B.sh, fun j d hj => ?_, B.ap, B.ll⟩, gg.gg, fun b hb => ?_, fun b x nb hb => ?_, fun b x nb hb he => gg.gf b x nb hb he, gg.ri, gg.tl⟩ (.tmp hp gp1 upd_same (.dic (mergeRp r1 .nil)) np1)
  · rw [upd_ne (fun w => by rw [w, gp1] at hb; cases hb)]; exact B.gh _ _ hb
  · obtain ⟨p', o, c1, c2, c3, c4⟩ := B.ow j d hj
    exact ⟨p', o, c1, c2, by rw [upd_ne (sub p' ⟨j, d, hj, c1⟩)]; exact c3, c4⟩
  · by_cases w : b = p
    · rw [w]; exact hp
    · rw [upd_ne w] at hb; exact gg.kp b hb
  · rw [upd_ne (fun w => by rw [w, hp] at hb; cases hb)]; exact gg.hh b x nb hb
end
structure JPs (X : Cx) (pos : Pos) (keys : List (Option Expr)) (values : List Expr) (ts : List (TE × TE)) (fs : List (FE × FE)) : Prop where
  pp : PPs X pos keys values ts
  rp : RPs X.K X.mg ts fs
theorem jps_nil {X : Cx} {pos : Pos} : JPs X pos [] [] [] [] := ⟨pps_nil, .nil⟩
theorem jps_cons {X : Cx} {pos : Pos} {k v : Expr} {ks : List (Option Expr)} {vs : List Expr} {tk tv : TE} {fk fv : FE} {ts : List (TE × TE)} {fs : List (FE × FE)} (hk : JE X k tk fk) (hv : JE X v tv fv) (h : JPs X pos ks vs ts fs) : JPs X pos (some k :: ks) (v :: vs) ((tk, tv) :: ts) ((fk, fv) :: fs) :=
  ⟨pps_cons hk.pe hv.pe h.pp, .cons hk.re hv.re h.rp⟩
theorem je_disp {X : Cx} {pos : Pos} {keys : List (Option Expr)} {values : List Expr} {ts : List (TE × TE)} {fs : List (FE × FE)} (h : JPs X pos keys values ts fs) (hall : keys.all (·.isSome) = true := by rfl) (hl : keys.length = values.length := by rfl) (h0 : keys ≠ [] := by simp) (h15 : keys.length ≤ 15 := by decide) : JE X (.Dict keys values pos) (tDisp ts) (fDisp fs) :=
  ⟨pe_disp h.pp hall hl h0 h15, re_disp h.rp⟩
/-! #### d.get(k, x) -/
def fDGet2 (fd fk fx : FE) (τ : Tau) : Option (Op × Tau) := (fd τ).bind fun a => (deref a.2 a.1).bind fun d => match d with
  | .dic _ => (fk a.2).bind fun b => (fx b.2).bind fun c => (fz c.2 c.1).bind fun x => (deref x.2 a.1).bind fun d => (deref x.2 b.1).bind fun dk => (keyD dk).bind fun k => match d with
    | .dic ds => some (.val ((getK ds k).getD x.1), x.2)
    | _ => none
  | _ => none
section
variable {K : PySem.W.Frag} {mg : Mg} {td ty tx : TE} {fd fk fx : FE}
theorem re_dget2 (hd : RE K mg td fd) (hk : RE K mg ty fk) (hx : RE K mg tx fx) : RE K mg (tDGet2 td ty tx) (fDGet2 fd fk fx) := fun σ τ G H op τ' Q A e q => by
  obtain ⟨⟨oa, τ1⟩, e1, e⟩ := bind_some' e
  obtain ⟨d0, e2, e⟩ := bind_some' e
  dsimp only at e e2
  cases d0 <;> first | (cases e; done) | skip
  rename_i ds0
  obtain ⟨⟨ob, τ2⟩, e3, e⟩ := bind_some' e
  obtain ⟨⟨oc, τ3⟩, e4, e⟩ := bind_some' e
  obtain ⟨⟨x, τ4⟩, e5, e⟩ := bind_some' e
  obtain ⟨d1, e6, e⟩ := bind_some' e
  obtain ⟨dk, e7, e⟩ := bind_some' e
  dsimp only at e e4 e5 e6 e7
  obtain ⟨k, e8, e⟩ := bind_some' e
  obtain ⟨ds1, rfl⟩ : ∃ ds1, d1 = .dic ds1 := by cases d1 <;> first | (cases e; done) | exact ⟨_, rfl⟩
  cases e
  refine hd σ τ G H oa τ1 _ A e1 fun v G1 H1 g1 o1 => ?_
  obtain ⟨a, vs, rfl, ha, r0⟩ := (o1.pk g1.at' e2).dic g1.at'.gh
  refine ⟨a, rfl, .inl ⟨vs, .inl ha⟩, ?_⟩
  refine hk σ τ1 G1 H1 ob τ2 _ g1.at' e3 fun y G2 H2 g2 o2 => ?_
  refine hx σ τ2 G2 H2 oc τ3 _ g2.at' e4 fun z G3 H3 g3 o3 => ?_
  obtain ⟨G4, g4, s4, r4⟩ := o3.fz g3 e5
  have g24 := g2.trans g4
  obtain ⟨a', vs', ea, ha', r'⟩ := ((o1.step g24).pk g4.at' e6).dic g4.at'.gh
  cases ea
  have ey := key_pk ((o2.step g4).pk g4.at' e7) e8
  subst ey
  refine ⟨valV vs' k, DGet.k ha', ?_⟩
  have gg := g1.trans g24
  rcases r'.val k with ⟨h1, h2⟩ | ⟨v, d', h1, h2, h3⟩
  · have e9 : (getK ds1 k).getD x = x := by unfold getK; rw [h2]; rfl
    rw [h1]
    rw [e9] at q
    exact q z G4 H3 gg (.val r4)
  · have e9 : (getK ds1 k).getD x = d' := by unfold getK; rw [h2]; rfl
    rw [h1]
    rw [e9] at q
    exact q v G4 H3 gg (.val h3)
end
theorem je_dget2 {X : Cx} {j : Nat} {o e f : Expr} {apos cpos : Pos} {td ty tx : TE} {fd fk fx : FE} (hr : Room j X.A) (ho : JE X o td fd) (he : JE X e ty fk) (hf : JE X f tx fx)
    (hbase : attributeBase o (os "get") X.env (eval o X.env) = eval o X.env := by rfl)
    (hfew : ((backTo cpos (starEach [e, f] X.env)).all (fun x => !x.1) && (backToKw cpos (keywordEach [] X.env)).all (fun x => x.1.isSome)
      && decide (([e, f] : List Expr).length + ([] : List Keyword).length + (if ([] : List Keyword).isEmpty then 0 else 1) < 30)) = true := by rfl)
    (hline : (apos.endLine == cpos.line) = true := by rfl) (htr : backTo cpos (starEach [e, f] X.env) = [(false, eval e X.env), (false, eval f X.env)] := by rfl) :
    JE X (.Call (.Attribute o (os "get") apos) [e, f] [] cpos) (tDGet2 td ty tx) (fDGet2 fd fk fx) :=
  ⟨pe_dget2 (by have := hr.units; omega) ho.pe he.pe hf.pe ⟨hbase, hfew, hline, htr⟩, re_dget2 ho.re he.re hf.re⟩
end J
namespace J
open PySem PySem.Spec PyProof.Rows L2

/-! ### sorted(t) of a tuple of ints -/
section
variable {prog : Program} {w : World} {A : Around} {E : Value → Shared → Prop} {s : Shared}
theorem collect_tup {l : Addr} {vs : List Value} {Q : List Value → Shared → Prop} (hl : IsTup s.heap l vs.toArray)
    (h : Q vs { s with heap := (s.heap.push (seqObj "list" #[] 0)).update s.heap.objs.size (Obj.mapSeq (· ++ vs.toArray)) }) (hsz : vs.length ≤ sizeLine) :
    wpAny (model prog w) A (collect (.ref l)) Q E s := by
  obtain ⟨o, ho, hc, n, hd⟩ := id hl
  unfold collect
  refine wpAny_bind (wpAny_runValue (codeAny_builtin entry_proto_collect' ?_))
  show wpAny _ _ (do again (.builtin "list.__iadd__" ⟨[← newList [], .ref l], []⟩)) _ _ s
  refine wpAny_bind (wpAny_newList (wpAny_pure ⟨Code.quiet_builtin _ (by decide +kernel), codeAny_builtin entry_list_iadd' ?_⟩))
  show wpAny _ _ (Builtin.List.listExtendWith (.ref s.heap.objs.size) (.ref l) (.ref s.heap.objs.size)) _ _ { s with heap := s.heap.push (seqObj "list" #[] 0) }
  unfold Builtin.List.listExtendWith
  have ho' : (s.heap.push (seqObj "list" #[] 0)).get? l = some o := Heap.get?_push_of_some _ ho
  refine wpAny_bind (wpAny_typeOf (T := "tuple") ⟨o, ho', hc⟩ ?_)
  have ht : (Value.type "tuple" == Value.type "tuple") = true := by rfl
  rw [if_pos (by rw [ht]; simp)]
  refine wpAny_bind (listItems_at ho' hd ?_)
  refine wpAny_bind (listItems_at (xs := #[]) (n := 0) (Heap.get?_push_size _ rfl) rfl ?_)
  rw [if_neg (by simp)]
  refine wpAny_bind (listUpdate_at (xs := #[]) (n := 0) (Heap.get?_push_size _ rfl) rfl ?_ (Nat.zero_le _) (by show (#[] ++ vs.toArray).size ≤ sizeLine + 1; simp only [Array.size_append, List.size_toArray, List.length_nil]; omega))
  refine wpAny_pure ?_
  show wpAny (model prog w) A (do
      let o ← load s.heap.objs.size
      match o.data with
      | .seq xs _ => pure xs.toList
      | _ => unsupported "internal:collect") Q E { s with heap := (s.heap.push (seqObj "list" #[] 0)).update s.heap.objs.size (Obj.mapSeq (· ++ vs.toArray)) }
  refine wpAny_bind (wpAny_load (get?_update_seq (Heap.get?_push_size _ rfl) _) ?_)
  show wpAny _ _ (pure ((#[] : Array Value) ++ vs.toArray).toList) Q E _
  rw [show ((#[] : Array Value) ++ vs.toArray).toList = vs by simp]
  exact wpAny_pure h
open SrtO in
theorem sorted_ordT {l : Addr} {vs : List Value} {ltv : Value → Value → Bool} {Q : Value → Shared → Prop} (O : Swo ltv) (hl : IsTup s.heap l vs.toArray) (hz : vs.length ≤ sizeLine)
    (hS : 2 ≤ vs.length → ∀ (h₁ : Heap) (a : Addr), h₁.get? a = some (seqObj "list" vs.toArray 0) → (∀ b o, s.heap.get? b = some o → b ≠ a ∧ h₁.get? b = some o) → SortableO prog w A.in1.in1 { s with heap := h₁ } a vs ltv)
    (h : ∀ out : List Value, Srtd ltv out → Stb ltv out vs → Q (.ref (s.heap.objs.size + 1)) { s with heap := sortedAll s.heap vs out.toArray }) :
    wpAny (model prog w) A (call (.builtin "sorted") [.ref l]) Q E s := by
  refine Calls.call_function_entry kind_sorted plain_sorted entry_sorted (args_sorted1 _) ?_
  unfold Builtin.«sorted»
  refine wpAny_bind (m := checkCount "sorted" 1 1 _) (wpAny_pure ?_)
  refine wpAny_bind (collect_tup hl ?_ hz)
  refine wpAny_bind (wpAny_newList ?_ hz)
  have hsz : ((s.heap.push (seqObj "list" #[] 0)).update s.heap.objs.size (Obj.mapSeq (· ++ vs.toArray))).objs.size = s.heap.objs.size + 1 := by
    rw [Heap.size_update, size_push']
  have hoL : (((s.heap.push (seqObj "list" #[] 0)).update s.heap.objs.size (Obj.mapSeq (· ++ vs.toArray))).push (seqObj "list" vs.toArray 0)).get? (s.heap.objs.size + 1) = some (seqObj "list" vs.toArray 0) := by
    rw [← hsz]; exact Heap.get?_push_size _ rfl
  have keep : ∀ b o, s.heap.get? b = some o → b ≠ s.heap.objs.size + 1 ∧ (((s.heap.push (seqObj "list" #[] 0)).update s.heap.objs.size (Obj.mapSeq (· ++ vs.toArray))).push (seqObj "list" vs.toArray 0)).get? b = some o := fun b o q => by
    have hlt : b < s.heap.objs.size := Heap.lt_size q
    refine ⟨Nat.ne_of_lt (Nat.lt_succ_of_lt hlt), Heap.get?_push_of_some _ ?_⟩
    rw [Heap.get?_update_ne _ _ _ _ (Nat.ne_of_lt hlt)]
    exact Heap.get?_push_of_some _ q
  show wpAny _ _ _ _ _ { s with heap := ((s.heap.push (seqObj "list" #[] 0)).update s.heap.objs.size (Obj.mapSeq (· ++ vs.toArray))).push (seqObj "list" vs.toArray 0) }
  rw [hsz]
  refine wpAny_bind (wpAny_holding (wpAny_call_entry slot_list_sort ⟨_, hoL, rfl⟩ entry_list_sort (list_sort_ord O hoL hz (fun h2 => hS h2 _ _ hoL keep) fun out hs hb => ⟨_, rfl, ?_⟩) (args_list_sort _)))
  exact wpAny_pure ⟨_, rfl, h out hs hb⟩
end
def rSortedTI (K : PySem.W.Frag) : List V → Hp → VK → Prop := fun vs H Q => ∃ (a : Addr) (ns : List Int), vs = [V.ref a] ∧ SqT K H a (ns.map V.int) ∧
  ∀ (ns' : List Int) (p : Addr), ns'.Perm ns → ns'.Pairwise (· ≤ ·) → H p = none → Q (.ref p) (upd H p (.lst (ns'.map V.int)))
theorem cr_sortedTI {X : Cx} : CallR X (.builtin "sorted") (rSortedTI X.K) := by
  intro pins s σ H vs us Q I r h
  obtain ⟨a, ns, rfl, hs, q⟩ := h
  obtain ⟨its, rv, hl, hz⟩ := I.tuple hs
  rw [Vals.ref1 r]
  have hi := rv.ints
  refine sorted_ordT SrtO.swo_int hl (by rw [← rv.length]; exact hz) (fun h2 h₁ a' _ _ => SrtO.ints_sortable hi h2) fun out h1 h2 => ?_
  obtain ⟨k1, k2, k3⟩ := SrtO.ints_out hi h1 h2
  obtain ⟨ep, he'⟩ := PyProof.Rows.sortedAll_at s.heap its out.toArray
  have hlen : ((out.map SrtO.iv).map V.int).length ≤ sizeLine := by
    rw [List.length_map, k2.length_eq]
    rw [List.length_map] at hz
    exact hz
  exact ⟨.ref _, upd H (s.heap.objs.size + 1) (.lst ((out.map SrtO.iv).map V.int)), I.laid (t' := s.toks) (fun _ _ => PyProof.Rows.sortedAll_old) (Nat.le_succ _) ⟨hlen, out, ep, vals_of_ints k1, he'⟩, rfl, q _ _ k2 k3 (I.hok.fresh (Nat.le_succ _))⟩
def gSortedT : List D → Option Op
  | [.tup ds] => (intsOf ds).map fun ns => .tmp (.lst ((sortI ns).map D.int))
  | _ => none
theorem rc_sortedT {K : PySem.W.Frag} {mg : Mg} : RC K mg (rSortedTI K) gSortedT := fun G H xs ds op Q s p eq q => by
  unfold gSortedT at eq
  split at eq
  · obtain ⟨ns, e1, rfl⟩ := Option.map_eq_some_iff.mp eq
    cases p with
    | cons p p' =>
      cases p'
      obtain ⟨a, vs, rfl, hq, r⟩ := p.tup s
      rw [intsOf_rp r e1] at hq
      refine ⟨a, ns, rfl, hq, fun ns' l pm pw hl => ?_⟩
      rw [sorted_uniq (pm.trans (sortI_perm ns).symm) pw (sortI_sorted ns)]
      exact q _ _ _ (Nw.new s hl) (On.new s hl (.lst (ints_rp _)))
  · cases eq
theorem je_sortedT {X : Cx} {K : PySem.W.Frag} {e : Expr} {pos p : Pos} {t : TA} {fp : FP} (hg : Gl X "sorted") (hm : X.mg "sorted" = none) (ha : JP X [e] t fp) (he : starEach (e :: []) X.env = (false, eval e X.env) :: starEach [] X.env := by rfl) (hpl : (backTo pos (starEach [] X.env)).any (·.1) = false := by rfl) (hK : X.K = K := by rfl) : JE X (.Call (.Name "sorted" p) [e] [] pos) (tCB (rSortedTI K) t) (fCB gSortedT fp) := by
  subst hK
  exact je_cb cr_sortedTI rc_sortedT hg hm (by decide +kernel) ha (by decide) (by decide) he hpl
end J
namespace J
open PySem PySem.Spec PyProof.Rows L2

/-! ### t.upper() of a text -/
def gUpper : D → Option Op
  | .str a => if a.length ≤ 5592405 then some (.val (.str (Txt.upper a))) else none
  | _ => none
def rUpper : V → List V → Hp → VK → Prop := fun x xs H Q => ∃ a, x = .str a ∧ xs = [] ∧ a.length ≤ 5592405 ∧ Q (.str (Txt.upper a)) H
theorem re_upper {K : PySem.W.Frag} {mg : Mg} {to : TE} {fo : FE} (ho : RE K mg to fo) : RE K mg (tBM0 K "str" rUpper to) (fUn gUpper fo) := fun σ τ G H op τ' Q A e q => by
  obtain ⟨⟨oo, τ1⟩, e1, e⟩ := bind_some' e
  obtain ⟨d, e2, e⟩ := bind_some' e
  obtain ⟨z, e3, e⟩ := bind_some' e
  cases e
  dsimp only at e2 e3
  refine ho σ τ G H oo τ1 _ A e1 fun x G1 H1 g1 o1 => ?_
  cases d <;> first | (cases e3; done) | skip
  rename_i a
  obtain ⟨hl, rfl⟩ := if_get (show (if a.length ≤ 5592405 then some (Op.val (.str (Txt.upper a))) else none) = some _ from e3)
  have ex := (o1.pk g1.at' e2).str
  subst ex
  exact ⟨rfl, a, rfl, rfl, hl, q _ G1 H1 g1 (.val (.str _))⟩
theorem je_upper {X : Cx} {K : PySem.W.Frag} {o : Expr} {apos pos : Pos} {to : TE} {fo : FE} (ho : JE X o to fo) (hbase : attributeBase o (os "upper") X.env (eval o X.env) = eval o X.env := by rfl) (hline : (apos.endLine == pos.line) = true := by rfl) (hK : X.K = K := by rfl) : JE X (.Call (.Attribute o (os "upper") apos) [] [] pos) (tBM0 K "str" rUpper to) (fUn gUpper fo) := by
  subst hK
  exact ⟨pe_bm0 PySem.F.plainAttrs_str PySem.F.slot_str_upper PySem.F.type_str_upper mt_upper ho.pe hbase hline, re_upper ho.re⟩
end J
namespace J
open PySem PySem.Spec PyProof.Rows L2

/-! ### slices of texts -/
def gSlS (d : D) (lo hi : Option Int) : Option Op := match d with
  | .str z => if z.length ≤ 16777216 then some (.val (.str (Txt.slice z lo hi))) else none
  | _ => none
def fSlS (fe : FE) (fl fh : FO) (τ : Tau) : Option (Op × Tau) := (fe τ).bind fun o => (fl o.2).bind fun l => (fh l.2).bind fun h => (deref h.2 o.1).bind fun d => (gSlS d l.1 h.1).bind fun z => some (z, h.2)
theorem re_slS {K : PySem.W.Frag} {mg : Mg} {te : TE} {fe : FE} {tl th : TO} {fl fh : FO} (he : RE K mg te fe) (hl : RO K mg tl fl) (hh : RO K mg th fh) : RE K mg (tSl C8.rSlX te tl th) (fSlS fe fl fh) := fun σ τ G H op τ' Q A e q => by
  obtain ⟨⟨o, τ1⟩, e1, e⟩ := bind_some' e
  obtain ⟨⟨lo, τ2⟩, e2, e⟩ := bind_some' e
  obtain ⟨⟨hi, τ3⟩, e3, e⟩ := bind_some' e
  obtain ⟨d, e4, e⟩ := bind_some' e
  obtain ⟨z, e5, e⟩ := bind_some' e
  cases e
  dsimp only at e4 e5
  refine he σ τ G H o τ1 _ A e1 fun x G1 H1 g1 o1 => hl σ τ1 G1 H1 lo τ2 _ g1.at' e2 fun G2 H2 g2 => hh σ τ2 G2 H2 hi _ _ g2.at' e3 fun G3 H3 g3 => ?_
  have g := (g1.trans g2).trans g3
  have A3 := g3.at'
  have p := ((o1.step g2).step g3).pk A3 e4
  cases d <;> first | (cases e5; done) | skip
  rename_i a
  obtain ⟨hz, rfl⟩ := if_get (show (if a.length ≤ 16777216 then some (Op.val (.str (Txt.slice a lo hi))) else none) = some _ from e5)
  have ex := p.str
  subst ex
  exact ⟨a, rfl, by rw [sizeLine_eq]; exact hz, q _ G3 H3 g (.val (.str _))⟩
theorem je_slS {X : Cx} {e : Expr} {te : TE} {fe : FE} {pos p2 : Pos} {lo hi : Option Expr} {tl th : TO} {fl fh : FO} (he : JE X e te fe) (hl : JO X lo tl fl) (hu : JO X hi th fh) : JE X (.Subscript e (.Slice lo hi none p2) pos) (tSl C8.rSlX te tl th) (fSlS fe fl fh) :=
  ⟨pe_slice C8.sl_txt he.pe hl.po hu.po, re_slS he.re hl.ro hu.ro⟩
end J
namespace J
open PySem PySem.Spec PyProof.Rows L2

/-! ### t + u of texts -/
def gCatS (d e : D) : Option Op := match d, e with
  | .str a, .str b => if a.length + b.length ≤ 16777216 then some (.val (.str (a ++ b))) else none
  | _, _ => none
abbrev qCatS : R2 := fun x y H Q => ∃ i j, x = .str i ∧ y = .str j ∧ i.length + j.length ≤ sizeLine ∧ Q (.str (i ++ j)) H
theorem rb_catS {K : PySem.W.Frag} {mg : Mg} : RB K mg qCatS gCatS := fun G H x y d e op Q s p1 p2 eq q => by
  unfold gCatS at eq
  split at eq
  · rename_i a b
    obtain ⟨hl, rfl⟩ := if_get eq
    have e1 := p1.str
    have e2 := p2.str
    exact ⟨a, b, e1, e2, by rw [sizeLine_eq]; exact hl, q _ G H (Nw.refl s) (.val (.str _))⟩
  · cases eq
theorem je_catS {X : Cx} {a b : Expr} {ta tb : TE} {fa fb : FE} {pos : Pos} (ha : JE X a ta fa) (hb : JE X b tb fb) : JE X (.BinOp a .Add b pos) (tOp qCatS ta tb) (fBin gCatS fa fb) := je_bin op_add_str rb_catS ha hb
end J
namespace J
open PySem PySem.Spec PyProof.Rows L2

/-! ### an owned name is frozen ahead of a statement -/
def sFz (i : Nat) (F : FS) (τ : Tau) : Option Flow := match τ[i]? with
  | some (some (.ow d)) => F (τ.set i (some (.sh d)))
  | _ => none
theorem js_fz {X : Cx} {b : Bool} {st : Stmt} {t : TS} {F : FS} (i : Nat) (h : JS X b st t F) : JS X b st t (sFz i F) := ⟨h.ps, fun io R0 G0 H0 G H σ τ D fl hb E e k => by
  unfold sFz at e
  split at e
  · rename_i d hi
    obtain ⟨p, o, a, _⟩ := E.at'.ow i d hi
    have e1 : fz τ (.slot i) = some (d, τ.set i (some (.sh d))) := by unfold fz; dsimp only; rw [hi]
    obtain ⟨G2, g, _⟩ := Or.fz (Go.refl E.at') (Or.slot (H0 := H) a) e1
    exact h.rs io R0 G0 H0 G2 H σ _ D fl hb (E.go g) e k
  · cases e⟩
end J
namespace J
open PySem PySem.Spec PyProof.Rows L2

/-! ### str(e), int(text) -/
def strI (i : Int) : PySem.Str := toString i
def gStr : List D → Option Op
  | [.int i] => if i.natAbs.log2 < 1920 then some (.val (.str (strI i))) else none
  | _ => none
def qStr : List V → Hp → VK → Prop := fun xs H Q => ∃ i, xs = [.int i] ∧ i.natAbs.log2 < 1920 ∧ Q (.str (toString i)) H
theorem rc_str {K : PySem.W.Frag} {mg : Mg} : RC K mg qStr gStr := fun G H xs ds op Q s p eq q => by
  unfold gStr at eq
  split at eq
  · rename_i i
    obtain ⟨hi, rfl⟩ := if_get eq
    cases p with
    | cons p p' => cases p'; cases p.int; exact ⟨i, rfl, hi, q _ G H (Nw.refl s) (.val (.str _))⟩
  · cases eq
theorem je_str1 {X : Cx} {e : Expr} {t : TA} {fp : FP} {p pos : Pos} (hg : Gl X "str") (hm : X.mg "str" = none) (ha : JP X [e] t fp) (he : starEach (e :: []) X.env = (false, eval e X.env) :: starEach [] X.env := by rfl) (hpl : (backTo pos (starEach [] X.env)).any (·.1) = false := by rfl) : JE X (.Call (.Name "str" p) [e] [] pos) (tCB qStr t) (fCB gStr fp) := je_ct call_str_int rc_str hg hm (by decide +kernel) ha (by decide) (by decide) he hpl
def gIntS : List D → Option Op
  | [.str a] => (PySem.intText? a).bind fun n => if a.length ≤ 640 then some (.val (.int n)) else none
  | _ => none
def qIntS : List V → Hp → VK → Prop := fun xs H Q => ∃ a n, xs = [.str a] ∧ PySem.intText? a = some n ∧ a.length ≤ 640 ∧ Q (.int n) H
theorem rc_intS {K : PySem.W.Frag} {mg : Mg} : RC K mg qIntS gIntS := fun G H xs ds op Q s p eq q => by
  unfold gIntS at eq
  split at eq
  · rename_i a
    obtain ⟨n, e1, eq⟩ := bind_some' eq
    obtain ⟨hl, rfl⟩ := if_get eq
    cases p with
    | cons p p' => cases p'; cases p.str; exact ⟨a, n, rfl, e1, hl, q _ G H (Nw.refl s) (.val (.int _))⟩
  · cases eq
theorem je_intS {X : Cx} {e : Expr} {t : TA} {fp : FP} {p pos : Pos} (hg : Gl X "int") (hm : X.mg "int" = none) (ha : JP X [e] t fp) (he : starEach (e :: []) X.env = (false, eval e X.env) :: starEach [] X.env := by rfl) (hpl : (backTo pos (starEach [] X.env)).any (·.1) = false := by rfl) : JE X (.Call (.Name "int" p) [e] [] pos) (tCB qIntS t) (fCB gIntS fp) := je_ct call_int_str rc_intS hg hm (by decide +kernel) ha (by decide) (by decide) he hpl

/-! ### methods of texts with one argument -/
def fM1 (g : PySem.Str → D → Option Op) (fo fe : FE) (τ : Tau) : Option (Op × Tau) := (fo τ).bind fun o => (deref o.2 o.1).bind fun d => match d with
  | .str a => (fe o.2).bind fun e => (deref e.2 e.1).bind fun d2 => (g a d2).bind fun z => some (z, e.2)
  | _ => none
def RM1 (K : PySem.W.Frag) (mg : Mg) (r : V → List V → Hp → VK → Prop) (g : PySem.Str → D → Option Op) : Prop := ∀ (G H : Hp) (a : PySem.Str) (y : V) (d : D) (op : Op) (Q : VK), Same G H → Pk K mg G H y d → g a d = some op →
  (∀ v G' H', Nw K mg G H G' H' → On K mg H G' H' v op → Q v H') → r (.str a) [y] H Q
theorem re_m1 {K : PySem.W.Frag} {mg : Mg} {r : V → List V → Hp → VK → Prop} {g : PySem.Str → D → Option Op} {to te : TE} {fo fe : FE} (hr : RM1 K mg r g) (ho : RE K mg to fo) (he : RE K mg te fe) : RE K mg (tM1 r to te) (fM1 g fo fe) := fun σ τ G H op τ' Q A e q => by
  obtain ⟨⟨oa, τ1⟩, e1, e⟩ := bind_some' e
  obtain ⟨d, e2, e⟩ := bind_some' e
  cases d <;> first | (cases e; done) | skip
  rename_i a
  obtain ⟨⟨ob, τ2⟩, e3, e⟩ := bind_some' e
  obtain ⟨d', e4, e⟩ := bind_some' e
  obtain ⟨z, e5, e⟩ := bind_some' e
  cases e
  refine ho σ τ G H oa τ1 _ A e1 fun x G1 H1 g1 o1 => ?_
  have ex := (o1.pk g1.at' e2).str
  subst ex
  refine ⟨⟨a, rfl⟩, he σ τ1 G1 H1 ob τ2 _ g1.at' e3 fun y G2 H2 g2 o2 => ?_⟩
  refine hr G2 H2 a y d' _ Q g2.at'.gh (o2.pk g2.at' e4) e5 fun v G3 H3 n o => ?_
  have g12 := g1.trans g2
  exact q v G3 H3 (g12.trans (n.go g2.at')) ((o.or g2.at').weak g12.kp)
/-- a list of texts -/
def strsD : List D → Option (List PySem.Str)
  | [] => some []
  | .str a :: r => (strsD r).map (a :: ·)
  | _ => none
theorem rpl_strs {K : PySem.W.Frag} {mg : Mg} {G : Hp} : ∀ {vs : List V} {ds : List D} {ys : List PySem.Str}, RpL K mg G vs ds → strsD ds = some ys → vs = ys.map V.str
  | _, _, _, .nil, e => by cases e; rfl
  | _, _, _, .cons h r, e => by
    rename_i v d vs ds
    cases d <;> first | (cases e; done) | skip
    obtain ⟨zs, e1, rfl⟩ := Option.map_eq_some_iff.mp e
    cases h
    rw [rpl_strs r e1]
    rfl
theorem strs_rpl {K : PySem.W.Frag} {mg : Mg} {G : Hp} : ∀ ys : List PySem.Str, RpL K mg G (ys.map V.str) (ys.map D.str)
  | [] => .nil
  | y :: ys => .cons (.str y) (strs_rpl ys)
def gJoin (a : PySem.Str) : D → Option Op
  | .lst ds => (strsD ds).bind fun ys => if (ys.map (·.length)).sum + ys.length * a.length ≤ 16777216 then some (.val (.str (Txt.join a ys))) else none
  | _ => none
def rJoin (K : PySem.W.Frag) : V → List V → Hp → VK → Prop := fun x xs H Q => ∃ a p, ∃ ys : List PySem.Str, x = .str a ∧ xs = [.ref p] ∧ (SqL K H p (ys.map V.str) ∨ SqT K H p (ys.map V.str)) ∧
      (ys.map (·.length)).sum + ys.length * a.length ≤ 16777216 ∧ Q (.str (Txt.join a ys)) H
theorem rm_join {K : PySem.W.Frag} {mg : Mg} : RM1 K mg (rJoin K) gJoin := fun G H a y d op Q s p eq q => by
  cases d <;> first | (cases eq; done) | skip
  rename_i ds
  obtain ⟨ys, e1, eq⟩ := bind_some' eq
  obtain ⟨hl, rfl⟩ := if_get eq
  obtain ⟨b, vs, rfl, hq, r⟩ := p.lst s
  rw [rpl_strs r e1] at hq
  exact ⟨a, b, ys, rfl, rfl, .inl hq, hl, q _ G H (Nw.refl s) (.val (.str _))⟩
theorem je_join {X : Cx} {K : PySem.W.Frag} {o e : Expr} {apos pos : Pos} {to te : TE} {fo fe : FE} (ho : JE X o to fo) (he : JE X e te fe) (hs : starEach [e] X.env = [(false, eval e X.env)] := by rfl) (hbase : attributeBase o "join" X.env (eval o X.env) = eval o X.env := by rfl) (hline : (apos.endLine == pos.line) = true := by rfl) (hK : X.K = K := by rfl) : JE X (.Call (.Attribute o "join" apos) [e] [] pos) (tM1 (rJoin K) to te) (fM1 gJoin fo fe) := by
  subst hK
  exact ⟨pe_join ho.pe he.pe hs hbase hline, re_m1 rm_join ho.re he.re⟩
def gSplit (a : PySem.Str) : D → Option Op
  | .str b => if (b.length == 0) = false ∧ a.length + 2 ≤ 16777216 then some (.tmp (.lst ((Txt.split a b).map D.str))) else none
  | _ => none
abbrev rSplit : V → List V → Hp → VK → Prop := fun x xs H Q => ∃ a b, x = .str a ∧ xs = [.str b] ∧ (b.length == 0) = false ∧ a.length + 2 ≤ sizeLine ∧ rNewStrs (Txt.split a b) H Q
theorem rm_split {K : PySem.W.Frag} {mg : Mg} : RM1 K mg rSplit gSplit := fun G H a y d op Q s p eq q => by
  cases d <;> first | (cases eq; done) | skip
  rename_i b
  obtain ⟨⟨h1, h2⟩, rfl⟩ := if_get eq
  cases p.str
  exact ⟨a, b, rfl, rfl, h1, by rw [sizeLine_eq]; exact h2, fun p hp => q _ _ _ (Nw.new s hp) (On.new s hp (.lst (strs_rpl _)))⟩
theorem je_split {X : Cx} {o e : Expr} {apos pos : Pos} {to te : TE} {fo fe : FE} (ho : JE X o to fo) (he : JE X e te fe) (hs : starEach [e] X.env = [(false, eval e X.env)] := by rfl) (hbase : attributeBase o "split" X.env (eval o X.env) = eval o X.env := by rfl) (hline : (apos.endLine == pos.line) = true := by rfl) : JE X (.Call (.Attribute o "split" apos) [e] [] pos) (tM1 rSplit to te) (fM1 gSplit fo fe) :=
  ⟨pe_split ho.pe he.pe hs hbase hline, re_m1 rm_split ho.re he.re⟩
def gPart (a : PySem.Str) : D → Option Op
  | .str b => if (b.length == 0) = false ∧ a.length ≤ 16777216 then some (.val (.tup [.str (Txt.partition a b).1, .str (Txt.partition a b).2.1, .str (Txt.partition a b).2.2])) else none
  | _ => none
abbrev rPart : V → List V → Hp → VK → Prop := fun x xs H Q => ∃ a b, x = .str a ∧ xs = [.str b] ∧ (b.length == 0) = false ∧ a.length ≤ sizeLine ∧
      ∀ p, H p = none → Q (.ref p) (upd H p (.tup [.str (Txt.partition a b).1, .str (Txt.partition a b).2.1, .str (Txt.partition a b).2.2]))
theorem rm_part {K : PySem.W.Frag} {mg : Mg} : RM1 K mg rPart gPart := fun G H a y d op Q s p eq q => by
  cases d <;> first | (cases eq; done) | skip
  rename_i b
  obtain ⟨⟨h1, h2⟩, rfl⟩ := if_get eq
  cases p.str
  exact ⟨a, b, rfl, rfl, h1, by rw [sizeLine_eq]; exact h2, fun p hp => q _ _ _ (Nw.newF s hp) (.val (.tup (SqT.of upd_same) (.cons (.str _) (.cons (.str _) (.cons (.str _) .nil)))))⟩
theorem je_part {X : Cx} {o e : Expr} {apos pos : Pos} {to te : TE} {fo fe : FE} (ho : JE X o to fo) (he : JE X e te fe) (hs : starEach [e] X.env = [(false, eval e X.env)] := by rfl) (hbase : attributeBase o "partition" X.env (eval o X.env) = eval o X.env := by rfl) (hline : (apos.endLine == pos.line) = true := by rfl) : JE X (.Call (.Attribute o "partition" apos) [e] [] pos) (tM1 rPart to te) (fM1 gPart fo fe) :=
  ⟨pe_partition ho.pe he.pe hs hbase hline, re_m1 rm_part ho.re he.re⟩

/-! ### f-strings -/
def gFmt : D → Option Op
  | .str y => if y.length ≤ 16777216 then some (.val (.str y)) else none
  | .int i => if i.natAbs.log2 < 1920 then some (.val (.str (strI i))) else none
  | _ => none
theorem re_fmt {K : PySem.W.Frag} {mg : Mg} {te : TE} {fe : FE} (he : RE K mg te fe) : RE K mg (tFmt te) (fUn gFmt fe) := fun σ τ G H op τ' Q A e q => by
  obtain ⟨⟨oo, τ1⟩, e1, e⟩ := bind_some' e
  obtain ⟨d, e2, e⟩ := bind_some' e
  obtain ⟨z, e3, e⟩ := bind_some' e
  cases e
  dsimp only at e2 e3
  refine he σ τ G H oo τ1 _ A e1 fun x G1 H1 g1 o1 => ?_
  cases d <;> first | (cases e3; done) | skip
  · rename_i i
    obtain ⟨hl, rfl⟩ := if_get (show (if i.natAbs.log2 < 1920 then some (Op.val (.str (strI i))) else none) = some _ from e3)
    have ex := (o1.pk g1.at' e2).int
    subst ex
    exact .inr ⟨i, rfl, hl, q _ G1 H1 g1 (.val (.str _))⟩
  · rename_i a
    obtain ⟨hl, rfl⟩ := if_get (show (if a.length ≤ 16777216 then some (Op.val (.str a)) else none) = some _ from e3)
    have ex := (o1.pk g1.at' e2).str
    subst ex
    exact .inl ⟨a, rfl, by rw [sizeLine_eq]; exact hl, q _ G1 H1 g1 (.val (.str _))⟩
theorem je_fmt {X : Cx} {e : Expr} {te : TE} {fe : FE} {pos : Pos} (he : JE X e te fe) : JE X (.FormattedValue e (-1) none pos) (tFmt te) (fUn gFmt fe) := ⟨pe_fmt he.pe, re_fmt he.re⟩
abbrev FJ := PySem.Str → Tau → Option (PySem.Str × Tau)
def jsN : FJ := fun acc τ => some (acc, τ)
def jsC (fe : FE) (r : FJ) : FJ := fun acc τ => (fe τ).bind fun o => (deref o.2 o.1).bind fun d => match d with
  | .str y => if (acc ++ y).length ≤ 16777216 then r (acc ++ y) o.2 else none
  | _ => none
def fJs (f : FJ) (τ : Tau) : Option (Op × Tau) := (f PySem.Str.empty τ).bind fun r => some (.val (.str r.1), r.2)
def RJ (K : PySem.W.Frag) (mg : Mg) (ts : List TE) (f : FJ) : Prop := ∀ (acc : PySem.Str) (σ : L2.St) (τ : Tau) (G H : Hp) (out : PySem.Str) (τ' : Tau) (Q : PySem.Str → Hp → Prop), At K mg G H σ τ → f acc τ = some (out, τ') →
  (∀ G' H', Go K mg σ τ G H τ' G' H' → Q out H') → tJs ts acc σ H Q
structure JJs (X : Cx) (es : List Expr) (ts : List TE) (f : FJ) : Prop where
  pj : PJ X es ts
  rj : RJ X.K X.mg ts f
theorem jj_nil {X : Cx} : JJs X [] [] jsN := ⟨.nil, fun acc σ τ G H out τ' Q A e q => by cases e; exact q G H (Go.refl A)⟩
theorem jj_cons {X : Cx} {e : Expr} {te : TE} {fe : FE} {es : List Expr} {ts : List TE} {f : FJ} (he : JE X e te fe) (hr : JJs X es ts f) : JJs X (e :: es) (te :: ts) (jsC fe f) := ⟨.cons he.pe hr.pj, fun acc σ τ G H out τ' Q A e q => by
  obtain ⟨⟨oa, τ1⟩, e1, e⟩ := bind_some' e
  obtain ⟨d, e2, e⟩ := bind_some' e
  cases d <;> first | (cases e; done) | skip
  rename_i y
  obtain ⟨hl, e⟩ := if_get' (show (if (acc ++ y).length ≤ 16777216 then f (acc ++ y) τ1 else none) = some (out, τ') from e)
  refine he.re σ τ G H oa τ1 _ A e1 fun x G1 H1 g1 o1 => ?_
  have ex := (o1.pk g1.at' e2).str
  subst ex
  exact ⟨y, rfl, by rw [sizeLine_eq]; exact hl, hr.rj (acc ++ y) σ τ1 G1 H1 out τ' Q g1.at' e fun G2 H2 g2 => q G2 H2 (g1.trans g2)⟩⟩
theorem je_fstr {X : Cx} {v1 v2 : Expr} {rest : List Expr} {ts : List TE} {f : FJ} {pos : Pos} (h : JJs X (v1 :: v2 :: rest) ts f) : JE X (.JoinedStr (v1 :: v2 :: rest) pos) (fun σ H Q => tJs ts PySem.Str.empty σ H fun out H1 => Q (.str out) H1) (fJs f) :=
  ⟨pe_joined h.pj, fun σ τ G H op τ' Q A e q => by
    obtain ⟨⟨out, τ1⟩, e1, e⟩ := bind_some' e
    cases e
    exact h.rj _ σ τ G H out τ1 _ A e1 fun G1 H1 g1 => q _ G1 H1 g1 (.val (.str _))⟩

/-! ### a walk over the signs of a text -/
def sgnD (x : PySem.Str) : List D := x.cps.toList.map fun c => D.str ⟨#[c]⟩
def iSt (fe : FE) (τ : Tau) : Option (List D × Tau) := (fe τ).bind fun o => (deref o.2 o.1).bind fun d => match d with
  | .str x => some (sgnD x, o.2)
  | _ => none
theorem itr_str {K : PySem.W.Frag} {mg : Mg} {G : Hp} {x : PySem.Str} : ItR K mg (Its x) G (sgnD x) := fun G2 H2 s s2 => by
  refine ⟨fun i hi => by unfold sgnD at hi; rw [List.length_map, Array.length_toList] at hi; exact hi, fun i d e => ?_⟩
  unfold sgnD at e
  rw [List.getElem?_map] at e
  obtain ⟨c, hc, rfl⟩ := Option.map_eq_some_iff.mp e
  rw [Array.getElem?_toList] at hc
  obtain ⟨hi, _⟩ := Array.getElem?_eq_some_iff.mp hc
  exact ⟨hi, fun v H' ⟨e1, c', e2, e3⟩ => by
    subst e1
    rw [hc] at e2
    cases e2
    subst e3
    exact ⟨G2, Nw.refl s2, .str _⟩⟩
theorem ri_str {K : PySem.W.Frag} {mg : Mg} {te : TE} {fe : FE} (he : RE K mg te fe) : RI K mg (iStr te) (iSt fe) := fun σ τ G H ds τ' R A e q => by
  obtain ⟨⟨o, τ1⟩, e1, e⟩ := bind_some' e
  obtain ⟨d, e2, e⟩ := bind_some' e
  refine he σ τ G H o τ1 _ A e1 fun x G1 H1 g1 o1 => ?_
  dsimp only at e e2
  cases d <;> first | (cases e; done) | skip
  rename_i y
  cases e
  exact ⟨y, (o1.pk g1.at' e2).str, q _ G1 H1 g1 itr_str⟩
theorem ji_str {X : Cx} {tg e : Expr} {te : TE} {fe : FE} (he : JE X e te fe) : JI X tg e (iStr te) (iSt fe) := ⟨pi_str he.pe, ri_str he.re⟩

/-! ### a sign in a text -/
def gInS (neg : Bool) (d e : D) : Option Op := match d, e with
  | .str x, .str z => match x.cps.toList with
    | [c] => some (.val (.bl (if neg then !decide (c ∈ z.cps.toList) else decide (c ∈ z.cps.toList))))
    | _ => none
  | _, _ => none
theorem one_sign {x : PySem.Str} {c : Nat} (h : x.cps.toList = [c]) : x = ⟨#[c]⟩ := by
  obtain ⟨a⟩ := x
  have : a = #[c] := by
    rw [← Array.toArray_toList (xs := a)]
    exact congrArg List.toArray h
  rw [this]
abbrev qInS (neg : Bool) : R2 := fun x y H Q => ∃ (c : Nat) (z : PySem.Str), x = .str ⟨#[c]⟩ ∧ y = .str z ∧ Q (.bl (if neg then !decide (c ∈ z.cps.toList) else decide (c ∈ z.cps.toList))) H
theorem rb_inS {neg : Bool} {K : PySem.W.Frag} {mg : Mg} : RB K mg (qInS neg) (gInS neg) := fun G H x y d e op Q s p1 p2 eq q => by
  unfold gInS at eq
  split at eq
  · rename_i a b
    split at eq
    · rename_i c hc
      cases eq
      have e1 := p1.str
      have e2 := p2.str
      rw [one_sign hc] at e1
      exact ⟨c, b, e1, e2, q _ G H (Nw.refl s) (.val (.bl _))⟩
    · cases eq
  · cases eq
theorem je_inS {X : Cx} {a b : Expr} {ta tb : TE} {fa fb : FE} {pos : Pos} (ha : JE X a ta fa) (hb : JE X b tb fb) (hm : behindInMarks .In b = false := by rfl) : JE X (.Compare a [.In] [b] pos) (tOp (qInS false) ta tb) (fBin (gInS false) fa fb) := je_cmp op_in_sign rb_inS ha hb hm
theorem je_ninS {X : Cx} {a b : Expr} {ta tb : TE} {fa fb : FE} {pos : Pos} (ha : JE X a ta fa) (hb : JE X b tb fb) (hm : behindInMarks .NotIn b = false := by rfl) : JE X (.Compare a [.NotIn] [b] pos) (tOp (qInS true) ta tb) (fBin (gInS true) fa fb) := je_cmp op_notIn_sign rb_inS ha hb hm
end J
namespace J
open PySem PySem.Spec PyProof.Rows L2

/-! ### a sign in a text, as a test -/
theorem jt_inS {X : Cx} {a b : Expr} {ta tb : TE} {fa fb : FE} {pos : Pos} (ha : JE X a ta fa) (hb : JE X b tb fb) (hm : behindInMarks .In b = false := by rfl) : JT X (.Compare a [.In] [b] pos) (tTest (tOp (qInS false) ta tb)) (fTB (fBin (gInS false) fa fb)) := jt_cmp op_in_sign rb_inS ha hb hm
theorem jt_ninS {X : Cx} {a b : Expr} {ta tb : TE} {fa fb : FE} {pos : Pos} (ha : JE X a ta fa) (hb : JE X b tb fb) (hm : behindInMarks .NotIn b = false := by rfl) : JT X (.Compare a [.NotIn] [b] pos) (tTest (tOp (qInS true) ta tb)) (fTB (fBin (gInS true) fa fb)) := jt_cmp op_notIn_sign rb_inS ha hb hm
/-! ### a text times an int -/
def mulOkS (a : PySem.Str) (n : Int) : Bool := decide (0 ≤ n) && decide (n ≤ 16777216) && decide (a.length * n.toNat ≤ 16777216)
theorem mulOkS_ok {a : PySem.Str} {n : Int} (h : mulOkS a n = true) : PySem.MulOk a n := by
  unfold mulOkS at h
  simp only [Bool.and_eq_true, decide_eq_true_eq] at h
  obtain ⟨⟨h0, h1⟩, h2⟩ := h
  refine ⟨by simp; omega, fun n1 _ => ?_, fun n1 _ => ?_⟩
  · have e : ((a.length : Int) * n) = ((a.length * n.toNat : Nat) : Int) := by rw [Int.natCast_mul]; congr 1; omega
    have : (a.length : Int) ≤ (2 ^ 63 - 1) / n := (Int.le_ediv_iff_mul_le (by omega)).2 (by rw [e]; omega)
    omega
  · unfold PySem.Builtin.Str.tooLong PySem.sizeLine
    simp
    omega
def gMulS (d e : D) : Option Op := match d, e with
  | .str a, .int n => if mulOkS a n = true then some (.val (.str (Txt.mul a n))) else none
  | _, _ => none
abbrev qMulS : R2 := fun x y H Q => ∃ a n, x = .str a ∧ y = .int n ∧ PySem.MulOk a n ∧ Q (.str (Txt.mul a n)) H
theorem op_mulS {X : Cx} : OpR X (binaryOp .Mult) qMulS := by
  intro pins s σ H x y v u Q I rx ry h
  obtain ⟨i, j, rfl, rfl, hz, q⟩ := h
  obtain ⟨t, rfl⟩ := rx
  obtain ⟨t', rfl⟩ := ry
  exact PySem.SB.mul hz fun t' tk => ⟨.str (Txt.mul i j), H, I.tok _, ⟨_, rfl⟩, q⟩
theorem rb_mulS {K : PySem.W.Frag} {mg : Mg} : RB K mg qMulS gMulS := fun G H x y d e op Q s p1 p2 eq q => by
  unfold gMulS at eq
  split at eq
  · rename_i a n
    obtain ⟨hl, rfl⟩ := if_get eq
    exact ⟨a, n, p1.str, p2.int, mulOkS_ok hl, q _ G H (Nw.refl s) (.val (.str _))⟩
  · cases eq
theorem je_mulS {X : Cx} {a b : Expr} {ta tb : TE} {fa fb : FE} {pos : Pos} (ha : JE X a ta fa) (hb : JE X b tb fb) : JE X (.BinOp a .Mult b pos) (tOp qMulS ta tb) (fBin gMulS fa fb) := je_bin op_mulS rb_mulS ha hb
end J
set_option maxHeartbeats 4000000
namespace J
open PySem PySem.Spec PyProof.Rows L2

/-! ### the typed layer: typed functions against the mirrors -/
abbrev lt {α β : Type} (v : α) (k : α → β) : β := k v
inductive Ct (ρ S : Type) where
  | nx (s : S) | rt (r : ρ) | bk (s : S)
abbrev eL {α : Type} (e : α → D) (xs : List α) : D := .lst (xs.map e)
abbrev eTl {α : Type} (e : α → D) (xs : List α) : D := .tup (xs.map e)
abbrev eU (_ : Unit) : D := .non
abbrev eD (d : D) : D := d
abbrev eT1 {α : Type} (e : α → D) (p : α) : D := .tup [e p]
abbrev eT2 {α β : Type} (e : α → D) (f : β → D) (p : α × β) : D := .tup [e p.1, f p.2]
abbrev eT3 {α β γ : Type} (e : α → D) (f : β → D) (g : γ → D) (p : α × β × γ) : D := .tup [e p.1, f p.2.1, g p.2.2]
abbrev eT4 {α β γ δ : Type} (e : α → D) (f : β → D) (g : γ → D) (h : δ → D) (p : α × β × γ × δ) : D := .tup [e p.1, f p.2.1, g p.2.2.1, h p.2.2.2]
def eO {α : Type} (e : α → D) : Option α → D
  | none => .non
  | some x => e x
abbrev Cl (w : Bool) (d : D) : Option Cell := if w = true then some (.ow d) else some (.sh d)
abbrev so (d : D) : Option Cell := some (.ow d)
/-- raw data read as a thing of a kind -/
noncomputable def decE {α : Type} (enc : α → D) (d : D) : Option α := open Classical in if h : ∃ a, d = enc a then some h.choose else none
theorem decE_e {α : Type} {enc : α → D} {d : D} {a : α} (h : decE enc d = some a) : d = enc a := by
  unfold decE at h
  split at h
  · rename_i hx
    cases h
    exact hx.choose_spec
  · cases h
theorem decE_of {α : Type} {enc : α → D} (inj : ∀ a b, enc a = enc b → a = b) (a : α) : decE enc (enc a) = some a := by
  unfold decE
  have hx : ∃ b, enc a = enc b := ⟨a, rfl⟩
  rw [dif_pos hx]
  exact congrArg some (inj _ _ hx.choose_spec).symm
/-- a name that may not be bound yet -/
def md {α : Type} (e : α → D) : Option α → Option Cell
  | none => none
  | some v => some (.sh (e v))
theorem ie_vmd {α : Type} {e : α → D} {t : Option α} {v : α} {i : Nat} {τ : Tau} (h : t = some v) (hk : τ[i]? = some (md e t) := by rfl) : fVar i τ = some (.val (e v), τ) := by
  subst h
  unfold fVar
  rw [hk]
  rfl

def Im {γ : Type} (F : FS) (τ : Tau) (t : Option γ) (P : γ → Flow → Prop) : Prop := ∀ c, t = some c → ∃ fl, F τ = some fl ∧ P c fl
section
variable {α β γ S ρ : Type} {F G A B : FS} {τ τ1 τ2 : Tau} {t t1 t2 : Option γ} {P : γ → Flow → Prop}
theorem seq_next : sSeq F sNext τ = F τ := by
  unfold sSeq
  cases h : F τ with
  | none => rfl
  | some fl => cases fl <;> rfl
theorem im_one (h : Im (sSeq F sNext) τ t P) : Im F τ t P := fun c e => by
  obtain ⟨fl, h1, h2⟩ := h c e
  exact ⟨fl, seq_next.symm.trans h1, h2⟩
theorem im_bind {u : Option α} {k : α → Option γ} (h : ∀ a, u = some a → Im F τ (k a) P) : Im F τ (u.bind k) P := fun c e => by
  obtain ⟨a, e1, e2⟩ := bind_some' e
  exact h a e1 c e2
theorem im_seq (h : F τ = some (.nx τ1)) (k : Im G τ1 t P) : Im (sSeq F G) τ t P := fun c e => by
  obtain ⟨fl, h1, h2⟩ := k c e
  exact ⟨fl, by unfold sSeq; rw [h]; exact h1, h2⟩
theorem im_set (τ1 : α → Tau) {v : α} {k : α → Option γ} (h : F τ = some (.nx τ2)) (hk : ∀ x, Im G (τ1 x) (k x) P) (e : τ2 = τ1 v := by rfl) : Im (sSeq F G) τ (lt v k) P := im_seq h (e ▸ hk v)
theorem im_sq (h : F τ = some (.nx τ2)) (k : Im G τ1 t P) (e : τ2 = τ1 := by rfl) : Im (sSeq F G) τ t P := im_seq h (e ▸ k)
theorem im_assoc (h : Im (sSeq A (sSeq B G)) τ t P) : Im (sSeq (sSeq A B) G) τ t P := fun c e => by
  obtain ⟨fl, h1, h2⟩ := h c e
  refine ⟨fl, ?_, h2⟩
  rw [← h1]
  unfold sSeq
  cases A τ with
  | none => rfl
  | some fl => cases fl <;> rfl
theorem im_skip (h : Im G τ t P) : Im (sSeq sNext G) τ t P := im_seq rfl h
theorem im_ret {o : Op} {c : γ} (h : F τ = some (.rt o τ1)) (hp : P c (.rt o τ1)) : Im (sSeq F G) τ (some c) P := fun c' e => by
  cases e
  exact ⟨_, by unfold sSeq; rw [h]; rfl, hp⟩
theorem im_bk {c : γ} (h : F τ = some (.bk τ1)) (hp : P c (.bk τ1)) : Im (sSeq F G) τ (some c) P := fun c' e => by
  cases e
  exact ⟨_, by unfold sSeq; rw [h]; rfl, hp⟩
theorem im_ct {c : γ} (h : F τ = some (.ct τ1)) (hp : P c (.ct τ1)) : Im (sSeq F G) τ (some c) P := fun c' e => by
  cases e
  exact ⟨_, by unfold sSeq; rw [h]; rfl, hp⟩
theorem im_end {c : γ} (hp : P c (.nx τ)) : Im sNext τ (some c) P := fun c' e => by
  cases e
  exact ⟨_, rfl, hp⟩
theorem im_none : Im F τ (none : Option γ) P := fun c e => by cases e
theorem im_if {fc : FT} {b : Bool} (hc : fc τ = some (b, τ1)) (h1 : b = true → Im (sSeq A G) τ1 t1 P) (h2 : b = false → Im (sSeq B G) τ1 t2 P) : Im (sSeq (sIf fc A B) G) τ (if b = true then t1 else t2) P := fun c e => by
  cases b with
  | true =>
    obtain ⟨fl, h3, h4⟩ := h1 rfl c e
    refine ⟨fl, ?_, h4⟩
    rw [← h3]
    unfold sSeq sIf
    rw [hc]
    rfl
  | false =>
    obtain ⟨fl, h3, h4⟩ := h2 rfl c e
    refine ⟨fl, ?_, h4⟩
    rw [← h3]
    unfold sSeq sIf
    rw [hc]
    rfl
def NxR (St : S → Tau → Prop) (s : S) (fl : Flow) : Prop := ∃ τ', fl = .nx τ' ∧ St s τ'
def FlS (St : S → Tau → Prop) (s : S) (fl : Flow) : Prop := ∃ τ', (fl = .nx τ' ∨ fl = .ct τ') ∧ St s τ'
def FlR (St : S → Tau → Prop) (Rt : ρ → Op → Tau → Prop) (c : Ct ρ S) (fl : Flow) : Prop := match c with
  | .nx s => ∃ τ', (fl = .nx τ' ∨ fl = .ct τ') ∧ St s τ'
  | .bk s => ∃ τ', fl = .bk τ' ∧ St s τ'
  | .rt r => ∃ o τ', fl = .rt o τ' ∧ Rt r o τ'
theorem im_join {u : Option S} {k : S → Option γ} (St : S → Tau → Prop) (h : Im A τ u (NxR St)) (hk : ∀ s τ', St s τ' → Im G τ' (k s) P) : Im (sSeq A G) τ (u.bind k) P := fun c e => by
  obtain ⟨s, e1, e2⟩ := bind_some' e
  obtain ⟨fl, h1, τ', rfl, hs⟩ := h s e1
  exact im_seq h1 (hk s τ' hs) c e2
/-! #### loops -/
def forS (b : α → S → Option S) : List α → S → Option S
  | [], s => some s
  | x :: xs, s => (b x s).bind fun s1 => forS b xs s1
def forC (b : α → S → Option (Ct ρ S)) : List α → S → Option (Ct ρ S)
  | [], s => some (.nx s)
  | x :: xs, s => (b x s).bind fun c => match c with
    | .nx s1 => forC b xs s1
    | .bk s1 => some (.nx s1)
    | .rt r => some (.rt r)
theorem forS_ok {g : FG} {f : FS} (en : α → D) (St : S → Tau → Prop) {b : α → S → Option S} (hb : ∀ x s τ, St s τ → ∃ τ2, g (en x) τ = some τ2 ∧ Im f τ2 (b x s) (FlS St)) : ∀ (xs : List α) (s : S) (τ : Tau), St s τ → ∀ s', forS b xs s = some s' → ∃ τ', forD g f (xs.map en) τ = some (.nx τ') ∧ St s' τ'
  | [], s, τ, h, s', e => by
    cases e
    exact ⟨τ, rfl, h⟩
  | x :: xs, s, τ, h, s', e => by
    obtain ⟨s1, e1, e2⟩ := bind_some' e
    obtain ⟨τ2, h1, h2⟩ := hb x s τ h
    obtain ⟨fl, h3, τ3, hf, h4⟩ := h2 s1 e1
    obtain ⟨τ', h5, h6⟩ := forS_ok en St hb xs s1 τ3 h4 s' e2
    refine ⟨τ', ?_, h6⟩
    rw [List.map_cons, forD_cons h1 h3]
    rcases hf with rfl | rfl <;> exact h5
theorem forC_ok {g : FG} {f : FS} (en : α → D) (St : S → Tau → Prop) (Rt : ρ → Op → Tau → Prop) {b : α → S → Option (Ct ρ S)} (hb : ∀ x s τ, St s τ → ∃ τ2, g (en x) τ = some τ2 ∧ Im f τ2 (b x s) (FlR St Rt)) : ∀ (xs : List α) (s : S) (τ : Tau), St s τ → ∀ c, forC b xs s = some c → ∃ fl, forD g f (xs.map en) τ = some fl ∧ ((∃ s' τ', c = .nx s' ∧ fl = .nx τ' ∧ St s' τ') ∨ ∃ r o τ', c = .rt r ∧ fl = .rt o τ' ∧ Rt r o τ')
  | [], s, τ, h, c, e => by
    cases e
    exact ⟨_, rfl, .inl ⟨s, τ, rfl, rfl, h⟩⟩
  | x :: xs, s, τ, h, c, e => by
    obtain ⟨c1, e1, e2⟩ := bind_some' e
    obtain ⟨τ2, h1, h2⟩ := hb x s τ h
    obtain ⟨fl, h3, h4⟩ := h2 c1 e1
    rw [List.map_cons, forD_cons h1 h3]
    cases c1 with
    | nx s1 =>
      obtain ⟨τ3, hf, h4⟩ := h4
      obtain ⟨fl', h5, h6⟩ := forC_ok en St Rt hb xs s1 τ3 h4 c e2
      exact ⟨fl', by rcases hf with rfl | rfl <;> exact h5, h6⟩
    | bk s1 =>
      obtain ⟨τ3, rfl, h4⟩ := h4
      cases e2
      exact ⟨_, rfl, .inl ⟨s1, τ3, rfl, rfl, h4⟩⟩
    | rt r =>
      obtain ⟨o, τ3, rfl, h4⟩ := h4
      cases e2
      exact ⟨_, rfl, .inr ⟨r, o, τ3, rfl, rfl, h4⟩⟩
theorem im_for {w : FI} {g : FG} {f : FS} {xs : List α} (en : α → D) (St : S → Tau → Prop) {b : α → S → Option S} {s0 : S} {k : S → Option γ} (hw : w τ = some (xs.map en, τ1)) (h0 : St s0 τ1) (hb : ∀ x s τ, St s τ → ∃ τ2, g (en x) τ = some τ2 ∧ Im f τ2 (b x s) (FlS St))
    (hk : ∀ s τ, St s τ → Im G τ (k s) P) : Im (sSeq (sFor w g f) G) τ ((forS b xs s0).bind k) P := fun c e => by
  obtain ⟨s, e1, e2⟩ := bind_some' e
  obtain ⟨τ', h1, h2⟩ := forS_ok en St hb xs s0 τ1 h0 s e1
  exact im_seq (by unfold sFor; rw [hw]; exact h1) (hk s τ' h2) c e2
/-- behind a loop that may return -/
abbrev afC (k : S → Option γ) (kr : ρ → Option γ) (c : Ct ρ S) : Option γ := match c with
  | .nx s => k s
  | .bk s => k s
  | .rt r => kr r
theorem im_forC {w : FI} {g : FG} {f : FS} {xs : List α} (en : α → D) (St : S → Tau → Prop) (Rt : ρ → Op → Tau → Prop) {b : α → S → Option (Ct ρ S)} {s0 : S} {k : S → Option γ} {kr : ρ → Option γ} (hw : w τ = some (xs.map en, τ1)) (h0 : St s0 τ1) (hb : ∀ x s τ, St s τ → ∃ τ2, g (en x) τ = some τ2 ∧ Im f τ2 (b x s) (FlR St Rt))
    (hr : ∀ r o τ' c, Rt r o τ' → kr r = some c → P c (.rt o τ')) (hk : ∀ s τ, St s τ → Im G τ (k s) P) : Im (sSeq (sFor w g f) G) τ ((forC b xs s0).bind (afC k kr)) P := fun c e => by
  obtain ⟨c1, e1, e2⟩ := bind_some' e
  obtain ⟨fl, h1, h2⟩ := forC_ok en St Rt hb xs s0 τ1 h0 c1 e1
  have h3 : sFor w g f τ = some fl := by unfold sFor; rw [hw]; exact h1
  rcases h2 with ⟨s', τ', rfl, rfl, h4⟩ | ⟨r, o, τ', rfl, rfl, h4⟩
  · exact im_seq h3 (hk s' τ' h4) c e2
  · exact ⟨_, by unfold sSeq; rw [h3]; rfl, hr r o τ' c h4 e2⟩
/-! #### while -/
def whNC (ct : S → Option Bool) (b : S → Option (Ct ρ S)) : Nat → S → Option (Ct ρ S)
  | 0, _ => none
  | n + 1, s => (ct s).bind fun q => if q = true then (b s).bind fun c => match c with
      | .nx s1 => whNC ct b n s1
      | .bk s1 => some (.nx s1)
      | .rt r => some (.rt r)
    else some (.nx s)
theorem whNC_mono {ct : S → Option Bool} {b : S → Option (Ct ρ S)} : ∀ {n m : Nat} {s : S} {c : Ct ρ S}, n ≤ m → whNC ct b n s = some c → whNC ct b m s = some c
  | 0, _, _, _, _, h => by cases h
  | n + 1, 0, _, _, hl, _ => absurd hl (Nat.not_succ_le_zero n)
  | n + 1, m + 1, s, c, hl, h => by
    unfold whNC at h ⊢
    obtain ⟨q, e1, h⟩ := bind_some' h
    rw [e1]
    show (if q = true then _ else _) = _
    by_cases hq : q = true
    · rw [if_pos hq] at h ⊢
      obtain ⟨c1, e2, h⟩ := bind_some' h
      rw [e2]
      cases c1 with
      | nx s1 => exact whNC_mono (Nat.le_of_succ_le_succ hl) h
      | bk s1 => exact h
      | rt r => exact h
    · rw [if_neg hq] at h ⊢
      exact h
open Classical in
noncomputable def whC (ct : S → Option Bool) (b : S → Option (Ct ρ S)) (s : S) : Option (Ct ρ S) := if h : ∃ p : Nat × Ct ρ S, whNC ct b p.1 s = some p.2 then some (Classical.choose h).2 else none
theorem whC_get {ct : S → Option Bool} {b : S → Option (Ct ρ S)} {s : S} {c : Ct ρ S} (h : whC ct b s = some c) : ∃ n, whNC ct b n s = some c := by
  unfold whC at h
  split at h
  · rename_i z
    have := Classical.choose_spec z
    cases h
    exact ⟨_, this⟩
  · cases h
theorem whC_of {ct : S → Option Bool} {b : S → Option (Ct ρ S)} {s : S} {c : Ct ρ S} {n : Nat} (h : whNC ct b n s = some c) : whC ct b s = some c := by
  unfold whC
  have z : ∃ p : Nat × Ct ρ S, whNC ct b p.1 s = some p.2 := ⟨(n, c), h⟩
  rw [dif_pos z]
  have q := Classical.choose_spec z
  have h1 := whNC_mono (Nat.le_max_left n (Classical.choose z).1) h
  have h2 := whNC_mono (Nat.le_max_right n (Classical.choose z).1) q
  rw [h1] at h2
  exact h2.symm
theorem whC_eq (ct : S → Option Bool) (b : S → Option (Ct ρ S)) (s : S) : whC ct b s = (ct s).bind fun q => if q = true then (b s).bind fun c => match c with
      | .nx s1 => whC ct b s1
      | .bk s1 => some (.nx s1)
      | .rt r => some (.rt r)
    else some (.nx s) := by
  refine Option.ext fun c => ?_
  constructor
  · intro h
    obtain ⟨n, h⟩ := whC_get h
    cases n with
    | zero => cases h
    | succ n =>
      unfold whNC at h
      obtain ⟨q, e1, h⟩ := bind_some' h
      rw [e1]
      show (if q = true then _ else _) = _
      by_cases hq : q = true
      · rw [if_pos hq] at h ⊢
        obtain ⟨c1, e2, h⟩ := bind_some' h
        rw [e2]
        cases c1 with
        | nx s1 => exact whC_of h
        | bk s1 => exact h
        | rt r => exact h
      · rw [if_neg hq] at h ⊢
        exact h
  · intro h
    obtain ⟨q, e1, h⟩ := bind_some' h
    by_cases hq : q = true
    · rw [if_pos hq] at h
      obtain ⟨c1, e2, h⟩ := bind_some' h
      cases c1 with
      | nx s1 =>
        obtain ⟨n, hn⟩ := whC_get h
        refine whC_of (n := n + 1) ?_
        unfold whNC
        rw [e1]
        show (if q = true then _ else _) = _
        rw [if_pos hq, e2]
        exact hn
      | bk s1 =>
        refine whC_of (n := 1) ?_
        unfold whNC
        rw [e1]
        show (if q = true then _ else _) = _
        rw [if_pos hq, e2]
        exact h
      | rt r =>
        refine whC_of (n := 1) ?_
        unfold whNC
        rw [e1]
        show (if q = true then _ else _) = _
        rw [if_pos hq, e2]
        exact h
    · rw [if_neg hq] at h
      refine whC_of (n := 1) ?_
      unfold whNC
      rw [e1]
      show (if q = true then _ else _) = _
      rw [if_neg hq]
      exact h
theorem whC_ok {fc : FT} {f : FS} (St : S → Tau → Prop) (Rt : ρ → Op → Tau → Prop) {ct : S → Option Bool} {b : S → Option (Ct ρ S)} (hc : ∀ s τ, St s τ → ∀ q, ct s = some q → ∃ τ', fc τ = some (q, τ') ∧ St s τ') (hb : ∀ s τ, St s τ → Im f τ (b s) (FlR St Rt)) : ∀ (n : Nat) (s : S) (τ : Tau), St s τ → ∀ c, whNC ct b n s = some c → ∃ fl, sWh fc f τ = some fl ∧ ((∃ s' τ', c = .nx s' ∧ fl = .nx τ' ∧ St s' τ') ∨ ∃ r o τ', c = .rt r ∧ fl = .rt o τ' ∧ Rt r o τ')
  | 0, s, τ, h, c, e => by cases e
  | n + 1, s, τ, h, c, e => by
    unfold whNC at e
    obtain ⟨q, e1, e⟩ := bind_some' e
    obtain ⟨τ', h1, h2⟩ := hc s τ h q e1
    rw [sWh_eq, h1]
    cases q with
    | false =>
      cases e
      exact ⟨_, rfl, .inl ⟨s, τ', rfl, rfl, h2⟩⟩
    | true =>
      rw [if_pos rfl] at e
      obtain ⟨c1, e2, e⟩ := bind_some' e
      obtain ⟨fl, h3, h4⟩ := hb s τ' h2 c1 e2
      simp only [Option.bind_some, if_true, h3]
      cases c1 with
      | nx s1 =>
        obtain ⟨τ3, hf, h4⟩ := h4
        obtain ⟨fl', h5, h6⟩ := whC_ok St Rt hc hb n s1 τ3 h4 c e
        exact ⟨fl', by rcases hf with rfl | rfl <;> exact h5, h6⟩
      | bk s1 =>
        obtain ⟨τ3, rfl, h4⟩ := h4
        cases e
        exact ⟨_, rfl, .inl ⟨s1, τ3, rfl, rfl, h4⟩⟩
      | rt r =>
        obtain ⟨o, τ3, rfl, h4⟩ := h4
        cases e
        exact ⟨_, rfl, .inr ⟨r, o, τ3, rfl, rfl, h4⟩⟩
/-- a while that never returns -/
noncomputable def whS (ct : S → Option Bool) (b : S → Option S) (s : S) : Option S := (whC (ρ := Empty) ct (fun s => (b s).map Ct.nx) s).bind fun c => match c with
  | .nx s => some s
  | .bk s => some s
  | .rt r => nomatch r
theorem whS_eq (ct : S → Option Bool) (b : S → Option S) (s : S) : whS ct b s = (ct s).bind fun q => if q = true then (b s).bind fun s1 => whS ct b s1 else some s := by
  unfold whS
  rw [whC_eq]
  cases ct s with
  | none => rfl
  | some q =>
    show Option.bind (if q = true then _ else _) _ = if q = true then _ else _
    cases q with
    | false => rfl
    | true =>
      rw [if_pos rfl, if_pos rfl]
      cases b s with
      | none => rfl
      | some s1 => rfl
theorem im_wh {fc : FT} {f : FS} (St : S → Tau → Prop) {ct : S → Option Bool} {b : S → Option S} {s0 : S} {k : S → Option γ} (h0 : St s0 τ) (hc : ∀ s τ, St s τ → ∀ q, ct s = some q → ∃ τ', fc τ = some (q, τ') ∧ St s τ') (hb : ∀ s τ, St s τ → Im f τ (b s) (FlS St))
    (hk : ∀ s τ, St s τ → Im G τ (k s) P) : Im (sSeq (sWh fc f) G) τ ((whS ct b s0).bind k) P := fun c e => by
  obtain ⟨s, e1, e2⟩ := bind_some' e
  unfold whS at e1
  obtain ⟨c1, e3, e4⟩ := bind_some' e1
  obtain ⟨n, e5⟩ := whC_get e3
  obtain ⟨fl, h1, h2⟩ := whC_ok (ρ := Empty) (fc := fc) (f := f) St (fun _ _ _ => False) hc (fun s τ h c e => by
    obtain ⟨s1, e6, rfl⟩ := Option.map_eq_some_iff.mp e
    exact hb s τ h s1 e6) n s0 τ h0 c1 e5
  rcases h2 with ⟨s', τ', rfl, rfl, h4⟩ | ⟨r, _⟩
  · cases e4
    exact im_seq h1 (hk _ τ' h4) c e2
  · exact nomatch r
theorem im_whC {fc : FT} {f : FS} (St : S → Tau → Prop) (Rt : ρ → Op → Tau → Prop) {ct : S → Option Bool} {b : S → Option (Ct ρ S)} {s0 : S} {k : S → Option γ} {kr : ρ → Option γ} (h0 : St s0 τ) (hc : ∀ s τ, St s τ → ∀ q, ct s = some q → ∃ τ', fc τ = some (q, τ') ∧ St s τ') (hb : ∀ s τ, St s τ → Im f τ (b s) (FlR St Rt))
    (hr : ∀ r o τ' c, Rt r o τ' → kr r = some c → P c (.rt o τ')) (hk : ∀ s τ, St s τ → Im G τ (k s) P) : Im (sSeq (sWh fc f) G) τ ((whC ct b s0).bind (afC k kr)) P := fun c e => by
  obtain ⟨c1, e1, e2⟩ := bind_some' e
  obtain ⟨n, e5⟩ := whC_get e1
  obtain ⟨fl, h1, h2⟩ := whC_ok (fc := fc) (f := f) St Rt hc hb n s0 τ h0 c1 e5
  rcases h2 with ⟨s', τ', rfl, rfl, h4⟩ | ⟨r, o, τ', rfl, rfl, h4⟩
  · exact im_seq h1 (hk s' τ' h4) c e2
  · exact ⟨_, by unfold sSeq; rw [h1]; rfl, hr r o τ' c h4 e2⟩
end

/-! #### a def -/
def RtR {ρ : Type} (b : Bool) (own : ρ → Bool → Prop) (en io : ρ → D) (r : ρ) (o : Op) (τ : Tau) : Prop := ∃ w, own r w ∧ finF b τ o = some (w, en r, io r)
def FinR {ρ : Type} (b : Bool) (own : ρ → Bool → Prop) (en io : ρ → D) (r : ρ) (fl : Flow) : Prop := match fl with
  | .nx τ => ∃ w, own r w ∧ finF b τ (.val .non) = some (w, en r, io r)
  | .rt o τ => ∃ w, own r w ∧ finF b τ o = some (w, en r, io r)
  | _ => False
theorem im_run {ρ : Type} {b : Bool} {n np : Nat} {F : FS} {ds : List D} {own : ρ → Bool → Prop} {en io : ρ → D} {t : Option ρ} {r : ρ} {τ : Tau} (ht : t = some r) (hl : ds.length = np) (hi : ini b n ds = τ) (h : Im F τ t (FinR b own en io)) : ∃ w, own r w ∧ runF b n np F ds = some (w, en r, io r) := by
  obtain ⟨fl, h1, h2⟩ := h r ht
  unfold runF
  rw [if_pos hl, hi, h1]
  cases fl with
  | nx τ => exact h2
  | rt o τ => exact h2
  | bk τ => exact h2.elim
  | ct τ => exact h2.elim
theorem im_def {ρ : Type} (b : Bool) (n np : Nat) {F : FS} {ds : List D} (own : Bool) (en io : ρ → D) {t : Option ρ} {r : ρ} {τ : Tau} {m : Mir} (hm : m = runF b n np F) (ht : t = some r) (hl : ds.length = np) (hi : ini b n ds = τ) (h : Im F τ t (FinR b (fun _ w => w = own) en io)) : m ds = some (own, en r, io r) := by
  subst hm
  obtain ⟨w, rfl, e⟩ := im_run ht hl hi h
  exact e
theorem im_defX {ρ : Type} (b : Bool) (n np : Nat) {F : FS} {ds : List D} (en io : ρ → D) {t : Option ρ} {r : ρ} {τ : Tau} {m : Mir} (hm : m = runF b n np F) (ht : t = some r) (hl : ds.length = np) (hi : ini b n ds = τ) (h : Im F τ t (FinR b (fun _ _ => True) en io)) : ∃ w, m ds = some (w, en r, io r) := by
  subst hm
  obtain ⟨w, _, e⟩ := im_run ht hl hi h
  exact ⟨w, e⟩
theorem own_f {ρ : Type} {own : Bool} {r : ρ} {m : Mir} {ds : List D} {en io : ρ → D} (h : ∃ w, w = own ∧ m ds = some (w, en r, io r)) : m ds = some (own, en r, io r) := by
  obtain ⟨w, rfl, h⟩ := h
  exact h

/-! #### expressions -/
section
variable {g : G2} {fa fb fe fo fi : FE} {τ τ1 τ2 τ3 : Tau} {a b o : Op} {x y z d : D} {ds : List D} {ops : List Op} {m : Mir} {own : Bool} {z0 : D} {fs : FA} {fp : FP}
theorem ie_bin (ha : fa τ = some (a, τ1)) (hb : fb τ1 = some (b, τ2)) (hg : g x y = some o) (hx : deref τ2 a = some x := by rfl) (hy : deref τ2 b = some y := by rfl) : fBin g fa fb τ = some (o, τ2) := by
  simp only [fBin, ha, hb, hx, hy, hg, Option.bind_some]
theorem ie_un {g : D → Option Op} (ha : fa τ = some (a, τ1)) (hg : g x = some o) (hx : deref τ1 a = some x := by rfl) : fUn g fa τ = some (o, τ1) := by
  simp only [fUn, ha, hx, hg, Option.bind_some]
theorem ie_call (ha : fs τ = some (ds, τ1)) (hm : m ds = some (own, z, z0)) : fCall m fs τ = some (mkOp own z, τ1) := by
  simp only [fCall, ha, hm, Option.bind_some]
theorem ie_callIo {i : Nat} {d0 : D} (he : fe τ = some (.slot i, τ1)) (ha : fs τ1 = some (ds, τ2)) (hm : m (d0 :: ds) = some (own, z, z0)) (hi : τ2[i]? = some (some (.ow d0)) := by rfl) : fCallIo m fe fs τ = some (mkOp own z, τ2.set i (some (.ow z0))) := by
  simp only [fCallIo, he, ha, Option.bind_some, ioCall, hi, hm]
theorem ie_callIoE {i : Nat} {d0 : D} {r : Op} (he : fe τ = some (.slot i, τ1)) (ha : fs τ1 = some (ds, τ2)) (hm : m (d0 :: ds) = some (own, z, z0)) (hi : τ2[i]? = some (some (.ow d0)) := by rfl) (e1 : mkOp own z = r := by rfl) (e2 : τ2.set i (some (.ow z0)) = τ3 := by rfl) : fCallIo m fe fs τ = some (r, τ3) := by
  rw [← e1, ← e2]; exact ie_callIo he ha hm hi
theorem ie_callIoT {d0 : D} (he : fe τ = some (.tmp d0, τ1)) (ha : fs τ1 = some (ds, τ2)) (hm : m (d0 :: ds) = some (own, z, z0)) : fCallIo m fe fs τ = some (mkOp own z, τ2) := by
  simp only [fCallIo, he, ha, Option.bind_some, ioCall, hm]
theorem ia_cons (he : fe τ = some (o, τ1)) (hf : fz τ1 o = some (d, τ2)) (hr : fs τ2 = some (ds, τ3)) : aCons fe fs τ = some (d :: ds, τ3) := by
  simp only [aCons, he, hf, hr, Option.bind_some]
theorem ip_cons (he : fe τ = some (o, τ1)) (hr : fp τ1 = some (ops, τ2)) : pCons fe fp τ = some (o :: ops, τ2) := by
  simp only [pCons, he, hr, Option.bind_some]
theorem ie_tup (ha : fs τ = some (ds, τ1)) (hl : ds.length ≤ 16777216 := by simp) : fTup fs τ = some (.val (.tup ds), τ1) := by
  simp only [fTup, ha, Option.bind_some, hl, if_true]
theorem ie_lst (ha : fs τ = some (ds, τ1)) (hl : ds.length ≤ 16777216 := by simp) : fLst fs τ = some (.tmp (.lst ds), τ1) := by
  simp only [fLst, ha, Option.bind_some, hl, if_true]
theorem ie_cb {g : List D → Option Op} (ha : fp τ = some (ops, τ1)) (hg : g ds = some o) (hd : derefL τ1 ops = some ds := by rfl) : fCB g fp τ = some (o, τ1) := by
  simp only [fCB, ha, hd, hg, Option.bind_some]
theorem ie_isi {tn : String} (ha : fe τ = some (a, τ1)) (hg : gIsi tn x = some o) (hx : deref τ1 a = some x := by rfl) : fIsi tn fe τ = some (o, τ1) := ie_un ha hg hx
theorem ie_isC {yes no : List String} (ha : fe τ = some (a, τ1)) (hg : gIsC yes no x = some o) (hx : deref τ1 a = some x := by rfl) : fIsC yes no fe τ = some (o, τ1) := ie_un ha hg hx
theorem ie_meth {cn mn : String} (he : fe τ = some (o, τ1)) (hf : fz τ1 o = some (d, τ2)) (ha : fs τ2 = some (ds, τ3)) (hm : m (d :: ds) = some (own, z, z0)) (hi : insOk cn mn d = true) : fMeth cn mn m fe fs τ = some (mkOp own z, τ3) := by
  simp only [fMeth, he, hf, hi, if_true, ha, hm, Option.bind_some]
theorem ie_methIo {cn mn : String} {i : Nat} {d0 : D} (he : fe τ = some (.slot i, τ1)) (ha : fs τ1 = some (ds, τ2)) (hm : m (d0 :: ds) = some (own, z, z0)) (hi : insOk cn mn d = true) (hx : deref τ1 (.slot i) = some d := by rfl) (h2 : τ2[i]? = some (some (.ow d0)) := by rfl) : fMethIo cn mn m fe fs τ = some (mkOp own z, τ2.set i (some (.ow z0))) := by
  simp only [fMethIo, he, hx, hi, if_true, ha, Option.bind_some, ioCall, h2, hm]
theorem ie_make {cn : String} (ha : fs τ = some (ds, τ1)) (hm : m (.ins cn [] :: ds) = some (false, .non, z)) : fMake cn m fs τ = some (.tmp z, τ1) := by
  simp only [fMake, ha, hm, Option.bind_some]
theorem ie_prop {cn : String} (he : fe τ = some (o, τ1)) (hf : fz τ1 o = some (d, τ2)) (hm : m [d] = some (own, z, z0)) (hi : insC cn d = true) : fProp cn m fe τ = some (mkOp own z, τ2) := by
  simp only [fProp, he, hf, hi, if_true, hm, Option.bind_some]
def fldD (cs : List String) (n : String) : D → Option D
  | .ins c fds => if c ∈ cs then fds.lookup n else none
  | _ => none
theorem ie_fld {cs : List String} {n : String} (he : fe τ = some (o, τ1)) (hf : fldD cs n d = some z) (hx : deref τ1 o = some d := by rfl) : fFld cs n fe τ = some (.val z, τ1) := by
  cases d <;> first | (cases hf; done) | skip
  rename_i c fds
  unfold fldD at hf
  dsimp only at hf
  by_cases hc : c ∈ cs
  · rw [if_pos hc] at hf
    simp only [fFld, he, hx, Option.bind_some, hc, if_true, hf]
  · rw [if_neg hc] at hf; cases hf
theorem ie_binF {τ4 : Tau} (ha : fa τ = some (a, τ1)) (hx : fz τ1 a = some (x, τ2)) (hb : fb τ2 = some (b, τ3)) (hy : fz τ3 b = some (y, τ4)) (hg : g x y = some o) : fBinF g fa fb τ = some (o, τ4) := by
  simp only [fBinF, ha, hb, hx, hy, hg, Option.bind_some]
theorem gM2_ok {cn : String} (hm : m [x, y] = some (own, z, z0)) (h1 : insC cn x = true) (h2 : insC cn y = true) : gM2 cn m x y = some (mkOp own z) := by
  simp only [gM2, h1, h2, and_self, if_true, hm, Option.bind_some]
theorem gEqM_ok {cn : String} (hm : m [x, y] = some (own, z, z0)) (h1 : insC cn x = true) (h2 : insC cn y = true) : gEqM cn m x y = some (mkOp own z) := by
  simp only [gEqM, h1, h2, and_self, if_true, hm, Option.bind_some]
/-! ##### short circuits, conditional parts -/
theorem ie_andV {p q : Bool} (ha : fa τ = some (a, τ1)) (hb : fb τ1 = some (.val (.bl q), τ1)) (hd : deref τ1 a = some (.bl p) := by rfl) : fAndV fa fb τ = some (.val (.bl (p && q)), τ1) := by
  simp only [fAndV, ha, hd, Option.bind_some]
  cases p
  · rfl
  · exact hb
theorem ie_orV {p q : Bool} (ha : fa τ = some (a, τ1)) (hb : fb τ1 = some (.val (.bl q), τ1)) (hd : deref τ1 a = some (.bl p) := by rfl) : fOrV fa fb τ = some (.val (.bl (p || q)), τ1) := by
  simp only [fOrV, ha, hd, Option.bind_some]
  cases p
  · exact hb
  · rfl
theorem ie_andP {p c : Bool} {t : Option Bool} (h : (if p = true then t else some false) = some c) (ha : fa τ = some (a, τ1)) (hb : ∀ c, t = some c → fb τ1 = some (.val (.bl c), τ1)) (hd : deref τ1 a = some (.bl p) := by rfl) : fAndV fa fb τ = some (.val (.bl c), τ1) := by
  simp only [fAndV, ha, hd, Option.bind_some]
  cases p
  · cases h; rfl
  · exact hb c h
theorem ie_orP {p c : Bool} {t : Option Bool} (h : (if p = true then some true else t) = some c) (ha : fa τ = some (a, τ1)) (hb : ∀ c, t = some c → fb τ1 = some (.val (.bl c), τ1)) (hd : deref τ1 a = some (.bl p) := by rfl) : fOrV fa fb τ = some (.val (.bl c), τ1) := by
  simp only [fOrV, ha, hd, Option.bind_some]
  cases p
  · exact hb c h
  · cases h; rfl
theorem ie_notV {p : Bool} (ha : fa τ = some (a, τ1)) (hd : deref τ1 a = some (.bl p) := by rfl) : fNotV fa τ = some (.val (.bl (!p)), τ1) := by
  simp only [fNotV, ha, hd, Option.bind_some]
theorem ie_ifE {ft : FT} {p : Bool} {α : Type} {x y : α} (mk : α → Op) (hc : ft τ = some (p, τ1)) (h1 : fa τ1 = some (mk x, τ1)) (h2 : fb τ1 = some (mk y, τ1)) : fIfE ft fa fb τ = some (mk (if p = true then x else y), τ1) := by
  simp only [fIfE, hc, Option.bind_some]
  cases p
  · exact h2
  · exact h1
theorem ie_ifP {ft : FT} {p : Bool} {α : Type} {t u : Option α} {c : α} (mk : α → Op) (st : α → Tau) (h : (if p = true then t else u) = some c) (hc : ft τ = some (p, τ1)) (h1 : ∀ c, t = some c → fa τ1 = some (mk c, st c)) (h2 : ∀ c, u = some c → fb τ1 = some (mk c, st c)) : fIfE ft fa fb τ = some (mk c, st c) := by
  simp only [fIfE, hc, Option.bind_some]
  cases p
  · exact h2 c h
  · exact h1 c h
/-! ##### tests -/
theorem it_tb {p : Bool} (ha : fe τ = some (o, τ1)) (hd : deref τ1 o = some (.bl p) := by rfl) : fTB fe τ = some (p, τ1) := by
  simp only [fTB, ha, hd, Option.bind_some]
theorem it_not {ft : FT} {p : Bool} (h : ft τ = some (p, τ1)) : fNot ft τ = some (!p, τ1) := by
  simp only [fNot, h, Option.bind_some]
theorem it_and {ft gt : FT} {p q : Bool} (h1 : ft τ = some (p, τ1)) (h2 : gt τ1 = some (q, τ1)) : fAnd ft gt τ = some (p && q, τ1) := by
  simp only [fAnd, h1, Option.bind_some]
  cases p
  · rfl
  · exact h2
theorem it_or {ft gt : FT} {p q : Bool} (h1 : ft τ = some (p, τ1)) (h2 : gt τ1 = some (q, τ1)) : fOr ft gt τ = some (p || q, τ1) := by
  simp only [fOr, h1, Option.bind_some]
  cases p
  · exact h2
  · rfl
theorem it_andP {ft gt : FT} {p c : Bool} {t : Option Bool} (h : (if p = true then t else some false) = some c) (h1 : ft τ = some (p, τ1)) (h2 : ∀ c, t = some c → gt τ1 = some (c, τ1)) : fAnd ft gt τ = some (c, τ1) := by
  simp only [fAnd, h1, Option.bind_some]
  cases p
  · cases h; rfl
  · exact h2 c h
theorem it_orP {ft gt : FT} {p c : Bool} {t : Option Bool} (h : (if p = true then some true else t) = some c) (h1 : ft τ = some (p, τ1)) (h2 : ∀ c, t = some c → gt τ1 = some (c, τ1)) : fOr ft gt τ = some (c, τ1) := by
  simp only [fOr, h1, Option.bind_some]
  cases p
  · exact h2 c h
  · cases h; rfl
/-! ##### statements -/
theorem is_set {i : Nat} (h : fe τ = some (o, τ1)) (hs : stOp i o τ1 = some τ2 := by rfl) : sSet i fe τ = some (.nx τ2) := by
  simp only [sSet, h, hs, Option.bind_some]
theorem is_setF {i : Nat} (h : fe τ = some (o, τ1)) (hf : fz τ1 o = some (d, τ2) := by rfl) : sSetF i fe τ = some (.nx (τ2.set i (some (.sh d)))) := by
  simp only [sSetF, h, hf, Option.bind_some]
theorem it_andS {σ : Type} {ft gt : FT} {p : Bool} {t : Option (Bool × σ)} {c : Bool × σ} (s0 : σ) (st : σ → Tau) (h : (if p = true then t else some (false, s0)) = some c) (h1 : ft τ = some (p, st s0)) (h2 : ∀ c, t = some c → gt (st s0) = some (c.1, st c.2)) : fAnd ft gt τ = some (c.1, st c.2) := by
  simp only [fAnd, h1, Option.bind_some]
  cases p
  · cases h; rfl
  · exact h2 c h
theorem it_orS {σ : Type} {ft gt : FT} {p : Bool} {t : Option (Bool × σ)} {c : Bool × σ} (s0 : σ) (st : σ → Tau) (h : (if p = true then some (true, s0) else t) = some c) (h1 : ft τ = some (p, st s0)) (h2 : ∀ c, t = some c → gt (st s0) = some (c.1, st c.2)) : fOr ft gt τ = some (c.1, st c.2) := by
  simp only [fOr, h1, Option.bind_some]
  cases p
  · exact h2 c h
  · cases h; rfl
theorem ie_andS {σ : Type} {p : Bool} {t : Option (Bool × σ)} {c : Bool × σ} (s0 : σ) (st : σ → Tau) (h : (if p = true then t else some (false, s0)) = some c) (ha : fa τ = some (a, st s0)) (hb : ∀ c, t = some c → fb (st s0) = some (.val (.bl c.1), st c.2)) (hd : deref (st s0) a = some (.bl p) := by rfl) : fAndV fa fb τ = some (.val (.bl c.1), st c.2) := by
  simp only [fAndV, ha, hd, Option.bind_some]
  cases p
  · cases h; rfl
  · exact hb c h
theorem ie_orS {σ : Type} {p : Bool} {t : Option (Bool × σ)} {c : Bool × σ} (s0 : σ) (st : σ → Tau) (h : (if p = true then some (true, s0) else t) = some c) (ha : fa τ = some (a, st s0)) (hb : ∀ c, t = some c → fb (st s0) = some (.val (.bl c.1), st c.2)) (hd : deref (st s0) a = some (.bl p) := by rfl) : fOrV fa fb τ = some (.val (.bl c.1), st c.2) := by
  simp only [fOrV, ha, hd, Option.bind_some]
  cases p
  · exact hb c h
  · cases h; rfl
theorem is_ret (h : fe τ = some (o, τ1)) : sRet fe τ = some (.rt o τ1) := by
  simp only [sRet, h, Option.bind_some]
theorem is_expr (h : fe τ = some (o, τ1)) : sExpr fe τ = some (.nx τ1) := by
  simp only [sExpr, h, Option.bind_some]
theorem is_par {is : List Nat} (h : fs τ = some (ds, τ1)) (hs : setAll is ds τ1 = some τ2 := by rfl) : sPar is fs τ = some (.nx τ2) := by
  simp only [sPar, h, hs, Option.bind_some]
theorem is_unp {fg : FG} (h : fe τ = some (o, τ1)) (hf : fz τ1 o = some (d, τ2)) (hs : fg d τ2 = some τ3) : sUnp fe fg τ = some (.nx τ3) := by
  simp only [sUnp, h, hf, hs, Option.bind_some]
theorem is_aug {i : Nat} (h : fe τ = some (o, τ1)) (hg : g x y = some (.val z)) (h0 : τ[i]? = some (some (.sh x)) := by rfl) (hy : deref τ1 o = some y := by rfl) : sAug i g fe τ = some (.nx (τ1.set i (some (.sh z)))) := by
  simp only [sAug, h0, h, hy, hg, Option.bind_some]
theorem is_fld {cs : List String} {n : String} {τ4 : Tau} (h : fe τ = some (o, τ1)) (hf : fz τ1 o = some (d, τ2)) (ho : fo τ2 = some (a, τ3)) (hp : putAt cs n d a τ3 = some τ4) : sFldS cs n fo fe τ = some (.nx τ4) := by
  simp only [sFldS, h, hf, ho, hp, Option.bind_some]
theorem is_setIx {k : Op} {i : Int} {τ4 τ5 : Tau} (h : fe τ = some (o, τ1)) (hf : fz τ1 o = some (d, τ2)) (ho : fo τ2 = some (a, τ3)) (hi : fi τ3 = some (k, τ4)) (hs : setAt a i d τ4 = some τ5) (hd : deref τ4 k = some (.int i) := by rfl) : sSetIx fo fi fe τ = some (.nx τ5) := by
  simp only [sSetIx, h, hf, ho, hi, hd, hs, Option.bind_some]
theorem ie_app {i : Nat} {l ls : List D} (ho : fo τ = some (.slot i, τ1)) (he : fe τ1 = some (a, τ2)) (hl : ls.length < 16777216) (h0 : owL τ1 (.slot i) = some (i, l) := by rfl) (hf : fz τ2 a = some (d, τ3) := by rfl) (h1 : owL τ3 (.slot i) = some (i, ls) := by rfl) : fApp fo fe τ = some (.val .non, τ3.set i (some (.ow (.lst (ls ++ [d]))))) := by
  simp only [fApp, ho, h0, he, hf, h1, hl, if_true, Option.bind_some]
end

/-! #### typed operations -/
def mulT (i j : Int) : Option Int := if mulOk i j = true then some (i * j) else none
def divT (i j : Int) : Option Int := if divOk j = true then some (i / j) else none
def modT (i j : Int) : Option Int := if 0 < j then some (i % j) else none
def powT (i j : Int) : Option Int := if powOk i j = true then some (i ^ j.toNat) else none
theorem gMul_t {i j k : Int} (h : mulT i j = some k) : gMul (.int i) (.int j) = some (.val (.int k)) := by
  obtain ⟨h1, rfl⟩ := if_get h
  simp [gMul, gI, h1]
theorem gDiv_t {i j k : Int} (h : divT i j = some k) : gDiv (.int i) (.int j) = some (.val (.int k)) := by
  obtain ⟨h1, rfl⟩ := if_get h
  simp [gDiv, gI, h1]
theorem gMod_t {i j k : Int} (h : modT i j = some k) : gMod (.int i) (.int j) = some (.val (.int k)) := by
  obtain ⟨h1, rfl⟩ := if_get h
  simp [gMod, gI, h1]
theorem gPow_t {i j k : Int} (h : powT i j = some k) : gPow (.int i) (.int j) = some (.val (.int k)) := by
  obtain ⟨h1, rfl⟩ := if_get h
  simp [gPow, gI, h1]
theorem mulOk_L {i j : Int} (h : i.natAbs < 2 ^ 64) : mulOk i j = true := by
  have h1 : Builtin.Int.intBits i ≤ 64 := by
    unfold Builtin.Int.intBits
    split
    · omega
    · rename_i hi
      have h0 : i.natAbs ≠ 0 := by simpa using hi
      have := (Nat.log2_lt h0).mpr h
      omega
  unfold mulOk
  rw [Bool.not_eq_true', Bool.and_eq_false_iff, Bool.and_eq_false_iff]
  exact .inl (.inl (decide_eq_false (Nat.not_lt.mpr h1)))
theorem mulOk_R {i j : Int} (h : j.natAbs < 2 ^ 64) : mulOk i j = true := by
  have h1 : Builtin.Int.intBits j ≤ 64 := by
    unfold Builtin.Int.intBits
    split
    · omega
    · rename_i hi
      have h0 : j.natAbs ≠ 0 := by simpa using hi
      have := (Nat.log2_lt h0).mpr h
      omega
  unfold mulOk
  rw [Bool.not_eq_true', Bool.and_eq_false_iff, Bool.and_eq_false_iff]
  exact .inl (.inr (decide_eq_false (Nat.not_lt.mpr h1)))
theorem gMul_L {i j : Int} (h : i.natAbs < 2 ^ 64 := by decide) : gMul (.int i) (.int j) = some (.val (.int (i * j))) := gMul_t (by unfold mulT; rw [if_pos (mulOk_L h)])
theorem gMul_R {i j : Int} (h : j.natAbs < 2 ^ 64 := by decide) : gMul (.int i) (.int j) = some (.val (.int (i * j))) := gMul_t (by unfold mulT; rw [if_pos (mulOk_R h)])
theorem gMul_k {i j k : Int} (h : mulOk i j = true := by decide +kernel) (e : i * j = k := by decide +kernel) : gMul (.int i) (.int j) = some (.val (.int k)) := gMul_t (by unfold mulT; rw [if_pos h, e])
theorem gDiv_k {i j : Int} (h : divOk j = true := by decide +kernel) : gDiv (.int i) (.int j) = some (.val (.int (i / j))) := gDiv_t (by unfold divT; rw [if_pos h])
theorem gMod_k {i j : Int} (h : 0 < j := by decide) : gMod (.int i) (.int j) = some (.val (.int (i % j))) := gMod_t (by unfold modT; rw [if_pos h])
theorem gPow_k {i j k : Int} (h : powOk i j = true := by decide +kernel) (e : i ^ j.toNat = k := by decide +kernel) : gPow (.int i) (.int j) = some (.val (.int k)) := gPow_t (by unfold powT; rw [if_pos h, e])
def absT (i : Int) : Int := if i < 0 then -i else i
def maxT (i j : Int) : Int := if j > i then j else i
def minT (i j : Int) : Int := if j < i then j else i
def b2i (b : Bool) : Int := if b = true then 1 else 0
section
variable {α β : Type} {e : α → D} {xs : List α} {i : Int} {x : α}
theorem atI_map : atI (xs.map e) i = (atI xs i).map e := by
  unfold atI
  rw [List.length_map]
  cases ixN xs.length i with
  | none => rfl
  | some k => simp
theorem gIx_l (h : atI xs i = some x) : gIx (eL e xs) (.int i) = some (.val (e x)) := by
  show (atI (xs.map e) i).map Op.val = _
  rw [atI_map, h]; rfl
theorem gIx_t (h : atI xs i = some x) : gIx (eTl e xs) (.int i) = some (.val (e x)) := by
  show (atI (xs.map e) i).map Op.val = _
  rw [atI_map, h]; rfl
theorem gLen_l : gLen [eL e xs] = some (.val (.int (xs.length : Nat))) := by
  show some (Op.val (.int ((xs.map e).length : Nat))) = _
  rw [List.length_map]
theorem gLen_t : gLen [eTl e xs] = some (.val (.int (xs.length : Nat))) := by
  show some (Op.val (.int ((xs.map e).length : Nat))) = _
  rw [List.length_map]
theorem cutD_map (lo hi : Option Int) : cutD (xs.map e) lo hi = (cutD xs lo hi).map e := by
  unfold cutD
  rw [List.length_map, ← List.map_drop, ← List.map_take]
theorem setAt_l {k : Nat} {τ : Tau} {j : Nat} (h : ixN xs.length i = some j) (hk : τ[k]? = some (some (.ow (eL e xs)))) : setAt (.slot k) i (e x) τ = some (τ.set k (some (.ow (eL e (xs.set j x))))) := by
  unfold setAt
  dsimp only
  rw [hk]
  dsimp only
  rw [List.length_map, h]
  unfold eL
  rw [List.map_set]
  rfl
end
def setT {α : Type} (xs : List α) (i : Int) (x : α) : Option (List α) := (ixN xs.length i).bind fun j => some (xs.set j x)
theorem setT_ok {α : Type} {e : α → D} {xs ys : List α} {i : Int} {x : α} {k : Nat} {τ : Tau} (h : setT xs i x = some ys) (hk : τ[k]? = some (some (.ow (eL e xs))) := by rfl) : setAt (.slot k) i (e x) τ = some (τ.set k (some (.ow (eL e ys)))) := by
  obtain ⟨j, h1, h2⟩ := bind_some' h
  cases h2
  exact setAt_l h1 hk
def appT {α : Type} (xs : List α) (x : α) : Option (List α) := if xs.length < 16777216 then some (xs ++ [x]) else none
theorem ie_appT {α : Type} {e : α → D} {xs ys : List α} {x : α} {fo fe : FE} {τ τ1 τ2 τ3 : Tau} {i : Nat} {a : Op} {l : List D} (h : appT xs x = some ys) (ho : fo τ = some (.slot i, τ1)) (he : fe τ1 = some (a, τ2)) (hf : fz τ2 a = some (e x, τ3)) (h0 : owL τ1 (.slot i) = some (i, l) := by rfl) (h1 : τ3[i]? = some (some (.ow (eL e xs))) := by rfl) : fApp fo fe τ = some (.val .non, τ3.set i (some (.ow (eL e ys)))) := by
  obtain ⟨h2, rfl⟩ := if_get h
  rw [ie_app (ls := xs.map e) ho he (by rw [List.length_map]; exact h2) h0 hf (by unfold owL; dsimp only; rw [h1]), show eL e (xs ++ [x]) = .lst (xs.map e ++ [e x]) by unfold eL; rw [List.map_append]; rfl]
/-! ##### ranges -/
def rgI (lo hi : Int) : List Int := (List.range (hi - lo).toNat).map fun (i : Nat) => lo + (i : Int)
theorem rngD_rg (lo hi : Int) : rngD lo hi = (rgI lo hi).map D.int := by
  unfold rngD rgI
  rw [List.map_map]
  rfl
def rgT (lo hi : Int) : Option (List Int) := if rngOk lo = true ∧ rngOk hi = true then some (rgI lo hi) else none
theorem ii_r1 {fp : FP} {τ τ1 : Tau} {ops : List Op} {j : Int} {xs : List Int} (h : rgT 0 j = some xs) (ha : fp τ = some (ops, τ1)) (hd : derefL τ1 ops = some [.int j] := by rfl) : iR1 fp τ = some (xs.map D.int, τ1) := by
  obtain ⟨⟨h0, h1⟩, rfl⟩ := if_get h
  simp only [iR1, ha, hd, Option.bind_some, h1, if_true, rngD_rg]
theorem ii_r2 {fp : FP} {τ τ1 : Tau} {ops : List Op} {i j : Int} {xs : List Int} (h : rgT i j = some xs) (ha : fp τ = some (ops, τ1)) (hd : derefL τ1 ops = some [.int i, .int j] := by rfl) : iR2 fp τ = some (xs.map D.int, τ1) := by
  obtain ⟨⟨h0, h1⟩, rfl⟩ := if_get h
  simp only [iR2, ha, hd, Option.bind_some, h1, h0, and_self, if_true, rngD_rg]
theorem ii_sq {fe : FE} {τ τ1 τ2 : Tau} {o : Op} {ds : List D} (ha : fe τ = some (o, τ1)) (hf : fz τ1 o = some (.lst ds, τ2) := by rfl) : iSq fe τ = some (ds, τ2) := by
  simp only [iSq, ha, hf, Option.bind_some]
theorem ii_sqT {fe : FE} {τ τ1 τ2 : Tau} {o : Op} {ds : List D} (ha : fe τ = some (o, τ1)) (hf : fz τ1 o = some (.tup ds, τ2) := by rfl) : iSq fe τ = some (ds, τ2) := by
  simp only [iSq, ha, hf, Option.bind_some]
/-! ##### comprehensions -/
def mapP {α β : Type} (f : α → β) (xs : List α) : Option (List β) := if xs.length ≤ 16777216 then some (xs.map f) else none
def lcP {α β : Type} (p : α → Bool) (f : α → β) (xs : List α) : Option (List β) := if xs.length ≤ 16777216 then some ((xs.filter p).map f) else none
def lcO' {α β : Type} (p : α → Option Bool) (f : α → Option β) : List α → Option (List β)
  | [] => some []
  | x :: xs => (p x).bind fun b => if b = true then (f x).bind fun y => (lcO' p f xs).bind fun ys => some (y :: ys) else lcO' p f xs
def lcO {α β : Type} (p : α → Option Bool) (f : α → Option β) (xs : List α) : Option (List β) := if xs.length ≤ 16777216 then lcO' p f xs else none
/-- with a state that the turns change -/
def lcS' {α β S : Type} (p : α → S → Option (Bool × S)) (f : α → S → Option (β × S)) : List α → S → Option (List β × S)
  | [], s => some ([], s)
  | x :: xs, s => (p x s).bind fun b => if b.1 = true then (f x b.2).bind fun y => (lcS' p f xs y.2).bind fun ys => some (y.1 :: ys.1, ys.2) else lcS' p f xs b.2
def lcS {α β S : Type} (p : α → S → Option (Bool × S)) (f : α → S → Option (β × S)) (xs : List α) (s : S) : Option (List β × S) := if xs.length ≤ 16777216 then lcS' p f xs s else none
section
variable {α β S : Type} {own : List Nat} {g : FG} {ft : FT} {fe : FE} {w : FI} {τ τ1 : Tau}
theorem lcO'_ok (en : α → D) (e : β → D) {p : α → Option Bool} {f : α → Option β} : ∀ (xs : List α) (ys : List β) (acc : List D), acc.length + xs.length ≤ 16777216 →
    (∀ x, ∃ τ2, g (en x) (wipeT own τ) = some τ2 ∧ backT own τ τ2 = τ ∧ ∀ b, p x = some b → ft τ2 = some (b, τ2) ∧ (b = true → ∀ y, f x = some y → ∃ o, fe τ2 = some (o, τ2) ∧ fz τ2 o = some (e y, τ2))) →
    lcO' p f xs = some ys → lcD own g ft fe (xs.map en) acc τ = some (acc ++ ys.map e, τ)
  | [], ys, acc, _, _, h => by cases h; simp [lcD]
  | x :: xs, ys, acc, hl, st, h => by
    obtain ⟨b, e1, h⟩ := bind_some' h
    obtain ⟨τ2, h1, h2, h3⟩ := st x
    obtain ⟨h4, h5⟩ := h3 b e1
    rw [List.length_cons] at hl
    rw [List.map_cons]
    unfold lcD
    cases b with
    | false =>
      simp only [h1, h4, h2, Option.bind_some, Bool.false_eq_true, if_false]
      exact lcO'_ok en e xs ys acc (by omega) st h
    | true =>
      rw [if_pos rfl] at h
      obtain ⟨y, e2, h⟩ := bind_some' h
      obtain ⟨zs, e3, h⟩ := bind_some' h
      cases h
      obtain ⟨o, h6, h7⟩ := h5 rfl y e2
      have hl' : acc.length < 16777216 := by omega
      simp only [h1, h4, h6, h7, h2, Option.bind_some, if_true, hl']
      rw [lcO'_ok en e xs zs (acc ++ [e y]) (by rw [List.length_append, List.length_singleton]; omega) st e3, List.map_cons, List.append_assoc]
      rfl
theorem ie_lcO {p : α → Option Bool} {f : α → Option β} {xs : List α} {ys : List β} (en : α → D) (e : β → D) (h : lcO p f xs = some ys) (hw : w τ = some (xs.map en, τ1))
    (st : ∀ x, ∃ τ2, g (en x) (wipeT own τ1) = some τ2 ∧ backT own τ1 τ2 = τ1 ∧ ∀ b, p x = some b → ft τ2 = some (b, τ2) ∧ (b = true → ∀ y, f x = some y → ∃ o, fe τ2 = some (o, τ2) ∧ fz τ2 o = some (e y, τ2))) : fLc own w g ft fe τ = some (.tmp (eL e ys), τ1) := by
  obtain ⟨h1, h2⟩ := if_get' h
  unfold fLc
  rw [hw]
  show (lcD own g ft fe (xs.map en) [] τ1).bind _ = _
  rw [lcO'_ok en e xs ys [] (by simpa using h1) st h2]
  rfl
theorem lcO_of {p : α → Option Bool} {f : α → Option β} {q : α → Bool} {k : α → β} {xs : List α} (hl : xs.length ≤ 16777216) (hp : ∀ x ∈ xs, p x = some (q x)) (hf : ∀ x ∈ xs, q x = true → f x = some (k x)) : lcO p f xs = some ((xs.filter q).map k) := by
  unfold lcO
  rw [if_pos hl]
  clear hl
  induction xs with
  | nil => rfl
  | cons x xs ih =>
    unfold lcO'
    rw [hp x List.mem_cons_self]
    show (if q x = true then _ else _) = _
    have ih' := ih (fun y hy => hp y (List.mem_cons_of_mem _ hy)) (fun y hy => hf y (List.mem_cons_of_mem _ hy))
    cases hq : q x with
    | false =>
      rw [if_neg Bool.false_ne_true, List.filter_cons, hq, ih']
      rfl
    | true =>
      rw [if_pos rfl, List.filter_cons, hq, hf x List.mem_cons_self hq, ih', if_pos rfl, List.map_cons]
      rfl
theorem ie_lcP {p : α → Bool} {f : α → β} {xs : List α} {ys : List β} (en : α → D) (e : β → D) (h : lcP p f xs = some ys) (hw : w τ = some (xs.map en, τ1))
    (st : ∀ x, ∃ τ2 o, g (en x) (wipeT own τ1) = some τ2 ∧ backT own τ1 τ2 = τ1 ∧ ft τ2 = some (p x, τ2) ∧ fe τ2 = some (o, τ2) ∧ fz τ2 o = some (e (f x), τ2)) : fLc own w g ft fe τ = some (.tmp (eL e ys), τ1) := by
  obtain ⟨h1, rfl⟩ := if_get h
  refine ie_lcO (p := fun x => some (p x)) (f := fun x => some (f x)) en e (lcO_of h1 (fun _ _ => rfl) (fun _ _ _ => rfl)) hw fun x => ?_
  obtain ⟨τ2, o, a1, a2, a3, a4, a5⟩ := st x
  exact ⟨τ2, a1, a2, fun b hb => by cases hb; exact ⟨a3, fun _ y hy => by cases hy; exact ⟨o, a4, a5⟩⟩⟩
theorem ie_mapP {f : α → β} {xs : List α} {ys : List β} (en : α → D) (e : β → D) (h : mapP f xs = some ys) (hw : w τ = some (xs.map en, τ1))
    (st : ∀ x, ∃ τ2 o, g (en x) (wipeT own τ1) = some τ2 ∧ backT own τ1 τ2 = τ1 ∧ fe τ2 = some (o, τ2) ∧ fz τ2 o = some (e (f x), τ2)) : fLc own w g tAll fe τ = some (.tmp (eL e ys), τ1) := by
  obtain ⟨h1, rfl⟩ := if_get h
  refine ie_lcP (p := fun _ => true) (f := f) en e (by unfold lcP; rw [if_pos h1, List.filter_eq_self.mpr fun _ _ => rfl]) hw fun x => ?_
  obtain ⟨τ2, o, a1, a2, a4, a5⟩ := st x
  exact ⟨τ2, o, a1, a2, rfl, a4, a5⟩
theorem lcS'_ok (en : α → D) (e : β → D) (St : S → Tau) {p : α → S → Option (Bool × S)} {f : α → S → Option (β × S)} : ∀ (xs : List α) (s : S) (r : List β × S) (acc : List D), acc.length + xs.length ≤ 16777216 →
    (∀ x s, ∃ τ2, g (en x) (wipeT own (St s)) = some τ2 ∧ ∀ b, p x s = some b → ∃ τ3, ft τ2 = some (b.1, τ3) ∧ (b.1 = false → backT own (St s) τ3 = St b.2) ∧ (b.1 = true → ∀ y, f x b.2 = some y → ∃ o τ4 τ5, fe τ3 = some (o, τ4) ∧ fz τ4 o = some (e y.1, τ5) ∧ backT own (St s) τ5 = St y.2)) →
    lcS' p f xs s = some r → lcD own g ft fe (xs.map en) acc (St s) = some (acc ++ r.1.map e, St r.2)
  | [], s, r, acc, _, _, h => by cases h; simp [lcD]
  | x :: xs, s, r, acc, hl, st, h => by
    obtain ⟨b, e1, h⟩ := bind_some' h
    obtain ⟨τ2, h1, h3⟩ := st x s
    obtain ⟨τ3, h4, h2, h5⟩ := h3 b e1
    obtain ⟨b, s1⟩ := b
    rw [List.length_cons] at hl
    rw [List.map_cons]
    unfold lcD
    dsimp only at h4 h2 h5 h
    cases b with
    | false =>
      simp only [h1, h4, h2, Option.bind_some, Bool.false_eq_true, if_false]
      exact lcS'_ok en e St xs s1 r acc (by omega) st h
    | true =>
      rw [if_pos rfl] at h
      obtain ⟨y, e2, h⟩ := bind_some' h
      obtain ⟨zs, e3, h⟩ := bind_some' h
      cases h
      obtain ⟨o, τ4, τ5, h6, h7, h8⟩ := h5 rfl y e2
      have hl' : acc.length < 16777216 := by omega
      simp only [h1, h4, h6, h7, h8, Option.bind_some, if_true, hl']
      rw [lcS'_ok en e St xs y.2 zs (acc ++ [e y.1]) (by rw [List.length_append, List.length_singleton]; omega) st e3, List.map_cons, List.append_assoc]
      rfl
theorem ie_lcS {p : α → S → Option (Bool × S)} {f : α → S → Option (β × S)} {xs : List α} {s : S} {r : List β × S} (en : α → D) (e : β → D) (St : S → Tau) (h : lcS p f xs s = some r) (hw : w τ = some (xs.map en, St s))
    (st : ∀ x s, ∃ τ2, g (en x) (wipeT own (St s)) = some τ2 ∧ ∀ b, p x s = some b → ∃ τ3, ft τ2 = some (b.1, τ3) ∧ (b.1 = false → backT own (St s) τ3 = St b.2) ∧ (b.1 = true → ∀ y, f x b.2 = some y → ∃ o τ4 τ5, fe τ3 = some (o, τ4) ∧ fz τ4 o = some (e y.1, τ5) ∧ backT own (St s) τ5 = St y.2)) : fLc own w g ft fe τ = some (.tmp (eL e r.1), St r.2) := by
  obtain ⟨h1, h2⟩ := if_get' h
  unfold fLc
  rw [hw]
  show (lcD own g ft fe (xs.map en) [] (St s)).bind _ = _
  rw [lcS'_ok en e St xs s r [] (by simpa using h1) st h2]
  rfl
end
/-! ##### == -/
class EqE {α : Type} [DecidableEq α] (e : α → D) (n : outParam Nat) where
  py : α → PyData
  hp : ∀ x, toPy (e x) = some (py x)
  hc : ∀ x, PyData.canLay0 (py x) = true
  hd : ∀ x, PyData.depth (py x) ≤ n
  he : ∀ x y, PyData.eqv (py x) (py y) = decide (x = y)
class EqN {α : Type} [DecidableEq α] (e : α → D) {n : outParam Nat} [h : EqE e n] : Prop where
  hn : ∀ x, PyData.eqv .none (h.py x) = false ∧ PyData.eqv (h.py x) .none = false
instance : EqE D.int 0 := ⟨.int, fun x => by simp [toPy], fun _ => rfl, fun _ => Nat.le_refl _, fun x y => rfl⟩
instance : EqN D.int := ⟨fun _ => ⟨rfl, rfl⟩⟩
instance : EqE D.bl 0 := ⟨.bool, fun x => by simp [toPy], fun _ => rfl, fun _ => Nat.le_refl _, fun x y => by cases x <;> cases y <;> rfl⟩
instance : EqN D.bl := ⟨fun _ => ⟨rfl, rfl⟩⟩
theorem gEq_e {α : Type} [DecidableEq α] (e : α → D) {n : Nat} [h : EqE e n] (x y : α) (hn : n ≤ 64 := by decide) : gEq (e x) (e y) = some (.val (.bl (decide (x = y)))) ∧ gNe (e x) (e y) = some (.val (.bl (!decide (x = y)))) := by
  have s : ∀ x, SeqAt.shaped (h.py x) = true := fun x => by
    unfold SeqAt.shaped
    rw [h.hc]
    have := h.hd x
    simp; omega
  constructor
  · simp [gEq, dEq, h.hp, s, h.he]
  · simp [gNe, dEq, h.hp, s, h.he]

theorem im_if1 {γ : Type} {fc : FT} {A B : FS} {τ τ1 : Tau} {b : Bool} {t1 t2 : Option γ} {P : γ → Flow → Prop} (hc : fc τ = some (b, τ1)) (h1 : b = true → Im A τ1 t1 P) (h2 : b = false → Im B τ1 t2 P) : Im (sIf fc A B) τ (if b = true then t1 else t2) P := fun c e => by
  cases b with
  | true =>
    obtain ⟨fl, h3, h4⟩ := h1 rfl c e
    exact ⟨fl, by unfold sIf; rw [hc]; exact h3, h4⟩
  | false =>
    obtain ⟨fl, h3, h4⟩ := h2 rfl c e
    exact ⟨fl, by unfold sIf; rw [hc]; exact h3, h4⟩
theorem own_x {ρ : Type} {r : ρ} {m : Mir} {ds : List D} {en io : ρ → D} (h : ∃ w, True ∧ m ds = some (w, en r, io r)) : ∃ w, m ds = some (w, en r, io r) := by
  obtain ⟨w, _, h⟩ := h
  exact ⟨w, h⟩
/-! ##### raw data -/
def dint : D → Option Int
  | .int i => some i
  | _ => none
def dbool : D → Option Bool
  | .bl i => some i
  | _ => none
def dstr : D → Option PySem.Str
  | .str i => some i
  | _ => none
theorem dint_e {d : D} {i : Int} (h : dint d = some i) : d = .int i := by
  cases d <;> first | (cases h; done) | (cases h; rfl)
theorem dbool_e {d : D} {i : Bool} (h : dbool d = some i) : d = .bl i := by
  cases d <;> first | (cases h; done) | (cases h; rfl)
theorem dstr_e {d : D} {i : PySem.Str} (h : dstr d = some i) : d = .str i := by
  cases d <;> first | (cases h; done) | (cases h; rfl)
theorem eO_some {α : Type} {x : Option α} {a : α} (e : α → D) (h : x = some a) : eO e x = e a := by
  subst h; rfl
theorem ie_cast {f : FE} {τ τ1 : Tau} {x d : D} (h : x = d) (p : f τ = some (.val x, τ1)) : f τ = some (.val d, τ1) := h ▸ p
theorem ie_castT {f : FE} {τ τ1 : Tau} {x d : D} (h : x = d) (p : f τ = some (.tmp x, τ1)) : f τ = some (.tmp d, τ1) := h ▸ p
def eqT (d e : D) : Option Bool := dEq d e
theorem gEq_d {d e : D} {b : Bool} (h : eqT d e = some b) : gEq d e = some (.val (.bl b)) := by
  unfold eqT at h
  simp [gEq, h]
theorem gNe_d {d e : D} {b : Bool} (h : eqT d e = some b) : gNe d e = some (.val (.bl (!b))) := by
  unfold eqT at h
  simp [gNe, h]
def isN : D → Bool
  | .non => true
  | _ => false
theorem gIs_d (d : D) {neg : Bool} : gIs neg d .non = some (.val (.bl (if neg = true then !(isN d) else isN d))) := by
  cases d <;> rfl
theorem gIs_o {α : Type} (e : α → D) (h : ∀ x, isN (e x) = false) {x : Option α} {neg : Bool} : gIs neg (eO e x) .non = some (.val (.bl (if neg = true then !(x.isNone) else x.isNone))) := by
  rw [gIs_d]
  cases x with
  | none => rfl
  | some x => unfold eO; rw [h]; rfl
def ixT (d : D) (i : Int) : Option D := match d with
  | .lst ds => atI ds i
  | .tup ds => atI ds i
  | _ => none
theorem gIx_d {d : D} {i : Int} {x : D} (h : ixT d i = some x) : gIx d (.int i) = some (.val x) := by
  cases d <;> first | (cases h; done) | skip
  · show (atI _ i).map Op.val = _
    rw [show atI _ i = some x from h]; rfl
  · show (atI _ i).map Op.val = _
    rw [show atI _ i = some x from h]; rfl
def lenT : D → Option Int
  | .lst ds => some ds.length
  | .tup ds => some ds.length
  | _ => none
theorem gLen_d {d : D} {n : Int} (h : lenT d = some n) : gLen [d] = some (.val (.int n)) := by
  cases d <;> first | (cases h; done) | (cases h; rfl)
def isiT (tn : String) (d : D) : Option Bool := (tyn d).map fun a => subTy a tn
theorem gIsi_d {tn : String} {d : D} {b : Bool} (h : isiT tn d = some b) : gIsi tn d = some (.val (.bl b)) := by
  obtain ⟨a, h1, rfl⟩ := Option.map_eq_some_iff.mp h
  simp [gIsi, h1]
theorem gIsi_k {tn n : String} {d : D} {b : Bool} (h : tyn d = some n) (hb : subTy n tn = b) : gIsi tn d = some (.val (.bl b)) := by
  simp [gIsi, h, hb]
theorem gIsi_oT {α : Type} {tn n : String} {e : α → D} {x : Option α} (h : ∀ x, tyn (e x) = some n) (hb : subTy n tn = true) (hn : subTy "NoneType" tn = false) : gIsi tn (eO e x) = some (.val (.bl x.isSome)) := by
  cases x with
  | none => simp [gIsi, eO, tyn, hn]
  | some x => simp [gIsi, eO, h, hb]
theorem gIsi_oF {α : Type} {tn n : String} {e : α → D} {x : Option α} (h : ∀ x, tyn (e x) = some n) (hb : subTy n tn = false) (hn : subTy "NoneType" tn = false) : gIsi tn (eO e x) = some (.val (.bl false)) := by
  cases x with
  | none => simp [gIsi, eO, tyn, hn]
  | some x => simp [gIsi, eO, h, hb]
def isCT (yes no : List String) (d : D) : Option Bool := match d with
  | .ins c _ => if c ∈ yes then some true else if c ∈ no then some false else none
  | .exc _ _ _ _ => none
  | .dicL _ => none
  | _ => some false
theorem gIsC_d {yes no : List String} {d : D} {b : Bool} (h : isCT yes no d = some b) : gIsC yes no d = some (.val (.bl b)) := by
  cases d <;> first | (cases h; done) | (cases h; rfl; done) | skip
  rename_i c fs
  have h' : (if c ∈ yes then some true else if c ∈ no then some false else none) = some b := h
  show (if c ∈ yes then some (Op.val (.bl true)) else if c ∈ no then some (Op.val (.bl false)) else none) = _
  by_cases h1 : c ∈ yes
  · rw [if_pos h1] at h' ⊢; cases h'; rfl
  · rw [if_neg h1] at h' ⊢
    by_cases h2 : c ∈ no
    · rw [if_pos h2] at h' ⊢; cases h'; rfl
    · rw [if_neg h2] at h'; cases h'
def itT : D → Option (List D)
  | .lst ds => some ds
  | .tup ds => some ds
  | _ => none
theorem ii_sqD {fe : FE} {τ τ1 τ2 : Tau} {o : Op} {d : D} {ds : List D} (h : itT d = some ds) (ha : fe τ = some (o, τ1)) (hf : fz τ1 o = some (d, τ2) := by rfl) : iSq fe τ = some (ds.map eD, τ2) := by
  have e : ds.map eD = ds := by
    have : (eD : D → D) = id := rfl
    rw [this, List.map_id]
  rw [e]
  cases d <;> first | (cases h; done) | (cases h; simp only [iSq, ha, hf, Option.bind_some])
theorem io_some {fe : FE} {τ τ1 : Tau} {o : Op} {i : Int} (he : fe τ = some (o, τ1)) (hd : deref τ1 o = some (.int i) := by rfl) : oSome fe τ = some (some i, τ1) := by
  simp only [oSome, he, hd, Option.bind_some]
theorem ie_slL {α : Type} {e : α → D} {xs : List α} {fe : FE} {fl fh : FO} {τ τ1 τ2 τ3 : Tau} {o : Op} {lo hi : Option Int} (he : fe τ = some (o, τ1)) (hl : fl τ1 = some (lo, τ2)) (hh : fh τ2 = some (hi, τ3)) (hd : deref τ3 o = some (eL e xs) := by rfl) : fSl fe fl fh τ = some (.tmp (eL e (cutD xs lo hi)), τ3) := by
  simp only [fSl, he, hl, hh, hd, Option.bind_some, gSl, cutD_map]
theorem ia_pk {f g : FA} {n m : Nat} {pm : List Nat} {τ τ1 τ2 : Tau} {a b : List D} (ha : f τ = some (a, τ1)) (hb : g τ1 = some (b, τ2)) (h1 : a.length = n := by rfl) (h2 : b.length = m := by rfl) : aPk n m pm f g τ = some (pk pm (a ++ b), τ2) := by
  simp only [aPk, ha, hb, h1, h2, and_self, if_true, Option.bind_some]
theorem ie_chain {g g' : G2} {fa fb fc : FE} {τ τ1 τ2 : Tau} {a b c : Op} {x y w : D} {p q : Bool} (ha : fa τ = some (a, τ1)) (hb : fb τ1 = some (b, τ2)) (hc : fc τ2 = some (c, τ2)) (h1 : g x y = some (.val (.bl p))) (h2 : g' y w = some (.val (.bl q)))
    (hx : deref τ2 a = some x := by rfl) (hy : deref τ2 b = some y := by rfl) (hw : deref τ2 c = some w := by rfl) : fChain g g' fa fb fc τ = some (.val (.bl (p && q)), τ2) := by
  simp only [fChain, ha, hb, hx, hy, h1, Option.bind_some]
  cases p
  · rfl
  · simp only [hc, hy, hw, h2, Option.bind_some, Bool.true_and]
theorem gSum_l {xs : List Int} : gSum [eL D.int xs] = some (.val (.int xs.sum)) := by
  have h : ∀ xs : List Int, intsOf (xs.map D.int) = some xs := fun xs => by
    induction xs with
    | nil => rfl
    | cons x xs ih => simp [intsOf, ih]
  show (intsOf (xs.map D.int)).map _ = _
  rw [h]; rfl
theorem gNeM_ok {cn : String} {m : Mir} {x y z0 : D} {q : Bool} (hm : m [x, y] = some (false, .bl q, z0)) (h1 : insC cn x = true) (h2 : insC cn y = true) : gNeM cn m x y = some (.val (.bl (!q))) := by
  simp only [gNeM, h1, h2, and_self, if_true, hm, Option.bind_some]
def un2 {α : Type} : List α → Option (α × α)
  | [x, y] => some (x, y)
  | _ => none
def un3 {α : Type} : List α → Option (α × α × α)
  | [x, y, z] => some (x, y, z)
  | _ => none
theorem un2_e {α : Type} {xs : List α} {q : α × α} (e : α → D) (h : un2 xs = some q) : eL e xs = eL e [q.1, q.2] := by
  unfold un2 at h
  split at h
  · cases h; rfl
  · cases h
theorem un3_e {α : Type} {xs : List α} {q : α × α × α} (e : α → D) (h : un3 xs = some q) : eL e xs = eL e [q.1, q.2.1, q.2.2] := by
  unfold un3 at h
  split at h
  · cases h; rfl
  · cases h
/-! ##### == of lists, tuples, options -/
section
variable {α β γ δ : Type} [DecidableEq α] [DecidableEq β] [DecidableEq γ] [DecidableEq δ]
theorem toPyL_e (e : α → D) {n : Nat} [h : EqE e n] : ∀ xs : List α, toPyL (xs.map e) = some (xs.map h.py)
  | [] => by simp [toPyL]
  | x :: xs => by simp [toPyL, h.hp, toPyL_e e xs]
theorem canLayAll_e (e : α → D) {n : Nat} [h : EqE e n] : ∀ xs : List α, PyData.canLayAll0 (xs.map h.py) = true
  | [] => rfl
  | x :: xs => by
    show (PyData.canLay0 (h.py x) && PyData.canLayAll0 (xs.map h.py)) = true
    rw [canLayAll_e e xs, h.hc]; rfl
theorem depthAll_e (e : α → D) {n : Nat} [h : EqE e n] : ∀ xs : List α, PyData.depthAll (xs.map h.py) ≤ n
  | [] => Nat.zero_le _
  | x :: xs => by
    show max (PyData.depth (h.py x)) (PyData.depthAll (xs.map h.py)) ≤ n
    have := depthAll_e e xs
    have := h.hd x
    omega
theorem eqvAll_e (e : α → D) {n : Nat} [h : EqE e n] : ∀ xs ys : List α, PyData.eqvAll (xs.map h.py) (ys.map h.py) = decide (xs = ys)
  | [], [] => by simp [PyData.eqvAll]
  | [], _ :: _ => by simp [PyData.eqvAll]
  | _ :: _, [] => by simp [PyData.eqvAll]
  | x :: xs, y :: ys => by
    simp [PyData.eqvAll, h.he, eqvAll_e e xs ys]
instance {e : α → D} {n : Nat} [h : EqE e n] : EqE (eL e) (n + 1) := ⟨fun xs => .list (xs.map h.py), fun x => by simp [toPy, toPyL_e], fun x => canLayAll_e e x, fun x => Nat.succ_le_succ (depthAll_e e x), fun x y => by show PyData.eqvAll _ _ = _; exact eqvAll_e e x y⟩
instance {e : α → D} {n : Nat} [h : EqE e n] : EqN (eL e) := ⟨fun _ => ⟨rfl, rfl⟩⟩
instance {e : α → D} {n : Nat} [h : EqE e n] : EqE (eTl e) (n + 1) := ⟨fun xs => .tuple (xs.map h.py), fun x => by simp [toPy, toPyL_e], fun x => canLayAll_e e x, fun x => Nat.succ_le_succ (depthAll_e e x), fun x y => by show PyData.eqvAll _ _ = _; exact eqvAll_e e x y⟩
instance {e : α → D} {n : Nat} [h : EqE e n] : EqN (eTl e) := ⟨fun _ => ⟨rfl, rfl⟩⟩
instance {e : α → D} {f : β → D} {n m : Nat} [h : EqE e n] [k : EqE f m] : EqE (eT2 e f) (max n m + 1) := ⟨fun x => .tuple [h.py x.1, k.py x.2], fun x => by simp [toPy, toPyL, h.hp, k.hp], fun x => by
    show (PyData.canLay0 _ && (PyData.canLay0 _ && true)) = true
    rw [h.hc, k.hc]; rfl, fun x => by
    show max (PyData.depth _) (max (PyData.depth _) 0) + 1 ≤ _
    have := h.hd x.1
    have := k.hd x.2
    omega, fun x y => by
    show (PyData.eqv _ _ && (PyData.eqv _ _ && true)) = _
    rw [h.he, k.he]
    obtain ⟨a, b⟩ := x
    obtain ⟨c, d⟩ := y
    simp [Prod.mk.injEq]⟩
instance {e : α → D} {f : β → D} {g : γ → D} {n m l : Nat} [h : EqE e n] [k : EqE f m] [j : EqE g l] : EqE (eT3 e f g) (max n (max m l) + 1) := ⟨fun x => .tuple [h.py x.1, k.py x.2.1, j.py x.2.2], fun x => by simp [toPy, toPyL, h.hp, k.hp, j.hp], fun x => by
    show (PyData.canLay0 _ && (PyData.canLay0 _ && (PyData.canLay0 _ && true))) = true
    rw [h.hc, k.hc, j.hc]; rfl, fun x => by
    show max (PyData.depth _) (max (PyData.depth _) (max (PyData.depth _) 0)) + 1 ≤ _
    have := h.hd x.1
    have := k.hd x.2.1
    have := j.hd x.2.2
    omega, fun x y => by
    show (PyData.eqv _ _ && (PyData.eqv _ _ && (PyData.eqv _ _ && true))) = _
    rw [h.he, k.he, j.he]
    obtain ⟨a, b, c⟩ := x
    obtain ⟨a', b', c'⟩ := y
    simp [Prod.mk.injEq]⟩
instance {e : α → D} {f : β → D} {g : γ → D} {e4 : δ → D} {n m l o : Nat} [h : EqE e n] [k : EqE f m] [j : EqE g l] [i : EqE e4 o] : EqE (eT4 e f g e4) (max n (max m (max l o)) + 1) := ⟨fun x => .tuple [h.py x.1, k.py x.2.1, j.py x.2.2.1, i.py x.2.2.2], fun x => by simp [toPy, toPyL, h.hp, k.hp, j.hp, i.hp], fun x => by
    show (PyData.canLay0 _ && (PyData.canLay0 _ && (PyData.canLay0 _ && (PyData.canLay0 _ && true)))) = true
    rw [h.hc, k.hc, j.hc, i.hc]; rfl, fun x => by
    show max (PyData.depth _) (max (PyData.depth _) (max (PyData.depth _) (max (PyData.depth _) 0))) + 1 ≤ _
    have := h.hd x.1
    have := k.hd x.2.1
    have := j.hd x.2.2.1
    have := i.hd x.2.2.2
    omega, fun x y => by
    show (PyData.eqv _ _ && (PyData.eqv _ _ && (PyData.eqv _ _ && (PyData.eqv _ _ && true)))) = _
    rw [h.he, k.he, j.he, i.he]
    obtain ⟨a, b, c, d⟩ := x
    obtain ⟨a', b', c', d'⟩ := y
    simp [Prod.mk.injEq]⟩
instance {e : α → D} {n : Nat} [h : EqE e n] [hN : EqN e] : EqE (eO e) n := ⟨fun x => match x with | none => .none | some x => h.py x, fun x => by cases x <;> simp [eO, toPy, h.hp], fun x => by cases x with | none => rfl | some x => exact h.hc x, fun x => by cases x with | none => exact Nat.zero_le _ | some x => exact h.hd x, fun x y => by
    cases x with
    | none => cases y with
      | none => rfl
      | some y => exact (hN.hn y).1
    | some x => cases y with
      | none => exact (hN.hn x).2
      | some y => show PyData.eqv (h.py x) (h.py y) = _; rw [h.he]; simp⟩
instance {e : α → D} {f : β → D} {n m : Nat} [h : EqE e n] [k : EqE f m] : EqN (eT2 e f) := ⟨fun _ => ⟨rfl, rfl⟩⟩
instance {e : α → D} {f : β → D} {g : γ → D} {n m l : Nat} [h : EqE e n] [k : EqE f m] [j : EqE g l] : EqN (eT3 e f g) := ⟨fun _ => ⟨rfl, rfl⟩⟩
instance {e : α → D} {f : β → D} {g : γ → D} {e4 : δ → D} {n m l o : Nat} [h : EqE e n] [k : EqE f m] [j : EqE g l] [i : EqE e4 o] : EqN (eT4 e f g e4) := ⟨fun _ => ⟨rfl, rfl⟩⟩
end
/-! ##### in, +, sorted, range of three, reversed, zip, own in, own ~ -/
class FlE {α : Type} [DecidableEq α] (e : α → D) : Prop where
  fl : ∀ x, flatD (e x) = true
  eq : ∀ x y, eqF (e x) (e y) = decide (x = y)
instance : FlE D.int := ⟨fun _ => rfl, fun x y => by show (x == y) = _; rw [Bool.eq_iff_iff]; simp⟩
instance : FlE D.str := ⟨fun _ => rfl, fun x y => by show (x == y) = _; rw [Bool.eq_iff_iff]; simp⟩
instance : FlE D.bl := ⟨fun _ => rfl, fun x y => by show (x == y) = _; rw [Bool.eq_iff_iff]; simp⟩
section
variable {α β : Type} {e : α → D} {fa fb fe : FE} {τ τ1 τ2 : Tau} {o a : Op} {x y d z z0 : D} {m : Mir} {own : Bool} {cn : String} {fs : FA} {fp : FP} {ops : List Op}
theorem inD_e [DecidableEq α] [h : FlE e] (x : α) : ∀ xs : List α, inD (e x) (xs.map e) = decide (x ∈ xs)
  | [] => by simp [inD]
  | y :: ys => by
    show (eqF (e y) (e x) || inD (e x) (ys.map e)) = _
    rw [inD_e x ys, h.eq, Bool.eq_iff_iff, Bool.or_eq_true, decide_eq_true_eq, decide_eq_true_eq, decide_eq_true_eq, List.mem_cons]
    exact ⟨fun z => z.imp Eq.symm id, fun z => z.imp Eq.symm id⟩
theorem flatAll_e [DecidableEq α] [h : FlE e] (xs : List α) : (xs.map e).all flatD = true := by
  rw [List.all_eq_true]
  intro d hd
  obtain ⟨x, _, rfl⟩ := List.mem_map.mp hd
  exact h.fl x
theorem gIn_l [DecidableEq α] [h : FlE e] {neg : Bool} {x : α} {xs : List α} : gIn neg (e x) (eL e xs) = some (.val (.bl (if neg = true then !decide (x ∈ xs) else decide (x ∈ xs)))) := by
  show (if flatD (e x) = true ∧ (xs.map e).all flatD = true then some (Op.val (.bl (if neg then !inD (e x) (xs.map e) else inD (e x) (xs.map e)))) else none) = _
  rw [if_pos ⟨h.fl x, flatAll_e xs⟩, inD_e]
theorem gIn_t [DecidableEq α] [h : FlE e] {neg : Bool} {x : α} {xs : List α} : gIn neg (e x) (eTl e xs) = some (.val (.bl (if neg = true then !decide (x ∈ xs) else decide (x ∈ xs)))) := by
  show (if flatD (e x) = true ∧ (xs.map e).all flatD = true then some (Op.val (.bl (if neg then !inD (e x) (xs.map e) else inD (e x) (xs.map e)))) else none) = _
  rw [if_pos ⟨h.fl x, flatAll_e xs⟩, inD_e]
def catT (xs ys : List α) : Option (List α) := if xs.length + ys.length ≤ 16777216 then some (xs ++ ys) else none
theorem gCat_t {xs ys zs : List α} (h : catT xs ys = some zs) : gCat (eL e xs) (eL e ys) = some (.tmp (eL e zs)) := by
  unfold catT at h
  obtain ⟨h1, h2⟩ := if_get h
  cases h2
  show (if (xs.map e).length + (ys.map e).length ≤ 16777216 then some (Op.tmp (.lst (xs.map e ++ ys.map e))) else none) = _
  rw [if_pos (by rw [List.length_map, List.length_map]; exact h1)]
  show _ = some (Op.tmp (D.lst (List.map e (xs ++ ys))))
  rw [List.map_append]
theorem intsOf_e : ∀ xs : List Int, intsOf (xs.map D.int) = some xs
  | [] => rfl
  | x :: xs => by simp [intsOf, intsOf_e xs]
theorem gSorted_l {xs : List Int} : gSorted [eL D.int xs] = some (.tmp (eL D.int (sortI xs))) := by
  show (intsOf (xs.map D.int)).map _ = _
  rw [intsOf_e]; rfl
def rg3T (i j c : Int) : Option (List Int) := if rng3Ok i j c = true then some ((List.range (Builtin.Range.rangeSize i j c).toNat).map fun k : Nat => i + (k : Int) * c) else none
theorem ii_r3 {i j c : Int} {r : List Int} (h : rg3T i j c = some r) (ha : fp τ = some (ops, τ1)) (hd : derefL τ1 ops = some [.int i, .int j, .int c] := by rfl) : iR3 fp τ = some (r.map D.int, τ1) := by
  unfold rg3T at h
  obtain ⟨h1, h2⟩ := if_get h
  cases h2
  simp only [iR3, ha, hd, Option.bind_some, h1, if_true, rng3D, List.map_map]
  rfl
theorem ii_rev {xs : List α} (ha : fs τ = some ([eL e xs], τ1)) : iRevD fs τ = some (xs.reverse.map e, τ1) := by
  simp only [iRevD, ha, Option.bind_some, List.map_reverse]
theorem zipD_e {f : β → D} : ∀ (xs : List α) (ys : List β), zipD (xs.map e) (ys.map f) = (xs.zip ys).map (eT2 e f)
  | [], _ => rfl
  | _ :: _, [] => rfl
  | x :: xs, y :: ys => by simp [zipD, zipD_e xs ys]
theorem ii_zip {f : β → D} {xs : List α} {ys : List β} (ha : fs τ = some ([eL e xs, eL f ys], τ1)) : iZipD fs τ = some ((xs.zip ys).map (eT2 e f), τ1) := by
  simp only [iZipD, ha, Option.bind_some, zipD_e]
theorem gInM_ok {neg q : Bool} (hm : m [y, x] = some (false, .bl q, z0)) (h1 : insC cn y = true) : gInM neg cn m x y = some (.val (.bl (if neg = true then !q else q))) := by
  simp only [gInM, h1, if_true, hm, Option.bind_some]
theorem ie_unF {g : D → Option Op} (ha : fa τ = some (a, τ1)) (hx : fz τ1 a = some (x, τ2)) (hg : g x = some o) : fUnF g fa τ = some (o, τ2) := by
  simp only [fUnF, ha, hx, hg, Option.bind_some]
theorem gM1_ok (hm : m [x] = some (own, z, z0)) (h1 : insC cn x = true) : gM1 cn m x = some (mkOp own z) := by
  simp only [gM1, h1, if_true, hm, Option.bind_some]
end
theorem gRev_l {α : Type} {e : α → D} {xs : List α} : gDwn List.reverse (eL e xs) = some (.tmp (eL e xs.reverse)) := by
  show some (Op.tmp (.lst (xs.map e).reverse)) = some (Op.tmp (.lst (xs.reverse.map e)))
  rw [List.map_reverse]
theorem gTail_l {α : Type} {e : α → D} {xs : List α} : gDwn (fun xs => (xs.drop 1).reverse) (eL e xs) = some (.tmp (eL e (xs.drop 1).reverse)) := by
  show some (Op.tmp (.lst ((xs.map e).drop 1).reverse)) = some (Op.tmp (.lst ((xs.drop 1).reverse.map e)))
  rw [List.map_reverse, List.map_drop]
theorem is_retF {fe : FE} {τ τ1 τ2 : Tau} {o : Op} {d : D} (h : fe τ = some (o, τ1)) (hf : fz τ1 o = some (d, τ2) := by rfl) : sRetF fe τ = some (.rt (.val d) τ2) := by
  simp only [sRetF, h, hf, Option.bind_some]
/-! ##### calls that only read -/
theorem ie_callB {m : Mir} {fp : FP} {τ τ1 : Tau} {ops : List Op} {ds : List D} {own : Bool} {z z0 : D} (ha : fp τ = some (ops, τ1)) (hm : m ds = some (own, z, z0)) (hp : plR own z = true) (hd : derefL τ1 ops = some ds := by rfl) : fCallB m fp τ = some (mkOp own z, τ1) := by
  simp only [fCallB, ha, hd, hm, hp, if_true, Option.bind_some]
class PlE {α : Type} (e : α → D) : Prop where
  pl : ∀ x, J.pl (e x) = true
instance : PlE D.int := ⟨fun _ => rfl⟩
instance : PlE D.bl := ⟨fun _ => rfl⟩
instance : PlE D.str := ⟨fun _ => rfl⟩
instance : PlE eU := ⟨fun _ => rfl⟩
section
variable {α β γ δ : Type}
instance {e : α → D} [h : PlE e] : PlE (eO e) := ⟨fun x => by cases x with | none => rfl | some x => exact h.pl x⟩
theorem plL_e {e : α → D} [h : PlE e] : ∀ xs : List α, plL (xs.map e) = true
  | [] => by simp [plL]
  | x :: xs => by simp [plL, h.pl, plL_e xs]
instance {e : α → D} [h : PlE e] : PlE (eTl e) := ⟨fun x => by simp [pl, plL_e]⟩
instance {e : α → D} {f : β → D} [h : PlE e] [k : PlE f] : PlE (eT2 e f) := ⟨fun x => by simp [pl, plL, h.pl, k.pl]⟩
instance {e : α → D} {f : β → D} {g : γ → D} [h : PlE e] [k : PlE f] [j : PlE g] : PlE (eT3 e f g) := ⟨fun x => by simp [pl, plL, h.pl, k.pl, j.pl]⟩
instance {e : α → D} {f : β → D} {g : γ → D} {e4 : δ → D} [h : PlE e] [k : PlE f] [j : PlE g] [i : PlE e4] : PlE (eT4 e f g e4) := ⟨fun x => by simp [pl, plL, h.pl, k.pl, j.pl, i.pl]⟩
theorem plR_l {e : α → D} [h : PlE e] (xs : List α) : plR true (eL e xs) = true := by
  show plL (xs.map e) = true
  exact plL_e xs
end
def un4 {α : Type} : List α → Option (α × α × α × α)
  | [x1, x2, x3, x4] => some (x1, x2, x3, x4)
  | _ => none
theorem un4_e {α : Type} {xs : List α} {q : α × α × α × α} (e : α → D) (h : un4 xs = some q) : eL e xs = eL e [q.1, q.2.1, q.2.2.1, q.2.2.2] := by
  unfold un4 at h
  split at h
  · cases h; rfl
  · cases h
def un5 {α : Type} : List α → Option (α × α × α × α × α)
  | [x1, x2, x3, x4, x5] => some (x1, x2, x3, x4, x5)
  | _ => none
theorem un5_e {α : Type} {xs : List α} {q : α × α × α × α × α} (e : α → D) (h : un5 xs = some q) : eL e xs = eL e [q.1, q.2.1, q.2.2.1, q.2.2.2.1, q.2.2.2.2] := by
  unfold un5 at h
  split at h
  · cases h; rfl
  · cases h
def un6 {α : Type} : List α → Option (α × α × α × α × α × α)
  | [x1, x2, x3, x4, x5, x6] => some (x1, x2, x3, x4, x5, x6)
  | _ => none
theorem un6_e {α : Type} {xs : List α} {q : α × α × α × α × α × α} (e : α → D) (h : un6 xs = some q) : eL e xs = eL e [q.1, q.2.1, q.2.2.1, q.2.2.2.1, q.2.2.2.2.1, q.2.2.2.2.2] := by
  unfold un6 at h
  split at h
  · cases h; rfl
  · cases h
/-! ##### list(range), tuple(xs) -/
def lrT (i j : Int) : Option (List Int) := if lrOk i j = true then some ((List.range (j - i).toNat).map fun k : Nat => i + (k : Int)) else none
theorem lrT_e {i j : Int} {r : List Int} (h : lrT i j = some r) : lrOk i j = true ∧ lrD i j = eL D.int r := by
  unfold lrT at h
  obtain ⟨h1, h2⟩ := if_get h
  subst h2
  refine ⟨h1, ?_⟩
  unfold lrD
  show _ = D.lst (List.map D.int _)
  rw [List.map_map]
  rfl
theorem ie_lr1 {fa : FE} {τ τ1 : Tau} {a : Op} {j : Int} {r : List Int} (h : lrT 0 j = some r) (ha : fa τ = some (a, τ1)) (hd : deref τ1 a = some (.int j) := by rfl) : fLr1 fa τ = some (.tmp (eL D.int r), τ1) := by
  obtain ⟨h1, h2⟩ := lrT_e h
  simp only [fLr1, ha, hd, Option.bind_some, h1, if_true, h2]
theorem ie_lr2 {fa fb : FE} {τ τ1 τ2 : Tau} {a b : Op} {i j : Int} {r : List Int} (h : lrT i j = some r) (ha : fa τ = some (a, τ1)) (hb : fb τ1 = some (b, τ2)) (hd : deref τ2 a = some (.int i) := by rfl) (hd' : deref τ2 b = some (.int j) := by rfl) : fLr2 fa fb τ = some (.tmp (eL D.int r), τ2) := by
  obtain ⟨h1, h2⟩ := lrT_e h
  simp only [fLr2, ha, hb, hd, hd', Option.bind_some, h1, if_true, h2]
theorem gTupOf_l {α : Type} {e : α → D} {xs : List α} : gTupOf (eL e xs) = some (.val (eTl e xs)) := rfl
/-! ##### sets of ints -/
def sortSetT (xs : List Int) : Option (List Int) := if xs.length ≤ 4000 then some (setI xs) else none
def lenSetT (xs : List Int) : Option Int := if xs.length ≤ 4000 then some (uniqI xs).length else none
theorem gSortSet_t {xs r : List Int} (h : sortSetT xs = some r) : gSortSet (eL D.int xs) = some (.tmp (eL D.int r)) := by
  unfold sortSetT at h
  obtain ⟨few, e⟩ := if_get h
  cases e
  show (intsOf (xs.map D.int)).bind _ = _
  rw [intsOf_e]
  exact if_pos few
theorem gLenSet_t {xs : List Int} {r : Int} (h : lenSetT xs = some r) : gLenSet (eL D.int xs) = some (.val (.int r)) := by
  unfold lenSetT at h
  obtain ⟨few, e⟩ := if_get h
  cases e
  show (intsOf (xs.map D.int)).bind _ = _
  rw [intsOf_e]
  exact if_pos few
end J
namespace J
open PySem PySem.Spec PyProof.Rows L2

/-! ### typed: what is raised -/
def xalt {α : Type} (u : Option α) (k : α → Option XR) (x : Option XR) : Option XR := match u with
  | some a => k a
  | none => x
def tryT {S : Type} (t : Option S) (x : Option XR) (h : XR → Option S) : Option S := match t with
  | some s => some s
  | none => x.bind h
def hcT {S : Type} (U : List String) (c : String) (r : XR) (a b : Option S) : Option S := if r.1 ∈ U then (if erSub r.1 c = true then a else b) else none
def forX {α S : Type} (b : α → S → Option S) (x : α → S → Option XR) : List α → S → Option XR
  | [], _ => none
  | y :: ys, s => xalt (b y s) (fun s1 => forX b x ys s1) (x y s)
/-- raised, and not come to an end -/
def Xe {α : Type} (f : Tau → Option α) (x : FX) (τ : Tau) (r : XR) (τ' : Tau) : Prop := f τ = none ∧ x τ = some (r, τ')
def Xm (F : FS) (X : FX) (τ : Tau) (t : Option XR) (P : Tau → Prop) : Prop := ∀ r, t = some r → ∃ τ', Xe F X τ r τ' ∧ P τ'
section
variable {F G A B : FS} {X Y XA XB : FX} {τ τ1 τ2 τ' : Tau} {t t1 t2 : Option XR} {P : Tau → Prop} {α : Type} {r : XR}
theorem xm_none : Xm F X τ none P := fun r e => by cases e
theorem xm_bind {u : Option α} {k : α → Option XR} (h : ∀ a, u = some a → Xm F X τ (k a) P) : Xm F X τ (u.bind k) P := fun c e => by
  obtain ⟨a, e1, e2⟩ := bind_some' e
  exact h a e1 c e2
theorem xm_alt {u : Option α} {k : α → Option XR} {x : Option XR} (hx : ∀ r, x = some r → ∃ τ', Xe F X τ r τ' ∧ P τ') (h : ∀ a, u = some a → Xm F X τ (k a) P) : Xm F X τ (xalt u k x) P := fun c e => by
  cases u with
  | none => exact hx c e
  | some a => exact h a rfl c e
theorem xe_seq (h : F τ = some (.nx τ1)) (k : Xe G Y τ1 r τ') : Xe (sSeq F G) (xSeq F X Y) τ r τ' := ⟨by unfold sSeq; rw [h]; exact k.1, by unfold xSeq; rw [h]; exact k.2⟩
theorem xe_seq0 (h : Xe F X τ r τ') : Xe (sSeq F G) (xSeq F X Y) τ r τ' := ⟨by unfold sSeq; rw [h.1]; rfl, by unfold xSeq; rw [h.1]; exact h.2⟩
theorem xm_seq (h : F τ = some (.nx τ1)) (k : Xm G Y τ1 t P) : Xm (sSeq F G) (xSeq F X Y) τ t P := fun c e => let ⟨τ', h1, h2⟩ := k c e; ⟨τ', xe_seq h h1, h2⟩
theorem xm_set (τ1 : α → Tau) {v : α} {k : α → Option XR} (h : F τ = some (.nx τ2)) (hk : ∀ x, Xm G Y (τ1 x) (k x) P) (e : τ2 = τ1 v := by rfl) : Xm (sSeq F G) (xSeq F X Y) τ (lt v k) P := xm_seq h (e ▸ hk v)
theorem xm_sq (h : F τ = some (.nx τ2)) (k : Xm G Y τ1 t P) (e : τ2 = τ1 := by rfl) : Xm (sSeq F G) (xSeq F X Y) τ t P := xm_seq h (e ▸ k)
theorem seq_nextX : xSeq F X xNo τ = (match F τ with | some _ => none | none => X τ) := by
  unfold xSeq
  cases F τ with
  | none => rfl
  | some fl => cases fl <;> rfl
theorem xm_one (h : Xm (sSeq F sNext) (xSeq F X xNo) τ t P) : Xm F X τ t P := fun c e => by
  obtain ⟨τ', h1, h2⟩ := h c e
  refine ⟨τ', ⟨seq_next.symm.trans h1.1, ?_⟩, h2⟩
  have h3 : F τ = none := seq_next.symm.trans h1.1
  have h4 := seq_nextX.symm.trans h1.2
  rw [h3] at h4
  exact h4
theorem seq_as : sSeq (sSeq A B) G τ = sSeq A (sSeq B G) τ := by
  unfold sSeq
  cases A τ with
  | none => rfl
  | some fl => cases fl <;> rfl
theorem xm_assoc (h : Xm (sSeq A (sSeq B G)) (xSeq A XA (xSeq B XB Y)) τ t P) : Xm (sSeq (sSeq A B) G) (xSeq (sSeq A B) (xSeq A XA XB) Y) τ t P := fun c e => by
  obtain ⟨τ', h1, h2⟩ := h c e
  refine ⟨τ', ⟨seq_as.trans h1.1, ?_⟩, h2⟩
  have q := h1.2
  unfold xSeq sSeq at *
  cases hA : A τ with
  | none => rw [hA] at q; exact q
  | some fl => rw [hA] at q; cases fl <;> first | exact q | (cases q; done)
theorem xm_assoc0 (h : Xm (sSeq A (sSeq B G)) (xSeq A xNo (xSeq B xNo Y)) τ t P) : Xm (sSeq (sSeq A B) G) (xSeq (sSeq A B) xNo Y) τ t P := fun c e => by
  obtain ⟨τ', h1, h2⟩ := h c e
  refine ⟨τ', ⟨seq_as.trans h1.1, ?_⟩, h2⟩
  have q := h1.2
  unfold xSeq sSeq at *
  cases hA : A τ with
  | none => rw [hA] at q; exact q
  | some fl => rw [hA] at q; cases fl <;> first | exact q | (cases q; done)
theorem xm_skip (h : Xm G Y τ t P) : Xm (sSeq sNext G) (xSeq sNext X Y) τ t P := xm_seq rfl h
theorem xm_if {fc : FT} {b : Bool} (hc : fc τ = some (b, τ1)) (h1 : b = true → Xm (sSeq A G) (xSeq A XA Y) τ1 t1 P) (h2 : b = false → Xm (sSeq B G) (xSeq B XB Y) τ1 t2 P) : Xm (sSeq (sIf fc A B) G) (xSeq (sIf fc A B) (xIf fc XA XB) Y) τ (if b = true then t1 else t2) P := fun c e => by
  have key : ∀ {b A' XA' t'}, fc τ = some (b, τ1) → (∀ τ, b = true → A' τ = A τ ∧ XA' τ = XA τ) → (∀ τ, b = false → A' τ = B τ ∧ XA' τ = XB τ) → Xm (sSeq A' G) (xSeq A' XA' Y) τ1 t' P → t' = some c → ∃ τ', Xe (sSeq (sIf fc A B) G) (xSeq (sIf fc A B) (xIf fc XA XB) Y) τ c τ' ∧ P τ' := fun {b A' XA' t'} hc q1 q2 h e => by
    obtain ⟨τ', h1, h2⟩ := h c e
    refine ⟨τ', ⟨?_, ?_⟩, h2⟩
    · have z := h1.1
      unfold sSeq sIf at *
      rw [hc]
      cases b with
      | true => rw [(q1 τ1 rfl).1] at z; exact z
      | false => rw [(q2 τ1 rfl).1] at z; exact z
    · have z := h1.2
      unfold xSeq sIf xIf at *
      rw [hc]
      cases b with
      | true => rw [(q1 τ1 rfl).1, (q1 τ1 rfl).2] at z; exact z
      | false => rw [(q2 τ1 rfl).1, (q2 τ1 rfl).2] at z; exact z
  cases b with
  | true => exact key (A' := A) (XA' := XA) hc (fun _ _ => ⟨rfl, rfl⟩) (fun _ z => by cases z) (h1 rfl) e
  | false => exact key (A' := B) (XA' := XB) hc (fun _ z => by cases z) (fun _ _ => ⟨rfl, rfl⟩) (h2 rfl) e
theorem xm_if0 {fc : FT} {b : Bool} (hc : fc τ = some (b, τ1)) (h1 : b = true → Xm (sSeq A G) (xSeq A xNo Y) τ1 t1 P) (h2 : b = false → Xm (sSeq B G) (xSeq B xNo Y) τ1 t2 P) : Xm (sSeq (sIf fc A B) G) (xSeq (sIf fc A B) xNo Y) τ (if b = true then t1 else t2) P := fun c e => by
  have e0 : xIf fc xNo xNo τ = none := by unfold xIf xNo; rw [hc]; cases b <;> rfl
  obtain ⟨τ', q1, q2⟩ := xm_if (XA := xNo) (XB := xNo) hc h1 h2 c e
  refine ⟨τ', ⟨q1.1, ?_⟩, q2⟩
  have z := q1.2
  unfold xSeq at z ⊢
  cases hF : sIf fc A B τ with
  | none => rw [hF] at z; rw [show xNo τ = none from rfl, ← e0]; exact z
  | some fl => rw [hF] at z; exact z
theorem xm_raise {c : String} {d : D} {fa : FA} (ha : fa τ = some ([d], τ1)) (hp : P τ1) : Xm (sSeq sNo G) (xSeq sNo (xRaise c fa) Y) τ (some (c, d)) P := fun r e => by
  cases e
  exact ⟨τ1, ⟨rfl, by unfold xSeq xRaise; rw [ha]; rfl⟩, hp⟩
/-! #### loops -/
theorem forX_ok {S : Type} {g : FG} {f : FS} {xf : FX} (en : α → D) (St : S → Tau → Prop) {b : α → S → Option S} {x : α → S → Option XR} (hb : ∀ y s τ, St s τ → ∃ τ2, g (en y) τ = some τ2 ∧ Im f τ2 (b y s) (FlS St) ∧ Xm f xf τ2 (x y s) P) :
    ∀ (ys : List α) (s : S) (τ : Tau), St s τ → ∀ r, forX b x ys s = some r → ∃ τ', forD g f (ys.map en) τ = none ∧ forDX g f xf (ys.map en) τ = some (r, τ') ∧ P τ'
  | [], s, τ, h, r, e => by cases e
  | y :: ys, s, τ, h, r, e => by
    obtain ⟨τ2, h1, h2, h3⟩ := hb y s τ h
    unfold forX at e
    cases hbs : b y s with
    | none =>
      rw [hbs] at e
      obtain ⟨τ', ⟨q1, q2⟩, q3⟩ := h3 r e
      refine ⟨τ', ?_, ?_, q3⟩
      · rw [List.map_cons]; unfold forD; rw [h1, Option.bind_some, q1]; rfl
      · rw [List.map_cons]; unfold forDX; rw [h1, Option.bind_some, q1]; exact q2
    | some s1 =>
      rw [hbs] at e
      obtain ⟨fl, h4, τ3, hf, h5⟩ := h2 s1 hbs
      obtain ⟨τ', q1, q2, q3⟩ := forX_ok en St hb ys s1 τ3 h5 r e
      refine ⟨τ', ?_, ?_, q3⟩
      · rw [List.map_cons, forD_cons h1 h4]
        rcases hf with rfl | rfl <;> exact q1
      · rw [List.map_cons]; unfold forDX; rw [h1, Option.bind_some, h4]
        rcases hf with rfl | rfl <;> exact q2
theorem xm_for {S : Type} {w : FI} {g : FG} {f : FS} {xf : FX} {xs : List α} (en : α → D) (St : S → Tau → Prop) {b : α → S → Option S} {x : α → S → Option XR} {s0 : S} {k : S → Option XR} (hw : w τ = some (xs.map en, τ1)) (h0 : St s0 τ1) (hb : ∀ y s τ, St s τ → ∃ τ2, g (en y) τ = some τ2 ∧ Im f τ2 (b y s) (FlS St) ∧ Xm f xf τ2 (x y s) P)
    (hk : ∀ s τ, St s τ → Xm G Y τ (k s) P) : Xm (sSeq (sFor w g f) G) (xSeq (sFor w g f) (xFor w g f xf) Y) τ (xalt (forS b xs s0) k (forX b x xs s0)) P := by
  refine xm_alt (fun r hr => ?_) fun s hs => ?_
  · obtain ⟨τ', q1, q2, q3⟩ := forX_ok en St hb xs s0 τ1 h0 r hr
    exact ⟨τ', xe_seq0 ⟨by unfold sFor; rw [hw]; exact q1, by unfold xFor; rw [hw]; exact q2⟩, q3⟩
  · obtain ⟨τ', q1, q2⟩ := forS_ok en St (fun y s τ h => let ⟨τ2, a, b, _⟩ := hb y s τ h; ⟨τ2, a, b⟩) xs s0 τ1 h0 s hs
    exact xm_seq (by unfold sFor; rw [hw]; exact q1) (hk s τ' q2)
/-! #### expressions -/
variable {m : Mir} {mx : MirX} {f fe ff : FE} {fa fr : FA} {x xa xr y : FX} {ds : List D} {a o : Op} {d : D}
theorem xe_call (ha : fa τ = some (ds, τ1)) (h : m ds = none ∧ ∃ z, mx ds = some (r.1, r.2, z)) : Xe (fCall m fa) (xCall mx fa xa) τ r τ1 := by
  obtain ⟨h1, z, h2⟩ := h
  exact ⟨by simp only [fCall, ha, h1, Option.bind_some, Option.bind_none], by simp only [xCall, xAlt, ha, h2, Option.bind_some]⟩
theorem xe_callA (h : Xe fa xa τ r τ') : Xe (fCall m fa) (xCall mx fa xa) τ r τ' := ⟨by simp only [fCall, h.1, Option.bind_none], by simp only [xCall, xAlt, h.1, h.2]⟩
theorem xe_callP (h : Xe fa xa τ r τ') : Xe (fCall m fa) xa τ r τ' := ⟨by simp only [fCall, h.1, Option.bind_none], h.2⟩
theorem xe_cons0 (h : Xe f x τ r τ') : Xe (aCons f fr) (xCons f x xr) τ r τ' := ⟨by simp only [aCons, h.1, Option.bind_none], by simp only [xCons, xAlt, h.1, h.2]⟩
theorem xe_cons1 (hf : f τ = some (a, τ1)) (hz : fz τ1 a = some (d, τ2)) (h : Xe fr xr τ2 r τ') : Xe (aCons f fr) (xCons f x xr) τ r τ' := ⟨by simp only [aCons, hf, hz, h.1, Option.bind_some, Option.bind_none], by simp only [xCons, xAlt, hf, hz, h.2, Option.bind_some]⟩
theorem xe_lst (h : Xe fa xa τ r τ') : Xe (fLst fa) xa τ r τ' := ⟨by simp only [fLst, h.1, Option.bind_none], h.2⟩
theorem xe_tup (h : Xe fa xa τ r τ') : Xe (fTup fa) xa τ r τ' := ⟨by simp only [fTup, h.1, Option.bind_none], h.2⟩
theorem xe_bin0 {g : G2} (h : Xe fe x τ r τ') : Xe (fBin g fe ff) (xTwo fe x y) τ r τ' := ⟨by simp only [fBin, h.1, Option.bind_none], by simp only [xTwo, xAlt, h.1, h.2]⟩
theorem xe_bin1 {g : G2} (he : fe τ = some (a, τ1)) (h : Xe ff y τ1 r τ') : Xe (fBin g fe ff) (xTwo fe x y) τ r τ' := ⟨by simp only [fBin, he, h.1, Option.bind_some, Option.bind_none], by simp only [xTwo, xAlt, he, h.2]⟩
theorem xe_ix {g : G2} (h : Xe fe x τ r τ') : Xe (fBin g fe ff) x τ r τ' := ⟨by simp only [fBin, h.1, Option.bind_none], h.2⟩
theorem xe_prop {cn : String} (h : Xe fe x τ r τ') : Xe (fProp cn m fe) x τ r τ' := ⟨by simp only [fProp, h.1, Option.bind_none], h.2⟩
theorem xe_make {cn : String} (ha : fa τ = some (ds, τ1)) (h : m (.ins cn [] :: ds) = none ∧ ∃ z, mx (.ins cn [] :: ds) = some (r.1, r.2, z)) : Xe (fMake cn m fa) (xMake cn mx fa xa) τ r τ1 := by
  obtain ⟨h1, z, h2⟩ := h
  exact ⟨by simp only [fMake, ha, h1, Option.bind_some, Option.bind_none], by simp only [xMake, xAlt, ha, h2, Option.bind_some]⟩
theorem xe_meth {cn mn : String} {τ3 : Tau} (he : fe τ = some (o, τ1)) (hf : fz τ1 o = some (d, τ2)) (ha : fa τ2 = some (ds, τ3)) (h : m (d :: ds) = none ∧ ∃ z, mx (d :: ds) = some (r.1, r.2, z)) (hi : insOk cn mn d = true) : Xe (fMeth cn mn m fe fa) (xMeth cn mn mx fe x fa xa) τ r τ3 := by
  obtain ⟨h1, z, h2⟩ := h
  exact ⟨by simp only [fMeth, he, hf, hi, if_true, ha, h1, Option.bind_some, Option.bind_none], by simp only [xMeth, xAlt, he, hf, hi, if_true, ha, h2, Option.bind_some]⟩
theorem xe_methIo {cn mn : String} {i : Nat} {d0 z : D} (he : fe τ = some (.slot i, τ1)) (ha : fa τ1 = some (ds, τ2)) (h : m (d0 :: ds) = none ∧ mx (d0 :: ds) = some (r.1, r.2, z)) (hi : insOk cn mn d = true) (hx : deref τ1 (.slot i) = some d := by rfl) (h2 : τ2[i]? = some (some (.ow d0)) := by rfl) :
    Xe (fMethIo cn mn m fe fa) (xMethIo cn mn mx fe x fa xa) τ r (τ2.set i (some (.ow z))) :=
  ⟨by simp only [fMethIo, he, hx, hi, if_true, ha, Option.bind_some, ioCall, h2, h.1, Option.bind_none], by simp only [xMethIo, xAlt, he, hx, hi, if_true, ha, ioX, h2, h.2, Option.bind_some]⟩
theorem xs_expr (h : Xe fe x τ r τ') : Xe (sExpr fe) x τ r τ' := ⟨by simp only [sExpr, h.1, Option.bind_none], h.2⟩
theorem xs_set {i : Nat} (h : Xe fe x τ r τ') : Xe (sSet i fe) x τ r τ' := ⟨by simp only [sSet, h.1, Option.bind_none], h.2⟩
theorem xs_setF {i : Nat} (h : Xe fe x τ r τ') : Xe (sSetF i fe) x τ r τ' := ⟨by simp only [sSetF, h.1, Option.bind_none], h.2⟩
theorem xs_ret (h : Xe fe x τ r τ') : Xe (sRet fe) x τ r τ' := ⟨by simp only [sRet, h.1, Option.bind_none], h.2⟩
theorem xs_retF (h : Xe fe x τ r τ') : Xe (sRetF fe) x τ r τ' := ⟨by simp only [sRetF, h.1, Option.bind_none], h.2⟩
theorem xs_unp {fg : FG} (h : Xe fe x τ r τ') : Xe (sUnp fe fg) x τ r τ' := ⟨by simp only [sUnp, h.1, Option.bind_none], h.2⟩
/-! #### a def that raises -/
theorem xm_def (b : Bool) (n np : Nat) {ds : List D} {r : XR} {t : Option XR} (hm : m = runF b n np F) (hmx : mx = runX b n np X) (ht : t = some r) (hl : ds.length = np) (hi : ini b n ds = τ) (h : Xm F X τ t fun τ' => ∃ z, ioOut b τ' = some z) : m ds = none ∧ ∃ z, mx ds = some (r.1, r.2, z) := by
  subst hm hmx hi
  obtain ⟨τ', ⟨h1, h2⟩, z, h3⟩ := h r ht
  refine ⟨?_, z, ?_⟩
  · unfold runF; rw [if_pos hl, h1]; rfl
  · unfold runX; rw [if_pos hl, h2, Option.bind_some]; dsimp only; rw [h3]; rfl
/-! #### try -/
theorem ie_ev {c : String} {a dx i : Nat} {v : D} (h : τ[i]? = some (some (.sh (.exc a dx c v))) := by rfl) : fEv c a dx i τ = some (.val v, τ) := by
  simp only [fEv, exAt, h, and_self, if_true, Option.bind_some]
theorem ie_eis {c : String} {a dx i : Nat} {v : D} {b : Bool} (h : τ[i]? = some (some (.sh (.exc a dx c v))) := by rfl) : fEis c a dx i b τ = some (.val (.bl b), τ) := by
  simp only [fEis, exAt, h, and_self, if_true, Option.bind_some]
theorem hp_cons {S : Type} {U : List String} {c : String} {i : Nat} {H : String → Nat → Nat → FS} {l : List HF} {lx : Tau} {L : S → Tau} {a b : Option S} (h1 : ∀ x dx : Nat, ∃ τe, lx.set i (some (.sh (.exc x dx r.1 r.2))) = τe ∧ Im (H r.1 x dx) τe a (fun s fl => ∃ τ2, fl = .nx τ2 ∧ τ2.set i none = L s))
    (h2 : ∀ s, b = some s → hPick U l r lx = some (.nx (L s))) : ∀ s, hcT U c r a b = some s → hPick U ((c, i, H) :: l) r lx = some (.nx (L s)) := fun s e => by
  unfold hcT at e
  unfold hPick
  obtain ⟨hu, e⟩ := if_get' e
  rw [if_pos hu]
  by_cases hs : erSub r.1 c = true
  · rw [if_pos hs] at e
    show (if erSub r.1 c = true then _ else _) = _
    rw [if_pos hs]
    refine hRun_of fun x dx => ?_
    obtain ⟨τe, q1, q2⟩ := h1 x dx
    obtain ⟨fl, q3, τ2, rfl, q4⟩ := q2 s e
    exact ⟨τ2, by rw [q1]; exact q3, q4⟩
  · rw [if_neg hs] at e
    show (if erSub r.1 c = true then _ else _) = _
    rw [if_neg hs]
    exact h2 s e
theorem im_try {S γ : Type} {U : List String} {f : FS} {x : FX} {l : List HF} {tb : Option S} {xb : Option XR} {h : XR → Option S} {k : S → Option γ} {P : γ → Flow → Prop} (L : S → Tau) (lx : Tau) (h1 : Im f τ tb (fun s fl => fl = .nx (L s))) (h2 : Xm f x τ xb (fun τ' => τ' = lx))
    (h3 : ∀ r s, h r = some s → hPick U l r lx = some (.nx (L s))) (hk : ∀ s, Im G (L s) (k s) P) : Im (sSeq (sTry U f x l) G) τ ((tryT tb xb h).bind k) P := fun c e => by
  obtain ⟨s, e1, e2⟩ := bind_some' e
  refine im_seq (τ1 := L s) ?_ (hk s) c e2
  unfold tryT at e1
  unfold sTry
  cases htb : tb with
  | some s' =>
    rw [htb] at e1
    cases e1
    obtain ⟨fl, q1, rfl⟩ := h1 s htb
    rw [q1]
  | none =>
    rw [htb] at e1
    obtain ⟨r, q1, q2⟩ := bind_some' (show xb.bind h = some s from e1)
    obtain ⟨τ', ⟨q3, q4⟩, rfl⟩ := h2 r q1
    rw [q3, q4]
    exact h3 r s q2
end
/-! ### lists of more general items; raw data read as typed -/
theorem eL_up {α β : Type} {e : α → D} {e' : β → D} {f : α → β} (xs : List α) (h : ∀ x, e x = e' (f x)) : eL e xs = eL e' (xs.map f) := by
  show D.lst _ = D.lst _
  rw [List.map_map]
  exact congrArg D.lst (List.map_congr_left fun x _ => h x)
def decM {α : Type} (dec : D → Option α) : List D → Option (List α)
  | [] => some []
  | d :: ds => (dec d).bind fun a => (decM dec ds).bind fun as => some (a :: as)
theorem decM_e {α : Type} {dec : D → Option α} {enc : α → D} (h : ∀ d a, dec d = some a → d = enc a) : ∀ {ds : List D} {xs : List α}, decM dec ds = some xs → ds = xs.map enc
  | [], xs, e => by cases e; rfl
  | d :: ds, xs, e => by
    unfold decM at e
    cases h1 : dec d with
    | none => rw [h1] at e; cases e
    | some a =>
      rw [h1] at e
      cases h2 : decM dec ds with
      | none => rw [h2] at e; cases e
      | some as =>
        rw [h2] at e
        cases e
        rw [List.map_cons, ← h d a h1, ← decM_e h h2]
def decL {α : Type} (dec : D → Option α) : D → Option (List α)
  | .lst ds => decM dec ds
  | _ => none
theorem decL_e {α : Type} {dec : D → Option α} {enc : α → D} (h : ∀ d a, dec d = some a → d = enc a) {d : D} {xs : List α} (e : decL dec d = some xs) : d = eL enc xs := by
  cases d <;> first | (cases e; done) | skip
  exact congrArg D.lst (decM_e h e)
def dec2 {α β : Type} (da : D → Option α) (db : D → Option β) : D → Option (α × β)
  | .tup [x, y] => (da x).bind fun a => (db y).bind fun b => some (a, b)
  | _ => none
theorem dec2_e {α β : Type} {da : D → Option α} {db : D → Option β} {ea : α → D} {eb : β → D} (ha : ∀ d a, da d = some a → d = ea a) (hb : ∀ d a, db d = some a → d = eb a) {d : D} {x : α × β} (e : dec2 da db d = some x) : d = eT2 ea eb x := by
  unfold dec2 at e
  split at e
  · rename_i x y
    cases h1 : da x with
    | none => rw [h1] at e; cases e
    | some a =>
      cases h2 : db y with
      | none => rw [h1, h2] at e; cases e
      | some b =>
        rw [h1, h2] at e
        cases e
        rw [ha _ _ h1, hb _ _ h2]
  · cases e
def dec3 {α β γ : Type} (da : D → Option α) (db : D → Option β) (dc : D → Option γ) : D → Option (α × β × γ)
  | .tup [x, y, z] => (da x).bind fun a => (db y).bind fun b => (dc z).bind fun c => some (a, b, c)
  | _ => none
theorem dec3_e {α β γ : Type} {da : D → Option α} {db : D → Option β} {dc : D → Option γ} {ea : α → D} {eb : β → D} {ec : γ → D} (ha : ∀ d a, da d = some a → d = ea a) (hb : ∀ d a, db d = some a → d = eb a) (hc : ∀ d a, dc d = some a → d = ec a) {d : D} {x : α × β × γ} (e : dec3 da db dc d = some x) : d = eT3 ea eb ec x := by
  unfold dec3 at e
  split at e
  · rename_i x y z
    cases h1 : da x with
    | none => rw [h1] at e; cases e
    | some a =>
      cases h2 : db y with
      | none => rw [h1, h2] at e; cases e
      | some b =>
        cases h3 : dc z with
        | none => rw [h1, h2, h3] at e; cases e
        | some c =>
          rw [h1, h2, h3] at e
          cases e
          rw [ha _ _ h1, hb _ _ h2, hc _ _ h3]
  · cases e
def dec4 {α β γ δ : Type} (da : D → Option α) (db : D → Option β) (dc : D → Option γ) (dd : D → Option δ) : D → Option (α × β × γ × δ)
  | .tup [x, y, z, w] => (da x).bind fun a => (db y).bind fun b => (dc z).bind fun c => (dd w).bind fun d => some (a, b, c, d)
  | _ => none
theorem dec4_e {α β γ δ : Type} {da : D → Option α} {db : D → Option β} {dc : D → Option γ} {dd : D → Option δ} {ea : α → D} {eb : β → D} {ec : γ → D} {ed : δ → D} (ha : ∀ d a, da d = some a → d = ea a) (hb : ∀ d a, db d = some a → d = eb a) (hc : ∀ d a, dc d = some a → d = ec a) (hd : ∀ d a, dd d = some a → d = ed a) {d : D} {x : α × β × γ × δ} (e : dec4 da db dc dd d = some x) : d = eT4 ea eb ec ed x := by
  unfold dec4 at e
  split at e
  · rename_i x y z w
    cases h1 : da x with
    | none => rw [h1] at e; cases e
    | some a =>
      cases h2 : db y with
      | none => rw [h1, h2] at e; cases e
      | some b =>
        cases h3 : dc z with
        | none => rw [h1, h2, h3] at e; cases e
        | some c =>
          cases h4 : dd w with
          | none => rw [h1, h2, h3, h4] at e; cases e
          | some d =>
            rw [h1, h2, h3, h4] at e
            cases e
            rw [ha _ _ h1, hb _ _ h2, hc _ _ h3, hd _ _ h4]
  · cases e
/-! what is told of a D that came from typed -/
theorem decM_map {α : Type} {dec : D → Option α} {enc : α → D} (h : ∀ a, dec (enc a) = some a) (xs : List α) : decM dec (xs.map enc) = some xs := by
  induction xs with
  | nil => rfl
  | cons x xs ih => rw [List.map_cons, decM, h, Option.bind_some, ih]; rfl
theorem gCat_up {α : Type} {e : α → D} {x y : D} {xs ys zs : List α} (hx : x = eL e xs) (hy : y = eL e ys) (h : catT xs ys = some zs) : gCat x y = some (.tmp (eL e zs)) := by
  subst hx hy
  exact gCat_t h
/-! ### an own == with another thing; xs * n -/
def fgT (cs : List String) (d : D) : Option Unit := if fgn cs d = true then some () else none
theorem fgT_e {cs : List String} {d : D} {u : Unit} (h : fgT cs d = some u) : fgn cs d = true := by
  unfold fgT at h
  by_cases c : fgn cs d = true
  · exact c
  · rw [if_neg c] at h; cases h
section
variable {m : Mir} {x y z z0 : D} {own : Bool}
theorem gEqF_ok {cn : String} {cs : List String} (hm : m [x, y] = some (own, z, z0)) (h1 : insC cn x = true) (h2 : fgn cs y = true) : gEqF cn cs m x y = some (mkOp own z) := by
  simp only [gEqF, h1, h2, and_self, if_true, hm, Option.bind_some]
theorem gNeF_ok {cn : String} {cs : List String} {b : Bool} (hm : m [x, y] = some (false, .bl b, z0)) (h1 : insC cn x = true) (h2 : fgn cs y = true) : gNeF cn cs m x y = some (.val (.bl !b)) := by
  simp only [gNeF, h1, h2, and_self, if_true, hm, Option.bind_some]
end
def repT {α : Type} (xs : List α) (n : Int) : Option (List α) := if n.natAbs < 9223372036854775808 ∧ xs.length * n.toNat ≤ 16777216 then some (List.replicate n.toNat xs).flatten else none
theorem map_rep {α β : Type} (f : α → β) (xs : List α) (n : Nat) : (List.replicate n (xs.map f)).flatten = ((List.replicate n xs).flatten).map f := by
  induction n with
  | zero => rfl
  | succ n ih => rw [List.replicate_succ, List.replicate_succ, List.flatten_cons, List.flatten_cons, List.map_append, ih]
theorem gRep_t {α : Type} {e : α → D} {xs ys : List α} {n : Int} (h : repT xs n = some ys) : gRep (eL e xs) (.int n) = some (.tmp (eL e ys)) := by
  unfold repT at h
  obtain ⟨c, rfl⟩ := if_get h
  show (if n.natAbs < 9223372036854775808 ∧ (xs.map e).length * n.toNat ≤ 16777216 then _ else _) = _
  rw [List.length_map, if_pos c, map_rep]
def plT (d : D) : Option Unit := if pl d = true then some () else none
theorem plT_e {d : D} {u : Unit} (h : plT d = some u) : pl d = true := by
  unfold plT at h
  by_cases c : pl d = true
  · exact c
  · rw [if_neg c] at h; cases h
/-! ### dicts with int keys -/
abbrev eDc {α : Type} (ek : Int → D) (e : α → D) (kvs : List (Int × α)) : D := .dic (kvs.map fun p => ((.inl p.1 : Key), e p.2))
section
variable {α : Type} {e : α → D} {ek : Int → D}
def getT (kvs : List (Int × α)) (k : Int) : Option α := (kvs.find? fun p => decide (p.1 = k)).map (·.2)
def hasT (kvs : List (Int × α)) (k : Int) : Bool := (getT kvs k).isSome
def putL (kvs : List (Int × α)) (k : Int) (v : α) : List (Int × α) := if (kvs.any fun p => decide (p.1 = k)) = true then kvs.map (fun p => if p.1 = k then (p.1, v) else p) else kvs ++ [(k, v)]
def putO (kvs : List (Int × α)) (k : Int) (v : α) : Option (List (Int × α)) := if kvs.length < 16777216 then some (putL kvs k v) else none
theorem getK_e (k : Int) : ∀ kvs : List (Int × α), getK (kvs.map fun p => ((.inl p.1 : Key), e p.2)) (.inl k) = (getT kvs k).map e
  | [] => rfl
  | (j, v) :: r => by
    have ih := getK_e k r
    unfold getK getT at ih ⊢
    rw [List.map_cons, List.find?_cons, List.find?_cons]
    by_cases h : j = k
    · subst h; simp
    · have h' : ¬ ((.inl j : Key) = .inl k) := fun z => h (Sum.inl.inj z)
      simp only [h, h', decide_false]
      exact ih
theorem putDK_e (k : Int) (v : α) (kvs : List (Int × α)) : putDK (kvs.map fun p => ((.inl p.1 : Key), e p.2)) (.inl k) (e v) = (putL kvs k v).map fun p => ((.inl p.1 : Key), e p.2) := by
  have h1 : ((kvs.map fun p => ((.inl p.1 : Key), e p.2)).any fun kv => decide (kv.1 = .inl k)) = (kvs.any fun p => decide (p.1 = k)) := by
    rw [List.any_map]
    refine congrArg (List.any kvs) (funext fun p => ?_)
    simp only [Function.comp]
    by_cases h : p.1 = k
    · simp [h]
    · have h' : ¬ ((.inl p.1 : Key) = .inl k) := fun z => h (Sum.inl.inj z)
      simp only [h, h', decide_false]
  unfold putDK putL
  rw [h1]
  split
  · rw [List.map_map, List.map_map]
    refine List.map_congr_left fun p _ => ?_
    simp only [Function.comp]
    by_cases h : p.1 = k
    · simp [h]
    · have h' : ¬ ((.inl p.1 : Key) = .inl k) := fun z => h (Sum.inl.inj z)
      simp only [h, h', if_false]
  · rw [List.map_append]; rfl
theorem gDGet_t {kvs : List (Int × α)} {k : Int} {x : α} (h : getT kvs k = some x) : gDGet (eDc ek e kvs) (.int k) = some (.val (e x)) := by
  show ((getK (kvs.map fun p => ((.inl p.1 : Key), e p.2)) (.inl k)).map Op.val) = _
  rw [getK_e, h]; rfl
theorem gDIn_t {kvs : List (Int × α)} {k : Int} {neg : Bool} : gDIn neg (.int k) (eDc ek e kvs) = some (.val (.bl (if neg then !hasT kvs k else hasT kvs k))) := by
  show some (Op.val (.bl (if neg then !(getK (kvs.map fun p => ((.inl p.1 : Key), e p.2)) (.inl k)).isSome else (getK (kvs.map fun p => ((.inl p.1 : Key), e p.2)) (.inl k)).isSome))) = _
  rw [getK_e]
  unfold hasT
  cases getT kvs k <;> rfl
theorem ie_dnew {τ : Tau} : fDNew τ = some (.tmp (eDc ek e []), τ) := rfl
theorem setAtD_t {kvs ys : List (Int × α)} {k : Int} {v : α} {j : Nat} {τ : Tau} (h : putO kvs k v = some ys) (hk : τ[j]? = some (some (.ow (eDc ek e kvs))) := by rfl) : setAtD (.slot j) (.inl k) (e v) τ = some (τ.set j (some (.ow (eDc ek e ys)))) := by
  obtain ⟨h1, rfl⟩ := if_get h
  unfold setAtD
  dsimp only
  rw [hk]
  show (if (kvs.map _).length < 16777216 then _ else none) = _
  rw [List.length_map, if_pos h1, putDK_e]
theorem is_dput {fo fi fe : FE} {τ τ1 τ2 τ3 τ4 τ5 : Tau} {o a q : Op} {d : D} {k : Int} (h : fe τ = some (o, τ1)) (hf : fz τ1 o = some (d, τ2)) (ho : fo τ2 = some (a, τ3)) (hi : fi τ3 = some (q, τ4)) (hs : setAtD a (.inl k) d τ4 = some τ5) (hd : deref τ4 q = some (.int k) := by rfl) : sDPutF fo fi fe τ = some (.nx τ5) := by
  simp only [sDPutF, h, hf, ho, hi, hd, keyD, hs, Option.bind_some]
/-! comprehensions -/
def dcO' {β : Type} (p : α → Option Bool) (fk : α → Option Int) (f : α → Option β) : List α → List (Int × β) → Option (List (Int × β))
  | [], acc => some acc
  | x :: xs, acc => (p x).bind fun b => if b = true then (fk x).bind fun k => (f x).bind fun v => if acc.length < 16777216 then dcO' p fk f xs (putL acc k v) else none else dcO' p fk f xs acc
def dcO {β : Type} (p : α → Option Bool) (fk : α → Option Int) (f : α → Option β) (xs : List α) : Option (List (Int × β)) := dcO' p fk f xs []
theorem dcO'_ok {β : Type} {own : List Nat} {g : FG} {ft : FT} {fk fe : FE} {τ : Tau} (en : α → D) (e2 : β → D) {p : α → Option Bool} {k : α → Option Int} {f : α → Option β} : ∀ (xs : List α) (acc r : List (Int × β)),
    (∀ x, ∃ τ2, g (en x) (wipeT own τ) = some τ2 ∧ backT own τ τ2 = τ ∧ ∀ b, p x = some b → ft τ2 = some (b, τ2) ∧ (b = true → (∀ i, k x = some i → ∃ o, fk τ2 = some (o, τ2) ∧ deref τ2 o = some (.int i)) ∧ ∀ y, f x = some y → ∃ o, fe τ2 = some (o, τ2) ∧ fz τ2 o = some (e2 y, τ2))) →
    dcO' p k f xs acc = some r → dcD own g ft fk fe (xs.map en) (acc.map fun p => ((.inl p.1 : Key), e2 p.2)) τ = some (r.map fun p => ((.inl p.1 : Key), e2 p.2), τ)
  | [], acc, r, _, h => by cases h; rfl
  | x :: xs, acc, r, st, h => by
    obtain ⟨b, e1, h⟩ := bind_some' h
    obtain ⟨τ2, h1, h2, h3⟩ := st x
    obtain ⟨h4, h5⟩ := h3 b e1
    rw [List.map_cons]
    unfold dcD
    rw [h1, Option.bind_some, h4, Option.bind_some]
    dsimp only
    cases b with
    | false =>
      rw [if_neg (by simp)] at h ⊢
      rw [h2]
      exact dcO'_ok en e2 xs acc r st h
    | true =>
      rw [if_pos rfl] at h ⊢
      obtain ⟨i, ei, h⟩ := bind_some' h
      obtain ⟨y, ey, h⟩ := bind_some' h
      obtain ⟨h6, h7⟩ := h5 rfl
      obtain ⟨o, a1, a2⟩ := h6 i ei
      obtain ⟨o2, a3, a4⟩ := h7 y ey
      rw [a1, Option.bind_some]
      dsimp only
      rw [a2, Option.bind_some]
      show ((keyD (.int i)).bind _) = _
      unfold keyD
      rw [Option.bind_some, a3, Option.bind_some]
      dsimp only
      rw [a4, Option.bind_some]
      dsimp only
      obtain ⟨hl, h⟩ := if_get' h
      rw [List.length_map, if_pos hl, putDK_e, h2]
      exact dcO'_ok en e2 xs _ r st h
theorem ie_dcO {β : Type} {own : List Nat} {w : FI} {g : FG} {ft : FT} {fk fe : FE} {τ τ1 : Tau} {p : α → Option Bool} {k : α → Option Int} {f : α → Option β} {xs : List α} {ys : List (Int × β)} (en : α → D) (e2 : β → D) (h : dcO p k f xs = some ys) (hw : w τ = some (xs.map en, τ1))
    (st : ∀ x, ∃ τ2, g (en x) (wipeT own τ1) = some τ2 ∧ backT own τ1 τ2 = τ1 ∧ ∀ b, p x = some b → ft τ2 = some (b, τ2) ∧ (b = true → (∀ i, k x = some i → ∃ o, fk τ2 = some (o, τ2) ∧ deref τ2 o = some (.int i)) ∧ ∀ y, f x = some y → ∃ o, fe τ2 = some (o, τ2) ∧ fz τ2 o = some (e2 y, τ2))) : fDc own w g ft fk fe τ = some (.tmp (eDc D.int e2 ys), τ1) := by
  unfold fDc
  rw [hw, Option.bind_some]
  dsimp only
  have := dcO'_ok en e2 xs [] ys st h
  rw [List.map_nil] at this
  rw [this]
  rfl
end
/-! ### extend, min and max of a list, two fields -/
theorem ie_extT {α : Type} {e : α → D} {xs ys zs : List α} {fo fe : FE} {τ τ1 τ2 : Tau} {i : Nat} {l : List D} (h : catT xs ys = some zs) (ho : fo τ = some (.slot i, τ1)) (he : fe τ1 = some (.tmp (eL e ys), τ2)) (h0 : owL τ1 (.slot i) = some (i, l) := by rfl) (h1 : τ2[i]? = some (some (.ow (eL e xs))) := by rfl) : fExt fo fe τ = some (.val .non, τ2.set i (some (.ow (eL e zs)))) := by
  unfold catT at h
  obtain ⟨hl, rfl⟩ := if_get h
  have h2 : owL τ2 (.slot i) = some (i, xs.map e) := by unfold owL; dsimp only; rw [h1]
  simp only [fExt, ho, h0, he, tmpL, h2, Option.bind_some, List.length_map, hl, if_true]
  rw [show eL e (xs ++ ys) = .lst (xs.map e ++ ys.map e) by unfold eL; rw [List.map_append]]
def minL : List Int → Option Int
  | [] => none
  | x :: xs => some (minI xs x)
def maxL : List Int → Option Int
  | [] => none
  | x :: xs => some (maxI xs x)
theorem gMinL_t {xs : List Int} {m : Int} (h : minL xs = some m) : gMinL [eL D.int xs] = some (.val (.int m)) := by
  show (intsOf (xs.map D.int)).bind _ = _
  rw [intsOf_e, Option.bind_some]
  cases xs with
  | nil => cases h
  | cons x xs => cases h; rfl
theorem gMaxL_t {xs : List Int} {m : Int} (h : maxL xs = some m) : gMaxL [eL D.int xs] = some (.val (.int m)) := by
  show (intsOf (xs.map D.int)).bind _ = _
  rw [intsOf_e, Option.bind_some]
  cases xs with
  | nil => cases h
  | cons x xs => cases h; rfl
theorem gMinN_t {xs : List Int} : gMinN [eL D.int xs] = some (.val (eO D.int (minL xs))) := by
  show (intsOf (xs.map D.int)).bind _ = _
  rw [intsOf_e, Option.bind_some]
  cases xs with
  | nil => rfl
  | cons x xs => rfl
theorem is_unpF {cs1 cs2 : List String} {n1 n2 : String} {fo1 fo2 fe : FE} {τ τ1 τ2 τ3 τ4 τ5 τ6 : Tau} {o a b : Op} {d1 d2 : D} (h : fe τ = some (o, τ1)) (hf : fz τ1 o = some (.tup [d1, d2], τ2)) (ho : fo1 τ2 = some (a, τ3)) (hp : putAt cs1 n1 d1 a τ3 = some τ4) (ho2 : fo2 τ4 = some (b, τ5)) (hp2 : putAt cs2 n2 d2 b τ5 = some τ6) : sUnpF cs1 n1 cs2 n2 fo1 fo2 fe τ = some (.nx τ6) := by
  simp only [sUnpF, h, hf, ho, hp, ho2, hp2, Option.bind_some]
/-! ### a comprehension over an owned name -/
section
variable {α β : Type} {own : List Nat} {g : FG} {ft : FT} {fe : FE} {τ : Tau} {i : Nat}
theorem ie_lcOW {p : α → Option Bool} {f : α → Option β} {xs : List α} {ys : List β} (en : α → D) (e : β → D) (h : lcO p f xs = some ys)
    (st : ∀ x, ∃ τ2, g (en x) (wipeT own (τ.set i none)) = some τ2 ∧ backT own (τ.set i none) τ2 = τ.set i none ∧ ∀ b, p x = some b → ft τ2 = some (b, τ2) ∧ (b = true → ∀ y, f x = some y → ∃ o, fe τ2 = some (o, τ2) ∧ fz τ2 o = some (e y, τ2)))
    (hi : τ[i]? = some (some (.ow (eL en xs))) := by rfl) (hb : backT [i] τ (τ.set i none) = τ := by rfl) : fLcW own i g ft fe τ = some (.tmp (eL e ys), τ) := by
  obtain ⟨h1, h2⟩ := if_get' h
  unfold fLcW
  rw [hi]
  show (lcD own g ft fe (xs.map en) [] (τ.set i none)).bind _ = _
  rw [lcO'_ok en e xs ys [] (by simpa using h1) st h2]
  show some (Op.tmp (.lst ([] ++ ys.map e)), backT [i] τ (τ.set i none)) = _
  rw [hb, List.nil_append]
theorem ie_lcPW {p : α → Bool} {f : α → β} {xs : List α} {ys : List β} (en : α → D) (e : β → D) (h : lcP p f xs = some ys)
    (st : ∀ x, ∃ τ2 o, g (en x) (wipeT own (τ.set i none)) = some τ2 ∧ backT own (τ.set i none) τ2 = τ.set i none ∧ ft τ2 = some (p x, τ2) ∧ fe τ2 = some (o, τ2) ∧ fz τ2 o = some (e (f x), τ2))
    (hi : τ[i]? = some (some (.ow (eL en xs))) := by rfl) (hb : backT [i] τ (τ.set i none) = τ := by rfl) : fLcW own i g ft fe τ = some (.tmp (eL e ys), τ) := by
  obtain ⟨h1, rfl⟩ := if_get h
  refine ie_lcOW (p := fun x => some (p x)) (f := fun x => some (f x)) en e (lcO_of h1 (fun _ _ => rfl) (fun _ _ _ => rfl)) (fun x => ?_) hi hb
  obtain ⟨τ2, o, a1, a2, a3, a4, a5⟩ := st x
  exact ⟨τ2, a1, a2, fun b hb => by cases hb; exact ⟨a3, fun _ y hy => by cases hy; exact ⟨o, a4, a5⟩⟩⟩
theorem ie_mapPW {f : α → β} {xs : List α} {ys : List β} (en : α → D) (e : β → D) (h : mapP f xs = some ys)
    (st : ∀ x, ∃ τ2 o, g (en x) (wipeT own (τ.set i none)) = some τ2 ∧ backT own (τ.set i none) τ2 = τ.set i none ∧ fe τ2 = some (o, τ2) ∧ fz τ2 o = some (e (f x), τ2))
    (hi : τ[i]? = some (some (.ow (eL en xs))) := by rfl) (hb : backT [i] τ (τ.set i none) = τ := by rfl) : fLcW own i g tAll fe τ = some (.tmp (eL e ys), τ) := by
  obtain ⟨h1, rfl⟩ := if_get h
  refine ie_lcPW (p := fun _ => true) (f := f) en e (by unfold lcP; rw [if_pos h1, List.filter_eq_self.mpr fun _ _ => rfl]) (fun x => ?_) hi hb
  obtain ⟨τ2, o, a1, a2, a4, a5⟩ := st x
  exact ⟨τ2, o, a1, a2, rfl, a4, a5⟩
end
/-! ### session 4: locked dicts, d[k] op= e, reverse, clear, pop, divmod, own * int -/
abbrev eDcL {α : Type} (ek : Int → D) (e : α → D) (kvs : List (Int × α)) : D := .dicL (kvs.map fun p => ((.inl p.1 : Key), e p.2))
section
variable {α : Type} {e : α → D} {ek : Int → D}
theorem gDGet_tL {kvs : List (Int × α)} {k : Int} {x : α} (h : getT kvs k = some x) : gDGet (eDcL ek e kvs) (.int k) = some (.val (e x)) := by
  show ((getK (kvs.map fun p => ((.inl p.1 : Key), e p.2)) (.inl k)).map Op.val) = _
  rw [getK_e, h]; rfl
theorem getAtD_t {kvs : List (Int × α)} {k : Int} {x : α} {j : Nat} {τ : Tau} (h : getT kvs k = some x) (hk : τ[j]? = some (some (.ow (eDc ek e kvs))) := by rfl) : getAtD (.slot j) (.inl k) τ = some (e x) := by
  unfold getAtD
  dsimp only
  rw [hk]
  show getK (kvs.map fun p => ((.inl p.1 : Key), e p.2)) (.inl k) = _
  rw [getK_e, h]; rfl
theorem is_daug {g : G2} {fo fi fe : FE} {τ τ1 τ2 τ3 τ4 : Tau} {q a : Op} {j : Nat} {k : Int} {d0 d1 d : D} (ho : fo τ = some (.slot j, τ1)) (hi : fi τ1 = some (q, τ2)) (hg : getAtD (.slot j) (.inl k) τ2 = some d0) (he : fe τ2 = some (a, τ3)) (hz : g d0 d1 = some (.val d)) (hs : setAtD (.slot j) (.inl k) d τ3 = some τ4) (hd : deref τ2 q = some (.int k) := by rfl) (ha : deref τ3 a = some d1 := by rfl) : sDAugF g fo fi fe τ = some (.nx τ4) := by
  simp only [sDAugF, ho, hi, hd, keyD, hg, he, ha, hz, opVal, hs, Option.bind_some]
end
theorem noDL_map {α : Type} {e : α → D} (h : ∀ x, noD (e x) = true) : ∀ xs : List α, noDL (xs.map e) = true
  | [] => rfl
  | x :: xs => by
    show (noD (e x) && noDL (xs.map e)) = true
    rw [h x, noDL_map h xs]; rfl
theorem noDL_int (xs : List Int) : noDL (xs.map D.int) = true := noDL_map (fun _ => rfl) xs
theorem noDK_map {α : Type} {e : α → D} (h : ∀ x, noD (e x) = true) : ∀ xs : List (Int × α), noDK (xs.map fun p => ((.inl p.1 : Key), e p.2)) = true
  | [] => rfl
  | x :: xs => by
    show (noD (e x.2) && noDK (xs.map fun p => ((.inl p.1 : Key), e p.2))) = true
    rw [h x.2, noDK_map h xs]; rfl
section
variable {α β : Type} {own : List Nat} {g : FG} {ft : FT} {fe : FE} {τ τL : Tau} {i : Nat}
theorem ie_lcK {p : Int → Option Bool} {f : Int → Option β} {kvs : List (Int × α)} {ys : List β} (e3 : α → D) (e : β → D) (h : lcO p f (kvs.map (·.1)) = some ys) (n3 : ∀ x, noD (e3 x) = true) (ne : ∀ x, noD (e x) = true)
    (st : ∀ x, ∃ τ2, g (D.int x) (wipeT own τL) = some τ2 ∧ backT own τL τ2 = τL ∧ ∀ b, p x = some b → ft τ2 = some (b, τ2) ∧ (b = true → ∀ y, f x = some y → ∃ o, fe τ2 = some (o, τ2) ∧ fz τ2 o = some (e y, τ2)))
    (ho : othersFree i τ = true) (ho2 : othersFree i τL = true) (hi : τ[i]? = some (some (.sh (eDc D.int e3 kvs))) := by rfl) (hL : τ.set i (some (.sh (eDcL D.int e3 kvs))) = τL := by rfl) (hb : τL.set i (some (.sh (eDc D.int e3 kvs))) = τ := by rfl) : fLcK own i g ft fe τ = some (.tmp (eL e ys), τ) := by
  obtain ⟨h1, h2⟩ := if_get' h
  unfold fLcK
  rw [hi]
  dsimp only
  rw [if_pos ⟨ho, noDK_map n3 kvs⟩, hL]
  have hk : ((kvs.map fun p => ((.inl p.1 : Key), e3 p.2)).map fun kv => keyDD kv.1) = (kvs.map (·.1)).map D.int := by
    rw [List.map_map, List.map_map]; rfl
  rw [hk, lcO'_ok D.int e (kvs.map (·.1)) ys [] (by simpa using h1) st h2]
  rw [Option.bind_some, List.nil_append]
  dsimp only
  rw [if_pos ⟨ho2, noDL_map ne ys⟩, hb]
end
/-! own operator with an int -/
theorem gM2I_ok {cn : String} {m : Mir} {x : D} {i : Int} {own : Bool} {z z0 : D} (hm : m [x, .int i] = some (own, z, z0)) (h1 : insC cn x = true) : gM2I cn m x (.int i) = some (mkOp own z) := by
  simp only [gM2I, h1, if_true, hm, Option.bind_some]
section
variable {α : Type} {e : α → D} {fo fe : FE} {τ τ1 τ2 : Tau} {i : Nat}
theorem ie_rev {xs : List α} (ho : fo τ = some (.slot i, τ1)) (h1 : τ1[i]? = some (some (.ow (eL e xs))) := by rfl) : fLMut List.reverse fo τ = some (.val .non, τ1.set i (some (.ow (eL e xs.reverse)))) := by
  have h2 : owL τ1 (.slot i) = some (i, xs.map e) := by unfold owL; dsimp only; rw [h1]
  simp only [fLMut, ho, h2, Option.bind_some, ← List.map_reverse]
theorem ie_clear {xs : List α} (ho : fo τ = some (.slot i, τ1)) (h1 : τ1[i]? = some (some (.ow (eL e xs))) := by rfl) : fLMut (fun _ => []) fo τ = some (.val .non, τ1.set i (some (.ow (eL e ([] : List α))))) := by
  have h2 : owL τ1 (.slot i) = some (i, xs.map e) := by unfold owL; dsimp only; rw [h1]
  simp only [fLMut, ho, h2, Option.bind_some]
  rfl
def popT (xs : List α) : Option (α × List α) := (xs[xs.length - 1]?).bind fun x => some (x, xs.dropLast)
def popAtT (xs : List α) (i : Int) : Option (α × List α) := if -(2 ^ 63) ≤ i ∧ i < 2 ^ 63 then (ixN xs.length i).bind fun k => (xs[k]?).bind fun x => some (x, xs.eraseIdx k) else none
theorem ie_pop {xs : List α} {r : α × List α} (h : popT xs = some r) (ho : fo τ = some (.slot i, τ1)) (h1 : τ1[i]? = some (some (.ow (eL e xs))) := by rfl) : fPop fo τ = some (.val (e r.1), τ1.set i (some (.ow (eL e r.2)))) := by
  obtain ⟨x, hx, h⟩ := bind_some' h
  cases h
  have h2 : owL τ1 (.slot i) = some (i, xs.map e) := by unfold owL; dsimp only; rw [h1]
  have h3 : (xs.map e)[(xs.map e).length - 1]? = some (e x) := by rw [List.length_map, List.getElem?_map, hx]; rfl
  simp only [fPop, ho, h2, Option.bind_some, h3, ← List.map_dropLast]
theorem ie_popAt {xs : List α} {k : Int} {r : α × List α} {a : Op} {l : List D} (h : popAtT xs k = some r) (ho : fo τ = some (.slot i, τ1)) (he : fe τ1 = some (a, τ2)) (h0 : owL τ1 (.slot i) = some (i, l) := by rfl) (hd : deref τ2 a = some (.int k) := by rfl) (h1 : τ2[i]? = some (some (.ow (eL e xs))) := by rfl) : fPopAt fo fe τ = some (.val (e r.1), τ2.set i (some (.ow (eL e r.2)))) := by
  obtain ⟨hk, h⟩ := if_get' h
  obtain ⟨n, hn, h⟩ := bind_some' h
  obtain ⟨x, hx, h⟩ := bind_some' h
  cases h
  have h2 : owL τ2 (.slot i) = some (i, xs.map e) := by unfold owL; dsimp only; rw [h1]
  have h3 : (xs.map e)[n]? = some (e x) := by rw [List.getElem?_map, hx]; rfl
  have h4 : ixD (xs.map e).length (.int k) = some n := by unfold ixD; dsimp only; rw [if_pos hk, List.length_map, hn]
  have h5 : (xs.map e).eraseIdx n = (xs.eraseIdx n).map e := by rw [List.eraseIdx_eq_take_drop_succ, List.eraseIdx_eq_take_drop_succ, List.map_append, List.map_take, List.map_drop]
  simp only [fPopAt, ho, h0, he, hd, h2, Option.bind_some, h4, h3, h5]
end
def divModT (i j : Int) : Option (Int × Int) := if divOk j = true then some (i / j, i % j) else none
theorem gDivM_t {i j : Int} {r : Int × Int} (h : divModT i j = some r) : gDivM [.int i, .int j] = some (.val (eT2 D.int D.int r)) := by
  obtain ⟨h1, rfl⟩ := if_get h
  show (if divOk j = true then _ else none) = _
  rw [if_pos h1]
/-! ##### sorted pairs, sum(range), extend by a list that is read -/
theorem eLpairs (ps : List (Int × Int)) : eL (eT2 D.int D.int) ps = .lst (ps.map pairD) := rfl
theorem gSortP_l {xs : List (Int × Int)} : gSortP [eL (eT2 D.int D.int) xs] = some (.tmp (eL (eT2 D.int D.int) (sortP xs))) := by
  show (pairsOf (xs.map pairD)).map _ = _
  rw [pairsOf_map]; rfl
def srT (i j : Int) : Option Int := if lrOk i j = true then some ((List.range (j - i).toNat).map fun k : Nat => i + (k : Int)).sum else none
theorem ie_sr2 {fa fb : FE} {τ τ1 τ2 : Tau} {a b : Op} {i j : Int} {r : Int} (h : srT i j = some r) (ha : fa τ = some (a, τ1)) (hb : fb τ1 = some (b, τ2)) (hd : deref τ2 a = some (.int i) := by rfl) (hd' : deref τ2 b = some (.int j) := by rfl) : fSr2 fa fb τ = some (.val (.int r), τ2) := by
  unfold srT at h
  obtain ⟨h1, h2⟩ := if_get h
  subst h2
  simp only [fSr2, ha, hb, hd, hd', Option.bind_some, h1, if_true]
theorem ie_extS {α : Type} {e : α → D} {xs ys zs : List α} {fo fe : FE} {τ τ1 τ2 : Tau} {i : Nat} {l : List D} {a : Op} (h : catT xs ys = some zs) (ho : fo τ = some (.slot i, τ1)) (he : fe τ1 = some (a, τ2)) (hd : deref τ2 a = some (eL e ys) := by rfl) (h0 : owL τ1 (.slot i) = some (i, l) := by rfl) (h1 : τ2[i]? = some (some (.ow (eL e xs))) := by rfl) : fExtS fo fe τ = some (.val .non, τ2.set i (some (.ow (eL e zs)))) := by
  unfold catT at h
  obtain ⟨hl, rfl⟩ := if_get h
  have h2 : owL τ2 (.slot i) = some (i, xs.map e) := by unfold owL; dsimp only; rw [h1]
  have hd2 : deref τ2 a = some (.lst (ys.map e)) := hd
  simp only [fExtS, ho, h0, he, hd2, h2, Option.bind_some, List.length_map, hl, if_true]
  rw [show eL e (xs ++ ys) = .lst (xs.map e ++ ys.map e) by unfold eL; rw [List.map_append]]
/-! ##### targets xs[:c], pairs of targets -/
def slcT {α : Type} (xs : List α) (c : Int) (ys : List α) : Option (List α) := if 0 ≤ c ∧ c.toNat ≤ xs.length ∧ xs.length + ys.length ≤ 16777216 then some (ys ++ xs.drop c.toNat) else none
theorem slcT_ok {α : Type} {e : α → D} {xs ys zs : List α} {c : Int} {k : Nat} {τ : Tau} (h : slcT xs c ys = some zs) (hk : τ[k]? = some (some (.ow (eL e xs))) := by rfl) : slcAt (.slot k) c (eL e ys) τ = some (τ.set k (some (.ow (eL e zs)))) := by
  unfold slcT at h
  obtain ⟨hl, rfl⟩ := if_get h
  unfold slcAt
  dsimp only
  rw [hk]
  simp only [eL, List.length_map, hl, and_self, if_true, List.map_append, List.map_drop]
theorem wIx_ok {fo fi : FE} {τ τ1 τ2 τ' : Tau} {o k : Op} {i : Int} {d : D} (ho : fo τ = some (o, τ1)) (hi : fi τ1 = some (k, τ2)) (hs : setAt o i d τ2 = some τ') (hd : deref τ2 k = some (.int i) := by rfl) : wIx fo fi d τ = some τ' := by
  simp only [wIx, ho, hi, hd, hs, Option.bind_some]
theorem wSlc_ok {fo fi : FE} {τ τ1 τ2 τ' : Tau} {o k : Op} {i : Int} {d : D} (ho : fo τ = some (o, τ1)) (hi : fi τ1 = some (k, τ2)) (hs : slcAt o i d τ2 = some τ') (hd : deref τ2 k = some (.int i) := by rfl) : wSlc fo fi d τ = some τ' := by
  simp only [wSlc, ho, hi, hd, hs, Option.bind_some]
theorem is_one {w : D → Tau → Option Tau} {fe : FE} {τ τ1 τ2 τ3 : Tau} {o : Op} {d : D} (h : fe τ = some (o, τ1)) (hf : fz τ1 o = some (d, τ2)) (hw : w d τ2 = some τ3) : sOne w fe τ = some (.nx τ3) := by
  simp only [sOne, h, hf, hw, Option.bind_some]
theorem is_two {w1 w2 : D → Tau → Option Tau} {fe : FE} {τ τ1 τ2 τ3 τ4 : Tau} {o : Op} {d1 d2 : D} (h : fe τ = some (o, τ1)) (hf : fz τ1 o = some (.tup [d1, d2], τ2)) (h1 : w1 d1 τ2 = some τ3) (h2 : w2 d2 τ3 = some τ4) : sTwo w1 w2 fe τ = some (.nx τ4) := by
  simp only [sTwo, h, hf, h1, h2, Option.bind_some]
/-! ##### a walk over lists of three -/
def eLt3 {α : Type} (e : α → D) (x : α × α × α) : D := .lst [e x.1, e x.2.1, e x.2.2]
def uns3 {α : Type} : List (List α) → Option (List (α × α × α))
  | [] => some []
  | [a, b, c] :: xs => (uns3 xs).bind fun ys => some ((a, b, c) :: ys)
  | _ => none
theorem uns3_e {α : Type} (e : α → D) : ∀ {xs : List (List α)} {ys : List (α × α × α)}, uns3 xs = some ys → xs.map (eL e) = ys.map (eLt3 e)
  | [], ys, h => by cases h; rfl
  | [a, b, c] :: xs, ys, h => by
    obtain ⟨zs, h1, h2⟩ := bind_some' (show (uns3 xs).bind _ = some ys from h)
    cases h2
    rw [List.map_cons, List.map_cons, uns3_e e h1]
    rfl
theorem ii_uns3 {α : Type} (e : α → D) {xs : List (List α)} {ys : List (α × α × α)} {w : FI} {τ τ1 : Tau} (h : uns3 xs = some ys) (hw : w τ = some (xs.map (eL e), τ1)) : w τ = some (ys.map (eLt3 e), τ1) := by
  rw [hw, uns3_e e h]
/-! ##### == of lists of an own class -/
def eqOT {α : Type} (f : α → α → Option Bool) : List α → List α → Option Bool
  | [], [] => some true
  | x :: xs, y :: ys => (f x y).bind fun b => if b = true then eqOT f xs ys else none
  | _, _ => none
theorem eqOT_e {α : Type} {e : α → D} {f : α → α → Option Bool} {m : Mir} {cn : String} (hf : ∀ x y b, f x y = some b → ∃ z, m [e x, e y] = some (false, .bl b, z)) (hi : ∀ x, insC cn (e x) = true) : ∀ {xs ys : List α} {b : Bool}, eqOT f xs ys = some b → b = true ∧ eqAll cn m (xs.map e) (ys.map e) = true
  | [], [], b, h => by cases h; exact ⟨rfl, rfl⟩
  | [], _ :: _, b, h => by cases h
  | _ :: _, [], b, h => by cases h
  | x :: xs, y :: ys, b, h => by
    obtain ⟨c, h1, h2⟩ := bind_some' (show (f x y).bind _ = some b from h)
    cases c with
    | false => cases h2
    | true =>
      obtain ⟨z, hz⟩ := hf x y true h1
      obtain ⟨h3, h4⟩ := eqOT_e hf hi (show eqOT f xs ys = some b from h2)
      refine ⟨h3, ?_⟩
      rw [List.map_cons, List.map_cons]
      unfold eqAll eqTrue
      rw [hi, hi, h4, hz]
      rfl
theorem ie_eqO {α : Type} {e : α → D} {f : α → α → Option Bool} {m : Mir} {cn : String} {fa fb : FE} {τ τ1 τ2 : Tau} {oa ob : Op} {xs ys : List α} {b : Bool} (h : eqOT f xs ys = some b) (hf : ∀ x y b, f x y = some b → ∃ z, m [e x, e y] = some (false, .bl b, z)) (hi : ∀ x, insC cn (e x) = true) (ha : fa τ = some (oa, τ1)) (hb : fb τ1 = some (ob, τ2)) (r1 : rootL τ2 oa = some (xs.map e) := by rfl) (r2 : rootL τ2 ob = some (ys.map e) := by rfl) : fEqO cn m fa fb τ = some (.val (.bl b), τ2) := by
  obtain ⟨rfl, h2⟩ := eqOT_e hf hi h
  simp only [fEqO, ha, hb, r1, r2, h2, Option.bind_some, if_true]
/-! ##### a walk over an owned list -/
theorem im_forCW {α γ S ρ : Type} {G : FS} {τ : Tau} {P : γ → Flow → Prop} {i : Nat} {g : FG} {f : FS} {xs : List α} (en : α → D) (St : S → Tau → Prop) (Rt : ρ → Op → Tau → Prop) {b : α → S → Option (Ct ρ S)} {s0 : S} {k : S → Option γ} {kr : ρ → Option γ} (hi : τ[i]? = some (some (.ow (eL en xs)))) (h0 : St s0 (τ.set i none)) (hb : ∀ x s τ, St s τ → ∃ τ2, g (en x) τ = some τ2 ∧ Im f τ2 (b x s) (FlR St Rt))
    (hr : ∀ r o τ' c, Rt r o τ' → kr r = some c → P c (.rt o τ')) (hk : ∀ s τ', St s τ' → Im G (τ'.set i (some (.ow (eL en xs)))) (k s) P) : Im (sSeq (sForW i g f) G) τ ((forC b xs s0).bind (afC k kr)) P := fun c e => by
  obtain ⟨c1, e1, e2⟩ := bind_some' e
  obtain ⟨fl, h1, h2⟩ := forC_ok en St Rt hb xs s0 _ h0 c1 e1
  have hi' : τ[i]? = some (some (.ow (.lst (xs.map en)))) := hi
  rcases h2 with ⟨s', τ', rfl, rfl, h4⟩ | ⟨r, o, τ', rfl, rfl, h4⟩
  · have h3 : sForW i g f τ = some (.nx (τ'.set i (some (.ow (eL en xs))))) := by
      unfold sForW
      rw [hi']
      dsimp only
      rw [h1]
      rfl
    exact im_seq h3 (hk s' τ' h4) c e2
  · have h3 : sForW i g f τ = some (.rt o τ') := by
      unfold sForW
      rw [hi']
      dsimp only
      rw [h1]
      rfl
    exact ⟨_, by unfold sSeq; rw [h3]; rfl, hr r o τ' c h4 e2⟩
/-! ##### dicts with text keys -/
abbrev eDs {α : Type} (e : α → D) (kvs : List (PySem.Str × α)) : D := .dic (kvs.map fun p => ((.inr p.1 : Key), e p.2))
def getS {α : Type} (kvs : List (PySem.Str × α)) (k : PySem.Str) : Option α := (kvs.find? fun p => decide (p.1 = k)).map (·.2)
def dispS {α : Type} (kvs : List (PySem.Str × α)) : Option (List (PySem.Str × α)) := if (kvs.map (·.1)).Nodup ∧ kvs.length ≤ 15 then some kvs else none
section
variable {α : Type} {e : α → D}
theorem getK_s (k : PySem.Str) : ∀ kvs : List (PySem.Str × α), getK (kvs.map fun p => ((.inr p.1 : Key), e p.2)) (.inr k) = (getS kvs k).map e
  | [] => rfl
  | (j, v) :: r => by
    have ih := getK_s k r
    unfold getK getS at ih ⊢
    rw [List.map_cons, List.find?_cons, List.find?_cons]
    by_cases h : j = k
    · subst h; simp
    · have h' : ¬ ((.inr j : Key) = .inr k) := fun z => h (Sum.inr.inj z)
      simp only [h, h', decide_false]
      exact ih
theorem gDGet_s {kvs : List (PySem.Str × α)} {k : PySem.Str} {x : α} (h : getS kvs k = some x) : gDGet (eDs e kvs) (.str k) = some (.val (e x)) := by
  show ((getK (kvs.map fun p => ((.inr p.1 : Key), e p.2)) (.inr k)).map Op.val) = _
  rw [getK_s, h]; rfl
theorem gDIn_s {kvs : List (PySem.Str × α)} {k : PySem.Str} {neg : Bool} : gDIn neg (.str k) (eDs e kvs) = some (.val (.bl (if neg then !(getS kvs k).isSome else (getS kvs k).isSome))) := by
  show some (Op.val (.bl (if neg then !(getK (kvs.map fun p => ((.inr p.1 : Key), e p.2)) (.inr k)).isSome else (getK (kvs.map fun p => ((.inr p.1 : Key), e p.2)) (.inr k)).isSome))) = _
  rw [getK_s]
  cases getS kvs k <;> rfl
theorem ipd_nil {τ : Tau} : pairsF [] τ = some ([], τ) := rfl
theorem ipd_cons {fk fv : FE} {r : List (FE × FE)} {τ τ1 τ2 τ3 τ4 : Tau} {a b : Op} {k : PySem.Str} {v : D} {q : List (Key × D)} (hk : fk τ = some (a, τ1)) (hv : fv τ1 = some (b, τ2)) (hr : pairsF r τ3 = some (q, τ4)) (hd : deref τ1 a = some (.str k) := by rfl) (hf : fz τ2 b = some (v, τ3) := by rfl) : pairsF ((fk, fv) :: r) τ = some ((.inr k, v) :: q, τ4) := by
  simp only [pairsF, hk, hd, keyD, hv, hf, hr, Option.bind_some]
theorem mergeD_s : ∀ (kvs acc : List (PySem.Str × α)), ((acc ++ kvs).map (·.1)).Nodup → mergeD (acc.map fun p => ((.inr p.1 : Key), e p.2)) (kvs.map fun p => ((.inr p.1 : Key), e p.2)) = (acc ++ kvs).map fun p => ((.inr p.1 : Key), e p.2)
  | [], acc, _ => by rw [List.append_nil]; rfl
  | p :: kvs, acc, h => by
    have nk : ∀ x ∈ acc, x.1 ≠ p.1 := fun x hx z => by
      rw [List.map_append, List.nodup_append] at h
      exact h.2.2 x.1 (List.mem_map.mpr ⟨x, hx, rfl⟩) p.1 (by simp) z
    have e1 : putDK (acc.map fun p => ((.inr p.1 : Key), e p.2)) (.inr p.1) (e p.2) = (acc ++ [p]).map fun p => ((.inr p.1 : Key), e p.2) := by
      unfold putDK
      rw [if_neg ?_, List.map_append]
      · rfl
      · rw [Bool.not_eq_true, List.any_eq_false]
        intro x hx
        obtain ⟨y, hy, rfl⟩ := List.mem_map.mp hx
        rw [decide_eq_true_eq]
        exact fun z => nk y hy (Sum.inr.inj z)
    have ih := mergeD_s kvs (acc ++ [p]) (by rw [List.append_assoc]; exact h)
    rw [← e1] at ih
    rw [show acc ++ p :: kvs = (acc ++ [p]) ++ kvs by simp]
    exact ih
theorem ie_disp {fs : List (FE × FE)} {τ τ' : Tau} {kvs r : List (PySem.Str × α)} (h : dispS kvs = some r) (hp : pairsF fs τ = some (kvs.map fun p => ((.inr p.1 : Key), e p.2), τ')) : fDisp fs τ = some (.tmp (eDs e r), τ') := by
  unfold dispS at h
  obtain ⟨⟨h1, h2⟩, rfl⟩ := if_get h
  have := mergeD_s (e := e) kvs [] h1
  simp only [fDisp, hp, Option.bind_some, List.length_map, h2, if_true]
  rw [show mergeD [] (kvs.map fun p => ((.inr p.1 : Key), e p.2)) = kvs.map fun p => ((.inr p.1 : Key), e p.2) from this]
theorem ie_dget2 {fd fk fx : FE} {τ τ1 τ2 τ3 τ4 : Tau} {oa ob oc : Op} {kvs : List (PySem.Str × α)} {k : PySem.Str} {x : α} (ha : fd τ = some (oa, τ1)) (hb : fk τ1 = some (ob, τ2)) (hc : fx τ2 = some (oc, τ3)) (h1 : deref τ1 oa = some (eDs e kvs) := by rfl) (h2 : fz τ3 oc = some (e x, τ4) := by rfl) (h3 : deref τ4 oa = some (eDs e kvs) := by rfl) (h4 : deref τ4 ob = some (.str k) := by rfl) : fDGet2 fd fk fx τ = some (.val (e ((getS kvs k).getD x)), τ4) := by
  simp only [fDGet2, ha, hb, hc, h1, h2, h3, h4, keyD, Option.bind_some]
  rw [getK_s]
  cases getS kvs k <;> rfl
end
/-! ##### upper -/
def upT (a : PySem.Str) : Option PySem.Str := if a.length ≤ 5592405 then some (PySem.Txt.upper a) else none
theorem gUpper_t {a b : PySem.Str} (h : upT a = some b) : gUpper (.str a) = some (.val (.str b)) := by
  obtain ⟨hl, rfl⟩ := if_get (show (if a.length ≤ 5592405 then some (PySem.Txt.upper a) else none) = some b from h)
  show (if a.length ≤ 5592405 then _ else none) = _
  rw [if_pos hl]
def lenS (z : PySem.Str) : Option Int := if z.length ≤ 16777216 then some (z.length : Nat) else none
theorem gLen_s {z : PySem.Str} {n : Int} (h : lenS z = some n) : gLen [.str z] = some (.val (.int n)) := by
  obtain ⟨hl, rfl⟩ := if_get (show (if z.length ≤ 16777216 then some ((z.length : Nat) : Int) else none) = some n from h)
  show (if z.length ≤ 16777216 then _ else none) = _
  rw [if_pos hl]
/-! ##### slices and items of texts -/
def slcStr (z : PySem.Str) (lo hi : Option Int) : Option PySem.Str := if z.length ≤ 16777216 then some (PySem.Txt.slice z lo hi) else none
theorem ie_slS {fe : FE} {fl fh : FO} {τ τ1 τ2 τ3 : Tau} {o : Op} {z r : PySem.Str} {lo hi : Option Int} (h : slcStr z lo hi = some r) (he : fe τ = some (o, τ1)) (hl : fl τ1 = some (lo, τ2)) (hh : fh τ2 = some (hi, τ3)) (hd : deref τ3 o = some (.str z) := by rfl) : fSlS fe fl fh τ = some (.val (.str r), τ3) := by
  obtain ⟨hz, rfl⟩ := if_get (show (if z.length ≤ 16777216 then some (PySem.Txt.slice z lo hi) else none) = some r from h)
  simp only [fSlS, he, hl, hh, hd, Option.bind_some, gSlS, hz, if_true]
def ixStr (z : PySem.Str) (i : Int) : Option PySem.Str := if z.length ≤ 16777216 then (atI z.cps.toList i).map fun c => ⟨#[c]⟩ else none
theorem gIx_s {z r : PySem.Str} {i : Int} (h : ixStr z i = some r) : gIx (.str z) (.int i) = some (.val (.str r)) := by
  unfold ixStr at h
  by_cases c : z.length ≤ 16777216
  · rw [if_pos c] at h
    obtain ⟨k, h1, rfl⟩ := Option.map_eq_some_iff.mp h
    show (if z.length ≤ 16777216 then (atI z.cps.toList i).map fun c => Op.val (.str ⟨#[c]⟩) else none) = _
    rw [if_pos c, h1]
    rfl
  · rw [if_neg c] at h
    cases h
def catS (a b : PySem.Str) : Option PySem.Str := if a.length + b.length ≤ 16777216 then some (a ++ b) else none
theorem gCatS_t {a b r : PySem.Str} (h : catS a b = some r) : gCatS (.str a) (.str b) = some (.val (.str r)) := by
  obtain ⟨hl, rfl⟩ := if_get (show (if a.length + b.length ≤ 16777216 then some (a ++ b) else none) = some r from h)
  show (if a.length + b.length ≤ 16777216 then _ else none) = _
  rw [if_pos hl]
/-! ##### an owned name is frozen ahead of a statement -/
theorem im_fz {γ : Type} {F G : FS} {i : Nat} {d : D} {τ : Tau} {t : Option γ} {P : γ → Flow → Prop} (τ1 : Tau) (h : Im (sSeq F G) τ1 t P) (hi : τ[i]? = some (some (.ow d)) := by rfl) (e : τ.set i (some (.sh d)) = τ1 := by rfl) : Im (sSeq (sFz i F) G) τ t P := fun c z => by
  obtain ⟨fl, e1, p⟩ := h c z
  refine ⟨fl, ?_, p⟩
  rw [← e1, ← e]
  unfold sSeq sFz
  rw [hi]
/-! ##### texts: str, int, join, split, partition, f-strings, signs -/
def strT (i : Int) : Option PySem.Str := if i.natAbs.log2 < 1920 then some (strI i) else none
theorem gStr_t {i : Int} {r : PySem.Str} (h : strT i = some r) : gStr [.int i] = some (.val (.str r)) := by
  obtain ⟨hl, rfl⟩ := if_get (show (if i.natAbs.log2 < 1920 then some (strI i) else none) = some r from h)
  show (if i.natAbs.log2 < 1920 then _ else none) = _
  rw [if_pos hl]
def intT (a : PySem.Str) : Option Int := if a.length ≤ 640 then PySem.intText? a else none
theorem gIntS_t {a : PySem.Str} {n : Int} (h : intT a = some n) : gIntS [.str a] = some (.val (.int n)) := by
  obtain ⟨hl, e⟩ := if_get' (show (if a.length ≤ 640 then PySem.intText? a else none) = some n from h)
  show (PySem.intText? a).bind _ = _
  rw [e, Option.bind_some, if_pos hl]
def joinTx (a : PySem.Str) (ys : List PySem.Str) : Option PySem.Str := if (ys.map (·.length)).sum + ys.length * a.length ≤ 16777216 then some (PySem.Txt.join a ys) else none
theorem strsD_map : ∀ ys : List PySem.Str, strsD (ys.map D.str) = some ys
  | [] => rfl
  | y :: ys => by
    show (strsD (ys.map D.str)).map (y :: ·) = _
    rw [strsD_map ys]
    rfl
theorem gJoin_t {a r : PySem.Str} {ys : List PySem.Str} (h : joinTx a ys = some r) : gJoin a ((eL D.str) ys) = some (.val (.str r)) := by
  obtain ⟨hl, rfl⟩ := if_get (show (if (ys.map (·.length)).sum + ys.length * a.length ≤ 16777216 then some (PySem.Txt.join a ys) else none) = some r from h)
  show (strsD (ys.map D.str)).bind _ = _
  rw [strsD_map, Option.bind_some, if_pos hl]
def splitT (a b : PySem.Str) : Option (List PySem.Str) := if (b.length == 0) = false ∧ a.length + 2 ≤ 16777216 then some (PySem.Txt.split a b) else none
theorem gSplit_t {a b : PySem.Str} {r : List PySem.Str} (h : splitT a b = some r) : gSplit a (.str b) = some (.tmp ((eL D.str) r)) := by
  obtain ⟨hl, rfl⟩ := if_get (show (if (b.length == 0) = false ∧ a.length + 2 ≤ 16777216 then some (PySem.Txt.split a b) else none) = some r from h)
  show (if (b.length == 0) = false ∧ a.length + 2 ≤ 16777216 then _ else none) = _
  rw [if_pos hl]
def partT (a b : PySem.Str) : Option (PySem.Str × PySem.Str × PySem.Str) := if (b.length == 0) = false ∧ a.length ≤ 16777216 then some (PySem.Txt.partition a b) else none
theorem gPart_t {a b : PySem.Str} {r : PySem.Str × PySem.Str × PySem.Str} (h : partT a b = some r) : gPart a (.str b) = some (.val (.tup [.str r.1, .str r.2.1, .str r.2.2])) := by
  obtain ⟨hl, rfl⟩ := if_get (show (if (b.length == 0) = false ∧ a.length ≤ 16777216 then some (PySem.Txt.partition a b) else none) = some r from h)
  show (if (b.length == 0) = false ∧ a.length ≤ 16777216 then _ else none) = _
  rw [if_pos hl]
theorem ie_m1 {g : PySem.Str → D → Option Op} {fo fe : FE} {τ τ1 τ2 : Tau} {oa ob z : Op} {a : PySem.Str} {d : D} (ho : fo τ = some (oa, τ1)) (he : fe τ1 = some (ob, τ2)) (hg : g a d = some z) (ha : deref τ1 oa = some (.str a) := by rfl) (hb : deref τ2 ob = some d := by rfl) : fM1 g fo fe τ = some (z, τ2) := by
  simp only [fM1, ho, he, hg, ha, hb, Option.bind_some]
def fmtT (y : PySem.Str) : Option PySem.Str := if y.length ≤ 16777216 then some y else none
theorem gFmt_s {y r : PySem.Str} (h : fmtT y = some r) : gFmt (.str y) = some (.val (.str r)) := by
  obtain ⟨hl, rfl⟩ := if_get (show (if y.length ≤ 16777216 then some y else none) = some r from h)
  show (if y.length ≤ 16777216 then _ else none) = _
  rw [if_pos hl]
theorem gFmt_i {i : Int} {r : PySem.Str} (h : strT i = some r) : gFmt (.int i) = some (.val (.str r)) := by
  obtain ⟨hl, rfl⟩ := if_get (show (if i.natAbs.log2 < 1920 then some (strI i) else none) = some r from h)
  show (if i.natAbs.log2 < 1920 then _ else none) = _
  rw [if_pos hl]
theorem js_cons {fe : FE} {r : FJ} {acc y acc2 out : PySem.Str} {o : Op} {τ τ1 τ2 : Tau} (h : catS acc y = some acc2) (he : fe τ = some (o, τ1)) (hr : r acc2 τ1 = some (out, τ2)) (hd : deref τ1 o = some (.str y) := by rfl) : jsC fe r acc τ = some (out, τ2) := by
  obtain ⟨hl, rfl⟩ := if_get (show (if acc.length + y.length ≤ 16777216 then some (acc ++ y) else none) = some acc2 from h)
  have e : (acc ++ y).length = acc.length + y.length := by
    obtain ⟨a⟩ := acc
    obtain ⟨b⟩ := y
    exact Array.size_append
  simp only [jsC, he, hd, Option.bind_some, e, hl, if_true, hr]
theorem ie_fstr {f : FJ} {τ τ1 : Tau} {out : PySem.Str} (h : f PySem.Str.empty τ = some (out, τ1)) : fJs f τ = some (.val (.str out), τ1) := by
  simp only [fJs, h, Option.bind_some]
def sgnS (x : PySem.Str) : List PySem.Str := x.cps.toList.map fun c => ⟨#[c]⟩
theorem ii_st {fe : FE} {τ τ1 : Tau} {o : Op} {x : PySem.Str} (ha : fe τ = some (o, τ1)) (hd : deref τ1 o = some (.str x) := by rfl) : iSt fe τ = some ((sgnS x).map D.str, τ1) := by
  simp only [iSt, ha, hd, Option.bind_some]
  rw [show sgnD x = (sgnS x).map D.str by unfold sgnD sgnS; rw [List.map_map]; rfl]
def inS (x z : PySem.Str) : Option Bool := match x.cps.toList with
  | [c] => some (decide (c ∈ z.cps.toList))
  | _ => none
theorem gInS_t {x z : PySem.Str} {b neg : Bool} (h : inS x z = some b) : gInS neg (.str x) (.str z) = some (.val (.bl (if neg then !b else b))) := by
  unfold inS at h
  split at h
  · rename_i c hc
    cases h
    unfold gInS
    dsimp only
    rw [hc]
  · cases h
def mulS (a : PySem.Str) (n : Int) : Option PySem.Str := if mulOkS a n = true then some (PySem.Txt.mul a n) else none
theorem gMulS_t {a r : PySem.Str} {n : Int} (h : mulS a n = some r) : gMulS (.str a) (.int n) = some (.val (.str r)) := by
  obtain ⟨hl, rfl⟩ := if_get (show (if mulOkS a n = true then some (PySem.Txt.mul a n) else none) = some r from h)
  show (if mulOkS a n = true then _ else none) = _
  rw [if_pos hl]
end J
namespace J
/-- _law_well(script, k) -/
noncomputable def F_law_well : FS := (sSeq (sSet 2 (fC (.int 0)))
  (sSeq (sIf (fTB (fBin gLt (fVar 1) (fCB gLen (pCons (fVar 0) pNil)))) (sSet 2 (fBin gIx (fVar 0) (fVar 1))) sNext)
  (sSeq (sIf (fTB (fBin gGe (fVar 2) (fBin gPow (fC (.int 10)) (fC (.int 18))))) (sRet (fLst (aCons (fBin gSub (fVar 2) (fBin gPow (fC (.int 10)) (fC (.int 18)))) (aCons (fBin gMul (fC (.int 104729)) (fBin gAdd (fVar 1) (fC (.int 1)))) aNil)))) sNext)
  (sRet (fLst (aCons (fC (.int 0)) (aCons (fBin gAdd (fBin gMod (fCB gInt (pCons (fVar 2) pNil)) (fC (.int 4294967291))) (fBin gMul (fC (.int 104729)) (fBin gAdd (fVar 1) (fC (.int 1))))) aNil)))))))
noncomputable def m_law_well : Mir := runF false 3 2 F_law_well
/-- _law_dip(well, many) -/
noncomputable def F_law_dip : FS := (sSeq (sIf (fTB (fBin gGt (fBin gIx (fVar 0) (fC (.int 0))) (fC (.int 0)))) (sSeq (sSet 2 (fBin gIx (fVar 0) (fC (.int 0))))
  (sSeq (sSetIx (fVar 0) (fC (.int 0)) (fBin gDiv (fVar 2) (fVar 1)))
  (sRet (fBin gMod (fCB gInt (pCons (fVar 2) pNil)) (fVar 1))))) sNext)
  (sSeq (sSet 3 (fBin gMod (fCB gInt (pCons (fBin gAdd (fBin gMul (fBin gIx (fVar 0) (fC (.int 1))) (fC (.int 69069))) (fC (.int 40503))) pNil)) (fC (.int 4294967291))))
  (sSeq (sSetIx (fVar 0) (fC (.int 1)) (fVar 3))
  (sRet (fBin gMod (fBin gDiv (fBin gMod (fCB gInt (pCons (fBin gMul (fVar 3) (fVar 3)) pNil)) (fC (.int 4294967279))) (fC (.int 7))) (fVar 1))))))
noncomputable def m_law_dip : Mir := runF true 4 2 F_law_dip
/-- _law_great(well, limit) -/
noncomputable def B_law_great_4_1 : FS := (sSet 2 (fBin gAdd (fBin gMul (fVar 2) (fC (.int 1000000000))) (fCallIo m_law_dip (fVar 0) (aCons (fC (.int 1000000000)) aNil))))
noncomputable def F_law_great_4 : FS := (sSeq (sSet 2 (fC (.int 0)))
  (sSeq (sFor (iR1 (pCons (fC (.int 7)) pNil)) (gN 3) B_law_great_4_1)
  (sRet (fBin gMod (fCB gInt (pCons (fVar 2) pNil)) (fVar 1)))))
noncomputable def m_law_great_4 : Mir := runF true 4 2 F_law_great_4
/-- _law_signed(well, digits) -/
noncomputable def B_law_signed_1 : FS := (sSet 3 (fBin gMul (fVar 3) (fC (.int 10))))
noncomputable def F_law_signed : FS := (sSeq (sSet 2 (fBin gAdd (fC (.int 1)) (fCallIo m_law_dip (fVar 0) (aCons (fVar 1) aNil))))
  (sSeq (sIf (fTB (fBin gEq (fCallIo m_law_dip (fVar 0) (aCons (fC (.int 3)) aNil)) (fC (.int 0)))) (sSet 2 (fC (.int 1))) sNext)
  (sSeq (sSet 3 (fC (.int 1)))
  (sSeq (sFor (iR1 (pCons (fVar 2) pNil)) (gN 4) B_law_signed_1)
  (sRet (fBin gMul (fCallIo m_law_great_4 (fVar 0) (aCons (fVar 3) aNil)) (fBin gSub (fC (.int 1)) (fBin gMul (fC (.int 2)) (fCallIo m_law_dip (fVar 0) (aCons (fC (.int 2)) aNil))))))))))
noncomputable def m_law_signed : Mir := runF true 5 2 F_law_signed
/-- integer(word, text) -/
noncomputable def B_integer_1 : FS := (sIf (fTB (fBin (gInS true) (fVar 3) (fC (.str (os "0123456789"))))) sNo sNext)
noncomputable def F_integer : FS := (sSeq (sSet 2 (fIfE (fTB (fBin gEqS (fSlS (fVar 0) oNo (oSome (fC (.int 1)))) (fC (.str (os "-"))))) (fSlS (fVar 0) (oSome (fC (.int 1))) oNo) (fVar 0)))
  (sSeq (sIf (fOr (fTB (fBin gEqS (fVar 2) (fC (.str (os ""))))) (fTB (fBin gGt (fCB gLen (pCons (fVar 2) pNil)) (fC (.int (60)))))) sNo sNext)
  (sSeq (sFor (iSt (fVar 2)) (gN 3) B_integer_1)
  (sSeq (sIf (fAnd (fTB (fBin gEqS (fBin gIx (fVar 2) (fC (.int 0))) (fC (.str (os "0"))))) (fTB (fBin gNeS (fVar 0) (fC (.str (os "0")))))) sNo sNext)
  (sRet (fCB gIntS (pCons (fVar 0) pNil)))))))
noncomputable def m_integer : Mir := runF false 4 2 F_integer
/-- integers(words, text) -/
noncomputable def X_integers_1 : FE := (fCall m_integer (aCons (fVar 2) (aCons (fVar 1) aNil)))
noncomputable def F_integers : FS := (sRet (fLc [2] (iSq (fVar 0)) (gN 2) tAll X_integers_1))
noncomputable def m_integers : Mir := runF false 3 2 F_integers
/-- Rule.__init__(self, a, b, d) -/
noncomputable def F_Rule_init : FS := (sSeq (sFldS ["Rule"] "by_row" (fVar 0) (fVar 1))
  (sSeq (sFldS ["Rule"] "by_column" (fVar 0) (fVar 2))
  (sFldS ["Rule"] "start" (fVar 0) (fVar 3))))
noncomputable def m_Rule_init : Mir := runF true 4 4 F_Rule_init
/-- read_rule(text) -/
noncomputable def F_read_rule : FS := (sSeq (sSetF 1 (fM1 gSplit (fVar 0) (fC (.str (os " + ")))))
  (sSeq (sIf (fOr (fTB (fBin gNe (fCB gLen (pCons (fVar 1) pNil)) (fC (.int 3)))) (fOr (fTB (fBin gNeS (fSlS (fBin gIx (fVar 1) (fC (.int 0))) (oSome (fUn gNeg (fC (.int 1)))) oNo) (fC (.str (os "r"))))) (fTB (fBin gNeS (fSlS (fBin gIx (fVar 1) (fC (.int 1))) (oSome (fUn gNeg (fC (.int 1)))) oNo) (fC (.str (os "c"))))))) sNo sNext)
  (sSeq (sUnp (fCall m_integers (aCons (fLst (aCons (fSlS (fBin gIx (fVar 1) (fC (.int 0))) oNo (oSome (fUn gNeg (fC (.int 1))))) (aCons (fSlS (fBin gIx (fVar 1) (fC (.int 1))) oNo (oSome (fUn gNeg (fC (.int 1))))) (aCons (fBin gIx (fVar 1) (fC (.int 2))) aNil)))) (aCons (fVar 0) aNil))) (gT 3 (gsCons (gN 2) (gsCons (gN 3) (gsCons (gN 4) gsNil)))))
  (sRet (fMake "Rule" m_Rule_init (aCons (fVar 2) (aCons (fVar 3) (aCons (fVar 4) aNil))))))))
noncomputable def m_read_rule : Mir := runF false 5 1 F_read_rule
/-- Rule.__eq__(self, other) -/
noncomputable def F_Rule_eq : FS := (sSeq (sIf (fNot (fTB (fIsC ["Rule"] [] (fVar 1)))) (sRet (fC (.bl false))) sNext)
  (sRet (fAndV (fBin gEq (fFld ["Rule"] "by_row" (fVar 0)) (fFld ["Rule"] "by_row" (fVar 1))) (fAndV (fBin gEq (fFld ["Rule"] "by_column" (fVar 0)) (fFld ["Rule"] "by_column" (fVar 1))) (fBin gEq (fFld ["Rule"] "start" (fVar 0)) (fFld ["Rule"] "start" (fVar 1)))))))
noncomputable def m_Rule_eq : Mir := runF false 2 2 F_Rule_eq
/-- Rule.d(self) -/
noncomputable def F_Rule_d : FS := (sRet (fFld ["Rule"] "start" (fVar 0)))
noncomputable def m_Rule_d : Mir := runF false 1 1 F_Rule_d
/-- Rule.b(self) -/
noncomputable def F_Rule_b : FS := (sRet (fFld ["Rule"] "by_column" (fVar 0)))
noncomputable def m_Rule_b : Mir := runF false 1 1 F_Rule_b
/-- Rule.a(self) -/
noncomputable def F_Rule_a : FS := (sRet (fFld ["Rule"] "by_row" (fVar 0)))
noncomputable def m_Rule_a : Mir := runF false 1 1 F_Rule_a
/-- _law_is_integer(told) -/
noncomputable def F_law_is_integer : FS := (sRet (fAndV (fIsi "int" (fVar 0)) (fNotV (fIsi "bool" (fVar 0)))))
noncomputable def m_law_is_integer : Mir := runF false 1 1 F_law_is_integer
/-- show_rule(rule) -/
noncomputable def F_show_rule : FS := (sRet (fJs (jsC (fUn gFmt (fProp "Rule" m_Rule_a (fVar 0))) (jsC (fC (.str (os "r + "))) (jsC (fUn gFmt (fProp "Rule" m_Rule_b (fVar 0))) (jsC (fC (.str (os "c + "))) (jsC (fUn gFmt (fProp "Rule" m_Rule_d (fVar 0))) jsN)))))))
noncomputable def m_show_rule : Mir := runF false 1 1 F_show_rule
/-- _law_right(a, b, d) -/
noncomputable def B_law_right_19_1 : FS := (sIf (fOr (fNot (fTB (fCall m_law_is_integer (aCons (fVar 6) aNil)))) (fTB (fBin gNe (fVar 6) (fVar 7)))) (sRet (fC (.bl false))) sNext)
noncomputable def B_law_right_19_2 : FS := (sSeq (sSetF 5 (fCall m_read_rule (aCons (fVar 3) aNil)))
  (sSeq (sIf (fOr (fNot (fTB (fIsC ["Rule"] [] (fVar 5)))) (fNot (fTB (fBinF (gEqM "Rule" m_Rule_eq) (fVar 5) (fMake "Rule" m_Rule_init (aCons (fVar 0) (aCons (fVar 1) (aCons (fVar 2) aNil)))))))) (sRet (fC (.bl false))) sNext)
  (sSeq (sFor (iSq (fLst (aCons (fTup (aCons (fProp "Rule" m_Rule_a (fVar 5)) (aCons (fVar 0) aNil))) (aCons (fTup (aCons (fProp "Rule" m_Rule_b (fVar 5)) (aCons (fVar 1) aNil))) (aCons (fTup (aCons (fProp "Rule" m_Rule_d (fVar 5)) (aCons (fVar 2) aNil))) aNil))))) (gT 2 (gsCons (gN 6) (gsCons (gN 7) gsNil))) B_law_right_19_1)
  (sIf (fTB (fBin gNeS (fCall m_show_rule (aCons (fVar 5) aNil)) (fVar 3))) (sRet (fC (.bl false))) sNext))))
noncomputable def F_law_right_19 : FS := (sSeq (sSet 3 (fBin gCatS (fBin gCatS (fBin gCatS (fBin gCatS (fCB gStr (pCons (fVar 0) pNil)) (fC (.str (os "r + ")))) (fCB gStr (pCons (fVar 1) pNil))) (fC (.str (os "c + ")))) (fCB gStr (pCons (fVar 2) pNil))))
  (sSeq (sFor (iR1 (pCons (fC (.int 2)) pNil)) (gN 4) B_law_right_19_2)
  (sRet (fC (.bl true)))))
noncomputable def m_law_right_19 : Mir := runF false 8 3 F_law_right_19
/-- law(script) -/
noncomputable def X_law_k65_1 : FE := (fCallIo m_law_signed (fVar 2) (aCons (fC (.int 60)) aNil))
noncomputable def B_law_k65_1 : FS := (sSeq (sSet 2 (fCall m_law_well (aCons (fVar 0) (aCons (fVar 1) aNil))))
  (sSeq (sSet 3 (fLc [5] (iR1 (pCons (fC (.int 3)) pNil)) (gN 5) tAll X_law_k65_1))
  (sSeq (sIf (fNot (fTB (fCall m_law_right_19 (aCons (fBin gIx (fVar 3) (fC (.int 0))) (aCons (fBin gIx (fVar 3) (fC (.int 1))) (aCons (fBin gIx (fVar 3) (fC (.int 2))) aNil)))))) (sRet (fC (.bl false))) sNext)
  (sSeq (sSet 4 (fBin gMul (fBin gAdd (fBin gPow (fC (.int 10)) (fC (.int 59))) (fCallIo m_law_great_4 (fVar 2) (aCons (fBin gMul (fC (.int 9)) (fBin gPow (fC (.int 10)) (fC (.int 59)))) aNil))) (fBin gSub (fC (.int 1)) (fBin gMul (fC (.int 2)) (fCallIo m_law_dip (fVar 2) (aCons (fC (.int 2)) aNil))))))
  (sSeq (sSetIx (fVar 3) (fCallIo m_law_dip (fVar 2) (aCons (fC (.int 3)) aNil)) (fVar 4))
  (sIf (fNot (fTB (fCall m_law_right_19 (aCons (fBin gIx (fVar 3) (fC (.int 0))) (aCons (fBin gIx (fVar 3) (fC (.int 1))) (aCons (fBin gIx (fVar 3) (fC (.int 2))) aNil)))))) (sRet (fC (.bl false))) sNext))))))
noncomputable def F_law_k65 : FS := (sSeq (sFor (iR1 (pCons (fCB gMax2 (pCons (fC (.int 1)) (pCons (fCB gLen (pCons (fVar 0) pNil)) pNil))) pNil)) (gN 1) B_law_k65_1)
  (sRet (fC (.bl true))))
noncomputable def m_law_k65 : Mir := runF false 6 1 F_law_k65
end J
namespace J
open PySem PySem.Spec PyProof.Rows L2
structure C_Rule where
  by_row : Int
  by_column : Int
  start : Int
  deriving DecidableEq
abbrev e_Rule (r : C_Rule) : D := .ins "Rule" [("by_row", (D.int r.by_row)), ("by_column", (D.int r.by_column)), ("start", (D.int r.start))]
/-- _law_well(script, k) -/
noncomputable def t_law_well (script : (List Int)) (k : Int) : Option (List Int) :=
  lt (0 : Int) fun cell : Int =>
  ((if (decide (k < (script.length : Int))) = true then (atI script k).bind fun cell_2 =>
  some cell_2 else some cell)).bind fun s : (Int) =>
  if (decide ((1000000000000000000 : Int) ≤ s)) = true then
  some [(s - (1000000000000000000 : Int)), ((104729 : Int) * (k + (1 : Int)))]
  else
  some [(0 : Int), ((s % (4294967291 : Int)) + ((104729 : Int) * (k + (1 : Int))))]
/-- _law_dip(well, many) -/
noncomputable def t_law_dip (well : (List Int)) (many : Int) : Option (Int × (List Int)) :=
  (atI well (0 : Int)).bind fun a =>
  if (decide ((0 : Int) < a)) = true then
  (atI well (0 : Int)).bind fun number =>
    (divT number many).bind fun a_2 =>
    (setT well (0 : Int) a_2).bind fun well_2 =>
    (modT number many).bind fun a_3 =>
    some (a_3, well_2)
  else
  (atI well (1 : Int)).bind fun a_4 =>
  lt (((a_4 * (69069 : Int)) + (40503 : Int)) % (4294967291 : Int)) fun turn : Int =>
  (setT well (1 : Int) turn).bind fun well_3 =>
  (mulT turn turn).bind fun a_5 =>
  (modT ((a_5 % (4294967279 : Int)) / (7 : Int)) many).bind fun a_6 =>
  some (a_6, well_3)
/-- _law_great(well, limit) -/
noncomputable def t_law_great_4 (well : (List Int)) (limit : Int) : Option (Int × (List Int)) :=
  lt (0 : Int) fun number : Int =>
  (rgT 0 (7 : Int)).bind fun r_2 =>
  (forS (fun (turn : Int) (s : ((List Int) × Int)) =>
    (t_law_dip s.1 (1000000000 : Int)).bind fun a =>
    lt ((s.2 * (1000000000 : Int)) + a.1) fun number_2 : Int =>
    some (a.2, number_2)) r_2 (well, number)).bind fun s_2 : ((List Int) × Int) =>
  (modT s_2.2 limit).bind fun a_2 =>
  some (a_2, s_2.1)
/-- _law_signed(well, digits) -/
noncomputable def t_law_signed (well : (List Int)) (digits : Int) : Option (Int × (List Int)) :=
  (t_law_dip well digits).bind fun a =>
  lt ((1 : Int) + a.1) fun length : Int =>
  (t_law_dip a.2 (3 : Int)).bind fun a_2 =>
  ((if (decide (a_2.1 = (0 : Int))) = true then lt (1 : Int) fun length_2 : Int =>
  some length_2 else some length)).bind fun s : (Int) =>
  lt (1 : Int) fun limit : Int =>
  (rgT 0 s).bind fun r_2 =>
  (forS (fun (turn : Int) (s_2 : (Int)) =>
    lt (s_2 * (10 : Int)) fun limit_2 : Int =>
    some limit_2) r_2 limit).bind fun s_3 : (Int) =>
  (t_law_great_4 a_2.2 s_3).bind fun a_3 =>
  (t_law_dip a_3.2 (2 : Int)).bind fun a_4 =>
  (mulT a_3.1 ((1 : Int) - ((2 : Int) * a_4.1))).bind fun a_5 =>
  some (a_5, a_4.2)
/-- integer(word, text) -/
noncomputable def t_integer (word : PySem.Str) (text : PySem.Str) : Option Int :=
  (slcStr word none (some (1 : Int))).bind fun a =>
  ((if (decide (a = (os "-"))) = true then (slcStr word (some (1 : Int)) none).bind fun a_2 => some a_2 else some word)).bind fun q =>
  ((if (decide (q = (os ""))) = true then some true else (lenS q).bind fun a_3 => some (decide ((60 : Int) < a_3)))).bind fun q_2 =>
  if q_2 = true then
  none
  else
  (forS (fun (sign : PySem.Str) (s : Unit) =>
    (inS sign (os "0123456789")).bind fun q_3 =>
    if (!q_3) = true then
    none
    else
    some ()) (sgnS q) ()).bind fun s_2 : Unit =>
  (ixStr q (0 : Int)).bind fun a_4 =>
  if ((decide (a_4 = (os "0"))) && (!decide (word = (os "0")))) = true then
  none
  else
  (intT word).bind fun a_5 =>
  some a_5
/-- integers(words, text) -/
noncomputable def t_integers (words : (List PySem.Str)) (text : PySem.Str) : Option (List Int) :=
  (lcO (fun word : PySem.Str => some true) (fun word : PySem.Str => (t_integer word text).bind fun a => some a) words).bind fun a_2 =>
  some a_2
/-- Rule.__init__(self, a, b, d) -/
noncomputable def t_Rule_init (a : Int) (b : Int) (d : Int) : Option C_Rule :=
  some (C_Rule.mk a b d)
/-- read_rule(text) -/
noncomputable def t_read_rule (text : PySem.Str) : Option C_Rule :=
  (splitT text (os " + ")).bind fun parts =>
  ((if (!decide ((parts.length : Int) = (3 : Int))) = true then some true else (atI parts (0 : Int)).bind fun a => (slcStr a (some (-1 : Int)) none).bind fun a_2 => ((if (!decide (a_2 = (os "r"))) = true then some true else (atI parts (1 : Int)).bind fun a_3 => (slcStr a_3 (some (-1 : Int)) none).bind fun a_4 => some (!decide (a_4 = (os "c"))))).bind fun q => some q)).bind fun q_2 =>
  if q_2 = true then
  none
  else
  (atI parts (0 : Int)).bind fun a_5 =>
  (slcStr a_5 none (some (-1 : Int))).bind fun a_6 =>
  (atI parts (1 : Int)).bind fun a_7 =>
  (slcStr a_7 none (some (-1 : Int))).bind fun a_8 =>
  (atI parts (2 : Int)).bind fun a_9 =>
  (t_integers [a_6, a_8, a_9] text).bind fun q_3 =>
  (un3 q_3).bind fun q_4 =>
  some (C_Rule.mk q_4.1 q_4.2.1 q_4.2.2)
/-- Rule.__eq__(self, other) -/
noncomputable def t_Rule_eq (x_self : C_Rule) (other : C_Rule) : Option Bool :=
  if (!true) = true then
  some false
  else
  some ((decide (x_self.by_row = other.by_row)) && ((decide (x_self.by_column = other.by_column)) && (decide (x_self.start = other.start))))
/-- Rule.d(self) -/
noncomputable def t_Rule_d (x_self : C_Rule) : Option Int :=
  some x_self.start
/-- Rule.b(self) -/
noncomputable def t_Rule_b (x_self : C_Rule) : Option Int :=
  some x_self.by_column
/-- Rule.a(self) -/
noncomputable def t_Rule_a (x_self : C_Rule) : Option Int :=
  some x_self.by_row
/-- _law_is_integer(told) -/
noncomputable def t_law_is_integer (told : Int) : Option Bool :=
  some (true && (!false))
/-- show_rule(rule) -/
noncomputable def t_show_rule (rule : C_Rule) : Option PySem.Str :=
  (strT rule.by_row).bind fun s =>
  (catS PySem.Str.empty s).bind fun s_2 =>
  (catS s_2 (os "r + ")).bind fun s_3 =>
  (strT rule.by_column).bind fun s_4 =>
  (catS s_3 s_4).bind fun s_5 =>
  (catS s_5 (os "c + ")).bind fun s_6 =>
  (strT rule.start).bind fun s_7 =>
  (catS s_6 s_7).bind fun s_8 =>
  some s_8
/-- _law_right(a, b, d) -/
noncomputable def t_law_right_19 (a : Int) (b : Int) (d : Int) : Option Bool :=
  (strT a).bind fun a_2 =>
  (catS a_2 (os "r + ")).bind fun a_3 =>
  (strT b).bind fun a_4 =>
  (catS a_3 a_4).bind fun a_5 =>
  (catS a_5 (os "c + ")).bind fun a_6 =>
  (strT d).bind fun a_7 =>
  (catS a_6 a_7).bind fun text =>
  (rgT 0 (2 : Int)).bind fun r_2 =>
  (forC (fun (turn : Int) (s : Unit) =>
    (t_read_rule text).bind fun rule =>
    ((if (!true) = true then some true else (t_Rule_eq rule (C_Rule.mk a b d)).bind fun q => some (!q))).bind fun q_2 =>
    if q_2 = true then
    some (.rt false)
    else
    (forC (fun (x : (Int × Int)) (s_2 : Unit) =>
      (t_law_is_integer x.1).bind fun a_8 =>
      if ((!a_8) || (!decide (x.1 = x.2))) = true then
      some (.rt false)
      else
      some (.nx ())) [(rule.by_row, a), (rule.by_column, b), (rule.start, d)] ()).bind (afC (fun s_3 : Unit =>
    (t_show_rule rule).bind fun a_9 =>
    if (!decide (a_9 = text)) = true then
    some (.rt false)
    else
    some (.nx ())) (fun rz => some (.rt rz)))) r_2 ()).bind (afC (fun s_4 : Unit =>
  some true) (fun rz => some rz))
/-- law(script) -/
noncomputable def t_law_k65 (script : (List Int)) : Option Bool :=
  (rgT 0 (maxT (1 : Int) (script.length : Int))).bind fun r_2 =>
  (forC (fun (k : Int) (s : Unit) =>
    (t_law_well script k).bind fun well =>
    (rgT 0 (3 : Int)).bind fun r_3 =>
    (lcS (fun (turn : Int) (s_2 : ((List Int))) => some (true, s_2)) (fun (turn : Int) (s_3 : ((List Int))) => (t_law_signed s_3 (60 : Int)).bind fun a_2 => some (a_2.1, a_2.2)) r_3 well).bind fun numbers =>
    (atI numbers.1 (0 : Int)).bind fun a_3 =>
    (atI numbers.1 (1 : Int)).bind fun a_4 =>
    (atI numbers.1 (2 : Int)).bind fun a_5 =>
    (t_law_right_19 a_3 a_4 a_5).bind fun a_6 =>
    if (!a_6) = true then
    some (.rt false)
    else
    (t_law_great_4 numbers.2 (900000000000000000000000000000000000000000000000000000000000 : Int)).bind fun a_7 =>
    (t_law_dip a_7.2 (2 : Int)).bind fun a_8 =>
    (mulT ((100000000000000000000000000000000000000000000000000000000000 : Int) + a_7.1) ((1 : Int) - ((2 : Int) * a_8.1))).bind fun long =>
    (t_law_dip a_8.2 (3 : Int)).bind fun a_9 =>
    (setT numbers.1 a_9.1 long).bind fun numbers_2 =>
    (atI numbers_2 (0 : Int)).bind fun a_10 =>
    (atI numbers_2 (1 : Int)).bind fun a_11 =>
    (atI numbers_2 (2 : Int)).bind fun a_12 =>
    (t_law_right_19 a_10 a_11 a_12).bind fun a_13 =>
    if (!a_13) = true then
    some (.rt false)
    else
    some (.nx ())) r_2 ()).bind (afC (fun s_4 : Unit =>
  some true) (fun rz => some rz))
end J
namespace J
open PySem PySem.Spec PyProof.Rows L2
theorem c_law_well {script : (List Int)} {k : Int} {r : (List Int)} (h : t_law_well script k = some r) : m_law_well [((eL D.int) script), (D.int k)] = some (true, ((eL D.int) r), .non) := by
  refine im_def false 3 2 (F := F_law_well) (ds := [((eL D.int) script), (D.int k)]) true (fun r => ((eL D.int) r)) (fun _ => .non) (τ := [sd ((eL D.int) script), sd (D.int k), none]) rfl h rfl rfl ?_
  unfold t_law_well F_law_well
  refine im_set (fun cell : Int => [sd ((eL D.int) script), sd (D.int k), sd (D.int cell)]) (is_set rfl) fun cell => ?_
  refine im_join (fun (sz : (Int)) τz => τz = [sd ((eL D.int) script), sd (D.int k), sd (D.int sz)]) ?_ ?_
  · refine im_if1 (it_tb (p := (decide (k < (script.length : Int)))) (ie_bin (x := (D.int k)) (y := (D.int (script.length : Int))) rfl (ie_cb (ds := [((eL D.int) script)]) (ip_cons rfl rfl) (gLen_l (e := D.int))) rfl)) (fun _ => ?_) (fun _ => ?_)
    · refine im_one ?_
      refine im_bind fun cell_2 h => ?_
      refine im_sq (τ1 := [sd ((eL D.int) script), sd (D.int k), sd (D.int cell_2)]) (is_set (ie_bin (x := ((eL D.int) script)) (y := (D.int k)) rfl rfl (gIx_l (e := D.int) h))) ?_
      exact im_end ⟨_, rfl, rfl⟩
    · exact im_end ⟨_, rfl, rfl⟩
  · intro s _ hst; obtain rfl := hst
    refine im_if (it_tb (p := (decide ((1000000000000000000 : Int) ≤ s))) (ie_bin (x := (D.int s)) (y := (D.int (1000000000000000000 : Int))) rfl (ie_bin (x := (D.int (10 : Int))) (y := (D.int (18 : Int))) rfl rfl (gPow_k (i := (10 : Int)) (j := (18 : Int)) (k := 1000000000000000000))) rfl)) (fun _ => ?_) (fun _ => ?_)
    · exact im_ret (is_ret (ie_lst (ia_cons (ie_bin (x := (D.int s)) (y := (D.int (1000000000000000000 : Int))) rfl (ie_bin (x := (D.int (10 : Int))) (y := (D.int (18 : Int))) rfl rfl (gPow_k (i := (10 : Int)) (j := (18 : Int)) (k := 1000000000000000000))) rfl) rfl (ia_cons (ie_bin (x := (D.int (104729 : Int))) (y := (D.int (k + (1 : Int)))) rfl rfl (gMul_L (i := (104729 : Int)) (j := (k + (1 : Int))))) rfl rfl)))) ⟨_, rfl, rfl⟩
    · refine im_skip ?_
      refine im_one ?_
      exact im_ret (is_ret (ie_lst (ia_cons rfl rfl (ia_cons (ie_bin (x := (D.int (s % (4294967291 : Int)))) (y := (D.int ((104729 : Int) * (k + (1 : Int))))) (ie_bin (x := (D.int s)) (y := (D.int (4294967291 : Int))) (ie_cb (ds := [(D.int s)]) (ip_cons rfl rfl) rfl) rfl (gMod_k (i := s) (j := (4294967291 : Int)))) (ie_bin (x := (D.int (104729 : Int))) (y := (D.int (k + (1 : Int)))) rfl rfl (gMul_L (i := (104729 : Int)) (j := (k + (1 : Int))))) rfl) rfl rfl)))) ⟨_, rfl, rfl⟩
theorem c_law_dip {well : (List Int)} {many : Int} {r : (Int × (List Int))} (h : t_law_dip well many = some r) : m_law_dip [((eL D.int) well), (D.int many)] = some (false, (D.int r.1), ((eL D.int) r.2)) := by
  refine im_def true 4 2 (F := F_law_dip) (ds := [((eL D.int) well), (D.int many)]) false (fun r => (D.int r.1)) (fun r => ((eL D.int) r.2)) (τ := [so ((eL D.int) well), sd (D.int many), none, none]) rfl h rfl rfl ?_
  unfold t_law_dip F_law_dip
  refine im_bind fun a h => ?_
  refine im_if (it_tb (p := (decide ((0 : Int) < a))) (ie_bin (x := (D.int a)) (y := (D.int (0 : Int))) (ie_bin (x := ((eL D.int) well)) (y := (D.int (0 : Int))) rfl rfl (gIx_l (e := D.int) h)) rfl rfl)) (fun _ => ?_) (fun _ => ?_)
  · refine im_assoc ?_
    refine im_bind fun number h_2 => ?_
    refine im_sq (τ1 := [so ((eL D.int) well), sd (D.int many), sd (D.int number), none]) (is_set (ie_bin (x := ((eL D.int) well)) (y := (D.int (0 : Int))) rfl rfl (gIx_l (e := D.int) h_2))) ?_
    refine im_assoc ?_
    refine im_bind fun a_2 h_3 => ?_
    refine im_bind fun well_2 h_4 => ?_
    refine im_sq (τ1 := [so ((eL D.int) well_2), sd (D.int many), sd (D.int number), none]) (is_setIx (ie_bin (x := (D.int number)) (y := (D.int many)) rfl rfl (gDiv_t h_3)) rfl rfl rfl (setT_ok (e := D.int) h_4)) ?_
    refine im_bind fun a_3 h_5 => ?_
    exact im_ret (is_ret (ie_bin (x := (D.int number)) (y := (D.int many)) (ie_cb (ds := [(D.int number)]) (ip_cons rfl rfl) rfl) rfl (gMod_t h_5))) ⟨_, rfl, rfl⟩
  · refine im_skip ?_
    refine im_bind fun a_4 h_6 => ?_
    refine im_set (fun turn : Int => [so ((eL D.int) well), sd (D.int many), none, sd (D.int turn)]) (is_set (ie_bin (x := (D.int ((a_4 * (69069 : Int)) + (40503 : Int)))) (y := (D.int (4294967291 : Int))) (ie_cb (ds := [(D.int ((a_4 * (69069 : Int)) + (40503 : Int)))]) (ip_cons (ie_bin (x := (D.int (a_4 * (69069 : Int)))) (y := (D.int (40503 : Int))) (ie_bin (x := (D.int a_4)) (y := (D.int (69069 : Int))) (ie_bin (x := ((eL D.int) well)) (y := (D.int (1 : Int))) rfl rfl (gIx_l (e := D.int) h_6)) rfl (gMul_R (i := a_4) (j := (69069 : Int)))) rfl rfl) rfl) rfl) rfl (gMod_k (i := ((a_4 * (69069 : Int)) + (40503 : Int))) (j := (4294967291 : Int))))) fun turn => ?_
    refine im_bind fun well_3 h_7 => ?_
    refine im_sq (τ1 := [so ((eL D.int) well_3), sd (D.int many), none, sd (D.int turn)]) (is_setIx rfl rfl rfl rfl (setT_ok (e := D.int) h_7)) ?_
    refine im_one ?_
    refine im_bind fun a_5 h_8 => ?_
    refine im_bind fun a_6 h_9 => ?_
    exact im_ret (is_ret (ie_bin (x := (D.int ((a_5 % (4294967279 : Int)) / (7 : Int)))) (y := (D.int many)) (ie_bin (x := (D.int (a_5 % (4294967279 : Int)))) (y := (D.int (7 : Int))) (ie_bin (x := (D.int a_5)) (y := (D.int (4294967279 : Int))) (ie_cb (ds := [(D.int a_5)]) (ip_cons (ie_bin (x := (D.int turn)) (y := (D.int turn)) rfl rfl (gMul_t h_8)) rfl) rfl) rfl (gMod_k (i := a_5) (j := (4294967279 : Int)))) rfl (gDiv_k (i := (a_5 % (4294967279 : Int))) (j := (7 : Int)))) rfl (gMod_t h_9))) ⟨_, rfl, rfl⟩
theorem c_law_great_4 {well : (List Int)} {limit : Int} {r : (Int × (List Int))} (h : t_law_great_4 well limit = some r) : m_law_great_4 [((eL D.int) well), (D.int limit)] = some (false, (D.int r.1), ((eL D.int) r.2)) := by
  refine im_def true 4 2 (F := F_law_great_4) (ds := [((eL D.int) well), (D.int limit)]) false (fun r => (D.int r.1)) (fun r => ((eL D.int) r.2)) (τ := [so ((eL D.int) well), sd (D.int limit), none, none]) rfl h rfl rfl ?_
  unfold t_law_great_4 F_law_great_4
  refine im_set (fun number : Int => [so ((eL D.int) well), sd (D.int limit), sd (D.int number), none]) (is_set rfl) fun number => ?_
  refine im_bind fun r_2 h => ?_
  refine im_for (en := D.int) (fun (sz : ((List Int) × Int)) τz => ∃ cc3 : Option Cell, τz = [so ((eL D.int) sz.1), sd (D.int limit), sd (D.int sz.2), cc3]) (ii_r1 h (ip_cons rfl rfl)) ⟨_, rfl⟩ ?_ ?_
  · intro turn s _ hst; obtain ⟨cc3, rfl⟩ := hst
    refine ⟨[so ((eL D.int) s.1), sd (D.int limit), sd (D.int s.2), sd (D.int turn)], rfl, ?_⟩
    refine im_one ?_
    refine im_bind fun a h_2 => ?_
    refine im_set (fun number_2 : Int => [so ((eL D.int) a.2), sd (D.int limit), sd (D.int number_2), sd (D.int turn)]) (is_set (ie_bin (x := (D.int (s.2 * (1000000000 : Int)))) (y := (D.int a.1)) (ie_bin (x := (D.int s.2)) (y := (D.int (1000000000 : Int))) rfl rfl (gMul_R (i := s.2) (j := (1000000000 : Int)))) (ie_callIo (d0 := ((eL D.int) s.1)) (ds := [(D.int (1000000000 : Int))]) rfl (ia_cons rfl rfl rfl) (c_law_dip h_2)) rfl)) fun number_2 => ?_
    exact im_end ⟨_, .inl rfl, ⟨_, rfl⟩⟩
  · intro s_2 _ hst; obtain ⟨cc3, rfl⟩ := hst
    refine im_one ?_
    refine im_bind fun a_2 h_3 => ?_
    exact im_ret (is_ret (ie_bin (x := (D.int s_2.2)) (y := (D.int limit)) (ie_cb (ds := [(D.int s_2.2)]) (ip_cons rfl rfl) rfl) rfl (gMod_t h_3))) ⟨_, rfl, rfl⟩
theorem c_law_signed {well : (List Int)} {digits : Int} {r : (Int × (List Int))} (h : t_law_signed well digits = some r) : m_law_signed [((eL D.int) well), (D.int digits)] = some (false, (D.int r.1), ((eL D.int) r.2)) := by
  refine im_def true 5 2 (F := F_law_signed) (ds := [((eL D.int) well), (D.int digits)]) false (fun r => (D.int r.1)) (fun r => ((eL D.int) r.2)) (τ := [so ((eL D.int) well), sd (D.int digits), none, none, none]) rfl h rfl rfl ?_
  unfold t_law_signed F_law_signed
  refine im_bind fun a h => ?_
  refine im_set (fun length : Int => [so ((eL D.int) a.2), sd (D.int digits), sd (D.int length), none, none]) (is_set (ie_bin (x := (D.int (1 : Int))) (y := (D.int a.1)) rfl (ie_callIo (d0 := ((eL D.int) well)) (ds := [(D.int digits)]) rfl (ia_cons rfl rfl rfl) (c_law_dip h)) rfl)) fun length => ?_
  refine im_bind fun a_2 h_2 => ?_
  refine im_join (fun (sz : (Int)) τz => τz = [so ((eL D.int) a_2.2), sd (D.int digits), sd (D.int sz), none, none]) ?_ ?_
  · refine im_if1 (it_tb (p := (decide (a_2.1 = (0 : Int)))) (ie_bin (x := (D.int a_2.1)) (y := (D.int (0 : Int))) (ie_callIo (d0 := ((eL D.int) a.2)) (ds := [(D.int (3 : Int))]) rfl (ia_cons rfl rfl rfl) (c_law_dip h_2)) rfl (gEq_e D.int a_2.1 (0 : Int)).1)) (fun _ => ?_) (fun _ => ?_)
    · refine im_one ?_
      refine im_set (fun length_2 : Int => [so ((eL D.int) a_2.2), sd (D.int digits), sd (D.int length_2), none, none]) (is_set rfl) fun length_2 => ?_
      exact im_end ⟨_, rfl, rfl⟩
    · exact im_end ⟨_, rfl, rfl⟩
  · intro s _ hst; obtain rfl := hst
    refine im_set (fun limit : Int => [so ((eL D.int) a_2.2), sd (D.int digits), sd (D.int s), sd (D.int limit), none]) (is_set rfl) fun limit => ?_
    refine im_bind fun r_2 h_3 => ?_
    refine im_for (en := D.int) (fun (sz : (Int)) τz => ∃ cc4 : Option Cell, τz = [so ((eL D.int) a_2.2), sd (D.int digits), sd (D.int s), sd (D.int sz), cc4]) (ii_r1 h_3 (ip_cons rfl rfl)) ⟨_, rfl⟩ ?_ ?_
    · intro turn s_2 _ hst; obtain ⟨cc4, rfl⟩ := hst
      refine ⟨[so ((eL D.int) a_2.2), sd (D.int digits), sd (D.int s), sd (D.int s_2), sd (D.int turn)], rfl, ?_⟩
      refine im_one ?_
      refine im_set (fun limit_2 : Int => [so ((eL D.int) a_2.2), sd (D.int digits), sd (D.int s), sd (D.int limit_2), sd (D.int turn)]) (is_set (ie_bin (x := (D.int s_2)) (y := (D.int (10 : Int))) rfl rfl (gMul_R (i := s_2) (j := (10 : Int))))) fun limit_2 => ?_
      exact im_end ⟨_, .inl rfl, ⟨_, rfl⟩⟩
    · intro s_3 _ hst; obtain ⟨cc4, rfl⟩ := hst
      refine im_one ?_
      refine im_bind fun a_3 h_4 => ?_
      refine im_bind fun a_4 h_5 => ?_
      refine im_bind fun a_5 h_6 => ?_
      exact im_ret (is_ret (ie_bin (x := (D.int a_3.1)) (y := (D.int ((1 : Int) - ((2 : Int) * a_4.1)))) (ie_callIo (d0 := ((eL D.int) a_2.2)) (ds := [(D.int s_3)]) rfl (ia_cons rfl rfl rfl) (c_law_great_4 h_4)) (ie_bin (x := (D.int (1 : Int))) (y := (D.int ((2 : Int) * a_4.1))) rfl (ie_bin (x := (D.int (2 : Int))) (y := (D.int a_4.1)) rfl (ie_callIo (d0 := ((eL D.int) a_3.2)) (ds := [(D.int (2 : Int))]) rfl (ia_cons rfl rfl rfl) (c_law_dip h_5)) (gMul_L (i := (2 : Int)) (j := a_4.1))) rfl) (gMul_t h_6))) ⟨_, rfl, rfl⟩
theorem c_integer {word : PySem.Str} {text : PySem.Str} {r : Int} (h : t_integer word text = some r) : m_integer [(D.str word), (D.str text)] = some (false, (D.int r), .non) := by
  refine im_def false 4 2 (F := F_integer) (ds := [(D.str word), (D.str text)]) false (fun r => (D.int r)) (fun _ => .non) (τ := [sd (D.str word), sd (D.str text), none, none]) rfl h rfl rfl ?_
  unfold t_integer F_integer
  refine im_bind fun a h => ?_
  refine im_bind fun q h_3 => ?_
  refine im_sq (τ1 := [sd (D.str word), sd (D.str text), sd (D.str q), none]) (is_set (ie_ifP (p := (decide (a = (os "-")))) (fun x : (PySem.Str) => Op.val (D.str x)) (fun x : (PySem.Str) => [sd (D.str word), sd (D.str text), none, none]) h_3 (it_tb (p := (decide (a = (os "-")))) (ie_bin (x := (D.str a)) (y := (D.str (os "-"))) (ie_slS h rfl rfl (io_some (i := (1 : Int)) rfl)) rfl rfl)) (fun cz hz => by obtain ⟨a_2, h_2, hz⟩ := bind_some' hz; rw [← Option.some.inj hz]; exact (ie_slS h_2 rfl (io_some (i := (1 : Int)) rfl) rfl)) (fun cz hz => by rw [← Option.some.inj hz]; exact rfl))) ?_
  refine im_bind fun q_2 h_5 => ?_
  refine im_if (it_orP (p := (decide (q = (os "")))) h_5 (it_tb (p := (decide (q = (os "")))) (ie_bin (x := (D.str q)) (y := (D.str (os ""))) rfl rfl rfl)) (fun cz hz => by obtain ⟨a_3, h_4, hz⟩ := bind_some' hz; rw [← Option.some.inj hz]; exact (it_tb (p := (decide ((60 : Int) < a_3))) (ie_bin (x := (D.int a_3)) (y := (D.int (60 : Int))) (ie_cb (ds := [(D.str q)]) (ip_cons rfl rfl) (gLen_s h_4)) rfl rfl)))) (fun _ => ?_) (fun _ => ?_)
  · exact im_none
  · refine im_skip ?_
    refine im_for (en := D.str) (fun (sz : Unit) τz => ∃ cc3 : Option Cell, τz = [sd (D.str word), sd (D.str text), sd (D.str q), cc3]) (ii_st rfl) ⟨_, rfl⟩ ?_ ?_
    · intro sign s _ hst; obtain ⟨cc3, rfl⟩ := hst
      refine ⟨[sd (D.str word), sd (D.str text), sd (D.str q), sd (D.str sign)], rfl, ?_⟩
      refine im_one ?_
      refine im_bind fun q_3 h_6 => ?_
      refine im_if (it_tb (p := (!q_3)) (ie_bin (x := (D.str sign)) (y := (D.str (os "0123456789"))) rfl rfl (gInS_t (neg := true) h_6))) (fun _ => ?_) (fun _ => ?_)
      · exact im_none
      · refine im_skip ?_
        exact im_end ⟨_, .inl rfl, ⟨_, rfl⟩⟩
    · intro s_2 _ hst; obtain ⟨cc3, rfl⟩ := hst
      refine im_bind fun a_4 h_7 => ?_
      refine im_if (it_and (p := (decide (a_4 = (os "0")))) (q := (!decide (word = (os "0")))) (it_tb (p := (decide (a_4 = (os "0")))) (ie_bin (x := (D.str a_4)) (y := (D.str (os "0"))) (ie_bin (x := (D.str q)) (y := (D.int (0 : Int))) rfl rfl (gIx_s h_7)) rfl rfl)) (it_tb (p := (!decide (word = (os "0")))) (ie_bin (x := (D.str word)) (y := (D.str (os "0"))) rfl rfl rfl))) (fun _ => ?_) (fun _ => ?_)
      · exact im_none
      · refine im_skip ?_
        refine im_one ?_
        refine im_bind fun a_5 h_8 => ?_
        exact im_ret (is_ret (ie_cb (ds := [(D.str word)]) (ip_cons rfl rfl) (gIntS_t h_8))) ⟨_, rfl, rfl⟩
theorem c_integers {words : (List PySem.Str)} {text : PySem.Str} {r : (List Int)} (h : t_integers words text = some r) : m_integers [((eL D.str) words), (D.str text)] = some (true, ((eL D.int) r), .non) := by
  refine im_def false 3 2 (F := F_integers) (ds := [((eL D.str) words), (D.str text)]) true (fun r => ((eL D.int) r)) (fun _ => .non) (τ := [sd ((eL D.str) words), sd (D.str text), none]) rfl h rfl rfl ?_
  unfold t_integers F_integers
  refine im_one ?_
  refine im_bind fun a_2 h_2 => ?_
  exact im_ret (is_ret (ie_lcO (en := D.str) (e := D.int) h_2 (ii_sq rfl) (fun word => ⟨[sd ((eL D.str) words), sd (D.str text), sd (D.str word)], rfl, rfl, fun bz hz => by rw [← Option.some.inj hz]; exact ⟨rfl, fun _ yz hz => by obtain ⟨a, h, hz⟩ := bind_some' hz; rw [← Option.some.inj hz]; exact ⟨_, (ie_call (ds := [(D.str word), (D.str text)]) (ia_cons rfl rfl (ia_cons rfl rfl rfl)) (c_integer h)), rfl⟩⟩⟩))) ⟨_, rfl, rfl⟩
theorem c_Rule_init {a : Int} {b : Int} {d : Int} {r : C_Rule} (h : t_Rule_init a b d = some r) : m_Rule_init [.ins "Rule" [], (D.int a), (D.int b), (D.int d)] = some (false, .non, e_Rule r) := by
  refine im_def true 4 4 (F := F_Rule_init) (ds := [.ins "Rule" [], (D.int a), (D.int b), (D.int d)]) false (fun _ => .non) (fun r => e_Rule r) (τ := [so (.ins "Rule" []), sd (D.int a), sd (D.int b), sd (D.int d)]) rfl h rfl rfl ?_
  unfold t_Rule_init F_Rule_init
  refine im_sq (τ1 := [so (.ins "Rule" [("by_row", (D.int a))]), sd (D.int a), sd (D.int b), sd (D.int d)]) (is_fld rfl rfl rfl (by simp [putAt, putD, e_Rule] <;> rfl)) ?_
  refine im_sq (τ1 := [so (.ins "Rule" [("by_row", (D.int a)), ("by_column", (D.int b))]), sd (D.int a), sd (D.int b), sd (D.int d)]) (is_fld rfl rfl rfl (by simp [putAt, putD, e_Rule] <;> rfl)) ?_
  refine im_one ?_
  refine im_sq (τ1 := [so (.ins "Rule" [("by_row", (D.int a)), ("by_column", (D.int b)), ("start", (D.int d))]), sd (D.int a), sd (D.int b), sd (D.int d)]) (is_fld rfl rfl rfl (by simp [putAt, putD, e_Rule] <;> rfl)) ?_
  exact im_end ⟨_, rfl, rfl⟩
theorem c_read_rule {text : PySem.Str} {r : C_Rule} (h : t_read_rule text = some r) : m_read_rule [(D.str text)] = some (true, (e_Rule r), .non) := by
  refine im_def false 5 1 (F := F_read_rule) (ds := [(D.str text)]) true (fun r => (e_Rule r)) (fun _ => .non) (τ := [sd (D.str text), none, none, none, none]) rfl h rfl rfl ?_
  unfold t_read_rule F_read_rule
  refine im_bind fun parts h => ?_
  refine im_sq (τ1 := [sd (D.str text), sd ((eL D.str) parts), none, none, none]) (is_setF (ie_m1 (a := text) (d := (D.str (os " + "))) rfl rfl (gSplit_t h))) ?_
  refine im_bind fun q_2 h_7 => ?_
  refine im_if (it_orP (p := (!decide ((parts.length : Int) = (3 : Int)))) h_7 (it_tb (p := (!decide ((parts.length : Int) = (3 : Int)))) (ie_bin (x := (D.int (parts.length : Int))) (y := (D.int (3 : Int))) (ie_cb (ds := [((eL D.str) parts)]) (ip_cons rfl rfl) (gLen_l (e := D.str))) rfl (gEq_e D.int (parts.length : Int) (3 : Int)).2)) (fun cz hz => by obtain ⟨a, h_2, hz⟩ := bind_some' hz; obtain ⟨a_2, h_3, hz⟩ := bind_some' hz; obtain ⟨q, h_6, hz⟩ := bind_some' hz; rw [← Option.some.inj hz]; exact (it_orP (p := (!decide (a_2 = (os "r")))) h_6 (it_tb (p := (!decide (a_2 = (os "r")))) (ie_bin (x := (D.str a_2)) (y := (D.str (os "r"))) (ie_slS h_3 (ie_bin (x := ((eL D.str) parts)) (y := (D.int (0 : Int))) rfl rfl (gIx_l (e := D.str) h_2)) (io_some (i := (-1 : Int)) rfl) rfl) rfl rfl)) (fun cz hz => by obtain ⟨a_3, h_4, hz⟩ := bind_some' hz; obtain ⟨a_4, h_5, hz⟩ := bind_some' hz; rw [← Option.some.inj hz]; exact (it_tb (p := (!decide (a_4 = (os "c")))) (ie_bin (x := (D.str a_4)) (y := (D.str (os "c"))) (ie_slS h_5 (ie_bin (x := ((eL D.str) parts)) (y := (D.int (1 : Int))) rfl rfl (gIx_l (e := D.str) h_4)) (io_some (i := (-1 : Int)) rfl) rfl) rfl rfl)))))) (fun _ => ?_) (fun _ => ?_)
  · exact im_none
  · refine im_skip ?_
    refine im_bind fun a_5 h_8 => ?_
    refine im_bind fun a_6 h_9 => ?_
    refine im_bind fun a_7 h_10 => ?_
    refine im_bind fun a_8 h_11 => ?_
    refine im_bind fun a_9 h_12 => ?_
    refine im_bind fun q_3 h_13 => ?_
    refine im_bind fun q_4 h_14 => ?_
    refine im_sq (τ1 := [sd (D.str text), sd ((eL D.str) parts), sd (D.int q_4.1), sd (D.int q_4.2.1), sd (D.int q_4.2.2)]) (is_unp (ie_castT (un3_e D.int h_14) (ie_call (ds := [((eL D.str) [a_6, a_8, a_9]), (D.str text)]) (ia_cons (ie_lst (ia_cons (ie_slS h_9 (ie_bin (x := ((eL D.str) parts)) (y := (D.int (0 : Int))) rfl rfl (gIx_l (e := D.str) h_8)) rfl (io_some (i := (-1 : Int)) rfl)) rfl (ia_cons (ie_slS h_11 (ie_bin (x := ((eL D.str) parts)) (y := (D.int (1 : Int))) rfl rfl (gIx_l (e := D.str) h_10)) rfl (io_some (i := (-1 : Int)) rfl)) rfl (ia_cons (ie_bin (x := ((eL D.str) parts)) (y := (D.int (2 : Int))) rfl rfl (gIx_l (e := D.str) h_12)) rfl rfl)))) rfl (ia_cons rfl rfl rfl)) (c_integers h_13))) rfl rfl) ?_
    refine im_one ?_
    exact im_ret (is_ret (ie_make (ds := [(D.int q_4.1), (D.int q_4.2.1), (D.int q_4.2.2)]) (ia_cons rfl rfl (ia_cons rfl rfl (ia_cons rfl rfl rfl))) (c_Rule_init rfl))) ⟨_, rfl, rfl⟩
theorem c_Rule_eq {x_self : C_Rule} {other : C_Rule} {r : Bool} (h : t_Rule_eq x_self other = some r) : m_Rule_eq [(e_Rule x_self), (e_Rule other)] = some (false, (D.bl r), .non) := by
  refine im_def false 2 2 (F := F_Rule_eq) (ds := [(e_Rule x_self), (e_Rule other)]) false (fun r => (D.bl r)) (fun _ => .non) (τ := [sd (e_Rule x_self), sd (e_Rule other)]) rfl h rfl rfl ?_
  unfold t_Rule_eq F_Rule_eq
  refine im_if (it_not (p := true) (it_tb (p := true) (ie_isC (x := (e_Rule other)) (o := .val (.bl true)) rfl (by simp [gIsC, e_Rule])))) (fun _ => ?_) (fun _ => ?_)
  · exact im_ret (is_ret rfl) ⟨_, rfl, rfl⟩
  · refine im_skip ?_
    refine im_one ?_
    exact im_ret (is_ret (ie_andV (p := (decide (x_self.by_row = other.by_row))) (q := ((decide (x_self.by_column = other.by_column)) && (decide (x_self.start = other.start)))) (ie_bin (x := (D.int x_self.by_row)) (y := (D.int other.by_row)) (ie_fld (d := (e_Rule x_self)) (z := (D.int x_self.by_row)) rfl (by simp [fldD, e_Rule, List.lookup])) (ie_fld (d := (e_Rule other)) (z := (D.int other.by_row)) rfl (by simp [fldD, e_Rule, List.lookup])) (gEq_e D.int x_self.by_row other.by_row).1) (ie_andV (p := (decide (x_self.by_column = other.by_column))) (q := (decide (x_self.start = other.start))) (ie_bin (x := (D.int x_self.by_column)) (y := (D.int other.by_column)) (ie_fld (d := (e_Rule x_self)) (z := (D.int x_self.by_column)) rfl (by simp [fldD, e_Rule, List.lookup])) (ie_fld (d := (e_Rule other)) (z := (D.int other.by_column)) rfl (by simp [fldD, e_Rule, List.lookup])) (gEq_e D.int x_self.by_column other.by_column).1) (ie_bin (x := (D.int x_self.start)) (y := (D.int other.start)) (ie_fld (d := (e_Rule x_self)) (z := (D.int x_self.start)) rfl (by simp [fldD, e_Rule, List.lookup])) (ie_fld (d := (e_Rule other)) (z := (D.int other.start)) rfl (by simp [fldD, e_Rule, List.lookup])) (gEq_e D.int x_self.start other.start).1)))) ⟨_, rfl, rfl⟩
theorem c_Rule_d {x_self : C_Rule} {r : Int} (h : t_Rule_d x_self = some r) : m_Rule_d [(e_Rule x_self)] = some (false, (D.int r), .non) := by
  refine im_def false 1 1 (F := F_Rule_d) (ds := [(e_Rule x_self)]) false (fun r => (D.int r)) (fun _ => .non) (τ := [sd (e_Rule x_self)]) rfl h rfl rfl ?_
  unfold t_Rule_d F_Rule_d
  refine im_one ?_
  exact im_ret (is_ret (ie_fld (d := (e_Rule x_self)) (z := (D.int x_self.start)) rfl (by simp [fldD, e_Rule, List.lookup]))) ⟨_, rfl, rfl⟩
theorem c_Rule_b {x_self : C_Rule} {r : Int} (h : t_Rule_b x_self = some r) : m_Rule_b [(e_Rule x_self)] = some (false, (D.int r), .non) := by
  refine im_def false 1 1 (F := F_Rule_b) (ds := [(e_Rule x_self)]) false (fun r => (D.int r)) (fun _ => .non) (τ := [sd (e_Rule x_self)]) rfl h rfl rfl ?_
  unfold t_Rule_b F_Rule_b
  refine im_one ?_
  exact im_ret (is_ret (ie_fld (d := (e_Rule x_self)) (z := (D.int x_self.by_column)) rfl (by simp [fldD, e_Rule, List.lookup]))) ⟨_, rfl, rfl⟩
theorem c_Rule_a {x_self : C_Rule} {r : Int} (h : t_Rule_a x_self = some r) : m_Rule_a [(e_Rule x_self)] = some (false, (D.int r), .non) := by
  refine im_def false 1 1 (F := F_Rule_a) (ds := [(e_Rule x_self)]) false (fun r => (D.int r)) (fun _ => .non) (τ := [sd (e_Rule x_self)]) rfl h rfl rfl ?_
  unfold t_Rule_a F_Rule_a
  refine im_one ?_
  exact im_ret (is_ret (ie_fld (d := (e_Rule x_self)) (z := (D.int x_self.by_row)) rfl (by simp [fldD, e_Rule, List.lookup]))) ⟨_, rfl, rfl⟩
theorem c_law_is_integer {told : Int} {r : Bool} (h : t_law_is_integer told = some r) : m_law_is_integer [(D.int told)] = some (false, (D.bl r), .non) := by
  refine im_def false 1 1 (F := F_law_is_integer) (ds := [(D.int told)]) false (fun r => (D.bl r)) (fun _ => .non) (τ := [sd (D.int told)]) rfl h rfl rfl ?_
  unfold t_law_is_integer F_law_is_integer
  refine im_one ?_
  exact im_ret (is_ret (ie_andV (p := true) (q := (!false)) (ie_isi (x := (D.int told)) rfl (gIsi_k (n := "int") (b := true) rfl (by decide +kernel))) (ie_notV (p := false) (ie_isi (x := (D.int told)) rfl (gIsi_k (n := "int") (b := false) rfl (by decide +kernel)))))) ⟨_, rfl, rfl⟩
theorem c_show_rule {rule : C_Rule} {r : PySem.Str} (h : t_show_rule rule = some r) : m_show_rule [(e_Rule rule)] = some (false, (D.str r), .non) := by
  refine im_def false 1 1 (F := F_show_rule) (ds := [(e_Rule rule)]) false (fun r => (D.str r)) (fun _ => .non) (τ := [sd (e_Rule rule)]) rfl h rfl rfl ?_
  unfold t_show_rule F_show_rule
  refine im_one ?_
  refine im_bind fun s h => ?_
  refine im_bind fun s_2 h_2 => ?_
  refine im_bind fun s_3 h_3 => ?_
  refine im_bind fun s_4 h_4 => ?_
  refine im_bind fun s_5 h_5 => ?_
  refine im_bind fun s_6 h_6 => ?_
  refine im_bind fun s_7 h_7 => ?_
  refine im_bind fun s_8 h_8 => ?_
  exact im_ret (is_ret (ie_fstr (js_cons (y := s) h_2 (ie_un (x := (D.int rule.by_row)) (ie_prop rfl rfl (c_Rule_a (x_self := rule) rfl) rfl) (gFmt_i h)) (js_cons (y := (os "r + ")) h_3 rfl (js_cons (y := s_4) h_5 (ie_un (x := (D.int rule.by_column)) (ie_prop rfl rfl (c_Rule_b (x_self := rule) rfl) rfl) (gFmt_i h_4)) (js_cons (y := (os "c + ")) h_6 rfl (js_cons (y := s_7) h_8 (ie_un (x := (D.int rule.start)) (ie_prop rfl rfl (c_Rule_d (x_self := rule) rfl) rfl) (gFmt_i h_7)) rfl))))))) ⟨_, rfl, rfl⟩
theorem c_law_right_19 {a : Int} {b : Int} {d : Int} {r : Bool} (h : t_law_right_19 a b d = some r) : m_law_right_19 [(D.int a), (D.int b), (D.int d)] = some (false, (D.bl r), .non) := by
  refine im_def false 8 3 (F := F_law_right_19) (ds := [(D.int a), (D.int b), (D.int d)]) false (fun r => (D.bl r)) (fun _ => .non) (τ := [sd (D.int a), sd (D.int b), sd (D.int d), none, none, none, none, none]) rfl h rfl rfl ?_
  unfold t_law_right_19 F_law_right_19
  refine im_bind fun a_2 h => ?_
  refine im_bind fun a_3 h_2 => ?_
  refine im_bind fun a_4 h_3 => ?_
  refine im_bind fun a_5 h_4 => ?_
  refine im_bind fun a_6 h_5 => ?_
  refine im_bind fun a_7 h_6 => ?_
  refine im_bind fun text h_7 => ?_
  refine im_sq (τ1 := [sd (D.int a), sd (D.int b), sd (D.int d), sd (D.str text), none, none, none, none]) (is_set (ie_bin (x := (D.str a_6)) (y := (D.str a_7)) (ie_bin (x := (D.str a_5)) (y := (D.str (os "c + "))) (ie_bin (x := (D.str a_3)) (y := (D.str a_4)) (ie_bin (x := (D.str a_2)) (y := (D.str (os "r + "))) (ie_cb (ds := [(D.int a)]) (ip_cons rfl rfl) (gStr_t h)) rfl (gCatS_t h_2)) (ie_cb (ds := [(D.int b)]) (ip_cons rfl rfl) (gStr_t h_3)) (gCatS_t h_4)) rfl (gCatS_t h_5)) (ie_cb (ds := [(D.int d)]) (ip_cons rfl rfl) (gStr_t h_6)) (gCatS_t h_7))) ?_
  refine im_bind fun r_2 h_8 => ?_
  refine im_forC (en := D.int) (fun (sz : Unit) τz => ∃ cc4 cc5 cc6 cc7 : Option Cell, τz = [sd (D.int a), sd (D.int b), sd (D.int d), sd (D.str text), cc4, cc5, cc6, cc7]) (RtR false (fun _ w => w = false) (fun r => (D.bl r)) (fun _ => .non)) (ii_r1 h_8 (ip_cons rfl rfl)) (h0 := ⟨_, _, _, _, rfl⟩) ?_ ?_ ?_
  · intro turn s _ hst; obtain ⟨cc4, cc5, cc6, cc7, rfl⟩ := hst
    refine ⟨[sd (D.int a), sd (D.int b), sd (D.int d), sd (D.str text), sd (D.int turn), cc5, cc6, cc7], rfl, ?_⟩
    refine im_bind fun rule h_9 => ?_
    refine im_sq (τ1 := [sd (D.int a), sd (D.int b), sd (D.int d), sd (D.str text), sd (D.int turn), sd (e_Rule rule), cc6, cc7]) (is_setF (ie_call (ds := [(D.str text)]) (ia_cons rfl rfl rfl) (c_read_rule h_9))) ?_
    refine im_bind fun q_2 h_11 => ?_
    refine im_if (it_orP (p := (!true)) h_11 (it_not (p := true) (it_tb (p := true) (ie_isC (x := (e_Rule rule)) (o := .val (.bl true)) rfl (by simp [gIsC, e_Rule])))) (fun cz hz => by obtain ⟨q, h_10, hz⟩ := bind_some' hz; rw [← Option.some.inj hz]; exact (it_not (p := q) (it_tb (p := q) (ie_binF rfl rfl (ie_make (ds := [(D.int a), (D.int b), (D.int d)]) (ia_cons rfl rfl (ia_cons rfl rfl (ia_cons rfl rfl rfl))) (c_Rule_init rfl)) rfl (gEqM_ok (c_Rule_eq h_10) rfl rfl)))))) (fun _ => ?_) (fun _ => ?_)
    · exact im_ret (is_ret rfl) ⟨_, _, rfl, ⟨_, rfl, rfl⟩⟩
    · refine im_skip ?_
      refine im_forC (en := (eT2 D.int D.int)) (fun (sz : Unit) τz => ∃ cc6 cc7 : Option Cell, τz = [sd (D.int a), sd (D.int b), sd (D.int d), sd (D.str text), sd (D.int turn), sd (e_Rule rule), cc6, cc7]) (RtR false (fun _ w => w = false) (fun r => (D.bl r)) (fun _ => .non)) (ii_sq (ie_lst (ia_cons (ie_tup (ia_cons (ie_prop rfl rfl (c_Rule_a (x_self := rule) rfl) rfl) rfl (ia_cons rfl rfl rfl))) rfl (ia_cons (ie_tup (ia_cons (ie_prop rfl rfl (c_Rule_b (x_self := rule) rfl) rfl) rfl (ia_cons rfl rfl rfl))) rfl (ia_cons (ie_tup (ia_cons (ie_prop rfl rfl (c_Rule_d (x_self := rule) rfl) rfl) rfl (ia_cons rfl rfl rfl))) rfl rfl))))) (h0 := ⟨_, _, rfl⟩) ?_ ?_ ?_
      · intro x s_2 _ hst; obtain ⟨cc6, cc7, rfl⟩ := hst
        refine ⟨[sd (D.int a), sd (D.int b), sd (D.int d), sd (D.str text), sd (D.int turn), sd (e_Rule rule), sd (D.int x.1), sd (D.int x.2)], rfl, ?_⟩
        refine im_one ?_
        refine im_bind fun a_8 h_12 => ?_
        refine im_if (it_or (p := (!a_8)) (q := (!decide (x.1 = x.2))) (it_not (p := a_8) (it_tb (p := a_8) (ie_call (ds := [(D.int x.1)]) (ia_cons rfl rfl rfl) (c_law_is_integer h_12)))) (it_tb (p := (!decide (x.1 = x.2))) (ie_bin (x := (D.int x.1)) (y := (D.int x.2)) rfl rfl (gEq_e D.int x.1 x.2).2))) (fun _ => ?_) (fun _ => ?_)
        · exact im_ret (is_ret rfl) ⟨_, _, rfl, ⟨_, rfl, rfl⟩⟩
        · refine im_skip ?_
          exact im_end ⟨_, .inl rfl, ⟨_, _, rfl⟩⟩
      · exact fun r o τ' c hr hc => by cases hc; exact ⟨o, τ', rfl, hr⟩
      · intro s_3 _ hst; obtain ⟨cc6, cc7, rfl⟩ := hst
        refine im_one ?_
        refine im_bind fun a_9 h_13 => ?_
        refine im_if (it_tb (p := (!decide (a_9 = text))) (ie_bin (x := (D.str a_9)) (y := (D.str text)) (ie_call (ds := [(e_Rule rule)]) (ia_cons rfl rfl rfl) (c_show_rule h_13)) rfl rfl)) (fun _ => ?_) (fun _ => ?_)
        · exact im_ret (is_ret rfl) ⟨_, _, rfl, ⟨_, rfl, rfl⟩⟩
        · refine im_skip ?_
          exact im_end ⟨_, .inl rfl, ⟨_, _, _, _, rfl⟩⟩
  · exact fun r o τ' c hr hc => by cases hc; exact hr
  · intro s_4 _ hst; obtain ⟨cc4, cc5, cc6, cc7, rfl⟩ := hst
    refine im_one ?_
    exact im_ret (is_ret rfl) ⟨_, rfl, rfl⟩
theorem c_law_k65 {script : (List Int)} {r : Bool} (h : t_law_k65 script = some r) : m_law_k65 [((eL D.int) script)] = some (false, (D.bl r), .non) := by
  refine im_def false 6 1 (F := F_law_k65) (ds := [((eL D.int) script)]) false (fun r => (D.bl r)) (fun _ => .non) (τ := [sd ((eL D.int) script), none, none, none, none, none]) rfl h rfl rfl ?_
  unfold t_law_k65 F_law_k65
  refine im_bind fun r_2 h => ?_
  refine im_forC (en := D.int) (fun (sz : Unit) τz => ∃ cc1 cc2 cc3 cc4 : Option Cell, τz = [sd ((eL D.int) script), cc1, cc2, cc3, cc4, none]) (RtR false (fun _ w => w = false) (fun r => (D.bl r)) (fun _ => .non)) (ii_r1 h (ip_cons (ie_cb (ds := [(D.int (1 : Int)), (D.int (script.length : Int))]) (ip_cons rfl (ip_cons (ie_cb (ds := [((eL D.int) script)]) (ip_cons rfl rfl) (gLen_l (e := D.int))) rfl)) rfl) rfl)) (h0 := ⟨_, _, _, _, rfl⟩) ?_ ?_ ?_
  · intro k s _ hst; obtain ⟨cc1, cc2, cc3, cc4, rfl⟩ := hst
    refine ⟨[sd ((eL D.int) script), sd (D.int k), cc2, cc3, cc4, none], rfl, ?_⟩
    refine im_bind fun well h_2 => ?_
    refine im_sq (τ1 := [sd ((eL D.int) script), sd (D.int k), so ((eL D.int) well), cc3, cc4, none]) (is_set (ie_call (ds := [((eL D.int) script), (D.int k)]) (ia_cons rfl rfl (ia_cons rfl rfl rfl)) (c_law_well h_2))) ?_
    refine im_bind fun r_3 h_3 => ?_
    refine im_bind fun numbers h_6 => ?_
    refine im_sq (τ1 := [sd ((eL D.int) script), sd (D.int k), so ((eL D.int) numbers.2), so ((eL D.int) numbers.1), cc4, none]) (is_set (ie_lcS (en := D.int) (e := D.int) (fun sz : ((List Int)) => [sd ((eL D.int) script), sd (D.int k), so ((eL D.int) sz), cc3, cc4, none]) h_6 (ii_r1 h_3 (ip_cons rfl rfl)) (fun turn s_2 => ⟨[sd ((eL D.int) script), sd (D.int k), so ((eL D.int) s_2), cc3, cc4, sd (D.int turn)], rfl, fun bz hz => by rw [← Option.some.inj hz]; exact ⟨_, rfl, fun _ => rfl, fun _ yz hz => by obtain ⟨a_2, h_5, hz⟩ := bind_some' hz; rw [← Option.some.inj hz]; exact ⟨_, _, _, (ie_callIoE (τ := [sd ((eL D.int) script), sd (D.int k), so ((eL D.int) s_2), cc3, cc4, sd (D.int turn)]) (τ1 := [sd ((eL D.int) script), sd (D.int k), so ((eL D.int) s_2), cc3, cc4, sd (D.int turn)]) (τ2 := [sd ((eL D.int) script), sd (D.int k), so ((eL D.int) s_2), cc3, cc4, sd (D.int turn)]) (d0 := ((eL D.int) s_2)) (ds := [(D.int (60 : Int))]) rfl (ia_cons rfl rfl rfl) (c_law_signed h_5)), rfl, rfl⟩⟩⟩))) ?_
    refine im_bind fun a_3 h_7 => ?_
    refine im_bind fun a_4 h_8 => ?_
    refine im_bind fun a_5 h_9 => ?_
    refine im_bind fun a_6 h_10 => ?_
    refine im_if (it_not (p := a_6) (it_tb (p := a_6) (ie_call (ds := [(D.int a_3), (D.int a_4), (D.int a_5)]) (ia_cons (ie_bin (x := ((eL D.int) numbers.1)) (y := (D.int (0 : Int))) rfl rfl (gIx_l (e := D.int) h_7)) rfl (ia_cons (ie_bin (x := ((eL D.int) numbers.1)) (y := (D.int (1 : Int))) rfl rfl (gIx_l (e := D.int) h_8)) rfl (ia_cons (ie_bin (x := ((eL D.int) numbers.1)) (y := (D.int (2 : Int))) rfl rfl (gIx_l (e := D.int) h_9)) rfl rfl))) (c_law_right_19 h_10)))) (fun _ => ?_) (fun _ => ?_)
    · exact im_ret (is_ret rfl) ⟨_, _, rfl, ⟨_, rfl, rfl⟩⟩
    · refine im_skip ?_
      refine im_bind fun a_7 h_11 => ?_
      refine im_bind fun a_8 h_12 => ?_
      refine im_bind fun long h_13 => ?_
      refine im_sq (τ1 := [sd ((eL D.int) script), sd (D.int k), so ((eL D.int) a_8.2), so ((eL D.int) numbers.1), sd (D.int long), none]) (is_set (ie_bin (x := (D.int ((100000000000000000000000000000000000000000000000000000000000 : Int) + a_7.1))) (y := (D.int ((1 : Int) - ((2 : Int) * a_8.1)))) (ie_bin (x := (D.int (100000000000000000000000000000000000000000000000000000000000 : Int))) (y := (D.int a_7.1)) (ie_bin (x := (D.int (10 : Int))) (y := (D.int (59 : Int))) rfl rfl (gPow_k (i := (10 : Int)) (j := (59 : Int)) (k := 100000000000000000000000000000000000000000000000000000000000))) (ie_callIo (d0 := ((eL D.int) numbers.2)) (ds := [(D.int (900000000000000000000000000000000000000000000000000000000000 : Int))]) rfl (ia_cons (ie_bin (x := (D.int (9 : Int))) (y := (D.int (100000000000000000000000000000000000000000000000000000000000 : Int))) rfl (ie_bin (x := (D.int (10 : Int))) (y := (D.int (59 : Int))) rfl rfl (gPow_k (i := (10 : Int)) (j := (59 : Int)) (k := 100000000000000000000000000000000000000000000000000000000000))) (gMul_k (i := (9 : Int)) (j := (100000000000000000000000000000000000000000000000000000000000 : Int)) (k := 900000000000000000000000000000000000000000000000000000000000))) rfl rfl) (c_law_great_4 h_11)) rfl) (ie_bin (x := (D.int (1 : Int))) (y := (D.int ((2 : Int) * a_8.1))) rfl (ie_bin (x := (D.int (2 : Int))) (y := (D.int a_8.1)) rfl (ie_callIo (d0 := ((eL D.int) a_7.2)) (ds := [(D.int (2 : Int))]) rfl (ia_cons rfl rfl rfl) (c_law_dip h_12)) (gMul_L (i := (2 : Int)) (j := a_8.1))) rfl) (gMul_t h_13))) ?_
      refine im_bind fun a_9 h_14 => ?_
      refine im_bind fun numbers_2 h_15 => ?_
      refine im_sq (τ1 := [sd ((eL D.int) script), sd (D.int k), so ((eL D.int) a_9.2), so ((eL D.int) numbers_2), sd (D.int long), none]) (is_setIx rfl rfl rfl (ie_callIo (d0 := ((eL D.int) a_8.2)) (ds := [(D.int (3 : Int))]) rfl (ia_cons rfl rfl rfl) (c_law_dip h_14)) (setT_ok (e := D.int) h_15)) ?_
      refine im_one ?_
      refine im_bind fun a_10 h_16 => ?_
      refine im_bind fun a_11 h_17 => ?_
      refine im_bind fun a_12 h_18 => ?_
      refine im_bind fun a_13 h_19 => ?_
      refine im_if (it_not (p := a_13) (it_tb (p := a_13) (ie_call (ds := [(D.int a_10), (D.int a_11), (D.int a_12)]) (ia_cons (ie_bin (x := ((eL D.int) numbers_2)) (y := (D.int (0 : Int))) rfl rfl (gIx_l (e := D.int) h_16)) rfl (ia_cons (ie_bin (x := ((eL D.int) numbers_2)) (y := (D.int (1 : Int))) rfl rfl (gIx_l (e := D.int) h_17)) rfl (ia_cons (ie_bin (x := ((eL D.int) numbers_2)) (y := (D.int (2 : Int))) rfl rfl (gIx_l (e := D.int) h_18)) rfl rfl))) (c_law_right_19 h_19)))) (fun _ => ?_) (fun _ => ?_)
      · exact im_ret (is_ret rfl) ⟨_, _, rfl, ⟨_, rfl, rfl⟩⟩
      · refine im_skip ?_
        exact im_end ⟨_, .inl rfl, ⟨_, _, _, _, rfl⟩⟩
  · exact fun r o τ' c hr hc => by cases hc; exact hr
  · intro s_4 _ hst; obtain ⟨cc1, cc2, cc3, cc4, rfl⟩ := hst
    refine im_one ?_
    exact im_ret (is_ret rfl) ⟨_, rfl, rfl⟩
end J
namespace J
open PySem PySem.Spec PyProof.Rows L2

/-! ### typed functions: what they answer -/
def Ok {α : Type} (t : Option α) (Q : α → Prop) : Prop := ∃ r, t = some r ∧ Q r
section
variable {α β S ρ : Type} {t u : Option α} {Q R : α → Prop}
theorem Ok.imp (h : Ok t R) (k : ∀ r, R r → Q r) : Ok t Q := let ⟨r, e, q⟩ := h; ⟨r, e, k r q⟩
theorem Ok.get (h : Ok t Q) : ∃ r, t = some r ∧ Q r := h
theorem ok_some {a : α} (h : Q a) : Ok (some a) Q := ⟨a, rfl, h⟩
theorem ok_of {a : α} (e : t = some a) (h : Q a) : Ok t Q := ⟨a, e, h⟩
theorem ok_bind {f : α → Option β} {Q : β → Prop} (h : Ok t fun a => Ok (f a) Q) : Ok (t.bind f) Q := by
  obtain ⟨a, rfl, r, e, q⟩ := h
  exact ⟨r, e, q⟩
/-- a spec, then what follows -/
theorem ok_to {f : α → Option β} {Q : β → Prop} (h : Ok t R) (k : ∀ a, R a → Ok (f a) Q) : Ok (t.bind f) Q := ok_bind (h.imp k)
theorem ok_eq {f : α → Option β} {Q : β → Prop} {a : α} (e : t = some a) (k : Ok (f a) Q) : Ok (t.bind f) Q := by
  subst e; exact k
theorem ok_lt {v : α} {k : α → Option β} {Q : β → Prop} (h : ∀ x, x = v → Ok (k x) Q) : Ok (lt v k) Q := h v rfl
theorem ok_if {c : Bool} (h1 : c = true → Ok t Q) (h2 : c = false → Ok u Q) : Ok (if c = true then t else u) Q := by
  cases c
  · exact h2 rfl
  · exact h1 rfl
theorem ok_ift {c : Bool} (hc : c = true) (h : Ok t Q) : Ok (if c = true then t else u) Q := by rw [if_pos hc]; exact h
theorem ok_iff {c : Bool} (hc : c = false) (h : Ok u Q) : Ok (if c = true then t else u) Q := by subst hc; exact h
theorem ok_mul {i j : Int} {Q : Int → Prop} (h : mulOk i j = true) (k : ∀ n, n = i * j → Q n) : Ok (mulT i j) Q := ⟨i * j, by unfold mulT; rw [if_pos h], k _ rfl⟩
theorem ok_mod {i j : Int} {Q : Int → Prop} (h : 0 < j) (k : ∀ n, n = i % j → 0 ≤ n → n < j → Q n) : Ok (modT i j) Q := ⟨i % j, by unfold modT; rw [if_pos h], k _ rfl (Int.emod_nonneg _ (by omega)) (Int.emod_lt_of_pos _ h)⟩
theorem ok_div {i j : Int} {Q : Int → Prop} (h : divOk j = true) (k : ∀ n, n = i / j → Q n) : Ok (divT i j) Q := ⟨i / j, by unfold divT; rw [if_pos h], k _ rfl⟩
theorem ok_pow {i j : Int} {Q : Int → Prop} (h : powOk i j = true) (k : ∀ n, n = i ^ j.toNat → Q n) : Ok (powT i j) Q := ⟨_, by unfold powT; rw [if_pos h], k _ rfl⟩
theorem ok_app {xs : List α} {x : α} {Q : List α → Prop} (h : xs.length < 16777216) (k : Q (xs ++ [x])) : Ok (appT xs x) Q := ⟨_, by unfold appT; rw [if_pos h], k⟩
theorem rngOk_in {i : Int} (h0 : -4611686018427387904 ≤ i) (h1 : i < 4611686018427387904) : rngOk i = true := by
  unfold rngOk
  rw [Bool.and_eq_true, decide_eq_true_eq, decide_eq_true_eq]
  exact ⟨h0, h1⟩
theorem rgT_eq {lo hi : Int} (h0 : -4611686018427387904 ≤ lo) (h1 : lo < 4611686018427387904) (h2 : -4611686018427387904 ≤ hi) (h3 : hi < 4611686018427387904) : rgT lo hi = some (rgI lo hi) := by
  unfold rgT
  rw [if_pos ⟨rngOk_in h0 h1, rngOk_in h2 h3⟩]
theorem ok_rg {lo hi : Int} {Q : List Int → Prop} (h0 : -4611686018427387904 ≤ lo) (h1 : lo < 4611686018427387904) (h2 : -4611686018427387904 ≤ hi) (h3 : hi < 4611686018427387904) (k : Q (rgI lo hi)) : Ok (rgT lo hi) Q := ⟨_, rgT_eq h0 h1 h2 h3, k⟩
theorem rgI_mem {lo hi x : Int} (h : x ∈ rgI lo hi) : lo ≤ x ∧ x < hi := by
  unfold rgI at h
  obtain ⟨i, h1, rfl⟩ := List.mem_map.mp h
  have := List.mem_range.mp h1
  omega
theorem mem_rgI {lo hi x : Int} (h0 : lo ≤ x) (h1 : x < hi) : x ∈ rgI lo hi := by
  unfold rgI
  exact List.mem_map.mpr ⟨(x - lo).toNat, List.mem_range.mpr (by omega), by omega⟩
theorem rgI_length (lo hi : Int) : (rgI lo hi).length = (hi - lo).toNat := by simp [rgI]
theorem rgI_cons {lo hi : Int} (h : lo < hi) : rgI lo hi = lo :: rgI (lo + 1) hi := by
  unfold rgI
  rw [show (hi - lo).toNat = (hi - (lo + 1)).toNat + 1 by omega, List.range_succ_eq_map, List.map_cons, List.map_map]
  congr 1
  · simp
  · refine List.map_congr_left fun i _ => ?_
    simp only [Function.comp, Nat.succ_eq_add_one]
    omega
theorem rgI_nil {lo hi : Int} (h : hi ≤ lo) : rgI lo hi = [] := by
  unfold rgI
  rw [show (hi - lo).toNat = 0 by omega]
  rfl
/-! #### loops -/
theorem ok_forS {b : α → S → Option S} {Q : S → Prop} (I : List α → S → Prop) : ∀ (xs pre : List α) (s : S), I pre s → (∀ p x s, x ∈ xs → I p s → Ok (b x s) fun s' => I (p ++ [x]) s') → (∀ s, I (pre ++ xs) s → Q s) → Ok (forS b xs s) Q
  | [], pre, s, h, _, hq => ⟨s, rfl, hq s (by simpa using h)⟩
  | x :: xs, pre, s, h, hb, hq => by
    obtain ⟨s1, e1, h1⟩ := hb pre x s List.mem_cons_self h
    obtain ⟨r, e2, q⟩ := ok_forS I xs (pre ++ [x]) s1 h1 (fun p y s hy => hb p y s (List.mem_cons_of_mem _ hy)) (fun s hs => hq s (by simpa using hs))
    exact ⟨r, by unfold forS; rw [e1]; exact e2, q⟩
/-- a for: what holds ahead of each turn, the state alone -/
theorem ok_each {b : α → S → Option S} {Q : S → Prop} (I : S → Prop) {xs : List α} {s : S} (h : I s) (hb : ∀ x s, x ∈ xs → I s → Ok (b x s) I) (hq : ∀ s, I s → Q s) : Ok (forS b xs s) Q :=
  ok_forS (fun _ => I) xs [] s h (fun _ x s hx hs => hb x s hx hs) hq
/-- a for over a range -/
theorem ok_rng {b : Int → S → Option S} {Q : S → Prop} (I : Int → S → Prop) {lo hi : Int} {s : S} (hl : lo ≤ hi) (h : I lo s) (hb : ∀ k s, lo ≤ k → k < hi → I k s → Ok (b k s) (I (k + 1))) (hq : ∀ s, I hi s → Q s) : Ok (forS b (rgI lo hi) s) Q := by
  obtain ⟨n, hn⟩ : ∃ n : Nat, (hi - lo).toNat = n := ⟨_, rfl⟩
  induction n generalizing lo s with
  | zero =>
    have : lo = hi := by omega
    subst this
    rw [rgI_nil (Int.le_refl _)]
    exact ⟨s, rfl, hq s h⟩
  | succ n ih =>
    rw [rgI_cons (by omega)]
    obtain ⟨s1, e1, h1⟩ := hb lo s (Int.le_refl _) (by omega) h
    obtain ⟨r, e2, q⟩ := ih (lo := lo + 1) (s := s1) (by omega) h1 (fun k s a b c => hb k s (by omega) b c) (by omega)
    exact ⟨r, by unfold forS; rw [e1]; exact e2, q⟩
/-- a for that may end early -/
theorem ok_forC {b : α → S → Option (Ct ρ S)} {Q : Ct ρ S → Prop} (I : List α → S → Prop) : ∀ (xs pre : List α) (s : S), I pre s → (∀ p x s, x ∈ xs → I p s → Ok (b x s) fun c => match c with | .nx s' => I (p ++ [x]) s' | .bk s' => Q (.nx s') | .rt r => Q (.rt r)) → (∀ s, I (pre ++ xs) s → Q (.nx s)) → Ok (forC b xs s) Q
  | [], pre, s, h, _, hq => ⟨_, rfl, hq s (by simpa using h)⟩
  | x :: xs, pre, s, h, hb, hq => by
    obtain ⟨c, e1, h1⟩ := hb pre x s List.mem_cons_self h
    unfold forC
    rw [e1]
    cases c with
    | nx s1 => exact ok_forC I xs (pre ++ [x]) s1 h1 (fun p y s hy => hb p y s (List.mem_cons_of_mem _ hy)) (fun s hs => hq s (by simpa using hs))
    | bk s1 => exact ⟨_, rfl, h1⟩
    | rt r => exact ⟨_, rfl, h1⟩
/-- a for whose turns all go on -/
theorem ok_eachC {b : α → S → Option (Ct ρ S)} {Q : Ct ρ S → Prop} (I : S → Prop) {xs : List α} {s : S} (h : I s) (hb : ∀ x s, x ∈ xs → I s → Ok (b x s) fun c => ∃ s', c = .nx s' ∧ I s') (hq : ∀ s, I s → Q (.nx s)) : Ok (forC b xs s) Q :=
  ok_forC (fun _ => I) xs [] s h (fun _ x s hx hs => (hb x s hx hs).imp fun c ⟨s', e, i⟩ => by subst e; exact i) hq
theorem ok_rngC {b : Int → S → Option (Ct ρ S)} {Q : Ct ρ S → Prop} (I : Int → S → Prop) {lo hi : Int} {s : S} (hl : lo ≤ hi) (h : I lo s) (hb : ∀ k s, lo ≤ k → k < hi → I k s → Ok (b k s) fun c => match c with | .nx s' => I (k + 1) s' | .bk s' => Q (.nx s') | .rt r => Q (.rt r)) (hq : ∀ s, I hi s → Q (.nx s)) : Ok (forC b (rgI lo hi) s) Q := by
  obtain ⟨n, hn⟩ : ∃ n : Nat, (hi - lo).toNat = n := ⟨_, rfl⟩
  induction n generalizing lo s with
  | zero =>
    have : lo = hi := by omega
    subst this
    rw [rgI_nil (Int.le_refl _)]
    exact ⟨_, rfl, hq s h⟩
  | succ n ih =>
    rw [rgI_cons (by omega)]
    obtain ⟨c, e1, h1⟩ := hb lo s (Int.le_refl _) (by omega) h
    unfold forC
    rw [e1]
    cases c with
    | nx s1 => exact ih (lo := lo + 1) (s := s1) (by omega) h1 (fun k s a b c => hb k s (by omega) b c) (by omega)
    | bk s1 => exact ⟨_, rfl, h1⟩
    | rt r => exact ⟨_, rfl, h1⟩
theorem ok_whC {ct : S → Option Bool} {b : S → Option (Ct ρ S)} {Q : Ct ρ S → Prop} (I : S → Prop) (μ : S → Nat) {s : S} (h : I s) (hb : ∀ s, I s → Ok (ct s) fun q => (q = false → Q (.nx s)) ∧ (q = true → Ok (b s) fun c => match c with | .nx s' => I s' ∧ μ s' < μ s | .bk s' => Q (.nx s') | .rt r => Q (.rt r))) : Ok (whC ct b s) Q := by
  obtain ⟨n, hn⟩ : ∃ n : Nat, μ s ≤ n := ⟨_, Nat.le_refl _⟩
  induction n generalizing s with
  | zero =>
    obtain ⟨q, e, h1, h2⟩ := hb s h
    rw [whC_eq, e]
    cases q with
    | false => exact ⟨_, rfl, h1 rfl⟩
    | true =>
      obtain ⟨c, e2, h3⟩ := h2 rfl
      simp only [Option.bind_some, if_true, e2]
      cases c with
      | nx s1 => have := h3.2; omega
      | bk s1 => exact ⟨_, rfl, h3⟩
      | rt r => exact ⟨_, rfl, h3⟩
  | succ n ih =>
    obtain ⟨q, e, h1, h2⟩ := hb s h
    rw [whC_eq, e]
    cases q with
    | false => exact ⟨_, rfl, h1 rfl⟩
    | true =>
      obtain ⟨c, e2, h3⟩ := h2 rfl
      simp only [Option.bind_some, if_true, e2]
      cases c with
      | nx s1 => exact ih h3.1 (by have := h3.2; omega)
      | bk s1 => exact ⟨_, rfl, h3⟩
      | rt r => exact ⟨_, rfl, h3⟩
theorem ok_whS {ct : S → Option Bool} {b : S → Option S} {Q : S → Prop} (I : S → Prop) (μ : S → Nat) {s : S} (h : I s) (hb : ∀ s, I s → Ok (ct s) fun q => (q = false → Q s) ∧ (q = true → Ok (b s) fun s' => I s' ∧ μ s' < μ s)) : Ok (whS ct b s) Q := by
  obtain ⟨n, hn⟩ : ∃ n : Nat, μ s ≤ n := ⟨_, Nat.le_refl _⟩
  induction n generalizing s with
  | zero =>
    obtain ⟨q, e, h1, h2⟩ := hb s h
    rw [whS_eq, e]
    cases q with
    | false => exact ⟨_, rfl, h1 rfl⟩
    | true =>
      obtain ⟨c, e2, h3⟩ := h2 rfl
      have := h3.2; omega
  | succ n ih =>
    obtain ⟨q, e, h1, h2⟩ := hb s h
    rw [whS_eq, e]
    cases q with
    | false => exact ⟨_, rfl, h1 rfl⟩
    | true =>
      obtain ⟨c, e2, h3⟩ := h2 rfl
      simp only [Option.bind_some, if_true, e2]
      exact ih h3.1 (by have := h3.2; omega)
/-- with what is behind and ahead -/
theorem ok_forP {b : α → S → Option S} {Q : S → Prop} {xs : List α} (I : List α → S → Prop) {s : S} (h : I [] s) (hb : ∀ p x q s, xs = p ++ x :: q → I p s → Ok (b x s) fun s' => I (p ++ [x]) s') (hq : ∀ s, I xs s → Q s) : Ok (forS b xs s) Q := by
  suffices key : ∀ (q p : List α) (s : S), xs = p ++ q → I p s → Ok (forS b q s) Q from key xs [] s rfl h
  intro q
  induction q with
  | nil => intro p s e hi; exact ⟨s, rfl, hq s (by rw [e, List.append_nil]; exact hi)⟩
  | cons x q ih =>
    intro p s e hi
    obtain ⟨s1, e1, h1⟩ := hb p x q s e hi
    obtain ⟨r, e2, h2⟩ := ih (p ++ [x]) s1 (by rw [e]; simp) h1
    exact ⟨r, by unfold forS; rw [e1]; exact e2, h2⟩
theorem ok_forCP {b : α → S → Option (Ct ρ S)} {Q : Ct ρ S → Prop} {xs : List α} (I : List α → S → Prop) {s : S} (h : I [] s) (hb : ∀ p x q s, xs = p ++ x :: q → I p s → Ok (b x s) fun c => match c with | .nx s' => I (p ++ [x]) s' | .bk s' => Q (.nx s') | .rt r => Q (.rt r)) (hq : ∀ s, I xs s → Q (.nx s)) : Ok (forC b xs s) Q := by
  suffices key : ∀ (q p : List α) (s : S), xs = p ++ q → I p s → Ok (forC b q s) Q from key xs [] s rfl h
  intro q
  induction q with
  | nil => intro p s e hi; exact ⟨_, rfl, hq s (by rw [e, List.append_nil]; exact hi)⟩
  | cons x q ih =>
    intro p s e hi
    obtain ⟨c, e1, h1⟩ := hb p x q s e hi
    unfold forC
    rw [e1]
    cases c with
    | nx s1 => exact ih (p ++ [x]) s1 (by rw [e]; simp) h1
    | bk s1 => exact ⟨_, rfl, h1⟩
    | rt r => exact ⟨_, rfl, h1⟩
/-! #### comprehensions -/
theorem mapP_eq {f : α → β} {xs : List α} (h : xs.length ≤ 16777216) : mapP f xs = some (xs.map f) := by unfold mapP; rw [if_pos h]
theorem lcP_eq {p : α → Bool} {f : α → β} {xs : List α} (h : xs.length ≤ 16777216) : lcP p f xs = some ((xs.filter p).map f) := by unfold lcP; rw [if_pos h]
theorem ok_map {f : α → β} {xs : List α} {Q : List β → Prop} (h : xs.length ≤ 16777216) (k : Q (xs.map f)) : Ok (mapP f xs) Q := ⟨_, mapP_eq h, k⟩
theorem ok_lcP {p : α → Bool} {f : α → β} {xs : List α} {Q : List β → Prop} (h : xs.length ≤ 16777216) (k : Q ((xs.filter p).map f)) : Ok (lcP p f xs) Q := ⟨_, lcP_eq h, k⟩
theorem ok_lcO {p : α → Option Bool} {f : α → Option β} (q : α → Bool) (g : α → β) {xs : List α} {Q : List β → Prop} (h : xs.length ≤ 16777216) (hp : ∀ x ∈ xs, p x = some (q x)) (hf : ∀ x ∈ xs, q x = true → f x = some (g x)) (k : Q ((xs.filter q).map g)) : Ok (lcO p f xs) Q := ⟨_, lcO_of h hp hf, k⟩
/-- none passes -/
theorem lcO_none {p : α → Option Bool} {f : α → Option β} {xs : List α} (h : xs.length ≤ 16777216) (hp : ∀ x ∈ xs, p x = some false) : lcO p f xs = some [] := by
  unfold lcO
  rw [if_pos h]
  clear h
  induction xs with
  | nil => rfl
  | cons x xs ih =>
    unfold lcO'
    rw [hp x List.mem_cons_self]
    exact ih fun y hy => hp y (List.mem_cons_of_mem _ hy)
theorem ok_lcO0 {p : α → Option Bool} {f : α → Option β} {xs : List α} {Q : List β → Prop} (h : xs.length ≤ 16777216) (hp : ∀ x ∈ xs, p x = some false) (k : Q []) : Ok (lcO p f xs) Q := ⟨_, lcO_none h hp, k⟩
/-- with a state: what holds ahead of each turn -/
theorem ok_lcS {p : α → S → Option (Bool × S)} {f : α → S → Option (β × S)} {Q : List β × S → Prop} (I : List β → S → Prop) {xs : List α} {s : S} (hl : xs.length ≤ 16777216) (h : I [] s)
    (hb : ∀ x ys s, x ∈ xs → I ys s → Ok (p x s) fun b => (b.1 = false → I ys b.2) ∧ (b.1 = true → Ok (f x b.2) fun y => I (ys ++ [y.1]) y.2)) (hq : ∀ ys s, ys.length ≤ xs.length → I ys s → Q (ys, s)) : Ok (lcS p f xs s) Q := by
  unfold lcS
  rw [if_pos hl]
  clear hl
  suffices key : ∀ (xs : List α) (ys : List β) (s : S), I ys s → (∀ x ys s, x ∈ xs → I ys s → Ok (p x s) fun b => (b.1 = false → I ys b.2) ∧ (b.1 = true → Ok (f x b.2) fun y => I (ys ++ [y.1]) y.2)) → Ok (lcS' p f xs s) fun r => I (ys ++ r.1) r.2 ∧ r.1.length ≤ xs.length by
    exact (key xs [] s h hb).imp fun r hr => hq r.1 r.2 hr.2 (by simpa using hr.1)
  intro xs
  induction xs with
  | nil => intro ys s h _; exact ⟨_, rfl, by simpa using h, Nat.le_refl _⟩
  | cons x xs ih =>
    intro ys s h hb
    obtain ⟨⟨b, s1⟩, e1, h1, h2⟩ := hb x ys s List.mem_cons_self h
    unfold lcS'
    rw [e1]
    cases b with
    | false => exact (ih ys s1 (h1 rfl) fun y zs s hy => hb y zs s (List.mem_cons_of_mem _ hy)).imp fun r hr => ⟨hr.1, Nat.le_succ_of_le hr.2⟩
    | true =>
      obtain ⟨⟨y, s2⟩, e2, h3⟩ := h2 rfl
      obtain ⟨r, e3, h4, h5⟩ := ih (ys ++ [y]) s2 h3 fun y zs s hy => hb y zs s (List.mem_cons_of_mem _ hy)
      simp only [Option.bind_some, if_true, e2, e3]
      exact ⟨_, rfl, by simpa using h4, Nat.succ_le_succ h5⟩
end
/-! ### sizes of ints -/
def Sm (k : Nat) (i : Int) : Prop := i.natAbs < 2 ^ k
theorem Sm.mono {k l : Nat} {i : Int} (h : Sm k i) (hl : k ≤ l) : Sm l i := Nat.lt_of_lt_of_le h (Nat.pow_le_pow_right (by decide) hl)
theorem Sm.bits {k : Nat} {i : Int} (h : Sm k i) : Builtin.Int.intBits i ≤ k := by
  unfold Builtin.Int.intBits
  split
  · exact Nat.zero_le _
  · rename_i hi
    have h0 : i.natAbs ≠ 0 := by simpa using hi
    have := (Nat.log2_lt h0).mpr h
    omega
theorem Sm.of_bits {k : Nat} {i : Int} (h : Builtin.Int.intBits i ≤ k) : Sm k i := by
  unfold Builtin.Int.intBits at h
  unfold Sm
  split at h
  · rename_i hi
    have : i = 0 := by simpa using hi
    subst this
    exact Nat.two_pow_pos k
  · rename_i hi
    have h0 : i.natAbs ≠ 0 := by simpa using hi
    exact (Nat.log2_lt h0).mp (by omega)
theorem Sm.mul {k l : Nat} {i j : Int} (h : Sm k i) (h' : Sm l j) : Sm (k + l) (i * j) := by
  unfold Sm at *
  rw [Int.natAbs_mul, Nat.pow_add]
  exact Nat.mul_lt_mul'' h h'
theorem Sm.addE {k : Nat} {i j : Int} (h : Sm k i) (h' : Sm k j) : Sm (k + 1) (i + j) := by
  unfold Sm at *
  rw [Nat.pow_succ]
  have := Int.natAbs_add_le i j
  omega
theorem Sm.add {k l : Nat} {i j : Int} (h : Sm k i) (h' : Sm l j) : Sm (k + l + 1) (i + j) := (h.mono (Nat.le_add_right _ _)).addE (h'.mono (Nat.le_add_left _ _))
theorem Sm.neg {k : Nat} {i : Int} (h : Sm k i) : Sm k (-i) := by unfold Sm at *; rwa [Int.natAbs_neg]
theorem Sm.sub {k l : Nat} {i j : Int} (h : Sm k i) (h' : Sm l j) : Sm (k + l + 1) (i - j) := by
  rw [Int.sub_eq_add_neg]
  exact h.add h'.neg
theorem Sm.le {k : Nat} {i j : Int} (h : Sm k j) (hl : i.natAbs ≤ j.natAbs) : Sm k i := Nat.lt_of_le_of_lt hl h
theorem Sm.lt' {k : Nat} {i j : Int} (h0 : 0 ≤ i) (h1 : i < j) (h : Sm k j) : Sm k i := h.le (by omega)
theorem Sm.le' {k : Nat} {i j : Int} (h0 : 0 ≤ i) (h1 : i ≤ j) (h : Sm k j) : Sm k i := h.le (by omega)
theorem Sm.eq' {k : Nat} {i j : Int} (e : i = j) (h : Sm k j) : Sm k i := e ▸ h
theorem Sm.of {k : Nat} {i : Int} (h1 : -((2 : Int) ^ k) < i) (h2 : i < (2 : Int) ^ k) : Sm k i := by
  unfold Sm
  have : ((2 ^ k : Nat) : Int) = (2 : Int) ^ k := by simp
  omega
theorem Sm.o64 {i : Int} (h1 : -18446744073709551616 < i) (h2 : i < 18446744073709551616) : Sm 64 i := .of h1 h2
theorem Sm.o256 {i : Int} (h1 : -115792089237316195423570985008687907853269984665640564039457584007913129639936 < i) (h2 : i < 115792089237316195423570985008687907853269984665640564039457584007913129639936) : Sm 256 i := .of h1 h2
theorem Sm.ediv {k : Nat} {i j : Int} (h : Sm k i) : Sm k (i / j) := h.le (by
  rcases Int.natAbs_eq i with e | e
  · exact Int.natAbs_ediv_le_natAbs i j
  · exact Int.natAbs_ediv_le_natAbs i j)
theorem Sm.emod {k : Nat} {i j : Int} (h : Sm k j) (h0 : 0 < j) : Sm k (i % j) := .lt' (Int.emod_nonneg _ (by omega)) (Int.emod_lt_of_pos _ h0) h
theorem Sm.b2i {b : Bool} : Sm 1 (J.b2i b) := by cases b <;> (unfold Sm; decide)
theorem Sm.abs {k : Nat} {i : Int} (h : Sm k i) : Sm k (absT i) := h.le (by unfold absT; split <;> omega)
theorem Sm.ite {k l : Nat} {c : Bool} {i j : Int} (h : Sm k i) (h' : Sm l j) : Sm (k + l) (if c = true then i else j) := by
  cases c
  · exact h'.mono (Nat.le_add_left _ _)
  · exact h.mono (Nat.le_add_right _ _)
theorem mulOk_sm {k l : Nat} {i j : Int} (h : Sm k i) (h' : Sm l j) (hl : k + l ≤ 134217728 := by decide) : mulOk i j = true := by
  have h1 := h.bits
  have h2 := h'.bits
  unfold mulOk
  rw [Bool.not_eq_true', Bool.and_eq_false_iff]
  refine .inr ?_
  unfold Builtin.Int.intTooBig
  refine decide_eq_false ?_
  have e : bitsLine = 134217728 := by decide
  rw [e]
  omega
theorem divOk_sm {k : Nat} {j : Int} (h0 : 0 < j) (h : Sm k j) (hk : k ≤ 9000 := by decide) : divOk j = true := by
  unfold divOk
  rw [Bool.and_eq_true, decide_eq_true_eq, decide_eq_true_eq]
  exact ⟨h0, (Nat.log2_lt (by omega)).mpr (h.mono hk)⟩
theorem powOk_sm {i j : Int} (h : Sm 64 i) (h0 : 0 ≤ j) (h1 : j ≤ 1000000) : powOk i j = true := by
  unfold powOk
  simp only [Bool.and_eq_true, decide_eq_true_eq]
  exact ⟨⟨h0, h1⟩, h⟩
theorem divOk_pos {j : Int} (h : divOk j = true) : 0 < j := by
  unfold divOk at h
  simp only [Bool.and_eq_true, decide_eq_true_eq] at h
  exact h.1
/-! ### items -/
section
variable {α : Type}
theorem atI_nat (xs : List α) (k : Nat) (h : k < xs.length) : atI xs (k : Int) = some xs[k] := by
  have h1 : ixN xs.length (k : Int) = some k := by
    unfold ixN
    rw [if_pos (by omega)]
    simp [h]
  simp [atI, h1, h]
theorem atI_get {xs : List α} {i : Int} (h0 : 0 ≤ i) (h1 : i < xs.length) : ∃ x, atI xs i = some x ∧ xs[i.toNat]? = some x ∧ x ∈ xs := by
  obtain ⟨k, rfl⟩ : ∃ k : Nat, i = k := ⟨i.toNat, by omega⟩
  have hk : k < xs.length := by omega
  exact ⟨xs[k], atI_nat xs k hk, by simp [hk], List.getElem_mem hk⟩
theorem ok_at {xs : List α} {i : Int} {Q : α → Prop} (h0 : 0 ≤ i) (h1 : i < xs.length) (k : ∀ x, xs[i.toNat]? = some x → x ∈ xs → Q x) : Ok (atI xs i) Q := by
  obtain ⟨x, e, h2, h3⟩ := atI_get h0 h1
  exact ⟨x, e, k x h2 h3⟩
theorem atI_0 (x : α) (xs : List α) : atI (x :: xs) 0 = some x := atI_nat _ 0 (by simp)
theorem atI_1 (x y : α) (xs : List α) : atI (x :: y :: xs) 1 = some y := atI_nat _ 1 (by simp)
theorem atI_2 (x y z : α) (xs : List α) : atI (x :: y :: z :: xs) 2 = some z := atI_nat _ 2 (by simp)
theorem atI_3 (a b c d : α) (r : List α) : atI (a :: b :: c :: d :: r) 3 = some d := atI_nat _ 3 (by simp)
theorem atI_4 (a b c d e : α) (r : List α) : atI (a :: b :: c :: d :: e :: r) 4 = some e := atI_nat _ 4 (by simp)
theorem atI_5 (a b c d e f : α) (r : List α) : atI (a :: b :: c :: d :: e :: f :: r) 5 = some f := atI_nat _ 5 (by simp)
theorem atI_6 (a b c d e f g : α) (r : List α) : atI (a :: b :: c :: d :: e :: f :: g :: r) 6 = some g := atI_nat _ 6 (by simp)
theorem atI_7 (a b c d e f g h : α) (r : List α) : atI (a :: b :: c :: d :: e :: f :: g :: h :: r) 7 = some h := atI_nat _ 7 (by simp)
theorem atI_8 (a b c d e f g h i : α) (r : List α) : atI (a :: b :: c :: d :: e :: f :: g :: h :: i :: r) 8 = some i := atI_nat _ 8 (by simp)
theorem atI_9 (a b c d e f g h i j : α) (r : List α) : atI (a :: b :: c :: d :: e :: f :: g :: h :: i :: j :: r) 9 = some j := atI_nat _ 9 (by simp)
theorem atI_last (xs : List α) (x : α) : atI (xs ++ [x]) (-1) = some x := by
  have h : ixN (xs ++ [x]).length (-1) = some xs.length := by
    unfold ixN
    rw [if_neg (by decide), if_pos (by rw [List.length_append, List.length_singleton]; omega), List.length_append, List.length_singleton]
    congr 1
    omega
  unfold atI
  rw [h]
  simp
end
end J
namespace J
open PySem PySem.Spec PyProof.Rows L2
local macro_rules | `(tactic| walk_at "sm") => `(tactic| first
  | assumption
  | exact Sm.b2i
  | (refine' Sm.mul ?h0 ?h1; (case h0 => walk_at "sm"); (case h1 => walk_at "sm"))
  | (refine' Sm.add ?h0 ?h1; (case h0 => walk_at "sm"); (case h1 => walk_at "sm"))
  | (refine' Sm.sub ?h0 ?h1; (case h0 => walk_at "sm"); (case h1 => walk_at "sm"))
  | (refine' Sm.neg ?h0; (case h0 => walk_at "sm"))
  | (refine' Sm.abs ?h0; (case h0 => walk_at "sm"))
  | (refine' Sm.ite ?h0 ?h1; (case h0 => walk_at "sm"); (case h1 => walk_at "sm"))
  | (refine' Sm.o64 ?_ ?_ <;> omega)
  | (refine' Sm.o256 ?_ ?_ <;> omega)
  | (refine' Sm.eq' ?h0 ?h1; (case h0 => assumption); (case h1 => walk_at "sm"))
  | (refine' Sm.lt' ?h0 ?h1 ?h2; (case h0 => assumption); (case h1 => assumption); (case h2 => walk_at "sm"))
  | (refine' Sm.le' ?h0 ?h1 ?h2; (case h0 => assumption); (case h1 => assumption); (case h2 => walk_at "sm"))
  | (refine' Sm.ediv ?h0; (case h0 => walk_at "sm")))
/-! ### how the laws make calendars -/
def Well (w : List Int) : Prop := ∃ x y, w = [x, y]
theorem ok_dip {w : List Int} {many : Int} (h : Well w) (h0 : 0 < many) (h1 : Sm 4000 many) : Ok (t_law_dip w many) fun r => (0 ≤ r.1 ∧ r.1 < many) ∧ Well r.2 := by
  obtain ⟨x, y, rfl⟩ := h
  unfold t_law_dip
  refine ok_eq (atI_0 ..) ?_
  refine ok_if (fun hc => ?_) (fun hc => ?_)
  · refine ok_eq (atI_0 ..) ?_
    refine ok_bind (ok_div (divOk_sm (by omega) (by walk_at "sm")) fun q h_q => ?_)
    refine ok_eq (a := [q, y]) (by simp [setT, ixN]) ?_
    refine ok_bind (ok_mod (by omega) fun m h_m a_m b_m => ?_)
    exact ok_some ⟨⟨a_m, b_m⟩, _, _, rfl⟩
  · refine ok_eq (atI_1 ..) ?_
    refine ok_lt fun turn h_turn => ?_
    have st : Sm 64 turn := Sm.o64 (by omega) (by omega)
    refine ok_eq (a := [x, turn]) (by simp [setT, ixN]) ?_
    refine ok_bind (ok_mul (mulOk_sm st st) fun u hu => ?_)
    refine ok_bind (ok_mod (by omega) fun m h_m a_m b_m => ?_)
    exact ok_some ⟨⟨a_m, b_m⟩, _, _, rfl⟩
theorem ok_well {ns : List Int} {k : Int} (k0 : 0 ≤ k) : Ok (t_law_well ns k) Well := by
  unfold t_law_well
  refine ok_lt fun cell h_cell => ?_
  refine ok_to (R := fun _ => True) ?_ fun s _ => ?_
  · refine ok_if (fun hc => ?_) (fun hc => ?_)
    · have hk : k < ns.length := by simpa using hc
      exact ok_bind (ok_at k0 hk fun a _ _ => ok_some trivial)
    · exact ok_some trivial
  refine ok_if (fun hc => ?_) (fun hc => ?_)
  · exact ok_some ⟨_, _, rfl⟩
  · exact ok_some ⟨_, _, rfl⟩
/-! ### the texts of integers -/
def codes (i : Int) : List Nat := if i < 0 then 45 :: TL.numL i.natAbs else TL.numL i.natAbs
theorem tl_strI (i : Int) : TL.tl (strI i) = codes i := by
  unfold strI codes
  cases i with
  | ofNat n =>
    rw [if_neg (show ¬ Int.ofNat n < 0 from Int.not_lt.mpr (Int.natCast_nonneg n))]
    exact TL.tl_num n
  | negSucc n =>
    rw [if_pos (show Int.negSucc n < 0 from Int.negSucc_lt_zero n)]
    have e : toString (Int.negSucc n) = "-" ++ toString ((n + 1 : Nat) : Int) := rfl
    show TL.tl (PySem.Str.ofString (toString (Int.negSucc n))) = 45 :: TL.numL (n + 1)
    rw [e, TL.tl_ofString, String.toList_append, List.map_append, ← TL.tl_ofString, ← TL.tl_ofString, TL.tl_num]
    rfl
theorem code_mem {c : Nat} {i : Int} (h : c ∈ codes i) : c = 45 ∨ (48 ≤ c ∧ c ≤ 57) := by
  have key : ∀ n, c ∈ TL.numL n → 48 ≤ c ∧ c ≤ 57 := fun n hc => by
    by_cases z : c < 48 ∨ 57 < c
    · exact absurd hc (TL.numL_free z)
    · omega
  unfold codes at h
  split at h
  · rcases List.mem_cons.mp h with h | h
    · exact .inl h
    · exact .inr (key _ h)
  · exact .inr (key _ h)
theorem codes_ne (i : Int) : codes i ≠ [] := by
  unfold codes
  split
  · exact List.cons_ne_nil _ _
  · exact TL.numL_ne _
theorem codes_len {i : Int} {k : Nat} (hk : 0 < k) (h : i.natAbs < 10 ^ k) : (codes i).length ≤ k + 1 := by
  have := TL.numL_len hk h
  unfold codes
  split
  · rw [List.length_cons]; omega
  · omega
theorem strI_len {i : Int} {k : Nat} (hk : 0 < k) (h : i.natAbs < 10 ^ k) : (strI i).length ≤ k + 1 := by
  rw [TL.len_tl, tl_strI]
  exact codes_len hk h
theorem strT_ok {i : Int} (h : Sm 1900 i) : strT i = some (strI i) := by
  unfold strT
  rw [if_pos]
  by_cases z : i.natAbs = 0
  · rw [z]; decide
  · exact (Nat.log2_lt z).mpr (Nat.lt_of_lt_of_le h (Nat.pow_le_pow_right (by decide) (by decide)))
theorem emp_cat (s : PySem.Str) : PySem.Str.empty ++ s = s := TL.ext_tl (by rw [TL.tl_append]; rfl)
theorem cat_len (a b : PySem.Str) : (a ++ b).length = a.length + b.length := by
  rw [TL.len_tl, TL.tl_append, List.length_append, ← TL.len_tl, ← TL.len_tl]
theorem catS_ok {a b : PySem.Str} (h : a.length + b.length ≤ 16777216) : catS a b = some (a ++ b) := by
  unfold catS; rw [if_pos h]
theorem catS_emp {b : PySem.Str} (h : b.length ≤ 16777216) : catS PySem.Str.empty b = some b := by
  have e : (PySem.Str.empty : PySem.Str).length = 0 := rfl
  rw [catS_ok (by rw [e]; omega), emp_cat]
theorem strs_ok {xs : List Int} (hl : xs.length ≤ 16777216) (h : ∀ x ∈ xs, Sm 1900 x) : lcO (fun one : Int => some true) (fun one : Int => (strT one).bind fun a => some a) xs = some (xs.map strI) := by
  rw [lcO_of (q := fun _ => true) (k := strI) hl (fun _ _ => rfl) fun x hx _ => by rw [strT_ok (h x hx)]; rfl]
  rw [show xs.filter (fun _ => true) = xs by simp]
theorem sum_le : ∀ {xs : List Nat} {b : Nat}, (∀ x ∈ xs, x ≤ b) → xs.sum ≤ xs.length * b
  | [], _, _ => by simp
  | x :: xs, b, h => by
    have h1 := h x List.mem_cons_self
    have h2 := sum_le fun y hy => h y (List.mem_cons_of_mem _ hy)
    rw [List.sum_cons, List.length_cons, Nat.add_mul]
    omega
theorem join_ok {a : PySem.Str} {ys : List PySem.Str} {m b l : Nat} (hl : ys.length ≤ l) (hy : ∀ y ∈ ys, y.length ≤ b) (ha : a.length ≤ m) (hb : l * b + l * m ≤ 16777216) : joinTx a ys = some (PySem.Txt.join a ys) := by
  unfold joinTx
  rw [if_pos]
  have h1 : (ys.map (·.length)).sum ≤ (ys.map (·.length)).length * b := sum_le fun x hx => by
    obtain ⟨y, hy', rfl⟩ := List.mem_map.mp hx
    exact hy y hy'
  rw [List.length_map] at h1
  have h2 := Nat.mul_le_mul_right b hl
  have h3 := Nat.mul_le_mul hl ha
  omega
theorem tl_joinT (a : PySem.Str) (ys : List PySem.Str) : TL.tl (PySem.Txt.join a ys) = TL.joinL (TL.tl a) (ys.map TL.tl) := by
  rw [TL.join_eq, TL.tl_join]
theorem joinL_snoc (S : List Nat) (p : List Nat) : ∀ {ps : List (List Nat)}, ps ≠ [] → TL.joinL S (ps ++ [p]) = TL.joinL S ps ++ (S ++ p)
  | [], h => absurd rfl h
  | [x], _ => rfl
  | x :: y :: r, _ => by
    show x ++ (S ++ TL.joinL S ((y :: r) ++ [p])) = x ++ (S ++ TL.joinL S (y :: r)) ++ (S ++ p)
    rw [joinL_snoc S p (by simp)]
    simp [List.append_assoc]
theorem joinL_len (S : List Nat) {b : Nat} : ∀ {ps : List (List Nat)}, (∀ p ∈ ps, p.length ≤ b) → (TL.joinL S ps).length ≤ ps.length * (b + S.length)
  | [], _ => by simp [TL.joinL]
  | [x], h => by
    have := h x (by simp)
    simp [TL.joinL]
    omega
  | x :: y :: r, h => by
    have h1 := h x (by simp)
    have h2 := joinL_len S (ps := y :: r) fun p hp => h p (List.mem_cons_of_mem _ hp)
    show (x ++ (S ++ TL.joinL S (y :: r))).length ≤ _
    rw [List.length_append, List.length_append, List.length_cons, Nat.add_mul]
    omega
theorem join_len {a : PySem.Str} {ys : List PySem.Str} {b : Nat} (hy : ∀ y ∈ ys, y.length ≤ b) : (PySem.Txt.join a ys).length ≤ ys.length * (b + a.length) := by
  rw [TL.len_tl, tl_joinT]
  have := joinL_len (TL.tl a) (b := b) (ps := ys.map TL.tl) fun p hp => by
    obtain ⟨y, hy', rfl⟩ := List.mem_map.mp hp
    have := hy y hy'
    rwa [TL.len_tl] at this
  rwa [List.length_map, ← TL.len_tl a] at this
theorem ok_great {w : List Int} {limit : Int} (h : Well w) (h0 : 0 < limit) : Ok (t_law_great_4 w limit) fun r => (0 ≤ r.1 ∧ r.1 < limit) ∧ Well r.2 := by
  unfold t_law_great_4
  refine ok_lt fun number h_number => ?_
  refine ok_bind (ok_rg (by omega) (by omega) (by omega) (by omega) ?_)
  refine ok_bind (ok_each (fun s : List Int × Int => Well s.1) h (fun t s _ hs => ?_) fun s hs => ?_)
  · refine ok_to (ok_dip hs (by omega) (Sm.mono (k := 256) (Sm.o256 (by first | omega | (dsimp only; omega)) (by first | omega | (dsimp only; omega))) (by decide))) fun a ⟨_, ha⟩ => ?_
    refine ok_lt fun n2 h_n2 => ?_
    exact ok_some ha
  · exact ok_bind (ok_mod h0 fun z _ z0 z1 => ok_some ⟨⟨z0, z1⟩, hs⟩)
theorem ten_le {m n : Nat} (h : m ≤ n) : (10 : Int) ^ m ≤ 10 ^ n := by
  have e : ∀ k : Nat, (10 : Int) ^ k = ((10 ^ k : Nat) : Int) := fun k => (Int.natCast_pow 10 k).symm
  rw [e, e]
  exact Int.ofNat_le.mpr (Nat.pow_le_pow_right (by decide) h)
theorem pow10_le {s d : Int} (s0 : 0 ≤ s) (h : s ≤ d) : (10 : Int) ^ s.toNat ≤ 10 ^ d.toNat := ten_le (by omega)
theorem ok_signed {w : List Int} {digits : Int} (h : Well w) (h0 : 1 ≤ digits) (h1 : digits ≤ 60) : Ok (t_law_signed w digits) fun r => r.1.natAbs < 10 ^ digits.toNat ∧ Well r.2 := by
  unfold t_law_signed
  refine ok_to (ok_dip h (by omega) (Sm.mono (k := 64) (Sm.o64 (by omega) (by omega)) (by decide))) fun a ⟨ha, w1⟩ => ?_
  refine ok_lt fun length h_length => ?_
  refine ok_to (ok_dip w1 (by omega) (Sm.mono (k := 256) (Sm.o256 (by first | omega | (dsimp only; omega)) (by first | omega | (dsimp only; omega))) (by decide))) fun a2 ⟨_, w2⟩ => ?_
  refine ok_to (R := fun s : Int => 1 ≤ s ∧ s ≤ digits) ?_ fun s ⟨s0, s1⟩ => ?_
  · refine ok_if (fun hc => ?_) (fun hc => ?_)
    · refine ok_lt fun l2 h_l2 => ?_
      exact ok_some ⟨by omega, by omega⟩
    · exact ok_some ⟨by omega, by omega⟩
  refine ok_lt fun limit h_limit => ?_
  refine ok_bind (ok_rg (by omega) (by omega) (by omega) (by omega) ?_)
  refine ok_bind (ok_rng (fun k (t : Int) => t = 10 ^ k.toNat) (by omega) (by subst h_limit; rfl) (fun k t k0 k1 hk => ?_) fun t ht => ?_)
  · refine ok_lt fun t2 h_t2 => ?_
    refine ok_some ?_
    rw [h_t2, hk, show (k + 1).toNat = k.toNat + 1 by omega, Int.pow_succ]
  have pl := pow10_le (by omega) s1
  have pp : (0 : Int) < 10 ^ s.toNat := Int.pow_pos (by decide)
  refine ok_to (ok_great w2 (by rw [ht]; exact pp)) fun a3 ⟨ha3, w3⟩ => ?_
  refine ok_to (ok_dip w3 (by omega) (Sm.mono (k := 256) (Sm.o256 (by first | omega | (dsimp only; omega)) (by first | omega | (dsimp only; omega))) (by decide))) fun a4 ⟨ha4, w4⟩ => ?_
  have p60 : (10 : Int) ^ digits.toNat ≤ 10 ^ 60 := ten_le (by omega)
  have sm : Sm 256 a3.1 := by
    have : (10 : Int) ^ 60 = 1000000000000000000000000000000000000000000000000000000000000 := by decide
    exact Sm.o256 (by omega) (by omega)
  refine ok_bind (ok_mul (mulOk_sm sm (Sm.o64 (by omega) (by omega) : Sm 64 (1 - 2 * a4.1))) fun n hn => ok_some ⟨?_, w4⟩)
  have e : a4.1 = 0 ∨ a4.1 = 1 := by omega
  have key : n.natAbs = a3.1.natAbs := by
    rw [hn]
    rcases e with e | e <;> rw [e] <;> omega
  rw [key]
  have : (a3.1.natAbs : Int) < ((10 ^ digits.toNat : Nat) : Int) := by
    rw [Int.natCast_pow]
    show (a3.1.natAbs : Int) < 10 ^ digits.toNat
    omega
  omega
/-! ### comprehensions that take all -/
theorem ok_lcST {α β S : Type} {f : α → S → Option (β × S)} {Q : List β × S → Prop} (I : List β → S → Prop) {xs : List α} {s : S} (hl : xs.length ≤ 16777216) (h : I [] s)
    (hb : ∀ x ys s, x ∈ xs → I ys s → Ok (f x s) fun y => I (ys ++ [y.1]) y.2) (hq : ∀ ys s, ys.length = xs.length → I ys s → Q (ys, s)) : Ok (lcS (fun _ s => some (true, s)) f xs s) Q := by
  unfold lcS
  rw [if_pos hl]
  clear hl
  suffices key : ∀ (q : List α) (ys : List β) (s : S), (∀ x ∈ q, x ∈ xs) → I ys s → Ok (lcS' (fun _ s => some (true, s)) f q s) fun r => r.1.length = q.length ∧ I (ys ++ r.1) r.2 by
    exact (key xs [] s (fun _ h => h) h).imp fun r hr => hq r.1 r.2 hr.1 (by simpa using hr.2)
  intro q
  induction q with
  | nil => intro ys s e h; exact ⟨_, rfl, rfl, by simpa using h⟩
  | cons x q ih =>
    intro ys s e h
    obtain ⟨⟨y, s2⟩, e2, h3⟩ := hb x ys s (e x List.mem_cons_self) h
    obtain ⟨r, e3, h4, h5⟩ := ih (ys ++ [y]) s2 (fun z hz => e z (List.mem_cons_of_mem _ hz)) h3
    unfold lcS'
    simp only [Option.bind_some, if_true, e2, e3]
    exact ⟨_, rfl, by simp [h4], by simpa using h5⟩
/-! ### integers are read back -/
theorem numS (a : Int) : strI a = SX.S (codes a) := TL.ext_tl (tl_strI a)
theorem num_head : ∀ n : Nat, n ≠ 0 → ∃ c r, TL.numL n = c :: r ∧ 49 ≤ c ∧ c ≤ 57 := fun n => by
  induction n using Nat.strongRecOn with
  | _ n ih =>
    intro h
    by_cases z : n < 10
    · exact ⟨48 + n, [], TL.numL_lt z, by omega, by omega⟩
    · obtain ⟨c, r, e, h1, h2⟩ := ih (n / 10) (by omega) (by omega)
      exact ⟨c, r ++ [48 + n % 10], by rw [TL.numL_step (by omega), e]; rfl, h1, h2⟩
theorem num_digit {n c : Nat} (h : c ∈ TL.numL n) : 48 ≤ c ∧ c ≤ 57 := by
  by_cases z : c < 48 ∨ 57 < c
  · exact absurd h (TL.numL_free z)
  · omega
theorem inS_dig {c : Nat} (h : 48 ≤ c ∧ c ≤ 57) : inS ⟨#[c]⟩ (os "0123456789") = some true := by
  have key : ∀ k < 10, decide ((48 + k) ∈ (os "0123456789").cps.toList) = true := by decide +kernel
  have := key (c - 48) (by omega)
  rw [show 48 + (c - 48) = c by omega] at this
  show some (decide (c ∈ (os "0123456789").cps.toList)) = _
  rw [this]
theorem forS_unit {α : Type} {b : α → Unit → Option Unit} : ∀ {xs : List α}, (∀ x ∈ xs, b x () = some ()) → forS b xs () = some ()
  | [], _ => rfl
  | x :: xs, h => by
    rw [forS, h x (List.mem_cons_self ..), Option.bind_some]
    exact forS_unit fun y hy => h y (List.mem_cons_of_mem _ hy)
theorem tl_lits : TL.tl (os "-") = [45] ∧ TL.tl (os "") = [] ∧ TL.tl (os "0") = [48] := by decide +kernel
theorem slc_ok {z : PySem.Str} {lo hi : Option Int} (h : z.length ≤ 16777216) : slcStr z lo hi = some (PySem.Txt.slice z lo hi) := by
  unfold slcStr; rw [if_pos h]
theorem integer_ok {a : Int} (h : a.natAbs < 10 ^ 60) (text : PySem.Str) : t_integer (strI a) text = some a := by
  suffices Ok (t_integer (strI a) text) fun r => r = a by
    obtain ⟨r, e, rfl⟩ := this
    exact e
  have ⟨m1, m2, m3⟩ := tl_lits
  have wl := strI_len (k := 60) (by decide) h
  obtain ⟨l, hl⟩ : ∃ l, TL.numL a.natAbs = l := ⟨_, rfl⟩
  have ll : l.length ≤ 60 := by rw [← hl]; exact TL.numL_len (by decide) h
  have dig : ∀ c ∈ l, 48 ≤ c ∧ c ≤ 57 := fun c hc => num_digit (by rw [hl]; exact hc)
  have lne : l ≠ [] := by rw [← hl]; exact TL.numL_ne _
  have val : NumText.digitsVal l = a.natAbs := by rw [← hl]; exact TL.numL_val _
  have all : NumText.AllDigits l := by rw [← hl]; exact TL.numL_digits _
  obtain ⟨c, r, hcr⟩ := List.exists_cons_of_ne_nil lne
  have hc := dig c (by rw [hcr]; simp)
  have head : a ≠ 0 → c ≠ 48 := fun z => by
    obtain ⟨c', r', e, h1, _⟩ := num_head a.natAbs (by omega)
    rw [hl, hcr] at e
    have := (List.cons.inj e).1
    omega
  have it : intT (strI a) = some a := by
    unfold intT
    rw [if_pos (by omega)]
    have tl := tl_strI a
    unfold codes at tl
    by_cases z : a < 0
    · rw [if_pos z, hl] at tl
      rw [PySem.intText_neg tl all lne (by omega), val]
      congr 1
      omega
    · rw [if_neg z, hl] at tl
      have tl' : (strI a).cps.toList = l := tl
      rw [PySem.intText_digits (by rw [tl']; exact all) (by rw [tl']; exact lne) (by omega), tl', val]
      congr 1
      omega
  unfold t_integer
  refine ok_eq (slc_ok (by omega)) ?_
  refine ok_to (R := fun q => q = SX.S l) ?_ fun q hq => ?_
  · rw [numS]
    by_cases z : a < 0
    · have ec : codes a = 45 :: l := by unfold codes; rw [if_pos z, hl]
      rw [ec]
      refine ok_ift ?_ ?_
      · rw [SX.slice_to (by omega)]
        exact decide_eq_true (TL.ext_tl (by rw [m1]; rfl))
      · refine ok_eq (slc_ok (by have := wl; rw [numS, ec] at this; omega)) (ok_some ?_)
        rw [SX.slice_from (by omega)]
        rfl
    · have ec : codes a = l := by unfold codes; rw [if_neg z, hl]
      rw [ec]
      refine ok_iff ?_ (ok_some rfl)
      rw [SX.slice_to (by omega)]
      refine decide_eq_false fun w => ?_
      have := congrArg TL.tl w
      rw [m1, hcr] at this
      have := (List.cons.inj (show c :: _ = 45 :: [] from this)).1
      omega
  subst hq
  have ql : (SX.S l).length = l.length := SX.S_len l
  refine ok_to (R := fun b : Bool => b = false) ?_ fun b hb => ok_iff hb ?_
  · refine ok_iff ?_ ?_
    · refine decide_eq_false fun w => lne ?_
      have := congrArg TL.tl w
      rwa [m2] at this
    · refine ok_eq (a := (l.length : Int)) (by unfold lenS; rw [ql, if_pos (by omega)]) (ok_some ?_)
      exact decide_eq_false (by omega)
  refine ok_eq (a := ()) (forS_unit fun x hx => ?_) ?_
  · unfold sgnS at hx
    obtain ⟨d, hd, rfl⟩ := List.mem_map.mp hx
    rw [inS_dig (dig d hd)]
    rfl
  refine ok_eq (a := SX.S [c]) ?_ ?_
  · unfold ixStr
    rw [ql, if_pos (by omega)]
    show (atI l 0).map _ = _
    rw [hcr, atI_0]
    rfl
  refine ok_iff ?_ (ok_eq it (ok_some rfl))
  by_cases z : a = 0
  · have : strI a = os "0" := TL.ext_tl (by rw [m3, tl_strI, z]; rfl)
    rw [this]
    simp
  · have : ¬ SX.S [c] = os "0" := fun w => by
      have := congrArg TL.tl w
      rw [m3] at this
      exact head z (List.cons.inj (show c :: [] = 48 :: [] from this)).1
    rw [decide_eq_false this]
    rfl
/-! ### the texts of rules, and their reading -/
theorem mulT_sm {k l : Nat} {i j : Int} (h : Sm k i) (h' : Sm l j) (hl : k + l ≤ 134217728 := by decide) : mulT i j = some (i * j) := by
  unfold mulT; rw [if_pos (mulOk_sm h h' hl)]
def rtx (a b d : Int) : PySem.Str := strI a ++ os "r + " ++ strI b ++ os "c + " ++ strI d
def N60 (i : Int) : Prop := i.natAbs < 1000000000000000000000000000000000000000000000000000000000000
theorem N60.sm {i : Int} (h : N60 i) : Sm 256 i := by unfold N60 at h; exact Sm.o256 (by omega) (by omega)
theorem N60.t {i : Int} (h : N60 i) : i.natAbs < 10 ^ 60 := Nat.lt_of_lt_of_le h (by decide)
theorem N60.len {i : Int} (h : N60 i) : (strI i).length ≤ 61 := strI_len (by decide) h.t
theorem N60.str {i : Int} (h : N60 i) : strT i = some (strI i) := strT_ok (h.sm.mono (by decide))
theorem lits : (os "r + ").length = 4 ∧ (os "c + ").length = 4 ∧ (os " ").length = 1 ∧ (os "; ").length = 2 ∧ (os "").length = 0 := by decide +kernel
theorem rtx_len {a b d : Int} (ha : N60 a) (hb : N60 b) (hd : N60 d) : (rtx a b d).length ≤ 200 := by
  have ⟨l1, l2, _⟩ := lits
  have := ha.len; have := hb.len; have := hd.len
  unfold rtx
  simp only [cat_len]
  omega
theorem show_ok {u : C_Rule} (ha : N60 u.by_row) (hb : N60 u.by_column) (hd : N60 u.start) : t_show_rule u = some (rtx u.by_row u.by_column u.start) := by
  have ⟨l1, l2, _⟩ := lits
  have := ha.len; have := hb.len; have := hd.len
  unfold t_show_rule rtx
  rw [ha.str, Option.bind_some, catS_emp (by omega), Option.bind_some, catS_ok (by omega), Option.bind_some, hb.str, Option.bind_some, catS_ok (by simp only [cat_len]; omega), Option.bind_some, catS_ok (by simp only [cat_len]; omega), Option.bind_some, hd.str, Option.bind_some, catS_ok (by simp only [cat_len]; omega), Option.bind_some]
theorem plus_lits : TL.tl (os " + ") = [32, 43, 32] ∧ TL.tl (os "r + ") = [114, 32, 43, 32] ∧ TL.tl (os "c + ") = [99, 32, 43, 32] ∧ TL.tl (os "r") = [114] ∧ TL.tl (os "c") = [99] ∧ (os " + ").cps.all (· < 256) = true ∧ (os " + ").length = 3 := by decide +kernel
theorem rtx_join (a b d : Int) : rtx a b d = PySem.Txt.join (os " + ") [SX.S (codes a ++ [114]), SX.S (codes b ++ [99]), strI d] := by
  have ⟨p1, p2, p3, _⟩ := plus_lits
  refine TL.ext_tl ?_
  unfold rtx
  rw [tl_joinT, TL.tl_append, TL.tl_append, TL.tl_append, TL.tl_append, tl_strI, tl_strI, p1, p2, p3]
  show _ = (codes a ++ [114]) ++ ([32, 43, 32] ++ ((codes b ++ [99]) ++ ([32, 43, 32] ++ TL.tl (strI d))))
  simp [List.append_assoc]
theorem no32 {a : Int} {t : List Nat} (h : 32 ∉ t) : 32 ∉ codes a ++ t := fun z => by
  rcases List.mem_append.mp z with z | z
  · have := code_mem z; omega
  · exact h z
theorem split_ok {a b d : Int} (ha : N60 a) (hb : N60 b) (hd : N60 d) : splitT (rtx a b d) (os " + ") = some [SX.S (codes a ++ [114]), SX.S (codes b ++ [99]), strI d] := by
  have ⟨p1, _, _, _, _, p6, p7⟩ := plus_lits
  have := rtx_len ha hb hd
  unfold splitT
  rw [if_pos ⟨by rw [p7]; rfl, by omega⟩, rtx_join, TL.split_join p1 p6 (by simp) (fun p hp => ?_)]
  simp only [List.mem_cons, List.not_mem_nil, or_false] at hp
  rcases hp with rfl | rfl | rfl
  · exact no32 (by simp)
  · exact no32 (by simp)
  · rw [tl_strI]
    intro z
    have := code_mem z
    omega
theorem read_ok {a b d : Int} (ha : N60 a) (hb : N60 b) (hd : N60 d) : t_read_rule (rtx a b d) = some ⟨a, b, d⟩ := by
  suffices Ok (t_read_rule (rtx a b d)) fun r => r = ⟨a, b, d⟩ by
    obtain ⟨r, e, rfl⟩ := this
    exact e
  have ⟨_, _, _, p4, p5, _⟩ := plus_lits
  have la : (SX.S (codes a ++ [114])).length ≤ 16777216 := by
    rw [SX.S_len, List.length_append]
    have := codes_len (k := 60) (by decide) ha.t
    rw [List.length_singleton] <;> omega
  have lb : (SX.S (codes b ++ [99])).length ≤ 16777216 := by
    rw [SX.S_len, List.length_append]
    have := codes_len (k := 60) (by decide) hb.t
    rw [List.length_singleton] <;> omega
  unfold t_read_rule
  refine ok_eq (split_ok ha hb hd) ?_
  refine ok_to (R := fun z : Bool => z = false) ?_ fun z hz => ok_iff hz ?_
  · refine ok_iff (by simp) ?_
    refine ok_eq (atI_0 ..) ?_
    refine ok_eq (slc_ok la) ?_
    rw [SX.last_snoc]
    refine ok_to (R := fun z : Bool => z = false) ?_ fun z hz => ok_some hz
    refine ok_iff ?_ ?_
    · have : SX.S [114] = os "r" := TL.ext_tl (by rw [p4])
      rw [this]; simp
    · refine ok_eq (atI_1 ..) ?_
      refine ok_eq (slc_ok lb) ?_
      rw [SX.last_snoc]
      have : SX.S [99] = os "c" := TL.ext_tl (by rw [p5])
      rw [this]
      exact ok_some (by simp)
  refine ok_eq (atI_0 ..) ?_
  refine ok_eq (slc_ok la) ?_
  refine ok_eq (atI_1 ..) ?_
  refine ok_eq (slc_ok lb) ?_
  refine ok_eq (atI_2 ..) ?_
  rw [SX.butlast_snoc, SX.butlast_snoc, ← numS, ← numS]
  refine ok_eq (a := [a, b, d]) ?_ (ok_eq (a := (a, b, d)) rfl (ok_some rfl))
  unfold t_integers
  have key : lcO (fun word : PySem.Str => some true) (fun word : PySem.Str => (t_integer word (rtx a b d)).bind fun a => some a) [strI a, strI b, strI d] = some [a, b, d] := by
    unfold lcO
    rw [if_pos (by simp)]
    simp [lcO', integer_ok ha.t, integer_ok hb.t, integer_ok hd.t]
  rw [key]
  rfl
theorem text_bind {γ : Type} {a b d : Int} {k : PySem.Str → Option γ} {Q : γ → Prop} (ha : N60 a) (hb : N60 b) (hd : N60 d) (h : Ok (k (rtx a b d)) Q) : Ok ((strT a).bind fun a_2 => (catS a_2 (os "r + ")).bind fun a_3 => (strT b).bind fun a_4 => (catS a_3 a_4).bind fun a_5 => (catS a_5 (os "c + ")).bind fun a_6 => (strT d).bind fun a_7 => (catS a_6 a_7).bind k) Q := by
  have ⟨l1, l2, _⟩ := lits
  have := ha.len; have := hb.len; have := hd.len
  unfold rtx at h
  rw [ha.str, Option.bind_some, catS_ok (by omega), Option.bind_some, hb.str, Option.bind_some, catS_ok (by simp only [cat_len]; omega), Option.bind_some, catS_ok (by simp only [cat_len]; omega), Option.bind_some, hd.str, Option.bind_some, catS_ok (by simp only [cat_len]; omega), Option.bind_some]
  exact h
theorem right_ok {a b d : Int} (ha : N60 a) (hb : N60 b) (hd : N60 d) : t_law_right_19 a b d = some true := by
  suffices Ok (t_law_right_19 a b d) fun r => r = true by
    obtain ⟨r, e, rfl⟩ := this
    exact e
  unfold t_law_right_19
  refine text_bind ha hb hd ?_
  refine ok_bind (ok_rg (by omega) (by omega) (by omega) (by omega) ?_)
  refine ok_bind (ok_eachC (fun _ => True) trivial (fun k s hk _ => ?_) fun s _ => ok_some rfl)
  refine ok_eq (read_ok ha hb hd) ?_
  refine ok_to (R := fun z : Bool => z = false) ?_ fun z hz => ok_iff hz ?_
  · refine ok_iff rfl (ok_eq (a := true) (by unfold t_Rule_eq; simp) (ok_some rfl))
  refine ok_bind (ok_eachC (fun _ => True) trivial (fun x s hx _ => ?_) fun s _ => ?_)
  · refine ok_eq (a := true) rfl ?_
    refine ok_iff ?_ (ok_some ⟨_, rfl, trivial⟩)
    simp only [List.mem_cons, List.not_mem_nil, or_false] at hx
    rcases hx with rfl | rfl | rfl <;> simp
  · show Ok (Option.bind _ _) _
    refine ok_eq (show_ok (u := ⟨a, b, d⟩) ha hb hd) ?_
    refine ok_iff (by simp) ?_
    exact ok_some ⟨_, rfl, trivial⟩
theorem signed60 {w : List Int} (h : Well w) : Ok (t_law_signed w 60) fun r => N60 r.1 ∧ Well r.2 := (ok_signed h (by decide) (by decide)).imp fun r ⟨a, b⟩ => ⟨Nat.lt_of_lt_of_le a (by decide), b⟩
theorem t_true {ns : List Int} (h : Good ns) : t_law_k65 ns = some true := by
  suffices Ok (t_law_k65 ns) fun r => r = true by
    obtain ⟨r, e, rfl⟩ := this
    exact e
  unfold t_law_k65
  have hl := h.1
  refine ok_bind (ok_rg (by omega) (by omega) (by unfold maxT; split <;> omega) (by unfold maxT; split <;> omega) ?_)
  refine ok_bind (ok_eachC (fun _ => True) trivial (fun k s hk _ => ?_) fun s _ => ok_some rfl)
  have ⟨k0, k1⟩ := rgI_mem hk
  refine ok_to (ok_well k0) fun w hw => ?_
  refine ok_bind (ok_rg (by omega) (by omega) (by omega) (by omega) ?_)
  refine ok_bind (ok_lcST (fun ys s => Well s ∧ ∀ y ∈ ys, N60 y) (by rw [rgI_length]; omega) ⟨hw, by simp⟩ (fun x ys s hx ⟨v1, v2⟩ => ?_) fun ys s hl ⟨v1, v2⟩ => ?_)
  · refine ok_to (signed60 v1) fun r ⟨hr, wr⟩ => ok_some ⟨wr, fun y hy => ?_⟩
    rcases List.mem_append.mp hy with hy | hy
    · exact v2 y hy
    · rw [List.mem_singleton.mp hy]; exact hr
  have hl3 : ys.length = 3 := by
    have := hl
    simp [rgI_length] at this
    exact this
  match ys, hl3, v2 with
  | [a, b, d], _, v2 =>
    have ha := v2 a (by simp)
    have hb := v2 b (by simp)
    have hd := v2 d (by simp)
    refine ok_eq (atI_0 ..) ?_
    refine ok_eq (atI_1 ..) ?_
    refine ok_eq (atI_2 ..) ?_
    refine ok_eq (right_ok ha hb hd) ?_
    refine ok_iff (rfl) ?_
    refine ok_to (ok_great v1 (by omega)) fun g ⟨hg, w2⟩ => ok_to (ok_dip w2 (by omega) (Sm.mono (k := 256) (Sm.o256 (by first | omega | (dsimp only; omega)) (by first | omega | (dsimp only; omega))) (by decide))) fun a8 ⟨h8, w3⟩ => ?_
    refine ok_bind (ok_mul (mulOk_sm (Sm.o256 (by omega) (by omega) : Sm 256 (100000000000000000000000000000000000000000000000000000000000 + g.1)) (Sm.o64 (by omega) (by omega) : Sm 64 (1 - 2 * a8.1))) fun long hlong => ?_)
    have nl : N60 long := by
      unfold N60
      have e : a8.1 = 0 ∨ a8.1 = 1 := by omega
      rcases e with e | e <;> rw [hlong, e] <;> omega
    refine ok_to (ok_dip w3 (by omega) (Sm.mono (k := 256) (Sm.o256 (by first | omega | (dsimp only; omega)) (by first | omega | (dsimp only; omega))) (by decide))) fun a9 ⟨h9, w4⟩ => ?_
    have e9 : a9.1 = 0 ∨ a9.1 = 1 ∨ a9.1 = 2 := by omega
    obtain ⟨x, y, z, es, nx, ny, nz⟩ : ∃ x y z, setT [a, b, d] a9.1 long = some [x, y, z] ∧ N60 x ∧ N60 y ∧ N60 z := by
      rcases e9 with e | e | e <;> rw [e]
      · exact ⟨long, b, d, by simp [setT, ixN], nl, hb, hd⟩
      · exact ⟨a, long, d, by simp [setT, ixN], ha, nl, hd⟩
      · exact ⟨a, b, long, by simp [setT, ixN], ha, hb, nl⟩
    refine ok_eq (es) ?_
    refine ok_eq (atI_0 ..) ?_
    refine ok_eq (atI_1 ..) ?_
    refine ok_eq (atI_2 ..) ?_
    refine ok_eq (right_ok nx ny nz) ?_
    refine ok_iff (rfl) ?_
    exact ok_some ⟨_, rfl, trivial⟩
theorem law_true_k65 (ns : List Int) (h : Good ns) : ∃ z, m_law_k65 [.lst (ns.map D.int)] = some (false, .bl true, z) := ⟨_, c_law_k65 (t_true h)⟩
end J
namespace Wk65
open PySem PySem.Spec PyProof.Rows L2 J
def top (i : Nat) : Stmt := PySem.Challenge.pw_rulesquares_k65_rules_are_read.main.body.getD i (.Pass ⟨0, 0, 0, 0⟩)
structure Txt (K : PySem.W.Frag) (mg : Mg) (cI_Rule : Addr) : Prop where
  z_bool : mg "bool" = none
  z_int : mg "int" = none
  z_isinstance : mg "isinstance" = none
  z_len : mg "len" = none
  z_max : mg "max" = none
  z_range : mg "range" = none
  z_str : mg "str" = none
  a_by_column : ClsOk K mg ["Rule"] "by_column"
  a_by_row : ClsOk K mg ["Rule"] "by_row"
  a_start : ClsOk K mg ["Rule"] "start"
  is_Rule : IsOk K mg "Rule" ["Rule"] []
  g_Rule : mg (os "Rule") = some (.ref cI_Rule)
  co_MOST_DIGITS : GcI mg "MOST_DIGITS" (60)
section
variable {P : Program} {w : World} {K : PySem.W.Frag} {mg : Mg} {base : Heap} {cI_Rule : Addr}
abbrev N_law_well : List PySem.Str := ["script", "k", "cell"]
theorem sc_law_well : FnScope N_law_well ["script", "k"] (defScope (top 19)) := ⟨rfl, rfl, rfl, by decide +kernel, rfl, by decide +kernel, by decide +kernel⟩
theorem ok_law_well {f : Addr} {fd : FuncData} (T : Txt K mg cI_Rule) (Fn : Fun K "_law_well" "_law_well" (top 19) f fd) : FnOk P w K mg base CX0 1 f fd ["script", "k"] (spM K mg false m_law_well) :=
  jfun (n := 3) (np := 2) (F := F_law_well) rfl rfl rfl Fn sc_law_well (fun cdv A outer s H E hr => ⟨_, (jss_cons (js_set sc_law_well.nd (.inl rfl) je_int)
  (jss_cons (js_if (jt_lt (je_var 1) (je_len (K := K) (by rfl) T.z_len (jp_cons (je_var 0) jp_nil))) (jss_one (js_set sc_law_well.nd (.inl rfl) (je_ix (K := K) (je_var 0) (je_var 1)))) jss_nil)
  (jss_cons (js_if (jt_ge (je_var 2) (je_pow je_int je_int)) (jss_one (js_ret (je_lst (ja_cons (je_sub (je_var 2) (je_pow je_int je_int)) (ja_cons (je_mul je_int (je_add (je_var 1) je_int)) ja_nil))))) jss_nil)
  (jss_one (js_ret (je_lst (ja_cons je_int (ja_cons (je_add (je_mod (je_int1 (by rfl) T.z_int (jp_cons (je_var 2) jp_nil)) je_int) (je_mul je_int (je_add (je_var 1) je_int))) ja_nil))))))))⟩)
abbrev N_law_dip : List PySem.Str := ["well", "many", "number", "turn"]
theorem sc_law_dip : FnScope N_law_dip ["well", "many"] (defScope (top 20)) := ⟨rfl, rfl, rfl, by decide +kernel, rfl, by decide +kernel, by decide +kernel⟩
theorem ok_law_dip {f : Addr} {fd : FuncData} (T : Txt K mg cI_Rule) (Fn : Fun K "_law_dip" "_law_dip" (top 20) f fd) : FnOk P w K mg base CX0 1 f fd ["well", "many"] (spM K mg true m_law_dip) :=
  jfun (n := 4) (np := 2) (F := F_law_dip) rfl rfl rfl Fn sc_law_dip (fun cdv A outer s H E hr => ⟨_, (jss_cons (js_if (jt_gt (je_ix (K := K) (je_var 0) je_int) je_int) (jss_cons (js_set sc_law_dip.nd (.inr (by decide)) (je_ix (K := K) (je_var 0) je_int))
  (jss_cons (js_setIx (je_var 0) je_int (je_div (je_var 2) (je_var 1)))
  (jss_one (js_ret (je_mod (je_int1 (by rfl) T.z_int (jp_cons (je_var 2) jp_nil)) (je_var 1)))))) jss_nil)
  (jss_cons (js_set sc_law_dip.nd (.inr (by decide)) (je_mod (je_int1 (by rfl) T.z_int (jp_cons (je_add (je_mul (je_ix (K := K) (je_var 0) je_int) je_int) je_int) jp_nil)) je_int))
  (jss_cons (js_setIx (je_var 0) je_int (je_var 3))
  (jss_one (js_ret (je_mod (je_div (je_mod (je_int1 (by rfl) T.z_int (jp_cons (je_mul (je_var 3) (je_var 3)) jp_nil)) je_int) je_int) (je_var 1)))))))⟩)
abbrev N_law_great_4 : List PySem.Str := ["well", "limit", "number", "turn"]
theorem sc_law_great_4 : FnScope N_law_great_4 ["well", "limit"] (defScope (top 21)) := ⟨rfl, rfl, rfl, by decide +kernel, rfl, by decide +kernel, by decide +kernel⟩
theorem ok_law_great_4 {f : Addr} {fd : FuncData} (T : Txt K mg cI_Rule) {f_law_dip : Addr} {fd_law_dip : FuncData} (h_law_dip : KnF P w K mg base f_law_dip fd_law_dip "_law_dip" ["well", "many"] true 1 m_law_dip) (Fn : Fun K "_law_great" "_law_great" (top 21) f fd) : FnOk P w K mg base CX0 2 f fd ["well", "limit"] (spM K mg true m_law_great_4) :=
  jfun (n := 4) (np := 2) (F := F_law_great_4) rfl rfl rfl Fn sc_law_great_4 (fun cdv A outer s H E hr => ⟨_, (jss_cons (js_set sc_law_great_4.nd (.inr (by decide)) je_int)
  (jss_cons (js_for PassesOwn.never rfl (.inr (by decide)) (ji_r1 (by rfl) T.z_range (jp_cons je_int jp_nil)) (jg_name sc_law_great_4.nd) (jss_one (js_set sc_law_great_4.nd (.inr (by decide)) (je_add (je_mul (je_var 2) je_int) (kf_callIo h_law_dip hr (je_var 0) (ja_cons je_int ja_nil))))))
  (jss_one (js_ret (je_mod (je_int1 (by rfl) T.z_int (jp_cons (je_var 2) jp_nil)) (je_var 1))))))⟩)
abbrev N_law_signed : List PySem.Str := ["well", "digits", "length", "limit", "turn"]
theorem sc_law_signed : FnScope N_law_signed ["well", "digits"] (defScope (top 22)) := ⟨rfl, rfl, rfl, by decide +kernel, rfl, by decide +kernel, by decide +kernel⟩
theorem ok_law_signed {f : Addr} {fd : FuncData} (T : Txt K mg cI_Rule) {f_law_dip : Addr} {fd_law_dip : FuncData} (h_law_dip : KnF P w K mg base f_law_dip fd_law_dip "_law_dip" ["well", "many"] true 1 m_law_dip) {f_law_great_4 : Addr} {fd_law_great_4 : FuncData} (h_law_great_4 : KnF P w K mg base f_law_great_4 fd_law_great_4 "_law_great" ["well", "limit"] true 2 m_law_great_4) (Fn : Fun K "_law_signed" "_law_signed" (top 22) f fd) : FnOk P w K mg base CX0 3 f fd ["well", "digits"] (spM K mg true m_law_signed) :=
  jfun (n := 5) (np := 2) (F := F_law_signed) rfl rfl rfl Fn sc_law_signed (fun cdv A outer s H E hr => ⟨_, (jss_cons (js_set sc_law_signed.nd (.inr (by decide)) (je_add je_int (kf_callIo h_law_dip hr (je_var 0) (ja_cons (je_var 1) ja_nil))))
  (jss_cons (js_if (jt_eq (K := K) hr (kf_callIo h_law_dip hr (je_var 0) (ja_cons je_int ja_nil)) je_int) (jss_one (js_set sc_law_signed.nd (.inr (by decide)) je_int)) jss_nil)
  (jss_cons (js_set sc_law_signed.nd (.inr (by decide)) je_int)
  (jss_cons (js_for PassesOwn.never rfl (.inr (by decide)) (ji_r1 (by rfl) T.z_range (jp_cons (je_var 2) jp_nil)) (jg_name sc_law_signed.nd) (jss_one (js_set sc_law_signed.nd (.inr (by decide)) (je_mul (je_var 3) je_int))))
  (jss_one (js_ret (je_mul (kf_callIo h_law_great_4 hr (je_var 0) (ja_cons (je_var 3) ja_nil)) (je_sub je_int (je_mul je_int (kf_callIo h_law_dip hr (je_var 0) (ja_cons je_int ja_nil)))))))))))⟩)
abbrev N_integer : List PySem.Str := ["word", "text", "digits", "sign"]
theorem sc_integer : FnScope N_integer ["word", "text"] (defScope (top 15)) := ⟨rfl, rfl, rfl, by decide +kernel, rfl, by decide +kernel, by decide +kernel⟩
theorem ok_integer {f : Addr} {fd : FuncData} (T : Txt K mg cI_Rule) (Fn : Fun K "integer" "integer" (top 15) f fd) : FnOk P w K mg base CX0 1 f fd ["word", "text"] (spM K mg false m_integer) :=
  jfun (n := 4) (np := 2) (F := F_integer) rfl rfl rfl Fn sc_integer (fun cdv A outer s H E hr => ⟨_, (jss_cons (js_set sc_integer.nd (.inl rfl) (je_ifE (jt_eqS (je_slS (je_var 0) jo_no (jo_some je_int)) je_str) (je_slS (je_var 0) (jo_some je_int) jo_no) (je_var 0)))
  (jss_cons (js_if (jt_w (jw_or (jt_eqS (je_var 2) je_str) (jw_or1 (jt_gt (je_len (K := K) (by rfl) T.z_len (jp_cons (je_var 2) jp_nil)) (je_gci T.co_MOST_DIGITS))))) (jss_one js_never) jss_nil)
  (jss_cons (js_for PassesOwn.never rfl (.inl rfl) (ji_str (je_var 2)) (jg_name sc_integer.nd) (jss_one (js_if (jt_ninS (je_var 3) je_str) (jss_one js_never) jss_nil)))
  (jss_cons (js_if (jt_w (jw_and (jt_eqS (je_ix (K := K) (je_var 2) je_int) je_str) (jw_and1 (jt_neS (je_var 0) je_str)))) (jss_one js_never) jss_nil)
  (jss_one (js_ret (je_intS (by rfl) T.z_int (jp_cons (je_var 0) jp_nil))))))))⟩)
abbrev N_integers : List PySem.Str := ["words", "text", "word"]
theorem sc_integers : FnScope N_integers ["words", "text"] (defScope (top 16)) := ⟨rfl, rfl, rfl, by decide +kernel, rfl, by decide +kernel, by decide +kernel⟩
theorem ok_integers {f : Addr} {fd : FuncData} (T : Txt K mg cI_Rule) {f_integer : Addr} {fd_integer : FuncData} (h_integer : KnF P w K mg base f_integer fd_integer "integer" ["word", "text"] false 1 m_integer) (Fn : Fun K "integers" "integers" (top 16) f fd) : FnOk P w K mg base CX0 2 f fd ["words", "text"] (spM K mg false m_integers) :=
  jfun (n := 3) (np := 2) (F := F_integers) rfl rfl rfl Fn sc_integers (fun cdv A outer s H E hr => ⟨_, (jss_one (js_ret (je_lc (own := [("word", 2)]) rfl sc_integers.nd (ji_seq (K := K) (je_var 0)) (blkOk_by (N := N_integers) (sc := (defScope (top 16))) (own := [("word", 2)]) (by decide +kernel)) (by decide) (fun _ _ _ _ _ => (jg_name sc_integers.nd)) (fun _ _ _ _ _ => jts_nil) (fun _ _ _ _ _ => (kf_call h_integer hr (ja_cons (je_var 2) (ja_cons (je_var 1) ja_nil)))))))⟩)
abbrev N_Rule_init : List PySem.Str := ["self", "a", "b", "d"]
theorem sc_Rule_init : FnScope N_Rule_init ["self", "a", "b", "d"] (defScope (inClass (top 10) 0)) := ⟨rfl, rfl, rfl, by decide +kernel, rfl, by decide +kernel, by decide +kernel⟩
theorem ok_Rule_init {f : Addr} {fd : FuncData} (T : Txt K mg cI_Rule) (Fn : Fun K "__init__" "Rule.__init__" (inClass (top 10) 0) f fd) : FnOk P w K mg base CX0 1 f fd ["self", "a", "b", "d"] (spM K mg true m_Rule_init) :=
  jfun (n := 4) (np := 4) (F := F_Rule_init) rfl rfl rfl Fn sc_Rule_init (fun cdv A outer s H E hr => ⟨_, (jss_cons (js_fld T.a_by_row (je_var 0) (je_var 1))
  (jss_cons (js_fld T.a_by_column (je_var 0) (je_var 2))
  (jss_one (js_fld T.a_start (je_var 0) (je_var 3)))))⟩)
abbrev N_read_rule : List PySem.Str := ["text", "parts", "a", "b", "d"]
theorem sc_read_rule : FnScope N_read_rule ["text"] (defScope (top 17)) := ⟨rfl, rfl, rfl, by decide +kernel, rfl, by decide +kernel, by decide +kernel⟩
theorem ok_read_rule {f : Addr} {fd : FuncData} (T : Txt K mg cI_Rule) {f_integers : Addr} {fd_integers : FuncData} (h_integers : KnF P w K mg base f_integers fd_integers "integers" ["words", "text"] false 2 m_integers) {c_Rule_init f_Rule_init : Addr} {fd_Rule_init : FuncData} (h_Rule_init : KnC P w K mg base c_Rule_init f_Rule_init fd_Rule_init "Rule" ["self", "a", "b", "d"] 1 m_Rule_init) (Fn : Fun K "read_rule" "read_rule" (top 17) f fd) : FnOk P w K mg base CX0 3 f fd ["text"] (spM K mg false m_read_rule) :=
  jfun (n := 5) (np := 1) (F := F_read_rule) rfl rfl rfl Fn sc_read_rule (fun cdv A outer s H E hr => ⟨_, (jss_cons (js_setF sc_read_rule.nd (.inl rfl) (je_split (je_var 0) je_str))
  (jss_cons (js_if (jt_w (jw_or (jt_ne (K := K) hr (je_len (K := K) (by rfl) T.z_len (jp_cons (je_var 1) jp_nil)) je_int) (jw_or (jt_neS (je_slS (je_ix (K := K) (je_var 1) je_int) (jo_some (je_neg je_int)) jo_no) je_str) (jw_or1 (jt_neS (je_slS (je_ix (K := K) (je_var 1) je_int) (jo_some (je_neg je_int)) jo_no) je_str))))) (jss_one js_never) jss_nil)
  (jss_cons (js_unp (.inl rfl) (kf_call h_integers hr (ja_cons (je_lst (ja_cons (je_slS (je_ix (K := K) (je_var 1) je_int) jo_no (jo_some (je_neg je_int))) (ja_cons (je_slS (je_ix (K := K) (je_var 1) je_int) jo_no (jo_some (je_neg je_int))) (ja_cons (je_ix (K := K) (je_var 1) je_int) ja_nil)))) (ja_cons (je_var 0) ja_nil))) (jg_tup (K := K) rfl (jgs_cons (jg_name sc_read_rule.nd) (jgs_cons (jg_name sc_read_rule.nd) (jgs_cons (jg_name sc_read_rule.nd) jgs_nil)))))
  (jss_one (js_ret (kc_make h_Rule_init hr (ja_cons (je_var 2) (ja_cons (je_var 3) (ja_cons (je_var 4) ja_nil)))))))))⟩)
abbrev N_Rule_eq : List PySem.Str := ["self", "other"]
theorem sc_Rule_eq : FnScope N_Rule_eq ["self", "other"] (defScope (inClass (top 10) 4)) := ⟨rfl, rfl, rfl, by decide +kernel, rfl, by decide +kernel, by decide +kernel⟩
theorem ok_Rule_eq {f : Addr} {fd : FuncData} (T : Txt K mg cI_Rule) (Fn : Fun K "__eq__" "Rule.__eq__" (inClass (top 10) 4) f fd) : FnOk P w K mg base CX0 1 f fd ["self", "other"] (spM K mg false m_Rule_eq) :=
  jfun (n := 2) (np := 2) (F := F_Rule_eq) rfl rfl rfl Fn sc_Rule_eq (fun cdv A outer s H E hr => ⟨_, (jss_cons (js_if (jt_not (jt_val (je_isC T.is_Rule T.g_Rule (by rfl) T.z_isinstance (je_var 1)))) (jss_one (js_ret je_bl)) jss_nil)
  (jss_one (js_ret (je_and (je_eq (K := K) hr (je_fld T.a_by_row (je_var 0)) (je_fld T.a_by_row (je_var 1))) (je_and (je_eq (K := K) hr (je_fld T.a_by_column (je_var 0)) (je_fld T.a_by_column (je_var 1))) (je_one (je_eq (K := K) hr (je_fld T.a_start (je_var 0)) (je_fld T.a_start (je_var 1)))))))))⟩)
abbrev N_Rule_d : List PySem.Str := ["self"]
theorem sc_Rule_d : FnScope N_Rule_d ["self"] (defScope (inClass (top 10) 3)) := ⟨rfl, rfl, rfl, by decide +kernel, rfl, by decide +kernel, by decide +kernel⟩
theorem ok_Rule_d {f : Addr} {fd : FuncData} (T : Txt K mg cI_Rule) (Fn : Fun K "d" "Rule.d" (inClass (top 10) 3) f fd) : FnOk P w K mg base CX0 1 f fd ["self"] (spM K mg false m_Rule_d) :=
  jfun (n := 1) (np := 1) (F := F_Rule_d) rfl rfl rfl Fn sc_Rule_d (fun cdv A outer s H E hr => ⟨_, (jss_one (js_ret (je_fld T.a_start (je_var 0))))⟩)
abbrev N_Rule_b : List PySem.Str := ["self"]
theorem sc_Rule_b : FnScope N_Rule_b ["self"] (defScope (inClass (top 10) 2)) := ⟨rfl, rfl, rfl, by decide +kernel, rfl, by decide +kernel, by decide +kernel⟩
theorem ok_Rule_b {f : Addr} {fd : FuncData} (T : Txt K mg cI_Rule) (Fn : Fun K "b" "Rule.b" (inClass (top 10) 2) f fd) : FnOk P w K mg base CX0 1 f fd ["self"] (spM K mg false m_Rule_b) :=
  jfun (n := 1) (np := 1) (F := F_Rule_b) rfl rfl rfl Fn sc_Rule_b (fun cdv A outer s H E hr => ⟨_, (jss_one (js_ret (je_fld T.a_by_column (je_var 0))))⟩)
abbrev N_Rule_a : List PySem.Str := ["self"]
theorem sc_Rule_a : FnScope N_Rule_a ["self"] (defScope (inClass (top 10) 1)) := ⟨rfl, rfl, rfl, by decide +kernel, rfl, by decide +kernel, by decide +kernel⟩
theorem ok_Rule_a {f : Addr} {fd : FuncData} (T : Txt K mg cI_Rule) (Fn : Fun K "a" "Rule.a" (inClass (top 10) 1) f fd) : FnOk P w K mg base CX0 1 f fd ["self"] (spM K mg false m_Rule_a) :=
  jfun (n := 1) (np := 1) (F := F_Rule_a) rfl rfl rfl Fn sc_Rule_a (fun cdv A outer s H E hr => ⟨_, (jss_one (js_ret (je_fld T.a_by_row (je_var 0))))⟩)
abbrev N_law_is_integer : List PySem.Str := ["told"]
theorem sc_law_is_integer : FnScope N_law_is_integer ["told"] (defScope (top 23)) := ⟨rfl, rfl, rfl, by decide +kernel, rfl, by decide +kernel, by decide +kernel⟩
theorem ok_law_is_integer {f : Addr} {fd : FuncData} (T : Txt K mg cI_Rule) (Fn : Fun K "_law_is_integer" "_law_is_integer" (top 23) f fd) : FnOk P w K mg base CX0 1 f fd ["told"] (spM K mg false m_law_is_integer) :=
  jfun (n := 1) (np := 1) (F := F_law_is_integer) rfl rfl rfl Fn sc_law_is_integer (fun cdv A outer s H E hr => ⟨_, (jss_one (js_ret (je_and (je_isi (K := K) (by rfl) T.z_isinstance (by rfl) T.z_int (je_var 0) (by decide) (by decide +kernel)) (je_one (je_not (je_isi (K := K) (by rfl) T.z_isinstance (by rfl) T.z_bool (je_var 0) (by decide) (by decide +kernel)))))))⟩)
abbrev N_show_rule : List PySem.Str := ["rule"]
theorem sc_show_rule : FnScope N_show_rule ["rule"] (defScope (top 12)) := ⟨rfl, rfl, rfl, by decide +kernel, rfl, by decide +kernel, by decide +kernel⟩
theorem ok_show_rule {f : Addr} {fd : FuncData} (T : Txt K mg cI_Rule) {c_Rule_a p_Rule_a f_Rule_a : Addr} {fd_Rule_a : FuncData} (h_Rule_a : KnP P w K mg base c_Rule_a p_Rule_a f_Rule_a fd_Rule_a "Rule" "a" ["self"] false 1 m_Rule_a) {c_Rule_b p_Rule_b f_Rule_b : Addr} {fd_Rule_b : FuncData} (h_Rule_b : KnP P w K mg base c_Rule_b p_Rule_b f_Rule_b fd_Rule_b "Rule" "b" ["self"] false 1 m_Rule_b) {c_Rule_d p_Rule_d f_Rule_d : Addr} {fd_Rule_d : FuncData} (h_Rule_d : KnP P w K mg base c_Rule_d p_Rule_d f_Rule_d fd_Rule_d "Rule" "d" ["self"] false 1 m_Rule_d) (Fn : Fun K "show_rule" "show_rule" (top 12) f fd) : FnOk P w K mg base CX0 3 f fd ["rule"] (spM K mg false m_show_rule) :=
  jfun (n := 1) (np := 1) (F := F_show_rule) rfl rfl rfl Fn sc_show_rule (fun cdv A outer s H E hr => ⟨_, (jss_one (js_ret (je_fstr (jj_cons (je_fmt (kp_prop h_Rule_a hr (je_var 0))) (jj_cons je_str (jj_cons (je_fmt (kp_prop h_Rule_b hr (je_var 0))) (jj_cons je_str (jj_cons (je_fmt (kp_prop h_Rule_d hr (je_var 0))) jj_nil))))))))⟩)
abbrev N_law_right_19 : List PySem.Str := ["a", "b", "d", "text", "turn", "rule", "told", "due"]
theorem sc_law_right_19 : FnScope N_law_right_19 ["a", "b", "d"] (defScope (top 24)) := ⟨rfl, rfl, rfl, by decide +kernel, rfl, by decide +kernel, by decide +kernel⟩
theorem ok_law_right_19 {f : Addr} {fd : FuncData} (T : Txt K mg cI_Rule) {f_read_rule : Addr} {fd_read_rule : FuncData} (h_read_rule : KnF P w K mg base f_read_rule fd_read_rule "read_rule" ["text"] false 3 m_read_rule) {c_Rule_eq f_Rule_eq : Addr} {fd_Rule_eq : FuncData} (h_Rule_eq : KnM P w K mg base c_Rule_eq f_Rule_eq fd_Rule_eq "Rule" "__eq__" ["self", "other"] false 1 m_Rule_eq) {c_Rule_init f_Rule_init : Addr} {fd_Rule_init : FuncData} (h_Rule_init : KnC P w K mg base c_Rule_init f_Rule_init fd_Rule_init "Rule" ["self", "a", "b", "d"] 1 m_Rule_init) {c_Rule_d p_Rule_d f_Rule_d : Addr} {fd_Rule_d : FuncData} (h_Rule_d : KnP P w K mg base c_Rule_d p_Rule_d f_Rule_d fd_Rule_d "Rule" "d" ["self"] false 1 m_Rule_d) {c_Rule_b p_Rule_b f_Rule_b : Addr} {fd_Rule_b : FuncData} (h_Rule_b : KnP P w K mg base c_Rule_b p_Rule_b f_Rule_b fd_Rule_b "Rule" "b" ["self"] false 1 m_Rule_b) {c_Rule_a p_Rule_a f_Rule_a : Addr} {fd_Rule_a : FuncData} (h_Rule_a : KnP P w K mg base c_Rule_a p_Rule_a f_Rule_a fd_Rule_a "Rule" "a" ["self"] false 1 m_Rule_a) {f_law_is_integer : Addr} {fd_law_is_integer : FuncData} (h_law_is_integer : KnF P w K mg base f_law_is_integer fd_law_is_integer "_law_is_integer" ["told"] false 1 m_law_is_integer) {f_show_rule : Addr} {fd_show_rule : FuncData} (h_show_rule : KnF P w K mg base f_show_rule fd_show_rule "show_rule" ["rule"] false 3 m_show_rule) (Fn : Fun K "_law_right" "_law_right" (top 24) f fd) : FnOk P w K mg base CX0 4 f fd ["a", "b", "d"] (spM K mg false m_law_right_19) :=
  jfun (n := 8) (np := 3) (F := F_law_right_19) rfl rfl rfl Fn sc_law_right_19 (fun cdv A outer s H E hr => ⟨_, (jss_cons (js_set sc_law_right_19.nd (.inl rfl) (je_catS (je_catS (je_catS (je_catS (je_str1 (by rfl) T.z_str (jp_cons (je_var 0) jp_nil)) je_str) (je_str1 (by rfl) T.z_str (jp_cons (je_var 1) jp_nil))) je_str) (je_str1 (by rfl) T.z_str (jp_cons (je_var 2) jp_nil))))
  (jss_cons (js_for PassesOwn.never rfl (.inl rfl) (ji_r1 (by rfl) T.z_range (jp_cons je_int jp_nil)) (jg_name sc_law_right_19.nd) (jss_cons (js_setF sc_law_right_19.nd (.inl rfl) (kf_call h_read_rule hr (ja_cons (je_var 3) ja_nil)))
  (jss_cons (js_if (jt_w (jw_or (jt_not (jt_val (je_isC T.is_Rule T.g_Rule (by rfl) T.z_isinstance (je_var 5)))) (jw_or1 (jt_not (km_eqT h_Rule_eq hr (je_var 5) (kc_make h_Rule_init hr (ja_cons (je_var 0) (ja_cons (je_var 1) (ja_cons (je_var 2) ja_nil))))))))) (jss_one (js_ret je_bl)) jss_nil)
  (jss_cons (js_for PassesOwn.never rfl (.inl rfl) (ji_seq (K := K) (je_lst (ja_cons (je_tup (ja_cons (kp_prop h_Rule_a hr (je_var 5)) (ja_cons (je_var 0) ja_nil))) (ja_cons (je_tup (ja_cons (kp_prop h_Rule_b hr (je_var 5)) (ja_cons (je_var 1) ja_nil))) (ja_cons (je_tup (ja_cons (kp_prop h_Rule_d hr (je_var 5)) (ja_cons (je_var 2) ja_nil))) ja_nil))))) (jg_tup (K := K) rfl (jgs_cons (jg_name sc_law_right_19.nd) (jgs_cons (jg_name sc_law_right_19.nd) jgs_nil))) (jss_one (js_if (jt_w (jw_or (jt_not (jt_val (kf_call h_law_is_integer hr (ja_cons (je_var 6) ja_nil)))) (jw_or1 (jt_ne (K := K) hr (je_var 6) (je_var 7))))) (jss_one (js_ret je_bl)) jss_nil)))
  (jss_one (js_if (jt_neS (kf_call h_show_rule hr (ja_cons (je_var 5) ja_nil)) (je_var 3)) (jss_one (js_ret je_bl)) jss_nil))))))
  (jss_one (js_ret je_bl))))⟩)
abbrev N_law_k65 : List PySem.Str := ["script", "k", "well", "numbers", "long", "turn"]
theorem sc_law_k65 : FnScope N_law_k65 ["script"] (defScope (top 25)) := ⟨rfl, rfl, rfl, by decide +kernel, rfl, by decide +kernel, by decide +kernel⟩
theorem ok_law_k65 {f : Addr} {fd : FuncData} (T : Txt K mg cI_Rule) {f_law_well : Addr} {fd_law_well : FuncData} (h_law_well : KnF P w K mg base f_law_well fd_law_well "_law_well" ["script", "k"] false 1 m_law_well) {f_law_signed : Addr} {fd_law_signed : FuncData} (h_law_signed : KnF P w K mg base f_law_signed fd_law_signed "_law_signed" ["well", "digits"] true 3 m_law_signed) {f_law_right_19 : Addr} {fd_law_right_19 : FuncData} (h_law_right_19 : KnF P w K mg base f_law_right_19 fd_law_right_19 "_law_right" ["a", "b", "d"] false 4 m_law_right_19) {f_law_great_4 : Addr} {fd_law_great_4 : FuncData} (h_law_great_4 : KnF P w K mg base f_law_great_4 fd_law_great_4 "_law_great" ["well", "limit"] true 2 m_law_great_4) {f_law_dip : Addr} {fd_law_dip : FuncData} (h_law_dip : KnF P w K mg base f_law_dip fd_law_dip "_law_dip" ["well", "many"] true 1 m_law_dip) (Fn : Fun K "law" "law" (top 25) f fd) : FnOk P w K mg base CX0 5 f fd ["script"] (spM K mg false m_law_k65) :=
  jfun (n := 6) (np := 1) (F := F_law_k65) rfl rfl rfl Fn sc_law_k65 (fun cdv A outer s H E hr => ⟨_, (jss_cons (js_for PassesOwn.never rfl (.inl rfl) (ji_r1 (by rfl) T.z_range (jp_cons (je_max2 rfl (by rfl) T.z_max (jp_cons je_int (jp_cons (je_len (K := K) (by rfl) T.z_len (jp_cons (je_var 0) jp_nil)) jp_nil))) jp_nil)) (jg_name sc_law_k65.nd) (jss_cons (js_set sc_law_k65.nd (.inl rfl) (kf_call h_law_well hr (ja_cons (je_var 0) (ja_cons (je_var 1) ja_nil))))
  (jss_cons (js_setLc (own := [("turn", 5)]) (.inl rfl) rfl sc_law_k65.nd rfl (sw_true rfl rfl rfl (by decide +kernel)) (ji_r1 (by rfl) T.z_range (jp_cons je_int jp_nil)) (blkOk_by (N := N_law_k65) (sc := (defScope (top 25))) (own := [("turn", 5)]) (by decide +kernel)) (by decide) (fun _ _ _ _ _ => (jg_name sc_law_k65.nd)) (fun _ _ _ _ _ => jts_nil) (fun _ _ _ _ _ => (kf_callIo h_law_signed hr (je_var 2) (ja_cons je_int ja_nil))))
  (jss_cons (js_if (jt_not (jt_val (kf_call h_law_right_19 hr (ja_cons (je_ix (K := K) (je_var 3) je_int) (ja_cons (je_ix (K := K) (je_var 3) je_int) (ja_cons (je_ix (K := K) (je_var 3) je_int) ja_nil)))))) (jss_one (js_ret je_bl)) jss_nil)
  (jss_cons (js_set sc_law_k65.nd (.inl rfl) (je_mul (je_add (je_pow je_int je_int) (kf_callIo h_law_great_4 hr (je_var 2) (ja_cons (je_mul je_int (je_pow je_int je_int)) ja_nil))) (je_sub je_int (je_mul je_int (kf_callIo h_law_dip hr (je_var 2) (ja_cons je_int ja_nil))))))
  (jss_cons (js_setIx (je_var 3) (kf_callIo h_law_dip hr (je_var 2) (ja_cons je_int ja_nil)) (je_var 4))
  (jss_one (js_if (jt_not (jt_val (kf_call h_law_right_19 hr (ja_cons (je_ix (K := K) (je_var 3) je_int) (ja_cons (je_ix (K := K) (je_var 3) je_int) (ja_cons (je_ix (K := K) (je_var 3) je_int) ja_nil)))))) (jss_one (js_ret je_bl)) jss_nil))))))))
  (jss_one (js_ret je_bl)))⟩)
end
theorem all_mk {l : PySem.W.OpenLaw} {w : World} {K : PySem.W.Frag} {h : Heap} {mg : Mg} {good : List Int → Prop} (law : ∀ ns : List Int, good ns → ∃ z, m_law_k65 [.lst (ns.map D.int)] = some (false, .bl true, z)) {fa c_Rule f_law_well f_law_dip f_law_great_4 f_law_signed f_integer f_integers f_Rule_init f_read_rule f_Rule_eq f_Rule_d p_Rule_d f_Rule_b p_Rule_b f_Rule_a p_Rule_a f_law_is_integer f_show_rule f_law_right_19 f_law_k65 : Addr} (X : K.In h) (G : h.Ns mainGlobals mg) (hfa : mg "law" = some (.ref fa))
    {od_law_well an_law_well od_law_dip an_law_dip od_law_great_4 an_law_great_4 od_law_signed an_law_signed od_integer an_integer od_integers an_integers od_Rule_init an_Rule_init od_read_rule an_read_rule od_Rule_eq an_Rule_eq od_Rule_d an_Rule_d od_Rule_b an_Rule_b od_Rule_a an_Rule_a od_law_is_integer an_law_is_integer od_show_rule an_show_rule od_law_right_19 an_law_right_19 od_law_k65 an_law_k65 : Option Addr} {sl_law_well sl_law_dip sl_law_great_4 sl_law_signed sl_integer sl_integers sl_Rule_init sl_read_rule sl_Rule_eq sl_Rule_d sl_Rule_b sl_Rule_a sl_law_is_integer sl_show_rule sl_law_right_19 sl_law_k65 : Array (Option Value)} {oc_law_well kV_law_well dc_law_well pm_law_well cd_law_well ct_law_well oc_law_dip kV_law_dip dc_law_dip pm_law_dip cd_law_dip ct_law_dip oc_law_great_4 kV_law_great_4 dc_law_great_4 pm_law_great_4 cd_law_great_4 ct_law_great_4 oc_law_signed kV_law_signed dc_law_signed pm_law_signed cd_law_signed ct_law_signed oc_integer kV_integer dc_integer pm_integer cd_integer ct_integer oc_integers kV_integers dc_integers pm_integers cd_integers ct_integers oc_Rule_init kV_Rule_init dc_Rule_init pm_Rule_init cd_Rule_init ct_Rule_init oc_read_rule kV_read_rule dc_read_rule pm_read_rule cd_read_rule ct_read_rule oc_Rule_eq kV_Rule_eq dc_Rule_eq pm_Rule_eq cd_Rule_eq ct_Rule_eq oc_Rule_d kV_Rule_d dc_Rule_d pm_Rule_d cd_Rule_d ct_Rule_d oc_Rule_b kV_Rule_b dc_Rule_b pm_Rule_b cd_Rule_b ct_Rule_b oc_Rule_a kV_Rule_a dc_Rule_a pm_Rule_a cd_Rule_a ct_Rule_a oc_law_is_integer kV_law_is_integer dc_law_is_integer pm_law_is_integer cd_law_is_integer ct_law_is_integer oc_show_rule kV_show_rule dc_show_rule pm_show_rule cd_show_rule ct_show_rule oc_law_right_19 kV_law_right_19 dc_law_right_19 pm_law_right_19 cd_law_right_19 ct_law_right_19 oc_law_k65 kV_law_k65 dc_law_k65 pm_law_k65 cd_law_k65 ct_law_k65 : Value} {r_Rule_d r_Rule_b r_Rule_a : List Value} {tk_MOST_DIGITS : Tok}
    (aC_Rule : PySem.W.nsIn K mainGlobals "Rule" = some (some (.ref c_Rule)))
    (pg_Rule : PySem.W.plainGet K c_Rule Str.empty = true)
    (hd_Rule : PySem.W.hasDictIn K c_Rule = true)
    (po_Rule : PySem.W.plainOver K c_Rule = true)
    (sa_Rule : PySem.W.findIn K (.ref c_Rule) "__setattr__" = some (some (.builtin "object.__setattr__")))
    (mk_Rule : PySem.W.makesIn K c_Rule = true)
    (kc_Rule : PySem.W.keepIn K (.ref c_Rule) = true)
    (co_MOST_DIGITS : PySem.W.nsIn K mainGlobals "MOST_DIGITS" = some (some (.int (60) tk_MOST_DIGITS)))
    (a_law_well : PySem.W.nsIn K mainGlobals "_law_well" = some (some (.ref f_law_well)))
    (l_law_well : K.lookup f_law_well = some ⟨oc_law_well, od_law_well, .func (PySem.W.fnOf "_law_well" "_law_well" (defArgs (top 19)) (defBody (top 19)) (defScope (top 19)) .none kV_law_well dc_law_well pm_law_well an_law_well cd_law_well ct_law_well), sl_law_well⟩)
    (c_law_well' : PySem.W.codeIn K cd_law_well "_law_well" = true)
    (k_law_well : PySem.W.keepIn K (.ref f_law_well) = true)
    (a_law_dip : PySem.W.nsIn K mainGlobals "_law_dip" = some (some (.ref f_law_dip)))
    (l_law_dip : K.lookup f_law_dip = some ⟨oc_law_dip, od_law_dip, .func (PySem.W.fnOf "_law_dip" "_law_dip" (defArgs (top 20)) (defBody (top 20)) (defScope (top 20)) .none kV_law_dip dc_law_dip pm_law_dip an_law_dip cd_law_dip ct_law_dip), sl_law_dip⟩)
    (c_law_dip' : PySem.W.codeIn K cd_law_dip "_law_dip" = true)
    (k_law_dip : PySem.W.keepIn K (.ref f_law_dip) = true)
    (a_law_great_4 : PySem.W.nsIn K mainGlobals "_law_great" = some (some (.ref f_law_great_4)))
    (l_law_great_4 : K.lookup f_law_great_4 = some ⟨oc_law_great_4, od_law_great_4, .func (PySem.W.fnOf "_law_great" "_law_great" (defArgs (top 21)) (defBody (top 21)) (defScope (top 21)) .none kV_law_great_4 dc_law_great_4 pm_law_great_4 an_law_great_4 cd_law_great_4 ct_law_great_4), sl_law_great_4⟩)
    (c_law_great_4' : PySem.W.codeIn K cd_law_great_4 "_law_great" = true)
    (k_law_great_4 : PySem.W.keepIn K (.ref f_law_great_4) = true)
    (a_law_signed : PySem.W.nsIn K mainGlobals "_law_signed" = some (some (.ref f_law_signed)))
    (l_law_signed : K.lookup f_law_signed = some ⟨oc_law_signed, od_law_signed, .func (PySem.W.fnOf "_law_signed" "_law_signed" (defArgs (top 22)) (defBody (top 22)) (defScope (top 22)) .none kV_law_signed dc_law_signed pm_law_signed an_law_signed cd_law_signed ct_law_signed), sl_law_signed⟩)
    (c_law_signed' : PySem.W.codeIn K cd_law_signed "_law_signed" = true)
    (k_law_signed : PySem.W.keepIn K (.ref f_law_signed) = true)
    (a_integer : PySem.W.nsIn K mainGlobals "integer" = some (some (.ref f_integer)))
    (l_integer : K.lookup f_integer = some ⟨oc_integer, od_integer, .func (PySem.W.fnOf "integer" "integer" (defArgs (top 15)) (defBody (top 15)) (defScope (top 15)) .none kV_integer dc_integer pm_integer an_integer cd_integer ct_integer), sl_integer⟩)
    (c_integer' : PySem.W.codeIn K cd_integer "integer" = true)
    (k_integer : PySem.W.keepIn K (.ref f_integer) = true)
    (a_integers : PySem.W.nsIn K mainGlobals "integers" = some (some (.ref f_integers)))
    (l_integers : K.lookup f_integers = some ⟨oc_integers, od_integers, .func (PySem.W.fnOf "integers" "integers" (defArgs (top 16)) (defBody (top 16)) (defScope (top 16)) .none kV_integers dc_integers pm_integers an_integers cd_integers ct_integers), sl_integers⟩)
    (c_integers' : PySem.W.codeIn K cd_integers "integers" = true)
    (k_integers : PySem.W.keepIn K (.ref f_integers) = true)
    (a_Rule_init : PySem.W.findIn K (.ref c_Rule) "__init__" = some (some (.ref f_Rule_init)))
    (i_Rule_init : PySem.W.isFn K (.ref f_Rule_init) = true)
    (l_Rule_init : K.lookup f_Rule_init = some ⟨oc_Rule_init, od_Rule_init, .func (PySem.W.fnOf "__init__" "Rule.__init__" (defArgs (inClass (top 10) 0)) (defBody (inClass (top 10) 0)) (defScope (inClass (top 10) 0)) .none kV_Rule_init dc_Rule_init pm_Rule_init an_Rule_init cd_Rule_init ct_Rule_init), sl_Rule_init⟩)
    (c_Rule_init' : PySem.W.codeIn K cd_Rule_init "Rule.__init__" = true)
    (k_Rule_init : PySem.W.keepIn K (.ref f_Rule_init) = true)
    (a_read_rule : PySem.W.nsIn K mainGlobals "read_rule" = some (some (.ref f_read_rule)))
    (l_read_rule : K.lookup f_read_rule = some ⟨oc_read_rule, od_read_rule, .func (PySem.W.fnOf "read_rule" "read_rule" (defArgs (top 17)) (defBody (top 17)) (defScope (top 17)) .none kV_read_rule dc_read_rule pm_read_rule an_read_rule cd_read_rule ct_read_rule), sl_read_rule⟩)
    (c_read_rule' : PySem.W.codeIn K cd_read_rule "read_rule" = true)
    (k_read_rule : PySem.W.keepIn K (.ref f_read_rule) = true)
    (a_Rule_eq : PySem.W.findIn K (.ref c_Rule) "__eq__" = some (some (.ref f_Rule_eq)))
    (i_Rule_eq : PySem.W.isFn K (.ref f_Rule_eq) = true)
    (l_Rule_eq : K.lookup f_Rule_eq = some ⟨oc_Rule_eq, od_Rule_eq, .func (PySem.W.fnOf "__eq__" "Rule.__eq__" (defArgs (inClass (top 10) 4)) (defBody (inClass (top 10) 4)) (defScope (inClass (top 10) 4)) .none kV_Rule_eq dc_Rule_eq pm_Rule_eq an_Rule_eq cd_Rule_eq ct_Rule_eq), sl_Rule_eq⟩)
    (c_Rule_eq' : PySem.W.codeIn K cd_Rule_eq "Rule.__eq__" = true)
    (k_Rule_eq : PySem.W.keepIn K (.ref f_Rule_eq) = true)
    (a_Rule_d : PySem.W.findIn K (.ref c_Rule) "d" = some (some (.ref p_Rule_d)))
    (g_Rule_d : PySem.W.specialIn K (.ref p_Rule_d) "__get__" = some (some (.builtin "property.__get__")))
    (t_Rule_d : PySem.W.takesIn K (.ref p_Rule_d) = some true)
    (q_Rule_d : PySem.W.recIn K p_Rule_d "property" = some (.ref f_Rule_d :: r_Rule_d))
    (l_Rule_d : K.lookup f_Rule_d = some ⟨oc_Rule_d, od_Rule_d, .func (PySem.W.fnOf "d" "Rule.d" (defArgs (inClass (top 10) 3)) (defBody (inClass (top 10) 3)) (defScope (inClass (top 10) 3)) .none kV_Rule_d dc_Rule_d pm_Rule_d an_Rule_d cd_Rule_d ct_Rule_d), sl_Rule_d⟩)
    (c_Rule_d' : PySem.W.codeIn K cd_Rule_d "Rule.d" = true)
    (k_Rule_d : PySem.W.keepIn K (.ref f_Rule_d) = true)
    (a_Rule_b : PySem.W.findIn K (.ref c_Rule) "b" = some (some (.ref p_Rule_b)))
    (g_Rule_b : PySem.W.specialIn K (.ref p_Rule_b) "__get__" = some (some (.builtin "property.__get__")))
    (t_Rule_b : PySem.W.takesIn K (.ref p_Rule_b) = some true)
    (q_Rule_b : PySem.W.recIn K p_Rule_b "property" = some (.ref f_Rule_b :: r_Rule_b))
    (l_Rule_b : K.lookup f_Rule_b = some ⟨oc_Rule_b, od_Rule_b, .func (PySem.W.fnOf "b" "Rule.b" (defArgs (inClass (top 10) 2)) (defBody (inClass (top 10) 2)) (defScope (inClass (top 10) 2)) .none kV_Rule_b dc_Rule_b pm_Rule_b an_Rule_b cd_Rule_b ct_Rule_b), sl_Rule_b⟩)
    (c_Rule_b' : PySem.W.codeIn K cd_Rule_b "Rule.b" = true)
    (k_Rule_b : PySem.W.keepIn K (.ref f_Rule_b) = true)
    (a_Rule_a : PySem.W.findIn K (.ref c_Rule) "a" = some (some (.ref p_Rule_a)))
    (g_Rule_a : PySem.W.specialIn K (.ref p_Rule_a) "__get__" = some (some (.builtin "property.__get__")))
    (t_Rule_a : PySem.W.takesIn K (.ref p_Rule_a) = some true)
    (q_Rule_a : PySem.W.recIn K p_Rule_a "property" = some (.ref f_Rule_a :: r_Rule_a))
    (l_Rule_a : K.lookup f_Rule_a = some ⟨oc_Rule_a, od_Rule_a, .func (PySem.W.fnOf "a" "Rule.a" (defArgs (inClass (top 10) 1)) (defBody (inClass (top 10) 1)) (defScope (inClass (top 10) 1)) .none kV_Rule_a dc_Rule_a pm_Rule_a an_Rule_a cd_Rule_a ct_Rule_a), sl_Rule_a⟩)
    (c_Rule_a' : PySem.W.codeIn K cd_Rule_a "Rule.a" = true)
    (k_Rule_a : PySem.W.keepIn K (.ref f_Rule_a) = true)
    (a_law_is_integer : PySem.W.nsIn K mainGlobals "_law_is_integer" = some (some (.ref f_law_is_integer)))
    (l_law_is_integer : K.lookup f_law_is_integer = some ⟨oc_law_is_integer, od_law_is_integer, .func (PySem.W.fnOf "_law_is_integer" "_law_is_integer" (defArgs (top 23)) (defBody (top 23)) (defScope (top 23)) .none kV_law_is_integer dc_law_is_integer pm_law_is_integer an_law_is_integer cd_law_is_integer ct_law_is_integer), sl_law_is_integer⟩)
    (c_law_is_integer' : PySem.W.codeIn K cd_law_is_integer "_law_is_integer" = true)
    (k_law_is_integer : PySem.W.keepIn K (.ref f_law_is_integer) = true)
    (a_show_rule : PySem.W.nsIn K mainGlobals "show_rule" = some (some (.ref f_show_rule)))
    (l_show_rule : K.lookup f_show_rule = some ⟨oc_show_rule, od_show_rule, .func (PySem.W.fnOf "show_rule" "show_rule" (defArgs (top 12)) (defBody (top 12)) (defScope (top 12)) .none kV_show_rule dc_show_rule pm_show_rule an_show_rule cd_show_rule ct_show_rule), sl_show_rule⟩)
    (c_show_rule' : PySem.W.codeIn K cd_show_rule "show_rule" = true)
    (k_show_rule : PySem.W.keepIn K (.ref f_show_rule) = true)
    (a_law_right_19 : PySem.W.nsIn K mainGlobals "_law_right" = some (some (.ref f_law_right_19)))
    (l_law_right_19 : K.lookup f_law_right_19 = some ⟨oc_law_right_19, od_law_right_19, .func (PySem.W.fnOf "_law_right" "_law_right" (defArgs (top 24)) (defBody (top 24)) (defScope (top 24)) .none kV_law_right_19 dc_law_right_19 pm_law_right_19 an_law_right_19 cd_law_right_19 ct_law_right_19), sl_law_right_19⟩)
    (c_law_right_19' : PySem.W.codeIn K cd_law_right_19 "_law_right" = true)
    (k_law_right_19 : PySem.W.keepIn K (.ref f_law_right_19) = true)
    (a_law_k65 : PySem.W.nsIn K mainGlobals "law" = some (some (.ref f_law_k65)))
    (l_law_k65 : K.lookup f_law_k65 = some ⟨oc_law_k65, od_law_k65, .func (PySem.W.fnOf "law" "law" (defArgs (top 25)) (defBody (top 25)) (defScope (top 25)) .none kV_law_k65 dc_law_k65 pm_law_k65 an_law_k65 cd_law_k65 ct_law_k65), sl_law_k65⟩)
    (c_law_k65' : PySem.W.codeIn K cd_law_k65 "law" = true)
    (k_law_k65 : PySem.W.keepIn K (.ref f_law_k65) = true)
    (ic_Rule : PySem.W.isClsIn K c_Rule = true)
    (ty_Rule : PySem.W.typeIn K (.ref c_Rule) = some (.type "type"))
    (su_Rule_Rule : PySem.W.subIn K (.ref c_Rule) (.ref c_Rule) = some true)
    (gt_class : PySem.W.specialIn K (.builtin "object.__class__") "__get__" = some (some (.builtin "getset_descriptor.__get__")))
    (tk_class : PySem.W.takesIn K (.builtin "object.__class__") = some true)
    (hc_Rule : PySem.W.findIn K (.ref c_Rule) "__class__" = some (some (.builtin "object.__class__")))
    (hm_Rule : PySem.W.mroIn K c_Rule (.type "object") = some true)
    (z_bool : PySem.W.nsIn K mainGlobals "bool" = some none)
    (z_int : PySem.W.nsIn K mainGlobals "int" = some none)
    (z_isinstance : PySem.W.nsIn K mainGlobals "isinstance" = some none)
    (z_len : PySem.W.nsIn K mainGlobals "len" = some none)
    (z_max : PySem.W.nsIn K mainGlobals "max" = some none)
    (z_range : PySem.W.nsIn K mainGlobals "range" = some none)
    (z_str : PySem.W.nsIn K mainGlobals "str" = some none)
    (n_Rule_by_column : PySem.W.findIn K (.ref c_Rule) "by_column" = some none)
    (n_Rule_by_row : PySem.W.findIn K (.ref c_Rule) "by_row" = some none)
    (n_Rule_start : PySem.W.findIn K (.ref c_Rule) "start" = some none) :
    ∃ fd : FuncData, (∀ (s : Shared) (v : Value), BindsTo s fd ⟨[v], []⟩ [("script", v)]) ∧ ∀ base : Heap, K.In base → base.Ns mainGlobals mg → FnOk l.prog w K mg base CX0 5 fa fd ["script"] (spLaw K good) := by
  have e := hfa.symm.trans (PySem.W.mg_of X G a_law_k65)
  cases e
  have gC_Rule := PySem.W.mg_of X G aC_Rule
  have cl_Rule : Cls K c_Rule := ⟨pg_Rule, hd_Rule, po_Rule, sa_Rule⟩
  have a_by_column : ClsOk K mg ["Rule"] "by_column" := by
    intro c hc C hC
    simp only [List.mem_cons, List.not_mem_nil, or_false] at hc
    subst hc
    rw [gC_Rule] at hC
    cases hC
    exact ⟨cl_Rule, n_Rule_by_column⟩
  have a_by_row : ClsOk K mg ["Rule"] "by_row" := by
    intro c hc C hC
    simp only [List.mem_cons, List.not_mem_nil, or_false] at hc
    subst hc
    rw [gC_Rule] at hC
    cases hC
    exact ⟨cl_Rule, n_Rule_by_row⟩
  have a_start : ClsOk K mg ["Rule"] "start" := by
    intro c hc C hC
    simp only [List.mem_cons, List.not_mem_nil, or_false] at hc
    subst hc
    rw [gC_Rule] at hC
    cases hC
    exact ⟨cl_Rule, n_Rule_start⟩
  have is_Rule : IsOk K mg "Rule" ["Rule"] [] := by
    refine ⟨fun C h => ?_, fun C c C2 h hc h2 => ?_, fun c C2 hc h2 => ?_, fun C c C2 h hc h2 => ?_⟩
    · rw [gC_Rule] at h
      cases h
      exact ⟨ic_Rule, ty_Rule⟩
    · rw [gC_Rule] at h
      cases h
      simp only [List.mem_cons, List.not_mem_nil, or_false] at hc
      subst hc
      rw [gC_Rule] at h2
      cases h2
      exact su_Rule_Rule
    · rcases hc with hc | hc
      · simp only [List.mem_cons, List.not_mem_nil, or_false] at hc
        subst hc
        rw [gC_Rule] at h2
        cases h2
        exact ⟨cl_Rule, hc_Rule, gt_class, tk_class, hm_Rule⟩
      · cases hc
    · rw [gC_Rule] at h
      cases h
      cases hc
  have gq_MOST_DIGITS : GcI mg "MOST_DIGITS" (60) := ⟨_, PySem.W.mg_of X G co_MOST_DIGITS⟩
  have T : Txt K mg c_Rule := ⟨PySem.W.mg_none_of X G z_bool, PySem.W.mg_none_of X G z_int, PySem.W.mg_none_of X G z_isinstance, PySem.W.mg_none_of X G z_len, PySem.W.mg_none_of X G z_max, PySem.W.mg_none_of X G z_range, PySem.W.mg_none_of X G z_str, a_by_column, a_by_row, a_start, is_Rule, gC_Rule, gq_MOST_DIGITS⟩
  have F_law_well := fun_mk (st := (top 19)) l_law_well c_law_well' k_law_well
  have b_law_well := F_law_well.binds (ps := ["script", "k"]) fun _ _ _ _ _ _ us hl => match us, hl with | [_, _], _ => rfl
  have F_law_dip := fun_mk (st := (top 20)) l_law_dip c_law_dip' k_law_dip
  have b_law_dip := F_law_dip.binds (ps := ["well", "many"]) fun _ _ _ _ _ _ us hl => match us, hl with | [_, _], _ => rfl
  have F_law_great_4 := fun_mk (st := (top 21)) l_law_great_4 c_law_great_4' k_law_great_4
  have b_law_great_4 := F_law_great_4.binds (ps := ["well", "limit"]) fun _ _ _ _ _ _ us hl => match us, hl with | [_, _], _ => rfl
  have F_law_signed := fun_mk (st := (top 22)) l_law_signed c_law_signed' k_law_signed
  have b_law_signed := F_law_signed.binds (ps := ["well", "digits"]) fun _ _ _ _ _ _ us hl => match us, hl with | [_, _], _ => rfl
  have F_integer := fun_mk (st := (top 15)) l_integer c_integer' k_integer
  have b_integer := F_integer.binds (ps := ["word", "text"]) fun _ _ _ _ _ _ us hl => match us, hl with | [_, _], _ => rfl
  have F_integers := fun_mk (st := (top 16)) l_integers c_integers' k_integers
  have b_integers := F_integers.binds (ps := ["words", "text"]) fun _ _ _ _ _ _ us hl => match us, hl with | [_, _], _ => rfl
  have F_Rule_init := fun_mk (st := (inClass (top 10) 0)) l_Rule_init c_Rule_init' k_Rule_init
  have b_Rule_init := F_Rule_init.binds (ps := ["self", "a", "b", "d"]) fun _ _ _ _ _ _ us hl => match us, hl with | [_, _, _, _], _ => rfl
  have F_read_rule := fun_mk (st := (top 17)) l_read_rule c_read_rule' k_read_rule
  have b_read_rule := F_read_rule.binds (ps := ["text"]) fun _ _ _ _ _ _ us hl => match us, hl with | [_], _ => rfl
  have F_Rule_eq := fun_mk (st := (inClass (top 10) 4)) l_Rule_eq c_Rule_eq' k_Rule_eq
  have b_Rule_eq := F_Rule_eq.binds (ps := ["self", "other"]) fun _ _ _ _ _ _ us hl => match us, hl with | [_, _], _ => rfl
  have F_Rule_d := fun_mk (st := (inClass (top 10) 3)) l_Rule_d c_Rule_d' k_Rule_d
  have b_Rule_d := F_Rule_d.binds (ps := ["self"]) fun _ _ _ _ _ _ us hl => match us, hl with | [_], _ => rfl
  have F_Rule_b := fun_mk (st := (inClass (top 10) 2)) l_Rule_b c_Rule_b' k_Rule_b
  have b_Rule_b := F_Rule_b.binds (ps := ["self"]) fun _ _ _ _ _ _ us hl => match us, hl with | [_], _ => rfl
  have F_Rule_a := fun_mk (st := (inClass (top 10) 1)) l_Rule_a c_Rule_a' k_Rule_a
  have b_Rule_a := F_Rule_a.binds (ps := ["self"]) fun _ _ _ _ _ _ us hl => match us, hl with | [_], _ => rfl
  have F_law_is_integer := fun_mk (st := (top 23)) l_law_is_integer c_law_is_integer' k_law_is_integer
  have b_law_is_integer := F_law_is_integer.binds (ps := ["told"]) fun _ _ _ _ _ _ us hl => match us, hl with | [_], _ => rfl
  have F_show_rule := fun_mk (st := (top 12)) l_show_rule c_show_rule' k_show_rule
  have b_show_rule := F_show_rule.binds (ps := ["rule"]) fun _ _ _ _ _ _ us hl => match us, hl with | [_], _ => rfl
  have F_law_right_19 := fun_mk (st := (top 24)) l_law_right_19 c_law_right_19' k_law_right_19
  have b_law_right_19 := F_law_right_19.binds (ps := ["a", "b", "d"]) fun _ _ _ _ _ _ us hl => match us, hl with | [_, _, _], _ => rfl
  have F_law_k65 := fun_mk (st := (top 25)) l_law_k65 c_law_k65' k_law_k65
  have b_law_k65 := F_law_k65.binds (ps := ["script"]) fun _ _ _ _ _ _ us hl => match us, hl with | [_], _ => rfl
  refine ⟨PySem.W.fnOf "law" "law" (defArgs (top 25)) (defBody (top 25)) (defScope (top 25)) .none kV_law_k65 dc_law_k65 pm_law_k65 an_law_k65 cd_law_k65 ct_law_k65, fun s v => .of_eq rfl, fun base _ _ => ?_⟩
  have o_law_well := ok_law_well (P := l.prog) (w := w) (base := base) T F_law_well
  have h_law_well : KnF l.prog w K mg base f_law_well _ "_law_well" ["script", "k"] false 1 m_law_well := ⟨o_law_well, PySem.W.mg_of X G a_law_well, k_law_well, b_law_well⟩
  have o_law_dip := ok_law_dip (P := l.prog) (w := w) (base := base) T F_law_dip
  have h_law_dip : KnF l.prog w K mg base f_law_dip _ "_law_dip" ["well", "many"] true 1 m_law_dip := ⟨o_law_dip, PySem.W.mg_of X G a_law_dip, k_law_dip, b_law_dip⟩
  have o_law_great_4 := ok_law_great_4 (P := l.prog) (w := w) (base := base) T h_law_dip F_law_great_4
  have h_law_great_4 : KnF l.prog w K mg base f_law_great_4 _ "_law_great" ["well", "limit"] true 2 m_law_great_4 := ⟨o_law_great_4, PySem.W.mg_of X G a_law_great_4, k_law_great_4, b_law_great_4⟩
  have o_law_signed := ok_law_signed (P := l.prog) (w := w) (base := base) T h_law_dip h_law_great_4 F_law_signed
  have h_law_signed : KnF l.prog w K mg base f_law_signed _ "_law_signed" ["well", "digits"] true 3 m_law_signed := ⟨o_law_signed, PySem.W.mg_of X G a_law_signed, k_law_signed, b_law_signed⟩
  have o_integer := ok_integer (P := l.prog) (w := w) (base := base) T F_integer
  have h_integer : KnF l.prog w K mg base f_integer _ "integer" ["word", "text"] false 1 m_integer := ⟨o_integer, PySem.W.mg_of X G a_integer, k_integer, b_integer⟩
  have o_integers := ok_integers (P := l.prog) (w := w) (base := base) T h_integer F_integers
  have h_integers : KnF l.prog w K mg base f_integers _ "integers" ["words", "text"] false 2 m_integers := ⟨o_integers, PySem.W.mg_of X G a_integers, k_integers, b_integers⟩
  have o_Rule_init := ok_Rule_init (P := l.prog) (w := w) (base := base) T F_Rule_init
  have h_Rule_init : KnC l.prog w K mg base c_Rule f_Rule_init _ "Rule" ["self", "a", "b", "d"] 1 m_Rule_init := ⟨o_Rule_init, gC_Rule, ⟨mk_Rule, a_Rule_init, i_Rule_init, kc_Rule⟩, b_Rule_init⟩
  have o_read_rule := ok_read_rule (P := l.prog) (w := w) (base := base) T h_integers h_Rule_init F_read_rule
  have h_read_rule : KnF l.prog w K mg base f_read_rule _ "read_rule" ["text"] false 3 m_read_rule := ⟨o_read_rule, PySem.W.mg_of X G a_read_rule, k_read_rule, b_read_rule⟩
  have o_Rule_eq := ok_Rule_eq (P := l.prog) (w := w) (base := base) T F_Rule_eq
  have h_Rule_eq : KnM l.prog w K mg base c_Rule f_Rule_eq _ "Rule" "__eq__" ["self", "other"] false 1 m_Rule_eq := ⟨o_Rule_eq, gC_Rule, cl_Rule, ⟨a_Rule_eq, i_Rule_eq, k_Rule_eq⟩, b_Rule_eq⟩
  have o_Rule_d := ok_Rule_d (P := l.prog) (w := w) (base := base) T F_Rule_d
  have h_Rule_d : KnP l.prog w K mg base c_Rule p_Rule_d f_Rule_d _ "Rule" "d" ["self"] false 1 m_Rule_d := ⟨o_Rule_d, gC_Rule, cl_Rule, ⟨a_Rule_d, g_Rule_d, t_Rule_d, ⟨_, q_Rule_d⟩⟩, b_Rule_d⟩
  have o_Rule_b := ok_Rule_b (P := l.prog) (w := w) (base := base) T F_Rule_b
  have h_Rule_b : KnP l.prog w K mg base c_Rule p_Rule_b f_Rule_b _ "Rule" "b" ["self"] false 1 m_Rule_b := ⟨o_Rule_b, gC_Rule, cl_Rule, ⟨a_Rule_b, g_Rule_b, t_Rule_b, ⟨_, q_Rule_b⟩⟩, b_Rule_b⟩
  have o_Rule_a := ok_Rule_a (P := l.prog) (w := w) (base := base) T F_Rule_a
  have h_Rule_a : KnP l.prog w K mg base c_Rule p_Rule_a f_Rule_a _ "Rule" "a" ["self"] false 1 m_Rule_a := ⟨o_Rule_a, gC_Rule, cl_Rule, ⟨a_Rule_a, g_Rule_a, t_Rule_a, ⟨_, q_Rule_a⟩⟩, b_Rule_a⟩
  have o_law_is_integer := ok_law_is_integer (P := l.prog) (w := w) (base := base) T F_law_is_integer
  have h_law_is_integer : KnF l.prog w K mg base f_law_is_integer _ "_law_is_integer" ["told"] false 1 m_law_is_integer := ⟨o_law_is_integer, PySem.W.mg_of X G a_law_is_integer, k_law_is_integer, b_law_is_integer⟩
  have o_show_rule := ok_show_rule (P := l.prog) (w := w) (base := base) T h_Rule_a h_Rule_b h_Rule_d F_show_rule
  have h_show_rule : KnF l.prog w K mg base f_show_rule _ "show_rule" ["rule"] false 3 m_show_rule := ⟨o_show_rule, PySem.W.mg_of X G a_show_rule, k_show_rule, b_show_rule⟩
  have o_law_right_19 := ok_law_right_19 (P := l.prog) (w := w) (base := base) T h_read_rule h_Rule_eq h_Rule_init h_Rule_d h_Rule_b h_Rule_a h_law_is_integer h_show_rule F_law_right_19
  have h_law_right_19 : KnF l.prog w K mg base f_law_right_19 _ "_law_right" ["a", "b", "d"] false 4 m_law_right_19 := ⟨o_law_right_19, PySem.W.mg_of X G a_law_right_19, k_law_right_19, b_law_right_19⟩
  have o_law_k65 := ok_law_k65 (P := l.prog) (w := w) (base := base) T h_law_well h_law_signed h_law_right_19 h_law_great_4 h_law_dip F_law_k65
  exact law_imp o_law_k65 law
end Wk65

open PySem PySem.W PyProof.Rows
set_option maxRecDepth 100000 in
set_option maxHeartbeats 0 in
theorem PySem.Challenge.cw_rulesquares_k65_rules_are_read_holds : PySem.Challenge.rw_rulesquares_k65_rules_are_read.Holds := by
  w_on; o_law; k_head; (case hw => w_witness2)
  k_fill
  refine L2.walk_ofB (l := PySem.Challenge.rw_rulesquares_k65_rules_are_read) (n := 63) (k := 5) (x := "script") (CX := fun _ => L2.CX0) (sp := fun w => J.spLaw _ J.Good) rfl (by decide) rfl ⟨rfl, by decide, by decide⟩ (fun w h Y => PySem.W.kIn_of Y) ?F (fun _ _ a ns hl hb _ hS => ⟨a, ns, rfl, hS, ⟨hl, hb⟩, fun _ => rfl⟩) (fun _ _ _ _ _ h => h)
  case F =>
    intro w mg fa h KX G hmg
    refine' Wk65.all_mk J.law_true_k65 KX G hmg ?aC_Rule ?pg_Rule ?hd_Rule ?po_Rule ?sa_Rule ?mk_Rule ?kc_Rule ?co_MOST_DIGITS ?a_law_well ?l_law_well ?c_law_well' ?k_law_well ?a_law_dip ?l_law_dip ?c_law_dip' ?k_law_dip ?a_law_great_4 ?l_law_great_4 ?c_law_great_4' ?k_law_great_4 ?a_law_signed ?l_law_signed ?c_law_signed' ?k_law_signed ?a_integer ?l_integer ?c_integer' ?k_integer ?a_integers ?l_integers ?c_integers' ?k_integers ?a_Rule_init ?i_Rule_init ?l_Rule_init ?c_Rule_init' ?k_Rule_init ?a_read_rule ?l_read_rule ?c_read_rule' ?k_read_rule ?a_Rule_eq ?i_Rule_eq ?l_Rule_eq ?c_Rule_eq' ?k_Rule_eq ?a_Rule_d ?g_Rule_d ?t_Rule_d ?q_Rule_d ?l_Rule_d ?c_Rule_d' ?k_Rule_d ?a_Rule_b ?g_Rule_b ?t_Rule_b ?q_Rule_b ?l_Rule_b ?c_Rule_b' ?k_Rule_b ?a_Rule_a ?g_Rule_a ?t_Rule_a ?q_Rule_a ?l_Rule_a ?c_Rule_a' ?k_Rule_a ?a_law_is_integer ?l_law_is_integer ?c_law_is_integer' ?k_law_is_integer ?a_show_rule ?l_show_rule ?c_show_rule' ?k_show_rule ?a_law_right_19 ?l_law_right_19 ?c_law_right_19' ?k_law_right_19 ?a_law_k65 ?l_law_k65 ?c_law_k65' ?k_law_k65 ?ic_Rule ?ty_Rule ?su_Rule_Rule ?gt_class ?tk_class ?hc_Rule ?hm_Rule ?z_bool ?z_int ?z_isinstance ?z_len ?z_max ?z_range ?z_str ?n_Rule_by_column ?n_Rule_by_row ?n_Rule_start
    (case aC_Rule => k_is)
    (case pg_Rule => k_is)
    (case hd_Rule => k_is)
    (case po_Rule => k_is)
    (case sa_Rule => k_is)
    (case mk_Rule => k_is)
    (case kc_Rule => k_is)
    (case co_MOST_DIGITS => k_is)
    (case a_law_well => k_is)
    (case l_law_well => k_is)
    (case c_law_well' => k_is)
    (case k_law_well => k_is)
    (case a_law_dip => k_is)
    (case l_law_dip => k_is)
    (case c_law_dip' => k_is)
    (case k_law_dip => k_is)
    (case a_law_great_4 => k_is)
    (case l_law_great_4 => k_is)
    (case c_law_great_4' => k_is)
    (case k_law_great_4 => k_is)
    (case a_law_signed => k_is)
    (case l_law_signed => k_is)
    (case c_law_signed' => k_is)
    (case k_law_signed => k_is)
    (case a_integer => k_is)
    (case l_integer => k_is)
    (case c_integer' => k_is)
    (case k_integer => k_is)
    (case a_integers => k_is)
    (case l_integers => k_is)
    (case c_integers' => k_is)
    (case k_integers => k_is)
    (case a_Rule_init => k_is)
    (case i_Rule_init => k_is)
    (case l_Rule_init => k_is)
    (case c_Rule_init' => k_is)
    (case k_Rule_init => k_is)
    (case a_read_rule => k_is)
    (case l_read_rule => k_is)
    (case c_read_rule' => k_is)
    (case k_read_rule => k_is)
    (case a_Rule_eq => k_is)
    (case i_Rule_eq => k_is)
    (case l_Rule_eq => k_is)
    (case c_Rule_eq' => k_is)
    (case k_Rule_eq => k_is)
    (case a_Rule_d => k_is)
    (case g_Rule_d => k_is)
    (case t_Rule_d => k_is)
    (case q_Rule_d => k_is)
    (case l_Rule_d => k_is)
    (case c_Rule_d' => k_is)
    (case k_Rule_d => k_is)
    (case a_Rule_b => k_is)
    (case g_Rule_b => k_is)
    (case t_Rule_b => k_is)
    (case q_Rule_b => k_is)
    (case l_Rule_b => k_is)
    (case c_Rule_b' => k_is)
    (case k_Rule_b => k_is)
    (case a_Rule_a => k_is)
    (case g_Rule_a => k_is)
    (case t_Rule_a => k_is)
    (case q_Rule_a => k_is)
    (case l_Rule_a => k_is)
    (case c_Rule_a' => k_is)
    (case k_Rule_a => k_is)
    (case a_law_is_integer => k_is)
    (case l_law_is_integer => k_is)
    (case c_law_is_integer' => k_is)
    (case k_law_is_integer => k_is)
    (case a_show_rule => k_is)
    (case l_show_rule => k_is)
    (case c_show_rule' => k_is)
    (case k_show_rule => k_is)
    (case a_law_right_19 => k_is)
    (case l_law_right_19 => k_is)
    (case c_law_right_19' => k_is)
    (case k_law_right_19 => k_is)
    (case a_law_k65 => k_is)
    (case l_law_k65 => k_is)
    (case c_law_k65' => k_is)
    (case k_law_k65 => k_is)
    (case ic_Rule => k_is)
    (case ty_Rule => k_is)
    (case su_Rule_Rule => k_is)
    (case gt_class => k_is)
    (case tk_class => k_is)
    (case hc_Rule => k_is)
    (case hm_Rule => k_is)
    (case z_bool => k_is)
    (case z_int => k_is)
    (case z_isinstance => k_is)
    (case z_len => k_is)
    (case z_max => k_is)
    (case z_range => k_is)
    (case z_str => k_is)
    (case n_Rule_by_column => k_is)
    (case n_Rule_by_row => k_is)
    (case n_Rule_start => k_is)
