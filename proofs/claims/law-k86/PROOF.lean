import PyProof.Rows.All
import Wide.All
import OpenK.AllK
import Wide.FinOn
import HandS.ForMost
import HandS.Exc
import HandS.TryOnly
import HandS.TryMany
import HandS.ExcOwn
import HandS.WordsExc
import HandS.Defaults
import HandS.Dict
import KE.KDictKeyed
import HandS.TupAny
import HandS.Text
import HandS.HeadHook1
import HandS.IsInst
import HandS.Replace
import HandS.SetKeys
import PyProof.StrLawsFirst
import PyProof.ListStr
import PyProof.Rows.SetFrom
import HandS.Zip
import HandS.WordsDict
import HandS.TupLen
import KE.KStateDown
import Lean
import HandS.Base
import HandS.Call
import HandS.Ends
import HandS.More
import HandS.Words
import HandS.Head0
import HandS.Head1
import HandS.Head2
import HandS.HeadEnd
import HandS.HeadHook2
import HandS.Codes
import PySem.Challenge.RW_signwright_k86_plain_ones_and_spoilt_one
set_option Elab.async false
set_option linter.all false
set_option maxRecDepth 100000
set_option maxHeartbeats 4000000
/-! a logic of values over the hand layer: what a name holds is a value (data that never changes, or a thing that is owned), no address -/
namespace Z
open PySem PySem.Spec PyProof.Rows L2
/-- what a place holds: data that never changes, an owned list, an owned instance, a dict of ints to data, a dict of nested tuples to ints -/
inductive LV where
  | d (x : PyData)
  | l (xs : List LV)
  | o (C : Str) (fs : List (Str × LV))
  | m (kvs : List (Int × PyData))
  | n (kvs : List (NestedKey × Int))
/-- the program, the world, the written part, the module's names -/
structure Ct where
  P : Program
  w : World
  K : PySem.W.Frag
  mg : Str → Option Value
abbrev cx (X : Cx) : Ct := ⟨X.prog, X.w, X.K, X.mg⟩
abbrev Fp := Addr → Prop
def Disj (f g : Fp) : Prop := ∀ a, f a → g a → False
theorem Disj.symm {f g : Fp} (h : Disj f g) : Disj g f := fun a x y => h a y x
/-- the footprint's objects are neither in F nor in G -/
def Off (f : Fp) (F G : Hp) : Prop := ∀ a, f a → F a = none ∧ G a = none
/-! ### data over a part of the heap -/
theorem rd_mono {F F' : Hp} {a : Addr} {u : HO} (e : Same F F') (h : Rd F a u) : Rd F' a u := by
  rcases h with h | ⟨o, h⟩
  · exact Or.inl (e a _ h)
  · exact Or.inr ⟨o, e a _ h⟩
theorem sql_mono {K : PySem.W.Frag} {F F' : Hp} {a : Addr} {xs : List V} (e : Same F F') (h : SqL K F a xs) : SqL K F' a xs := h.elim (fun h => .inl (rd_mono e h)) .inr
theorem sqt_mono {K : PySem.W.Frag} {F F' : Hp} {a : Addr} {xs : List V} (e : Same F F') (h : SqT K F a xs) : SqT K F' a xs := h.elim (fun h => .inl (rd_mono e h)) .inr
mutual
theorem dp_mono {K : PySem.W.Frag} {F F' : Hp} (e : Same F F') : ∀ {v : V} {x : PyData}, Dp K F v x → Dp K F' v x
  | _, _, .non => .non
  | _, _, .bl b => .bl b
  | _, _, .int i => .int i
  | _, _, .str x => .str x
  | _, _, .lst h a => .lst (sql_mono e h) (dpAll_mono e a)
  | _, _, .tup h a => .tup (sqt_mono e h) (dpAll_mono e a)
theorem dpAll_mono {K : PySem.W.Frag} {F F' : Hp} (e : Same F F') : ∀ {vs : List V} {xs : List PyData}, DpAll K F vs xs → DpAll K F' vs xs
  | _, _, .nil => .nil
  | _, _, .cons h t => .cons (dp_mono e h) (dpAll_mono e t)
end
/-! ### dicts -/
inductive DpP (K : PySem.W.Frag) (F : Hp) : List (Key × V) → List (Int × PyData) → Prop
  | nil : DpP K F [] []
  | cons {k : Int} {v : V} {d : PyData} {kvs : List (Key × V)} {ds : List (Int × PyData)} : Dp K F v d → DpP K F kvs ds → DpP K F ((.inl k, v) :: kvs) ((k, d) :: ds)
theorem dpP_mono {K : PySem.W.Frag} {F F' : Hp} (e : Same F F') {kvs : List (Key × V)} {ds : List (Int × PyData)} (h : DpP K F kvs ds) : DpP K F' kvs ds := by
  induction h with
  | nil => exact .nil
  | cons h _ ih => exact .cons (dp_mono e h) ih
mutual
def nkD : NestedKey → PyData
  | .none => .none
  | .num i => .int i
  | .text x => .str x
  | .tup ks => .tuple (nkDs ks)
def nkDs : List NestedKey → List PyData
  | [] => []
  | k :: ks => nkD k :: nkDs ks
end
/-- the dict's own object: its entries' keys stand at these places -/
def NDict (P : Program) (w : World) (a : Addr) (xs : List (NestedKey × Addr × Int)) : HO := .ext fun h => (a == sysModules) = false ∧ (∀ x ∈ xs, x.1.depth ≤ 8) ∧ ∃ (o : Obj) (es : Array DictEntry) (ep : Nat) (vs : List (NestedKey × Addr × Value)), h.get? a = some o ∧ o.ExactDict ∧ o.data = .dict es ep ∧ es.toList = vs.map (entryOfKey (nestedKind P w)) ∧ (xs.map (·.1)).Nodup ∧
  Paired (fun (x : NestedKey × Addr × Int) (y : NestedKey × Addr × Value) => y.1 = x.1 ∧ y.2.1 = x.2.1 ∧ ∃ t, y.2.2 = .int x.2.2 t) xs vs
/-! ### what an owned thing is in the heap -/
mutual
inductive Rp (c : Ct) (F H : Hp) : V → LV → Fp → Prop
  | d {v : V} {x : PyData} : Dp c.K F v x → Rp c F H v (.d x) (fun _ => False)
  | l {a : Addr} {vs : List V} {xs : List LV} {f : Fp} : H a = some (.lst vs) → RpAll c F H vs xs f → ¬ f a → Rp c F H (.ref a) (.l xs) (fun b => b = a ∨ f b)
  | o {a C dx : Addr} {x : Str} {ns : List Str} {vs : List V} {xs : List LV} {f : Fp} : c.mg x = some (.ref C) → H a = some (.ins C dx (ns.zip vs)) → H dx = some (.own a) → dx ≠ a → ns.length = vs.length → RpAll c F H vs xs f → ¬ f a → ¬ f dx →
      Rp c F H (.ref a) (.o x (ns.zip xs)) (fun b => b = a ∨ b = dx ∨ f b)
  | m {a : Addr} {kvs : List (Key × V)} {ds : List (Int × PyData)} : H a = some (.dK kvs) → DpP c.K F kvs ds → Rp c F H (.ref a) (.m ds) (fun b => b = a)
  | n {a : Addr} {xs : List (NestedKey × Addr × Int)} {ds : List (NestedKey × Int)} : H a = some (NDict c.P c.w a xs) → (∀ x ∈ xs, Dp c.K F (.ref x.2.1) (nkD x.1)) → ds = xs.map (fun x => (x.1, x.2.2)) → Rp c F H (.ref a) (.n ds) (fun b => b = a)
inductive RpAll (c : Ct) (F H : Hp) : List V → List LV → Fp → Prop
  | nil : RpAll c F H [] [] (fun _ => False)
  | cons {v : V} {x : LV} {vs : List V} {xs : List LV} {f g : Fp} : Rp c F H v x f → RpAll c F H vs xs g → Disj f g → RpAll c F H (v :: vs) (x :: xs) (fun a => f a ∨ g a)
end
mutual
theorem rp_frame {c : Ct} {F F' H H' : Hp} (e : Same F F') : ∀ {v : V} {x : LV} {f : Fp}, Rp c F H v x f → (∀ a, f a → H' a = H a) → Rp c F' H' v x f
  | _, _, _, .d h, _ => .d (dp_mono e h)
  | _, _, _, .l h r n, k => .l ((k _ (.inl rfl)).trans h) (rpAll_frame e r fun a ha => k a (.inr ha)) n
  | _, _, _, .o m h h2 ne l r n n2, k => .o m ((k _ (.inl rfl)).trans h) ((k _ (.inr (.inl rfl))).trans h2) ne l (rpAll_frame e r fun a ha => k a (.inr (.inr ha))) n n2
  | _, _, _, .m h d, k => .m ((k _ rfl).trans h) (dpP_mono e d)
  | _, _, _, .n h d e2, k => .n ((k _ rfl).trans h) (fun x hx => dp_mono e (d x hx)) e2
theorem rpAll_frame {c : Ct} {F F' H H' : Hp} (e : Same F F') : ∀ {vs : List V} {xs : List LV} {f : Fp}, RpAll c F H vs xs f → (∀ a, f a → H' a = H a) → RpAll c F' H' vs xs f
  | _, _, _, .nil, _ => .nil
  | _, _, _, .cons h r n, k => .cons (rp_frame e h fun a ha => k a (.inl ha)) (rpAll_frame e r fun a ha => k a (.inr ha)) n
end
mutual
theorem rp_there {c : Ct} {F H : Hp} : ∀ {v : V} {x : LV} {f : Fp}, Rp c F H v x f → ∀ a, f a → ∃ o, H a = some o
  | _, _, _, .d _, _, h => h.elim
  | _, _, _, .l h r n, b, hb => hb.elim (fun e => ⟨_, (congrArg H e).trans h⟩) (rpAll_there r b)
  | _, _, _, .o m h h2 ne l r n n2, b, hb => hb.elim (fun e => ⟨_, (congrArg H e).trans h⟩) fun hb => hb.elim (fun e => ⟨_, (congrArg H e).trans h2⟩) (rpAll_there r b)
  | _, _, _, .m h d, b, hb => ⟨_, (congrArg H hb).trans h⟩
  | _, _, _, .n h d e2, b, hb => ⟨_, (congrArg H hb).trans h⟩
theorem rpAll_there {c : Ct} {F H : Hp} : ∀ {vs : List V} {xs : List LV} {f : Fp}, RpAll c F H vs xs f → ∀ a, f a → ∃ o, H a = some o
  | _, _, _, .nil, _, h => h.elim
  | _, _, _, .cons h r n, b, hb => hb.elim (rp_there h b) (rpAll_there r b)
end
theorem rpAll_len {c : Ct} {F H : Hp} : ∀ {vs : List V} {xs : List LV} {f : Fp}, RpAll c F H vs xs f → vs.length = xs.length
  | _, _, _, .nil => rfl
  | _, _, _, .cons _ r _ => congrArg Nat.succ (rpAll_len r)
/-! ### slots -/
/-- a slot: nothing is known | it holds this | it holds this, at this value for good (an owned parameter) -/
inductive Sl where
  | no
  | is (x : LV)
  | lk (v : V) (x : LV)
abbrev LSt := List Sl
inductive RpS (c : Ct) (F H : Hp)   : L2.St → LSt → Fp → Prop
  | nil : RpS c F H [] [] (fun _ => False)
  | no {o : Option V} {σ : L2.St} {δ : LSt} {g : Fp} : RpS c F H σ δ g → RpS c F H (o :: σ) (.no :: δ) g
  | is {v : V} {x : LV} {σ : L2.St} {δ : LSt} {f g : Fp} : Rp c F H v x f → RpS c F H σ δ g → Disj f g → RpS c F H (some v :: σ) (.is x :: δ) (fun a => f a ∨ g a)
  | lk {v : V} {x : LV} {σ : L2.St} {δ : LSt} {f g : Fp} : Rp c F H v x f → RpS c F H σ δ g → Disj f g → RpS c F H (some v :: σ) (.lk v x :: δ) (fun a => f a ∨ g a)
section
variable {c : Ct} {F F' H H' : Hp}
theorem rpS_frame (e : Same F F') : ∀ {σ : L2.St} {δ : LSt} {f : Fp}, RpS c F H σ δ f → (∀ a, f a → H' a = H a) → RpS c F' H' σ δ f
  | _, _, _, .nil, _ => .nil
  | _, _, _, .no r, k => .no (rpS_frame e r k)
  | _, _, _, .is h r n, k => .is (rp_frame e h fun a ha => k a (.inl ha)) (rpS_frame e r fun a ha => k a (.inr ha)) n
  | _, _, _, .lk h r n, k => .lk (rp_frame e h fun a ha => k a (.inl ha)) (rpS_frame e r fun a ha => k a (.inr ha)) n
theorem rpS_there : ∀ {σ : L2.St} {δ : LSt} {f : Fp}, RpS c F H σ δ f → ∀ a, f a → ∃ o, H a = some o
  | _, _, _, .nil, _, h => h.elim
  | _, _, _, .no r, a, h => rpS_there r a h
  | _, _, _, .is h r n, b, hb => hb.elim (rp_there h b) (rpS_there r b)
  | _, _, _, .lk h r n, b, hb => hb.elim (rp_there h b) (rpS_there r b)
theorem rpS_len : ∀ {σ : L2.St} {δ : LSt} {f : Fp}, RpS c F H σ δ f → σ.length = δ.length
  | _, _, _, .nil => rfl
  | _, _, _, .no r => congrArg Nat.succ (rpS_len r)
  | _, _, _, .is _ r _ => congrArg Nat.succ (rpS_len r)
  | _, _, _, .lk _ r _ => congrArg Nat.succ (rpS_len r)
def Sl.val : Sl → Option LV
  | .no => none
  | .is x => some x
  | .lk _ x => some x
/-- the same slot with another value (a locked one stays locked) -/
def Sl.up : Sl → LV → Sl
  | .lk v _, y => .lk v y
  | _, y => .is y
def valAt (δ : LSt) (i : Nat) : Option LV := (δ[i]?).bind Sl.val
/-- take the slot's thing out -/
theorem rpS_get : ∀ {σ : L2.St} {δ : LSt} {f : Fp} {i : Nat} {s : Sl} {x : LV}, RpS c F H σ δ f → δ[i]? = some s → s.val = some x → ∃ v g r, σ[i]? = some (some v) ∧ Rp c F H v x g ∧ RpS c F H σ (δ.set i .no) r ∧ Disj g r ∧ (∀ a, f a ↔ (g a ∨ r a)) ∧ ∀ u y, s = .lk u y → u = v
  | _, _, _, 0, _, _, .no _, e, hx => by cases e; cases hx
  | _, _, _, 0, _, _, .is h r n, e, hx => by
    cases e; cases hx
    exact ⟨_, _, _, rfl, h, .no r, n, fun a => Iff.rfl, fun _ _ z => by cases z⟩
  | _, _, _, 0, _, _, .lk h r n, e, hx => by
    cases e; cases hx
    exact ⟨_, _, _, rfl, h, .no r, n, fun a => Iff.rfl, fun _ _ z => by cases z; rfl⟩
  | _, _, _, i + 1, _, _, .no r, e, hx => by
    obtain ⟨v, g, r', e1, e2, e3, e4, e5, e6⟩ := rpS_get (i := i) r e hx
    exact ⟨v, g, r', e1, e2, .no e3, e4, e5, e6⟩
  | _, _, _, i + 1, _, _, .is (f := f1) h r n, e, hx => by
    obtain ⟨v, g, r', e1, e2, e3, e4, e5, e6⟩ := rpS_get (i := i) r e hx
    refine ⟨v, g, fun a => f1 a ∨ r' a, e1, e2, .is h e3 fun a p q => n a p ((e5 a).mpr (.inr q)), fun a p q => ?_, fun a => ?_, e6⟩
    · rcases q with q | q
      · exact n a q ((e5 a).mpr (.inl p))
      · exact e4 a p q
    · have := e5 a
      constructor
      · rintro (p | p)
        · exact .inr (.inl p)
        · exact (this.mp p).elim .inl fun z => .inr (.inr z)
      · rintro (p | p | p)
        · exact .inr (this.mpr (.inl p))
        · exact .inl p
        · exact .inr (this.mpr (.inr p))
  | _, _, _, i + 1, _, _, .lk (f := f1) h r n, e, hx => by
    obtain ⟨v, g, r', e1, e2, e3, e4, e5, e6⟩ := rpS_get (i := i) r e hx
    refine ⟨v, g, fun a => f1 a ∨ r' a, e1, e2, .lk h e3 fun a p q => n a p ((e5 a).mpr (.inr q)), fun a p q => ?_, fun a => ?_, e6⟩
    · rcases q with q | q
      · exact n a q ((e5 a).mpr (.inl p))
      · exact e4 a p q
    · have := e5 a
      constructor
      · rintro (p | p)
        · exact .inr (.inl p)
        · exact (this.mp p).elim .inl fun z => .inr (.inr z)
      · rintro (p | p | p)
        · exact .inr (this.mpr (.inl p))
        · exact .inl p
        · exact .inr (this.mpr (.inr p))
/-- put a thing into a slot -/
theorem rpS_put : ∀ {σ : L2.St} {δ : LSt} {f g : Fp} {i : Nat} {v : V} {x : LV} {s : Sl}, RpS c F H σ (δ.set i .no) f → Rp c F H v x g → Disj g f → i < δ.length → (s = .is x ∨ s = .lk v x) → ∃ r, RpS c F H (σ.set i (some v)) (δ.set i s) r ∧ ∀ a, r a ↔ (g a ∨ f a)
  | _, [], _, _, _, _, _, _, _, _, _, hi, _ => absurd hi (Nat.not_lt_zero _)
  | _, y :: δ, _, _, 0, v, x, s, r, h, n, _, hs => by
    have r' : RpS c F H _ (Sl.no :: δ) _ := r
    cases r' with
    | no r =>
      rcases hs with rfl | rfl
      · exact ⟨_, .is h r n, fun a => Iff.rfl⟩
      · exact ⟨_, .lk h r n, fun a => Iff.rfl⟩
  | _, y :: δ, _, g, i + 1, v, x, s, r, h, n, hi, hs => by
    have r' : RpS c F H _ (y :: δ.set i .no) _ := r
    cases r' with
    | no r =>
      obtain ⟨f', e1, e2⟩ := rpS_put (i := i) r h n (Nat.lt_of_succ_lt_succ hi) hs
      exact ⟨f', .no e1, e2⟩
    | @is _ _ _ _ f1 f2 h1 r0 n1 =>
      obtain ⟨f', e1, e2⟩ := rpS_put (i := i) r0 h (fun a p q => n a p (.inr q)) (Nat.lt_of_succ_lt_succ hi) hs
      refine ⟨_, .is h1 e1 fun a p q => ?_, fun a => ?_⟩
      · rcases (e2 a).mp q with q | q
        · exact n a q (.inl p)
        · exact n1 a p q
      · have := e2 a
        constructor
        · rintro (p | p)
          · exact .inr (.inl p)
          · exact (this.mp p).elim .inl fun z => .inr (.inr z)
        · rintro (p | p | p)
          · exact .inr (this.mpr (.inl p))
          · exact .inl p
          · exact .inr (this.mpr (.inr p))
    | @lk _ _ _ _ f1 f2 h1 r0 n1 =>
      obtain ⟨f', e1, e2⟩ := rpS_put (i := i) r0 h (fun a p q => n a p (.inr q)) (Nat.lt_of_succ_lt_succ hi) hs
      refine ⟨_, .lk h1 e1 fun a p q => ?_, fun a => ?_⟩
      · rcases (e2 a).mp q with q | q
        · exact n a q (.inl p)
        · exact n1 a p q
      · have := e2 a
        constructor
        · rintro (p | p)
          · exact .inr (.inl p)
          · exact (this.mp p).elim .inl fun z => .inr (.inr z)
        · rintro (p | p | p)
          · exact .inr (this.mpr (.inl p))
          · exact .inl p
          · exact .inr (this.mpr (.inr p))
/-- forget a slot -/
theorem rpS_drop {σ : L2.St} {δ : LSt} {f : Fp} {i : Nat} (r : RpS c F H σ δ f) : ∃ g, RpS c F H σ (δ.set i .no) g ∧ ∀ a, g a → f a := by
  cases e : δ[i]? with
  | none =>
    rw [List.set_eq_of_length_le (List.getElem?_eq_none_iff.mp e)]
    exact ⟨f, r, fun _ h => h⟩
  | some s =>
    cases hx : s.val with
    | none =>
      have : s = .no := by cases s <;> first | rfl | cases hx
      subst this
      have : δ.set i .no = δ := by
        apply List.ext_getElem?
        intro j
        by_cases hj : i = j
        · subst hj
          rw [List.getElem?_set_self (List.getElem?_eq_some_iff.mp e).1, e]
        · rw [List.getElem?_set_ne hj]
      rw [this]
      exact ⟨f, r, fun _ h => h⟩
    | some x =>
      obtain ⟨v, g, r', _, _, h, _, k, _⟩ := rpS_get r e hx
      exact ⟨r', h, fun a ha => (k a).mpr (.inr ha)⟩
theorem rpS_nones : ∀ (σ : L2.St), RpS c F H σ (σ.map fun _ => .no) (fun _ => False)
  | [] => .nil
  | _ :: σ => .no (rpS_nones σ)
end
end Z
set_option maxHeartbeats 4000000
namespace Z
open PySem PySem.Spec PyProof.Rows L2
/-! ### frames -/
open Classical in
/-- G and what H has at f -/
noncomputable def gadd (G H : Hp) (f : Fp) : Hp := fun a => if f a then H a else G a
def There (f : Fp) (H : Hp) : Prop := ∀ a, f a → ∃ o, H a = some o
section
variable {F F' G H H' : Hp} {f g : Fp}
theorem gadd_in {a : Addr} (h : f a) : gadd G H f a = H a := if_pos h
theorem gadd_out {a : Addr} (h : ¬ f a) : gadd G H f a = G a := if_neg h
theorem gadd_same (s : Same G H) : Same (gadd G H f) H := fun a o e => by
  by_cases h : f a
  · rw [gadd_in h] at e; exact e
  · rw [gadd_out h] at e; exact s a o e
theorem gadd_keep (t : There f H) (s : Same (gadd G H f) H') : ∀ a, f a → H' a = H a := fun a h => by
  obtain ⟨o, e⟩ := t a h
  rw [e]
  exact s a o (by rw [gadd_in h]; exact e)
theorem gadd_g (o : Off f F G) (s : Same (gadd G H f) H') : Same G H' := fun a u e => s a u (by
  rw [gadd_out fun h => by rw [(o a h).2] at e; cases e]
  exact e)
structure FX (G F F' : Hp) : Prop where
  up : Same F F'
  new : ∀ a o, F' a = some o → F a = some o ∨ G a = none
theorem FX.refl : FX G F F := ⟨Same.refl _, fun _ _ e => .inl e⟩
theorem FX.trans {F'' : Hp} (x : FX G F F') (y : FX G F' F'') : FX G F F'' := ⟨x.up.trans y.up, fun a o e => (y.new a o e).elim (x.new a o) .inr⟩
theorem gadd_fx (t : There f H) (o : Off f F G) (x : FX (gadd G H f) F F') : FX G F F' ∧ Off f F' G := by
  refine ⟨⟨x.up, fun a u e => (x.new a u e).elim .inl fun n => .inr ?_⟩, fun a h => ⟨?_, (o a h).2⟩⟩
  · by_cases h : f a
    · exact (o a h).2
    · rw [gadd_out h] at n; exact n
  · cases e : F' a with
    | none => rfl
    | some u =>
      rcases x.new a u e with q | q
      · rw [(o a h).1] at q; cases q
      · obtain ⟨u', e'⟩ := t a h
        rw [gadd_in h, e'] at q; cases q
theorem gadd_off (t : There f H) (o : Off f F G) (x : Off g F' (gadd G H f)) : Off g F' G ∧ Disj f g := by
  refine ⟨fun a h => ⟨(x a h).1, ?_⟩, fun a p q => ?_⟩
  · by_cases k : f a
    · exact (o a k).2
    · have := (x a h).2
      rw [gadd_out k] at this; exact this
  · obtain ⟨u, e⟩ := t a p
    have := (x a q).2
    rw [gadd_in p, e] at this; cases this
theorem gadd_offmk (o : Off g F G) (d : Disj f g) : Off g F (gadd G H f) := fun a h => ⟨(o a h).1, by rw [gadd_out fun k => d a k h]; exact (o a h).2⟩
theorem Off.sub {f g : Fp} (o : Off f F G) (s : ∀ a, g a → f a) : Off g F G := fun a h => o a (s a h)
theorem Off.fx (o : Off f F G) (x : FX G F F') (h : ∀ a, f a → F' a = none) : Off f F' G := fun a q => ⟨h a q, (o a q).2⟩
theorem Off.or {f g : Fp} (o : Off f F G) (p : Off g F G) : Off (fun a => f a ∨ g a) F G := fun a h => h.elim (o a) (p a)
theorem Off.nil : Off (fun _ => False) F G := fun _ h => h.elim
theorem Disj.nil : Disj (fun _ => False) f := fun _ h => h.elim
theorem Disj.nil' : Disj f (fun _ => False) := fun _ _ h => h.elim
end
/-! ### the state of a body, what comes of a piece of it -/
structure Sto (c : Ct) (F G H : Hp) (σ : L2.St) (δ : LSt) (f : Fp) : Prop where
  fh : Same F H
  gh : Same G H
  rp : RpS c F H σ δ f
  off : Off f F G
def ResV (c : Ct) (F G H' : Hp) (v : V) (x : LV) : Prop := ∃ F' g, FX G F F' ∧ Same F' H' ∧ Same G H' ∧ Rp c F' H' v x g ∧ Off g F' G
def Res (c : Ct) (F G H' : Hp) (σ : L2.St) (v : V) (x : LV) (δ' : LSt) : Prop := ∃ F' f g, FX G F F' ∧ Sto c F' G H' σ δ' f ∧ Rp c F' H' v x g ∧ Disj g f ∧ Off g F' G
def Aft (c : Ct) (F G H' : Hp) (σ : L2.St) (δ' : LSt) : Prop := ∃ F' f, FX G F F' ∧ Sto c F' G H' σ δ' f
abbrev LW := Value → LSt → Prop
abbrev W0 : LW := fun _ _ => False
def LTakes (X : Cx) (F G : Hp) (W : LW) : Prop := Takes X (fun cls _ σ H => ∃ δ, Aft (cx X) F G H σ δ ∧ W cls δ)
theorem ltakes0 {X : Cx} {F G : Hp} : LTakes X F G W0 := takes0.imp fun _ _ _ _ ⟨_, _, h⟩ => h
section
variable {c : Ct} {F F' G H H' : Hp} {f g : Fp} {σ : L2.St} {δ δ' : LSt} {v : V} {x : LV}
theorem Res.of (fx : FX G F F') (S : Sto c F' G H' σ δ' f) (r : Rp c F' H' v x g) (d : Disj g f) (o : Off g F' G) : Res c F G H' σ v x δ' := ⟨F', f, g, fx, S, r, d, o⟩
theorem Sto.there (S : Sto c F G H σ δ f) : There f H := rpS_there S.rp
theorem Res.aft (r : Res c F G H' σ v x δ') : Aft c F G H' σ δ' := let ⟨F', f, _, fx, S, _⟩ := r; ⟨F', f, fx, S⟩
theorem Res.pre (fx : FX G F F') (r : Res c F' G H' σ v x δ') : Res c F G H' σ v x δ' := let ⟨F2, f, g, fx2, r⟩ := r; ⟨F2, f, g, fx.trans fx2, r⟩
theorem Aft.pre (fx : FX G F F') (r : Aft c F' G H' σ δ') : Aft c F G H' σ δ' := let ⟨F2, f, fx2, r⟩ := r; ⟨F2, f, fx.trans fx2, r⟩
theorem Sto.aft (S : Sto c F G H σ δ f) : Aft c F G H σ δ := ⟨F, f, .refl, S⟩
/-- data of the same state -/
theorem Sto.resd {x : PyData} (S : Sto c F G H σ δ f) (h : Dp c.K F v x) : Res c F G H σ v (.d x) δ := ⟨F, f, _, .refl, S, .d h, .nil, .nil⟩
/-- a frame goes: what stood in it stands -/
theorem Sto.ungadd {f1 : Fp} (t : There f1 H) (o : Off f1 F G) (fx : FX (gadd G H f1) F F') (S : Sto c F' (gadd G H f1) H' σ δ' f) : Sto c F' G H' σ δ' f ∧ Disj f1 f :=
  have ⟨o2, d⟩ := gadd_off t o S.off
  ⟨⟨S.fh, gadd_g o S.gh, S.rp, o2⟩, d⟩
theorem Sto.gadd {f1 : Fp} (S : Sto c F G H σ δ f) (d : Disj f1 f) : Sto c F (gadd G H f1) H σ δ f := ⟨S.fh, gadd_same S.gh, S.rp, gadd_offmk S.off d⟩
end
section
variable {X : Cx} {F F' G H : Hp} {f : Fp} {W : LW}
theorem LTakes.pre (T : LTakes X F G W) (fx : FX G F F') : LTakes X F' G W := Takes.imp T fun _ _ _ _ ⟨δ, a, w⟩ => ⟨δ, a.pre fx, w⟩
theorem LTakes.gadd (T : LTakes X F G W) (t : There f H) (o : Off f F G) : LTakes X F (gadd G H f) W := Takes.imp T fun cls _ σ' H' ⟨δ, ⟨F', f', fx, S⟩, w⟩ => ⟨δ, ⟨F', f', (gadd_fx t o fx).1, (S.ungadd t o fx).1⟩, w⟩
theorem LTakes.imp {W' : LW} (T : LTakes X F G W) (h : ∀ c δ, W' c δ → W c δ) : LTakes X F G W' := Takes.imp T fun _ _ _ _ ⟨δ, a, w⟩ => ⟨δ, a, h _ _ w⟩
end
/-! ### the judgements -/
structure LE (X : Cx) (e : Expr) (δ : LSt) (W : LW) (Q : LV → LSt → Prop) : Prop where
  run : ∀ (pins : List (Addr × Obj)) (s : Shared) (σ : L2.St) (H F G : Hp) (f : Fp), Inv X pins σ H s → Sto (cx X) F G H σ δ f → LTakes X F G W →
    wpAny (model X.prog X.w) X.A (eval e X.env) (EP X pins σ (fun v H' => ∃ x δ', Res (cx X) F G H' σ v x δ' ∧ Q x δ')) X.xe s
structure LT (X : Cx) (e : Expr) (δ : LSt) (W : LW) (Q : Bool → LSt → Prop) : Prop where
  run : ∀ (pins : List (Addr × Obj)) (s : Shared) (σ : L2.St) (H F G : Hp) (f : Fp), Inv X pins σ H s → Sto (cx X) F G H σ δ f → LTakes X F G W →
    wpAny (model X.prog X.w) X.A (isTrue e X.env (eval e X.env)) (TP X pins σ (fun b H' => ∃ δ', Aft (cx X) F G H' σ δ' ∧ Q b δ')) X.xe s
/-- a test whatever its whole is -/
structure LTw (X : Cx) (e : Expr) (δ : LSt) (W : LW) (Q : Bool → LSt → Prop) : Prop where
  run : ∀ (whole : Sem Value) (pins : List (Addr × Obj)) (s : Shared) (σ : L2.St) (H F G : Hp) (f : Fp), Inv X pins σ H s → Sto (cx X) F G H σ δ f → LTakes X F G W →
    wpAny (model X.prog X.w) X.A (isTrue e X.env whole) (TP X pins σ (fun b H' => ∃ δ', Aft (cx X) F G H' σ δ' ∧ Q b δ')) X.xe s
/-- an argument: a value of its own, or what a slot holds, lent -/
inductive Arg where
  | tmp (x : LV)
  | bor (i : Nat)
inductive ArgsR (c : Ct) (F H : Hp) (σ : L2.St) : List V → List Arg → Fp → Prop
  | nil : ArgsR c F H σ [] [] (fun _ => False)
  | tmp {v : V} {x : LV} {vs : List V} {as : List Arg} {f g : Fp} : Rp c F H v x f → ArgsR c F H σ vs as g → Disj f g → ArgsR c F H σ (v :: vs) (.tmp x :: as) (fun a => f a ∨ g a)
  | bor {v : V} {i : Nat} {vs : List V} {as : List Arg} {g : Fp} : σ[i]? = some (some v) → ArgsR c F H σ vs as g → ArgsR c F H σ (v :: vs) (.bor i :: as) g
def ResA (c : Ct) (F G H' : Hp) (σ : L2.St) (vs : List V) (as : List Arg) (δ' : LSt) : Prop := ∃ F' f g, FX G F F' ∧ Sto c F' G H' σ δ' f ∧ ArgsR c F' H' σ vs as g ∧ Disj g f ∧ Off g F' G
structure LA (X : Cx) (es : List Expr) (δ : LSt) (W : LW) (Q : List Arg → LSt → Prop) : Prop where
  run : ∀ (pos : Pos) (pins : List (Addr × Obj)) (s : Shared) (σ : L2.St) (H F G : Hp) (f : Fp), Inv X pins σ H s → Sto (cx X) F G H σ δ f → LTakes X F G W →
    wpAny (model X.prog X.w) X.A (spliced (backTo pos (starEach es X.env))) (AP X pins σ (fun vs H' => ∃ as δ', ResA (cx X) F G H' σ vs as δ' ∧ Q as δ')) X.xe s
structure LEnds where
  nx : LSt → Prop
  rt : LV → LSt → Prop
  bk : LSt → Prop := fun _ => False
  ct : LSt → Prop := fun _ => False
def cov (c : Ct) (F G : Hp) (P : LEnds) : Ends where
  nx := fun σ' H' => ∃ δ', Aft c F G H' σ' δ' ∧ P.nx δ'
  rt := fun v H' => ∃ x δ' σ', Res c F G H' σ' v x δ' ∧ P.rt x δ'
  bk := fun σ' H' => ∃ δ', Aft c F G H' σ' δ' ∧ P.bk δ'
  ct := fun σ' H' => ∃ δ', Aft c F G H' σ' δ' ∧ P.ct δ'
structure LS (X : Cx) (st : Stmt) (δ : LSt) (W : LW) (P : LEnds) : Prop where
  run : ∀ (pins : List (Addr × Obj)) (s : Shared) (σ : L2.St) (H F G : Hp) (f : Fp), Inv X pins σ H s → Sto (cx X) F G H σ δ f → LTakes X F G W →
    wpAny (model X.prog X.w) X.A (exec st X.env) (SP X pins (cov (cx X) F G P)) X.xe s
structure LSs (X : Cx) (st : List Stmt) (δ : LSt) (W : LW) (P : LEnds) : Prop where
  run : ∀ (pins : List (Addr × Obj)) (s : Shared) (σ : L2.St) (H F G : Hp) (f : Fp), Inv X pins σ H s → Sto (cx X) F G H σ δ f → LTakes X F G W →
    wpAny (model X.prog X.w) X.A (execs st X.env) (SP X pins (cov (cx X) F G P)) X.xe s
/-- a target of an assignment, a value handed in -/
structure LG (X : Cx) (tg : Expr) (x : LV) (δ : LSt) (W : LW) (Q : LSt → Prop) : Prop where
  run : ∀ (pins : List (Addr × Obj)) (s : Shared) (σ : L2.St) (H F G : Hp) (f g : Fp) (v : V) (u : Value), Inv X pins σ H s → RelV v u → Sto (cx X) F G H σ δ f → Rp (cx X) F H v x g → Disj g f → Off g F G → LTakes X F G W →
    wpAny (model X.prog X.w) X.A (assign tg X.env u) (fun _ s' => ∃ σ' H', Inv X pins σ' H' s' ∧ ∃ δ', Aft (cx X) F G H' σ' δ' ∧ Q δ') X.xe s
/-! ### from the layer's judgements and back -/
section
variable {X : Cx} {e : Expr} {es : List Expr} {δ : LSt} {W : LW} {Q : LV → LSt → Prop}
def tE (X : Cx) (e : Expr) : TE := fun σ H R => ∃ F G δ f W Q, Sto (cx X) F G H σ δ f ∧ LTakes X F G W ∧ LE X e δ W Q ∧ ∀ v H' x δ', Res (cx X) F G H' σ v x δ' → Q x δ' → R v H'
theorem pe_tE : PE X e (tE X e) := ⟨fun pins s σ H R I ⟨F, G, δ, f, W, Q, S, T, h, k⟩ => thn (h.run pins s σ H F G f I S T) fun u s' ⟨v, H', I', r, x, δ', res, q⟩ => ⟨v, H', I', r, k v H' x δ' res q⟩⟩
theorem le_of {t : TE} (h : PE X e t) (k : ∀ F G σ H f, Sto (cx X) F G H σ δ f → LTakes X F G W → t σ H (fun v H' => ∃ x δ', Res (cx X) F G H' σ v x δ' ∧ Q x δ')) : LE X e δ W Q :=
  .mk fun pins s σ H F G f I S T => h.run pins s σ H _ I (k F G σ H f S T)
def tTst (X : Cx) (e : Expr) : TT := fun σ H R => ∃ F G δ f W Q, Sto (cx X) F G H σ δ f ∧ LTakes X F G W ∧ LT X e δ W Q ∧ ∀ b H' δ', Aft (cx X) F G H' σ δ' → Q b δ' → R b H'
theorem pt_tTst : PT X e (tTst X e) := ⟨fun pins s σ H R I ⟨F, G, δ, f, W, Q, S, T, h, k⟩ => thn (h.run pins s σ H F G f I S T) fun b s' ⟨H', I', δ', a, q⟩ => ⟨H', I', k b H' δ' a q⟩⟩
def tTw (X : Cx) (e : Expr) : TT := fun σ H R => ∃ F G δ f W Q, Sto (cx X) F G H σ δ f ∧ LTakes X F G W ∧ LTw X e δ W Q ∧ ∀ b H' δ', Aft (cx X) F G H' σ δ' → Q b δ' → R b H'
theorem pw_tTw : PW X e (tTw X e) := ⟨fun whole pins s σ H R I ⟨F, G, δ, f, W, Q, S, T, h, k⟩ => thn (h.run whole pins s σ H F G f I S T) fun b s' ⟨H', I', δ', a, q⟩ => ⟨H', I', k b H' δ' a q⟩⟩
theorem lt_of {t : TT} {Q : Bool → LSt → Prop} (h : PT X e t) (k : ∀ F G σ H f, Sto (cx X) F G H σ δ f → LTakes X F G W → t σ H (fun b H' => ∃ δ', Aft (cx X) F G H' σ δ' ∧ Q b δ')) : LT X e δ W Q :=
  .mk fun pins s σ H F G f I S T => h.run pins s σ H _ I (k F G σ H f S T)
theorem ltw_of {t : TT} {Q : Bool → LSt → Prop} (h : PW X e t) (k : ∀ F G σ H f, Sto (cx X) F G H σ δ f → LTakes X F G W → t σ H (fun b H' => ∃ δ', Aft (cx X) F G H' σ δ' ∧ Q b δ')) : LTw X e δ W Q :=
  .mk fun whole pins s σ H F G f I S T => h.run whole pins s σ H _ I (k F G σ H f S T)
theorem LTw.lt {Q : Bool → LSt → Prop} (h : LTw X e δ W Q) : LT X e δ W Q := ⟨h.run _⟩
def tA (X : Cx) (es : List Expr) : TA := fun σ H R => ∃ F G δ f W Q, Sto (cx X) F G H σ δ f ∧ LTakes X F G W ∧ LA X es δ W Q ∧ ∀ vs H' as δ', ResA (cx X) F G H' σ vs as δ' → Q as δ' → R vs H'
theorem pa_tA : PA X es (tA X es) := ⟨fun pos pins s σ H R I ⟨F, G, δ, f, W, Q, S, T, h, k⟩ => thn (h.run pos pins s σ H F G f I S T) fun u s' ⟨v, H', I', r, x, δ', res, q⟩ => ⟨v, H', I', r, k v H' x δ' res q⟩⟩
theorem la_of {t : TA} {Q : List Arg → LSt → Prop} (h : PA X es t) (k : ∀ F G σ H f, Sto (cx X) F G H σ δ f → LTakes X F G W → t σ H (fun vs H' => ∃ as δ', ResA (cx X) F G H' σ vs as δ' ∧ Q as δ')) : LA X es δ W Q :=
  .mk fun pos pins s σ H F G f I S T => h.run pos pins s σ H _ I (k F G σ H f S T)
structure Cov (c : Ct) (F G : Hp) (P : LEnds) (D : Ends) : Prop where
  nx : ∀ σ' H', (cov c F G P).nx σ' H' → D.nx σ' H'
  rt : ∀ v H', (cov c F G P).rt v H' → D.rt v H'
  bk : ∀ σ' H', (cov c F G P).bk σ' H' → D.bk σ' H'
  ct : ∀ σ' H', (cov c F G P).ct σ' H' → D.ct σ' H'
theorem Cov.sp {X : Cx} {F G : Hp} {P : LEnds} {D : Ends} {pins : List (Addr × Obj)} (k : Cov (cx X) F G P D) {fl : Flow} {s' : Shared} (h : SP X pins (cov (cx X) F G P) fl s') : SP X pins D fl s' := by
  cases fl with
  | next => obtain ⟨σ', H', I, q⟩ := h; exact ⟨σ', H', I, k.nx _ _ q⟩
  | brk => obtain ⟨σ', H', I, q⟩ := h; exact ⟨σ', H', I, k.bk _ _ q⟩
  | cont => obtain ⟨σ', H', I, q⟩ := h; exact ⟨σ', H', I, k.ct _ _ q⟩
  | ret u => obtain ⟨v, σ', H', I, r, q⟩ := h; exact ⟨v, σ', H', I, r, k.rt _ _ q⟩
theorem Cov.self {c : Ct} {F G : Hp} {P : LEnds} : Cov c F G P (cov c F G P) := ⟨fun _ _ h => h, fun _ _ h => h, fun _ _ h => h, fun _ _ h => h⟩
theorem Cov.imp {c : Ct} {F G : Hp} {P P' : LEnds} {D : Ends} (k : Cov c F G P D) (h1 : ∀ δ, P'.nx δ → P.nx δ) (h2 : ∀ x δ, P'.rt x δ → P.rt x δ) (h3 : ∀ δ, P'.bk δ → P.bk δ) (h4 : ∀ δ, P'.ct δ → P.ct δ) : Cov c F G P' D :=
  ⟨fun σ' H' ⟨δ', a, q⟩ => k.nx σ' H' ⟨δ', a, h1 _ q⟩, fun v H' ⟨x, δ', σ', r, q⟩ => k.rt v H' ⟨x, δ', σ', r, h2 _ _ q⟩, fun σ' H' ⟨δ', a, q⟩ => k.bk σ' H' ⟨δ', a, h3 _ q⟩, fun σ' H' ⟨δ', a, q⟩ => k.ct σ' H' ⟨δ', a, h4 _ q⟩⟩
theorem Cov.pre {c : Ct} {F F' G : Hp} {P : LEnds} {D : Ends} (k : Cov c F G P D) (fx : FX G F F') : Cov c F' G P D :=
  ⟨fun σ' H' ⟨δ', a, q⟩ => k.nx σ' H' ⟨δ', a.pre fx, q⟩, fun v H' ⟨x, δ', σ', r, q⟩ => k.rt v H' ⟨x, δ', σ', r.pre fx, q⟩, fun σ' H' ⟨δ', a, q⟩ => k.bk σ' H' ⟨δ', a.pre fx, q⟩, fun σ' H' ⟨δ', a, q⟩ => k.ct σ' H' ⟨δ', a.pre fx, q⟩⟩
def tS (X : Cx) (st : Stmt) : TS := fun D σ H => ∃ F G δ f W P, Sto (cx X) F G H σ δ f ∧ LTakes X F G W ∧ LS X st δ W P ∧ Cov (cx X) F G P D
theorem ps_tS {st : Stmt} : PS X st (tS X st) := ⟨fun pins s σ H D I ⟨F, G, δ, f, W, P, S, T, h, k⟩ => thn (h.run pins s σ H F G f I S T) fun fl s' q => k.sp q⟩
def tSs (X : Cx) (st : List Stmt) : TS := fun D σ H => ∃ F G δ f W P, Sto (cx X) F G H σ δ f ∧ LTakes X F G W ∧ LSs X st δ W P ∧ Cov (cx X) F G P D
theorem pss_tSs {st : List Stmt} : PSs X st (tSs X st) := ⟨fun pins s σ H D I ⟨F, G, δ, f, W, P, S, T, h, k⟩ => thn (h.run pins s σ H F G f I S T) fun fl s' q => k.sp q⟩
theorem ls_of {st : Stmt} {t : TS} {P : LEnds} (h : PS X st t) (k : ∀ F G σ H f, Sto (cx X) F G H σ δ f → LTakes X F G W → t (cov (cx X) F G P) σ H) : LS X st δ W P :=
  .mk fun pins s σ H F G f I S T => h.run pins s σ H _ I (k F G σ H f S T)
theorem lss_of {st : List Stmt} {t : TS} {P : LEnds} (h : PSs X st t) (k : ∀ F G σ H f, Sto (cx X) F G H σ δ f → LTakes X F G W → t (cov (cx X) F G P) σ H) : LSs X st δ W P :=
  .mk fun pins s σ H F G f I S T => h.run pins s σ H _ I (k F G σ H f S T)
/-- a target as the layer's: what is handed in is told by its place -/
def tG (X : Cx) (tg : Expr) : TG := fun v σ H R => ∃ F G δ f g x W Q, Sto (cx X) F G H σ δ f ∧ Rp (cx X) F H v x g ∧ Disj g f ∧ Off g F G ∧ LTakes X F G W ∧ LG X tg x δ W Q ∧ ∀ σ' H' δ', Aft (cx X) F G H' σ' δ' → Q δ' → R σ' H'
theorem pg_tG {tg : Expr} : PG X tg (tG X tg) := ⟨fun pins s σ H v u R I r ⟨F, G, δ, f, g, x, W, Q, S, rp, d, o, T, h, k⟩ => thn (h.run pins s σ H F G f g v u I r S rp d o T) fun _ s' ⟨σ', H', I', δ', a, q⟩ => ⟨σ', H', I', k σ' H' δ' a q⟩⟩
theorem lg_of {tg : Expr} {t : TG} {x : LV} {Q : LSt → Prop} (h : PG X tg t) (k : ∀ F G σ H f g v, Sto (cx X) F G H σ δ f → Rp (cx X) F H v x g → Disj g f → Off g F G → LTakes X F G W → t v σ H (fun σ' H' => ∃ δ', Aft (cx X) F G H' σ' δ' ∧ Q δ')) : LG X tg x δ W Q :=
  .mk fun pins s σ H F G f g v u I r S rp d o T => h.run pins s σ H v u _ I r (k F G σ H f g v S rp d o T)
/-- weaker ends -/
theorem LE.imp {Q' : LV → LSt → Prop} (h : LE X e δ W Q) (k : ∀ x δ', Q x δ' → Q' x δ') : LE X e δ W Q' := .mk fun pins s σ H F G f I S T => thn (h.run pins s σ H F G f I S T) fun _ _ ⟨v, H', I', r, x, δ', res, q⟩ => ⟨v, H', I', r, x, δ', res, k x δ' q⟩
theorem LSs.imp {st : List Stmt} {P P' : LEnds} (h : LSs X st δ W P) (h1 : ∀ δ, P.nx δ → P'.nx δ) (h2 : ∀ x δ, P.rt x δ → P'.rt x δ) (h3 : ∀ δ, P.bk δ → P'.bk δ) (h4 : ∀ δ, P.ct δ → P'.ct δ) : LSs X st δ W P' :=
  .mk fun pins s σ H F G f I S T => thn (h.run pins s σ H F G f I S T) fun fl s' q => (Cov.self.imp h1 h2 h3 h4).sp q
end
end Z
set_option maxHeartbeats 4000000
namespace Z
open PySem PySem.Spec PyProof.Rows L2
/-! ### quiet expressions: data out of data, nothing changes -/
structure LQ (X : Cx) (e : Expr) (δ : LSt) (x : PyData) : Prop where
  run : ∀ (pins : List (Addr × Obj)) (s : Shared) (σ : L2.St) (H F G : Hp) (f : Fp), Inv X pins σ H s → Sto (cx X) F G H σ δ f →
    wpAny (model X.prog X.w) X.A (eval e X.env) (EP X pins σ (fun v H' => H' = H ∧ Dp X.K F v x)) X.xe s
section
variable {X : Cx} {e a b : Expr} {es : List Expr} {δ : LSt} {W : LW} {Q : LV → LSt → Prop} {pos : Pos} {x y z : PyData}
def tQ (X : Cx) (e : Expr) : TE := fun σ H R => ∃ F G δ f x, Sto (cx X) F G H σ δ f ∧ LQ X e δ x ∧ ∀ v, Dp X.K F v x → R v H
theorem pe_tQ : PE X e (tQ X e) := ⟨fun pins s σ H R I ⟨F, G, δ, f, x, S, h, k⟩ => thn (h.run pins s σ H F G f I S) fun u s' ⟨v, H', I', r, e, d⟩ => ⟨v, H, e ▸ I', r, k v d⟩⟩
theorem lq_of {t : TE} (h : PE X e t) (k : ∀ F G σ H f, Sto (cx X) F G H σ δ f → t σ H (fun v H' => H' = H ∧ Dp X.K F v x)) : LQ X e δ x := .mk fun pins s σ H F G f I S => h.run pins s σ H _ I (k F G σ H f S)
theorem le_q (h : LQ X e δ x) (q : Q (.d x) δ) : LE X e δ W Q := .mk fun pins s σ H F G f I S _ =>
  thn (h.run pins s σ H F G f I S) fun u s' ⟨v, H', I', r, e, d⟩ => ⟨v, H', I', r, .d x, δ, by rw [e]; exact S.resd d, q⟩
theorem lq_cast (h : LQ X e δ x) (q : x = y) : LQ X e δ y := q ▸ h
/-- two operands -/
theorem lq_op {r : R2} (h : PE X e (tOp r (tQ X a) (tQ X b))) (ha : LQ X a δ x) (hb : LQ X b δ y)
    (hr : ∀ F H v u, Same F H → Dp X.K F v x → Dp X.K F u y → r v u H (fun w H' => H' = H ∧ Dp X.K F w z)) : LQ X e δ z :=
  lq_of h fun F G σ H f S => ⟨F, G, δ, f, x, S, ha, fun v dv => ⟨F, G, δ, f, y, S, hb, fun u du => hr F H v u S.fh dv du⟩⟩
theorem lq_un {r : V → Hp → VK → Prop} (h : PE X e (tUn r (tQ X a))) (ha : LQ X a δ x) (hr : ∀ F H v, Same F H → Dp X.K F v x → r v H (fun w H' => H' = H ∧ Dp X.K F w z)) : LQ X e δ z :=
  lq_of h fun F G σ H f S => ⟨F, G, δ, f, x, S, ha, fun v dv => hr F H v S.fh dv⟩
theorem dp_int {K : PySem.W.Frag} {F : Hp} {v : V} {i : Int} (h : Dp K F v (.int i)) : v = .int i := by cases h; rfl
theorem dp_bool {K : PySem.W.Frag} {F : Hp} {v : V} {i : Bool} (h : Dp K F v (.bool i)) : v = .bl i := by cases h; rfl
theorem dp_str {K : PySem.W.Frag} {F : Hp} {v : V} {i : Str} (h : Dp K F v (.str i)) : v = .str i := by cases h; rfl
theorem dp_none {K : PySem.W.Frag} {F : Hp} {v : V} (h : Dp K F v .none) : v = .non := by cases h; rfl
theorem dp_tup {K : PySem.W.Frag} {F : Hp} {v : V} {ds : List PyData} (h : Dp K F v (.tuple ds)) : ∃ a xs, v = .ref a ∧ SqT K F a xs ∧ DpAll K F xs ds := by cases h with | tup h1 h2 => exact ⟨_, _, rfl, h1, h2⟩
theorem dp_lst {K : PySem.W.Frag} {F : Hp} {v : V} {ds : List PyData} (h : Dp K F v (.list ds)) : ∃ a xs, v = .ref a ∧ SqL K F a xs ∧ DpAll K F xs ds := by cases h with | lst h1 h2 => exact ⟨_, _, rfl, h1, h2⟩
theorem dpAll_len {K : PySem.W.Frag} {F : Hp} : ∀ {vs : List V} {ds : List PyData}, DpAll K F vs ds → vs.length = ds.length
  | _, _, .nil => rfl
  | _, _, .cons _ t => congrArg Nat.succ (dpAll_len t)
theorem dpAll_get {K : PySem.W.Frag} {F : Hp} : ∀ {vs : List V} {ds : List PyData} {i : Nat} {d : PyData}, DpAll K F vs ds → ds[i]? = some d → ∃ v, vs[i]? = some v ∧ Dp K F v d
  | _, _, _, _, .nil, e => by simp at e
  | _, _, 0, _, .cons h _, e => by simp at e; subst e; exact ⟨_, rfl, h⟩
  | _, _, i + 1, _, .cons _ t, e => dpAll_get (i := i) t (by simpa using e)
theorem dpAll_get' {K : PySem.W.Frag} {F : Hp} : ∀ {vs : List V} {ds : List PyData} {i : Nat} {v : V}, DpAll K F vs ds → vs[i]? = some v → ∃ d, ds[i]? = some d ∧ Dp K F v d
  | _, _, _, _, .nil, e => by simp at e
  | _, _, 0, _, .cons h _, e => by simp at e; subst e; exact ⟨_, rfl, h⟩
  | _, _, i + 1, _, .cons _ t, e => dpAll_get' (i := i) t (by simpa using e)
theorem atI_some {α : Type} {xs : List α} {i : Int} {x : α} (h : atI xs i = some x) : ∃ j, ixN xs.length i = some j ∧ xs[j]? = some x := by
  unfold atI at h
  cases e : ixN xs.length i with
  | none => rw [e] at h; cases h
  | some j => rw [e] at h; exact ⟨j, rfl, h⟩
theorem atI_of {α : Type} {xs : List α} {i : Int} {j : Nat} {x : α} (e : ixN xs.length i = some j) (h : xs[j]? = some x) : atI xs i = some x := by
  unfold atI
  rw [e]
  exact h
theorem dpAll_at {K : PySem.W.Frag} {F : Hp} {vs : List V} {ds : List PyData} {i : Int} {d : PyData} (h : DpAll K F vs ds) (e : atI ds i = some d) : ∃ v, atI vs i = some v ∧ Dp K F v d := by
  obtain ⟨j, e1, e2⟩ := atI_some e
  obtain ⟨v, e3, e4⟩ := dpAll_get h e2
  exact ⟨v, atI_of (by rw [dpAll_len h]; exact e1) e3, e4⟩
/-! names, constants -/
theorem sto_get {c : Ct} {F G H : Hp} {σ : L2.St} {f : Fp} {i : Nat} {x : LV} (S : Sto c F G H σ δ f) (h : valAt δ i = some x) : ∃ s, δ[i]? = some s ∧ s.val = some x := by
  unfold valAt at h
  cases e : δ[i]? with
  | none => rw [e] at h; cases h
  | some s => rw [e] at h; exact ⟨s, rfl, h⟩
theorem lq_name {i : Nat} {nm : Str} (h : valAt δ i = some (.d x) := by rfl) (hN : X.N[i]? = some nm := by rfl) (hv : Vis X.env.scope nm := by first | exact Or.inl rfl | exact Or.inr (Or.inl rfl) | exact Or.inr (Or.inr rfl)) (hd : (nm == ("__debug__" : Str)) = false := by decide)
    (hcd : (nm == ("__classdict__" : Str)) = false := by decide) : LQ X (.Name nm pos) δ x :=
  lq_of (pe_var hN hv hd hcd) fun F G σ H f S => by
    obtain ⟨s, e1, e2⟩ := sto_get S h
    obtain ⟨v, g, r, e3, e4, _⟩ := rpS_get S.rp e1 e2
    cases e4 with
    | d h => exact ⟨v, e3, rfl, h⟩
theorem lq_int {i : Int} {j} : LQ X (.Constant (.int i) j pos) δ (.int i) := lq_of pe_int fun _ _ _ _ _ _ => ⟨rfl, .int i⟩
theorem lq_bool {i : Bool} {j} : LQ X (.Constant (.bool i) j pos) δ (.bool i) := lq_of pe_bl fun _ _ _ _ _ _ => ⟨rfl, .bl i⟩
theorem lq_none {j} : LQ X (.Constant .none j pos) δ .none := lq_of pe_non fun _ _ _ _ _ _ => ⟨rfl, .non⟩
theorem lq_str {i : Str} {j} : LQ X (.Constant (.str i) j pos) δ (.str i) := lq_of pe_str fun _ _ _ _ _ _ => ⟨rfl, .str i⟩
/-- a module's constant -/
theorem lq_glob {nm : Str} {v : V} {u : Value} (hm : X.mg nm = some u) (r : RelV v u) (h : ∀ F, Dp X.K F v x) (hg : Gl X nm := by rfl) (hd : (nm == ("__debug__" : Str)) = false := by decide) : LQ X (.Name nm pos) δ x := lq_of (pe_glob hg hm r hd) fun F _ _ _ _ _ => ⟨rfl, h F⟩
theorem lq_globI {nm : Str} {i : Int} (hm : ∃ t, X.mg nm = some (.int i t)) (hg : Gl X nm := by rfl) (hd : (nm == ("__debug__" : Str)) = false := by decide) : LQ X (.Name nm pos) δ (.int i) := by
  obtain ⟨t, hm⟩ := hm
  exact lq_glob hm (v := .int i) ⟨t, rfl⟩ (fun _ => .int i) hg hd
theorem lq_globS {nm : Str} {i : Str} (hm : ∃ t, X.mg nm = some (.str i t)) (hg : Gl X nm := by rfl) (hd : (nm == ("__debug__" : Str)) = false := by decide) : LQ X (.Name nm pos) δ (.str i) := by
  obtain ⟨t, hm⟩ := hm
  exact lq_glob hm (v := .str i) ⟨t, rfl⟩ (fun _ => .str i) hg hd
/-! arithmetic -/
theorem lq_i2 {op : Operator} {g : Int → Int → Int} {C : Int → Int → Prop} {i j : Int} (ho : OpR X (binaryOp op) (rI C fun i j => .int (g i j))) (ha : LQ X a δ (.int i)) (hb : LQ X b δ (.int j)) (hc : C i j) : LQ X (.BinOp a op b pos) δ (.int (g i j)) :=
  lq_op (pe_op ho pe_tQ pe_tQ) ha hb fun F H v u _ dv du => ⟨i, j, dp_int dv, dp_int du, hc, rfl, .int _⟩
theorem lq_add {i j : Int} (ha : LQ X a δ (.int i)) (hb : LQ X b δ (.int j)) : LQ X (.BinOp a .Add b pos) δ (.int (i + j)) := lq_op (pe_op op_add pe_tQ pe_tQ) ha hb fun F H v u _ dv du => ⟨i, j, dp_int dv, dp_int du, rfl, .int _⟩
theorem lq_sub {i j : Int} (ha : LQ X a δ (.int i)) (hb : LQ X b δ (.int j)) : LQ X (.BinOp a .Sub b pos) δ (.int (i - j)) := lq_op (pe_op op_sub pe_tQ pe_tQ) ha hb fun F H v u _ dv du => ⟨i, j, dp_int dv, dp_int du, rfl, .int _⟩
theorem lq_neg {i : Int} (ha : LQ X a δ (.int i)) : LQ X (.UnaryOp .USub a pos) δ (.int (-i)) := lq_un (pe_un un_neg pe_tQ) ha fun F H v _ dv => ⟨i, dp_int dv, rfl, .int _⟩
theorem lq_cat {i j : Str} (ha : LQ X a δ (.str i)) (hb : LQ X b δ (.str j)) (hl : i.length + j.length ≤ sizeLine) : LQ X (.BinOp a .Add b pos) δ (.str (i ++ j)) := lq_op (pe_op op_add_str pe_tQ pe_tQ) ha hb fun F H v u _ dv du => ⟨i, j, dp_str dv, dp_str du, hl, rfl, .str _⟩
/-! comparisons -/
theorem lq_cmpI {op : CmpOp} {p : Int → Int → Bool} {i j : Int} (ho : OpR X (compareOp op) (rI0 fun i j => .bl (p i j))) (ha : LQ X a δ (.int i)) (hb : LQ X b δ (.int j)) (h : op ≠ .In := by decide) (h2 : op ≠ .NotIn := by decide) : LQ X (.Compare a [op] [b] pos) δ (.bool (p i j)) :=
  lq_op (pe_cmpR ho pe_tQ pe_tQ (nomark _ h h2)) ha hb fun F H v u _ dv du => ⟨i, j, dp_int dv, dp_int du, rfl, .bl _⟩
theorem lq_lt {i j : Int} (ha : LQ X a δ (.int i)) (hb : LQ X b δ (.int j)) : LQ X (.Compare a [.Lt] [b] pos) δ (.bool (decide (i < j))) := lq_cmpI op_lt ha hb
theorem lq_le {i j : Int} (ha : LQ X a δ (.int i)) (hb : LQ X b δ (.int j)) : LQ X (.Compare a [.LtE] [b] pos) δ (.bool (decide (i ≤ j))) := lq_cmpI op_le ha hb
theorem lq_gt {i j : Int} (ha : LQ X a δ (.int i)) (hb : LQ X b δ (.int j)) : LQ X (.Compare a [.Gt] [b] pos) δ (.bool (decide (j < i))) := lq_cmpI op_gt ha hb
theorem lq_ge {i j : Int} (ha : LQ X a δ (.int i)) (hb : LQ X b δ (.int j)) : LQ X (.Compare a [.GtE] [b] pos) δ (.bool (decide (j ≤ i))) := lq_cmpI op_ge ha hb
/-- flat data, compared -/
def scalD : PyData → Bool
  | .none => true
  | .bool _ => true
  | .int _ => true
  | .str _ => true
  | _ => false
/-- == of flat data: as values -/
def eqFlat : PyData → PyData → Bool
  | .none, .none => true
  | .bool a, .bool b => a == b
  | .int a, .int b => a == b
  | .str a, .str b => decide (a = b)
  | _, _ => false
theorem lq_eqI {i j : Int} (ha : LQ X a δ (.int i)) (hb : LQ X b δ (.int j)) : LQ X (.Compare a [.Eq] [b] pos) δ (.bool (decide (i = j))) :=
  lq_op (pe_cmpR op_eq pe_tQ pe_tQ (nomark _)) ha hb fun F H v u _ dv du => by
    rw [dp_int dv, dp_int du]
    refine ⟨rfl, rfl, ?_⟩
    rw [dec_int]
    exact .bl _
theorem lq_eqS {i j : Str} (ha : LQ X a δ (.str i)) (hb : LQ X b δ (.str j)) : LQ X (.Compare a [.Eq] [b] pos) δ (.bool (decide (i = j))) :=
  lq_op (pe_cmpR op_eq pe_tQ pe_tQ (nomark _)) ha hb fun F H v u _ dv du => by
    rw [dp_str dv, dp_str du]
    refine ⟨rfl, rfl, ?_⟩
    have : decide (V.str i = V.str j) = decide (i = j) := by simp
    rw [this]
    exact .bl _
theorem lq_neI {i j : Int} (ha : LQ X a δ (.int i)) (hb : LQ X b δ (.int j)) : LQ X (.Compare a [.NotEq] [b] pos) δ (.bool (!decide (i = j))) :=
  lq_op (pe_cmpR op_ne pe_tQ pe_tQ (nomark _)) ha hb fun F H v u _ dv du => by
    rw [dp_int dv, dp_int du]
    refine ⟨rfl, rfl, ?_⟩
    rw [dec_int]
    exact .bl _
theorem lq_neS {i j : Str} (ha : LQ X a δ (.str i)) (hb : LQ X b δ (.str j)) : LQ X (.Compare a [.NotEq] [b] pos) δ (.bool (!decide (i = j))) :=
  lq_op (pe_cmpR op_ne pe_tQ pe_tQ (nomark _)) ha hb fun F H v u _ dv du => by
    rw [dp_str dv, dp_str du]
    refine ⟨rfl, rfl, ?_⟩
    have : decide (V.str i = V.str j) = decide (i = j) := by simp
    rw [this]
    exact .bl _
def isNone : PyData → Bool
  | .none => true
  | _ => false
theorem dp_isnone {K : PySem.W.Frag} {F : Hp} {v : V} (h : Dp K F v x) : decide (v = V.non) = isNone x := by cases h <;> simp [isNone]
theorem lq_isN {j p'} (ha : LQ X a δ x) : LQ X (.Compare a [.Is] [.Constant .none j p'] pos) δ (.bool (isNone x)) :=
  lq_op (b := .Constant .none j p') (y := .none) (pe_cmpR op_isN pe_tQ pe_tQ (nomark _)) ha lq_none fun F H v u _ dv du => by
    refine ⟨dp_none du, rfl, ?_⟩
    rw [dp_isnone dv]
    exact .bl _
theorem lq_notN {j p'} (ha : LQ X a δ x) : LQ X (.Compare a [.IsNot] [.Constant .none j p'] pos) δ (.bool (!isNone x)) :=
  lq_op (b := .Constant .none j p') (y := .none) (pe_cmpR op_notN pe_tQ pe_tQ (nomark _)) ha lq_none fun F H v u _ dv du => by
    refine ⟨dp_none du, rfl, ?_⟩
    rw [dp_isnone dv]
    exact .bl _
/-- == of data at any depth -/
theorem lq_eqD (hu : X.A.units + 64 < cLine) (ha : LQ X a δ x) (hb : LQ X b δ y) (h1 : SeqAt.shaped x = true) (h2 : SeqAt.shaped y = true) : LQ X (.Compare a [.Eq] [b] pos) δ (.bool (PyData.eqv x y)) :=
  lq_op (pe_cmpR (op_eqD hu) pe_tQ pe_tQ (nomark _)) ha hb fun F H v u s dv du => ⟨x, y, dp_mono s dv, dp_mono s du, h1, h2, rfl, .bl _⟩
theorem lq_neD (hu : X.A.units + 64 < cLine) (ha : LQ X a δ x) (hb : LQ X b δ y) (h1 : SeqAt.shaped x = true) (h2 : SeqAt.shaped y = true) : LQ X (.Compare a [.NotEq] [b] pos) δ (.bool (!PyData.eqv x y)) :=
  lq_op (pe_cmpR (op_neD hu) pe_tQ pe_tQ (nomark _)) ha hb fun F H v u s dv du => ⟨x, y, dp_mono s dv, dp_mono s du, h1, h2, rfl, .bl _⟩
/-- a chain of two comparisons of ints -/
theorem lq_chainI {op op' : CmpOp} {p p' : Int → Int → Bool} {c : Expr} {i j k : Int} (ho : OpR X (compareOp op) (rI0 fun i j => .bl (p i j))) (ho' : OpR X (compareOp op') (rI0 fun i j => .bl (p' i j))) (ha : LQ X a δ (.int i)) (hb : LQ X b δ (.int j)) (hc : LQ X c δ (.int k)) (hm : lastMarks [op, op'] [b, c] = false := by with_unfolding_all rfl) :
    LQ X (.Compare a [op, op'] [b, c] pos) δ (.bool (p i j && p' j k)) :=
  lq_of (pe_chain ho ho' (pe_tQ (e := a)) (pe_tQ (e := b)) (pe_tQ (e := c)) hm) fun F G σ H f S =>
    ⟨F, G, δ, f, _, S, ha, fun v dv => ⟨F, G, δ, f, _, S, hb, fun u du => ⟨i, j, dp_int dv, dp_int du, p i j, rfl, by
      cases hp : p i j with
      | true =>
        rw [if_pos rfl]
        exact ⟨F, G, δ, f, _, S, hc, fun w dw => ⟨j, k, dp_int du, dp_int dw, rfl, .bl _⟩⟩
      | false =>
        rw [if_neg Bool.false_ne_true]
        exact ⟨rfl, .bl _⟩⟩⟩⟩
/-! and, or, not, if -/
theorem lq_one {op} (h : LQ X a δ x) : LQ X (.BoolOp op [a] pos) δ x := lq_of (pe_one pe_tQ) fun F G σ H f S => ⟨F, G, δ, f, x, S, h, fun v dv => ⟨rfl, dv⟩⟩
theorem lq_and {rest : List Expr} {p q : Bool} (ha : LQ X a δ (.bool p)) (hb : p = true → LQ X (.BoolOp .And (b :: rest) pos) δ (.bool q)) : LQ X (.BoolOp .And (a :: b :: rest) pos) δ (.bool (p && q)) :=
  lq_of (pe_and pe_tQ pe_tQ) fun F G σ H f S => ⟨F, G, δ, f, _, S, ha, fun v dv => ⟨p, dp_bool dv, by
    cases p with
    | true =>
      rw [if_pos rfl]
      exact ⟨F, G, δ, f, _, S, hb rfl, fun w dw => ⟨rfl, dw⟩⟩
    | false =>
      rw [if_neg Bool.false_ne_true]
      exact ⟨rfl, .bl _⟩⟩⟩
theorem lq_or {rest : List Expr} {p q : Bool} (ha : LQ X a δ (.bool p)) (hb : p = false → LQ X (.BoolOp .Or (b :: rest) pos) δ (.bool q)) : LQ X (.BoolOp .Or (a :: b :: rest) pos) δ (.bool (p || q)) :=
  lq_of (pe_or pe_tQ pe_tQ) fun F G σ H f S => ⟨F, G, δ, f, _, S, ha, fun v dv => ⟨p, dp_bool dv, by
    cases p with
    | false =>
      rw [if_neg Bool.false_ne_true]
      exact ⟨F, G, δ, f, _, S, hb rfl, fun w dw => ⟨rfl, dw⟩⟩
    | true =>
      rw [if_pos rfl]
      exact ⟨rfl, .bl _⟩⟩⟩
theorem lq_not {p : Bool} (ha : LQ X a δ (.bool p)) : LQ X (.UnaryOp .Not a pos) δ (.bool (!p)) := lq_of (pe_not pe_tQ) fun F G σ H f S => ⟨F, G, δ, f, _, S, ha, fun v dv => ⟨p, dp_bool dv, rfl, .bl _⟩⟩
/-! items -/
theorem lq_ixT {ds : List PyData} {i : Int} (ha : LQ X a δ (.tuple ds)) (hb : LQ X b δ (.int i)) (h : atI ds i = some z) (hp : PlainIx b := by exact fun _ _ => rfl) : LQ X (.Subscript a b pos) δ z :=
  lq_op (pe_ix ix_tup pe_tQ pe_tQ hp) ha hb fun F H v u s dv du => by
    obtain ⟨p, xs, e, hs, hd⟩ := dp_tup dv
    obtain ⟨w, e1, e2⟩ := dpAll_at hd h
    exact ⟨p, xs, i, w, e, dp_int du, sqt_mono s hs, e1, rfl, e2⟩
theorem lq_ixL {ds : List PyData} {i : Int} (ha : LQ X a δ (.list ds)) (hb : LQ X b δ (.int i)) (h : atI ds i = some z) (hp : PlainIx b := by exact fun _ _ => rfl) : LQ X (.Subscript a b pos) δ z :=
  lq_op (pe_ix ix_list pe_tQ pe_tQ hp) ha hb fun F H v u s dv du => by
    obtain ⟨p, xs, e, hs, hd⟩ := dp_lst dv
    obtain ⟨w, e1, e2⟩ := dpAll_at hd h
    exact ⟨p, xs, i, w, e, dp_int du, sql_mono s hs, e1, rfl, e2⟩
theorem lq_ixS {t : Str} {i : Int} {c : Nat} (ha : LQ X a δ (.str t)) (hb : LQ X b δ (.int i)) (h : atI t.cps.toList i = some c) (hl : t.length ≤ sizeLine) (hp : PlainIx b := by exact fun _ _ => rfl) : LQ X (.Subscript a b pos) δ (.str ⟨#[c]⟩) :=
  lq_op (pe_ix ix_str pe_tQ pe_tQ hp) ha hb fun F H v u s dv du => ⟨t, i, c, dp_str dv, dp_int du, hl, h, rfl, .str _⟩
/-! calls of built-ins on data -/
def tQA (X : Cx) (es : List Expr) : TA := fun σ H R => ∃ F G δ f xs, Sto (cx X) F G H σ δ f ∧ (∀ (pos : Pos) (pins : List (Addr × Obj)) (s : Shared), Inv X pins σ H s → wpAny (model X.prog X.w) X.A (spliced (backTo pos (starEach es X.env))) (AP X pins σ (fun vs H' => H' = H ∧ DpAll X.K F vs xs)) X.xe s) ∧ ∀ vs, DpAll X.K F vs xs → R vs H
/-- arguments that are quiet -/
inductive LQs (X : Cx) (δ : LSt) : List Expr → List PyData → Prop
  | nil : LQs X δ [] []
  | cons {e : Expr} {es : List Expr} {x : PyData} {xs : List PyData} : LQ X e δ x → LQs X δ es xs → (starEach (e :: es) X.env = (false, eval e X.env) :: starEach es X.env) → LQs X δ (e :: es) (x :: xs)
theorem lqs_cons {xs : List PyData} (h : LQ X e δ x) (t : LQs X δ es xs) (hs : starEach (e :: es) X.env = (false, eval e X.env) :: starEach es X.env := by rfl) : LQs X δ (e :: es) (x :: xs) := .cons h t hs
theorem lqs_run {F G H : Hp} {σ : L2.St} {f : Fp} (S : Sto (cx X) F G H σ δ f) : ∀ {es : List Expr} {xs : List PyData}, LQs X δ es xs → PA X es (fun σ' H' R => σ' = σ ∧ H' = H ∧ ∀ vs, DpAll X.K F vs xs → R vs H)
  | _, _, .nil => ⟨fun pos pins s σ' H' R I ⟨e1, e2, k⟩ => by subst e1; subst e2; exact pa_nil.run pos pins s _ _ _ I (k [] .nil)⟩
  | _, _, .cons (e := e) (x := x) h t hs => ⟨fun pos pins s σ' H' R I ⟨e1, e2, k⟩ => by
      subst e1; subst e2
      exact (pa_cons pe_tQ (lqs_run S t) hs).run pos pins s _ _ _ I ⟨F, G, δ, f, x, S, h, fun v dv => ⟨rfl, rfl, fun vs dvs => k (v :: vs) (.cons dv dvs)⟩⟩⟩
def tQs (X : Cx) (es : List Expr) : TA := fun σ H R => ∃ F G δ f xs, Sto (cx X) F G H σ δ f ∧ LQs X δ es xs ∧ ∀ vs, DpAll X.K F vs xs → R vs H
theorem pa_tQs : PA X es (tQs X es) := ⟨fun pos pins s σ H R I ⟨F, G, δ, f, xs, S, h, k⟩ => (lqs_run S h).run pos pins s σ H R I ⟨rfl, rfl, k⟩⟩
theorem lq_call {r : List V → Hp → VK → Prop} {xs : List PyData} (h : PE X e (tCB r (tQs X es))) (ha : LQs X δ es xs) (hr : ∀ F H vs, Same F H → DpAll X.K F vs xs → r vs H (fun w H' => H' = H ∧ Dp X.K F w z)) : LQ X e δ z :=
  lq_of h fun F G σ H f S => ⟨F, G, δ, f, xs, S, ha, fun vs dvs => hr F H vs S.fh dvs⟩
theorem dpAll1 {K : PySem.W.Frag} {F : Hp} {vs : List V} (h : DpAll K F vs [x]) : ∃ v, vs = [v] ∧ Dp K F v x := by
  cases h with | cons h t => cases t; exact ⟨_, rfl, h⟩
theorem dpAll2 {K : PySem.W.Frag} {F : Hp} {vs : List V} (h : DpAll K F vs [x, y]) : ∃ v u, vs = [v, u] ∧ Dp K F v x ∧ Dp K F u y := by
  cases h with | cons h t => cases t with | cons h2 t => cases t; exact ⟨_, _, rfl, h, h2⟩
end
end Z
set_option maxHeartbeats 4000000
namespace Z
open PySem PySem.Spec PyProof.Rows L2
/-! ### what is freshly made -/
def New (c : Ct) (F H H' : Hp) (w : V) (z : LV) : Prop :=
  ∃ F' g, Same F F' ∧ (∀ a o, F' a = some o → F a = some o ∨ H a = none) ∧ Same F' H' ∧ Same H H' ∧ Rp c F' H' w z g ∧ ∀ a, g a → H a = none ∧ F' a = none
section
variable {c : Ct} {F F' G H H' : Hp} {f g : Fp} {σ : L2.St} {δ : LSt} {v w : V} {x z : LV}
theorem Sto.new (S : Sto c F G H σ δ f) (n : New c F H H' w z) : Res c F G H' σ w z δ := by
  obtain ⟨F', g, e, nw, fh, hh, r, off⟩ := n
  have hf : ∀ a, f a → H a ≠ none := fun a h q => by
    obtain ⟨o, e⟩ := S.there a h
    rw [e] at q; cases q
  refine ⟨F', f, g, ⟨e, fun a o q => (nw a o q).elim .inl fun q => .inr ?_⟩, ⟨fh, S.gh.trans hh, rpS_frame e S.rp fun a h => ?_, fun a h => ⟨?_, (S.off a h).2⟩⟩, r, fun a p q => hf a q (off a p).1, fun a p => ⟨(off a p).2, ?_⟩⟩
  · cases k : G a with
    | none => rfl
    | some u => rw [S.gh a u k] at q; cases q
  · obtain ⟨o, e⟩ := S.there a h
    rw [e]
    exact hh a o e
  · cases k : F' a with
    | none => rfl
    | some u =>
      rcases nw a u k with q | q
      · rw [(S.off a h).1] at q; cases q
      · exact absurd q (hf a h)
  · cases k : G a with
    | none => rfl
    | some u =>
      have z := (off a p).1
      rw [S.gh a u k] at z; cases z
theorem same_new {p : Addr} {o : HO} (h : H p = none) : Same H (upd H p o) := fun a u e => by
  rw [upd_ne (ne_of_none e h)]
  exact e
theorem same_upd2 {p : Addr} {o : HO} (s : Same F H) (h : F p = none) : Same F (upd H p o) := fun a u e => by
  rw [upd_ne (ne_of_none e h)]
  exact s a u e
theorem fresh_of (s : Same F H) {p : Addr} (h : H p = none) : F p = none := by
  cases e : F p with
  | none => rfl
  | some o => rw [s p o e] at h; cases h
/-- a new tuple of data -/
theorem New.tup {p : Addr} {vs : List V} {ds : List PyData} (s : Same F H) (h : H p = none) (d : DpAll c.K F vs ds) : New c F H (upd H p (.tup vs)) (.ref p) (.d (.tuple ds)) := by
  have e : Same F (upd F p (.tup vs)) := same_new (fresh_of s h)
  refine ⟨upd F p (.tup vs), _, e, fun a o q => ?_, fun a o q => ?_, same_new h, .d (.tup (.inl (.inl upd_same)) (dpAll_mono e d)), fun _ h => h.elim⟩
  · by_cases ha : a = p
    · exact .inr (ha ▸ h)
    · rw [upd_ne ha] at q
      exact .inl q
  · by_cases ha : a = p
    · rw [ha] at q ⊢
      rw [upd_same] at q ⊢
      exact q
    · rw [upd_ne ha] at q ⊢
      exact s a o q
theorem rpAll_d {H : Hp} : ∀ {vs : List V} {ds : List PyData}, DpAll c.K F vs ds → ∃ f, RpAll c F H vs (ds.map LV.d) f ∧ ∀ a, ¬ f a
  | _, _, .nil => ⟨_, .nil, fun _ h => h⟩
  | _, _, .cons h t => by
    obtain ⟨f, r, n⟩ := rpAll_d (H := H) t
    exact ⟨_, .cons (.d h) r .nil, fun a q => q.elim id (n a)⟩
/-- a new list of data -/
theorem New.lst {p : Addr} {vs : List V} {ds : List PyData} (s : Same F H) (h : H p = none) (d : DpAll c.K F vs ds) : New c F H (upd H p (.lst vs)) (.ref p) (.l (ds.map LV.d)) := by
  obtain ⟨f, r, n⟩ := rpAll_d (c := c) (H := upd H p (.lst vs)) d
  exact ⟨F, _, Same.refl F, fun a o q => .inl q, same_upd2 s (fresh_of s h), same_new h, .l upd_same r (n p), fun a q => q.elim (fun e => e ▸ ⟨h, fresh_of s h⟩) fun q => (n a q).elim⟩
theorem New.same {d : PyData} (s : Same F H) (h : Dp c.K F v d) : New c F H H v (.d d) := ⟨F, _, Same.refl F, fun _ _ q => .inl q, s, Same.refl H, .d h, fun _ h => h.elim⟩
end
/-! ### freezing: an owned thing becomes data -/
mutual
inductive Fz : LV → PyData → Prop
  | d {x : PyData} : Fz (.d x) x
  | l {xs : List LV} {ds : List PyData} : FzAll xs ds → Fz (.l xs) (.list ds)
inductive FzAll : List LV → List PyData → Prop
  | nil : FzAll [] []
  | cons {x : LV} {d : PyData} {xs : List LV} {ds : List PyData} : Fz x d → FzAll xs ds → FzAll (x :: xs) (d :: ds)
end
theorem fzAll_map : ∀ ds : List PyData, FzAll (ds.map LV.d) ds
  | [] => .nil
  | _ :: ds => .cons .d (fzAll_map ds)
theorem fz_map {ds : List PyData} : Fz (.l (ds.map LV.d)) (.list ds) := .l (fzAll_map ds)
mutual
theorem fz_dp {c : Ct} {F F' H : Hp} (e : Same F F') : ∀ {v : V} {x : LV} {g : Fp} {d : PyData}, Rp c F H v x g → Fz x d → (∀ a o, g a → H a = some o → F' a = some o) → Dp c.K F' v d
  | _, _, _, _, .d h, .d, _ => dp_mono e h
  | _, _, _, _, .l h r n, .l z, k => .lst (.inl (.inl (k _ _ (.inl rfl) h))) (fzAll_dp e r z fun a o q => k a o (.inr q))
theorem fzAll_dp {c : Ct} {F F' H : Hp} (e : Same F F') : ∀ {vs : List V} {xs : List LV} {g : Fp} {ds : List PyData}, RpAll c F H vs xs g → FzAll xs ds → (∀ a o, g a → H a = some o → F' a = some o) → DpAll c.K F' vs ds
  | _, _, _, _, .nil, .nil, _ => .nil
  | _, _, _, _, .cons h r n, .cons z t, k => .cons (fz_dp e h z fun a o q => k a o (.inl q)) (fzAll_dp e r t fun a o q => k a o (.inr q))
end
section
variable {c : Ct} {F G H : Hp} {f g : Fp} {σ : L2.St} {δ : LSt} {v : V} {x : LV} {d : PyData}
theorem frz_add (t : There g H) (o : Off g F G) : Same F (gadd F H g) ∧ FX G F (gadd F H g) := by
  have e : Same F (gadd F H g) := fun a u q => by
    rw [gadd_out fun h => by rw [(o a h).1] at q; cases q]
    exact q
  refine ⟨e, e, fun a u q => ?_⟩
  by_cases h : g a
  · exact .inr (o a h).2
  · rw [gadd_out h] at q
    exact .inl q
theorem Res.frz (r : Res c F G H σ v x δ) (z : Fz x d) : Res c F G H σ v (.d d) δ := by
  obtain ⟨F1, f, g, fx, S, rp, dj, off⟩ := r
  have t := rp_there rp
  obtain ⟨e, fx2⟩ := frz_add t off
  refine ⟨gadd F1 H g, f, _, fx.trans fx2, ⟨gadd_same S.fh, S.gh, rpS_frame e S.rp fun _ _ => rfl, fun a h => ⟨?_, (S.off a h).2⟩⟩, .d (fz_dp e rp z fun a o h q => by rw [gadd_in h]; exact q), .nil, .nil⟩
  rw [gadd_out fun k => dj a k h]
  exact (S.off a h).1
end
section
variable {X : Cx} {e a b : Expr} {es : List Expr} {δ : LSt} {W : LW} {Q : LV → LSt → Prop} {pos : Pos}
theorem le_frz (h : LE X e δ W fun x δ1 => ∃ d, Fz x d ∧ Q (.d d) δ1) : LE X e δ W Q := .mk fun pins s σ H F G f I S T =>
  thn (h.run pins s σ H F G f I S T) fun u s' ⟨v, H', I', r, x, δ', res, d, z, q⟩ => ⟨v, H', I', r, .d d, δ', res.frz z, q⟩
/-- the thing in a slot becomes data, ahead of a statement -/
theorem sto_frz {c : Ct} {F G H : Hp} {σ : L2.St} {f : Fp} {i : Nat} {x : LV} {d : PyData} (S : Sto c F G H σ δ f) (hi : δ[i]? = some (.is x)) (z : Fz x d) : ∃ F' f', FX G F F' ∧ Sto c F' G H σ (δ.set i (.is (.d d))) f' := by
  obtain ⟨v, g, r, e1, rp, rs, dj, k, _⟩ := rpS_get S.rp hi rfl
  have offg : Off g F G := S.off.sub fun a h => (k a).mpr (.inl h)
  have offr : Off r F G := S.off.sub fun a h => (k a).mpr (.inr h)
  obtain ⟨e, fx⟩ := frz_add (rp_there rp) offg
  have hi' : i < δ.length := (List.getElem?_eq_some_iff.mp hi).1
  obtain ⟨r', q1, q2⟩ := rpS_put (v := v) (x := .d d) (s := .is (.d d)) (rpS_frame e rs fun _ _ => rfl) (.d (fz_dp e rp z fun a o h q => by rw [gadd_in h]; exact q)) .nil hi' (.inl rfl)
  have hσ : σ.set i (some v) = σ := by
    apply List.ext_getElem?
    intro j
    by_cases hj : i = j
    · subst hj
      rw [List.getElem?_set_self (List.getElem?_eq_some_iff.mp e1).1, e1]
    · rw [List.getElem?_set_ne hj]
  rw [hσ] at q1
  refine ⟨_, r', fx, gadd_same S.fh, S.gh, q1, fun a h => ?_⟩
  rcases (q2 a).mp h with h | h
  · exact h.elim
  · refine ⟨?_, (offr a h).2⟩
    rw [gadd_out fun q => dj a q h]
    exact (offr a h).1
theorem lss_frz {st : List Stmt} {P : LEnds} {i : Nat} {x : LV} {d : PyData} (hi : δ[i]? = some (.is x)) (z : Fz x d) (h : LSs X st (δ.set i (.is (.d d))) W P) : LSs X st δ W P := .mk fun pins s σ H F G f I S T => by
  obtain ⟨F', f', fx, S'⟩ := sto_frz S hi z
  exact thn (h.run pins s σ H F' G f' I S' (T.pre fx)) fun fl s' q => (Cov.self.pre fx).sp q
theorem le_frzAt {i : Nat} {x : LV} {d : PyData} (hi : δ[i]? = some (.is x)) (z : Fz x d) (h : LE X e (δ.set i (.is (.d d))) W Q) : LE X e δ W Q := .mk fun pins s σ H F G f I S T => by
  obtain ⟨F', f', fx, S'⟩ := sto_frz S hi z
  exact thn (h.run pins s σ H F' G f' I S' (T.pre fx)) fun u s' ⟨v, H', I', r, x, δ', res, q⟩ => ⟨v, H', I', r, x, δ', res.pre fx, q⟩
/-! ### two operands of data, a new thing -/
def OpD (c : Ct) (r : R2) (x y : PyData) (z : LV) : Prop := ∀ F H v u, Same F H → Dp c.K F v x → Dp c.K F u y → ∀ R : VK, (∀ w H', New c F H H' w z → R w H') → r v u H R
theorem Sto.pre {c : Ct} {F F' G H : Hp} {σ : L2.St} {f : Fp} (S : Sto c F G H σ δ f) : Same F H := S.fh
theorem le_op {r : R2} (h : PE X e (tOp r (tE X a) (tE X b))) (k : LE X a δ W fun x δ1 => ∃ dx, Fz x dx ∧ LE X b δ1 W fun y δ2 => ∃ dy, Fz y dy ∧ ∃ z, OpD (cx X) r dx dy z ∧ Q z δ2) : LE X e δ W Q :=
  le_of h fun F G σ H f S T => ⟨F, G, δ, f, W, _, S, T, k, fun v H1 x δ1 res1 ⟨dx, zx, k2⟩ => by
    obtain ⟨F1, f1, g1, fx1, S1, r1, d1, o1⟩ := res1.frz zx
    cases r1 with
    | d hx =>
    exact ⟨F1, G, δ1, f1, W, _, S1, T.pre fx1, k2, fun u H2 y δ2 res2 ⟨dy, zy, z, op, q⟩ => by
      obtain ⟨F2, f2, g2, fx2, S2, r2, d2, o2⟩ := res2.frz zy
      cases r2 with
      | d hy => exact op F2 H2 v u S2.fh (dp_mono fx2.up hx) hy _ fun w H' n => ⟨z, δ2, ((S2.new n).pre fx2).pre fx1, q⟩⟩⟩
/-! ### lists of arguments that become data -/
structure LD (X : Cx) (es : List Expr) (δ : LSt) (W : LW) (Q : List PyData → LSt → Prop) : Prop where
  run : ∀ (pos : Pos) (pins : List (Addr × Obj)) (s : Shared) (σ : L2.St) (H F G : Hp) (f : Fp), Inv X pins σ H s → Sto (cx X) F G H σ δ f → LTakes X F G W →
    wpAny (model X.prog X.w) X.A (spliced (backTo pos (starEach es X.env))) (AP X pins σ (fun vs H' => ∃ ds δ' F' f', FX G F F' ∧ Sto (cx X) F' G H' σ δ' f' ∧ DpAll X.K F' vs ds ∧ Q ds δ')) X.xe s
theorem ld_nil {Q : List PyData → LSt → Prop} (q : Q [] δ) : LD X [] δ W Q := .mk fun pos pins s σ H F G f I S T => pa_nil.run pos pins s σ H _ I ⟨[], δ, F, f, .refl, S, .nil, q⟩
def tD (X : Cx) (es : List Expr) : TA := fun σ H R => ∃ F G δ f W Q, Sto (cx X) F G H σ δ f ∧ LTakes X F G W ∧ LD X es δ W Q ∧ ∀ vs H' ds δ' F' f', FX G F F' → Sto (cx X) F' G H' σ δ' f' → DpAll X.K F' vs ds → Q ds δ' → R vs H'
theorem pa_tD : PA X es (tD X es) := ⟨fun pos pins s σ H R I ⟨F, G, δ, f, W, Q, S, T, h, k⟩ => thn (h.run pos pins s σ H F G f I S T) fun u s' ⟨v, H', I', r, ds, δ', F', f', fx, S', d, q⟩ => ⟨v, H', I', r, k v H' ds δ' F' f' fx S' d q⟩⟩
theorem ld_cons {Q : List PyData → LSt → Prop} (h : LE X e δ W fun x δ1 => ∃ d, Fz x d ∧ LD X es δ1 W fun ds δ2 => Q (d :: ds) δ2) (hs : starEach (e :: es) X.env = (false, eval e X.env) :: starEach es X.env := by rfl) : LD X (e :: es) δ W Q :=
  .mk fun pos pins s σ H F G f I S T => (pa_cons pe_tE pa_tD hs).run pos pins s σ H _ I ⟨F, G, δ, f, W, _, S, T, h, fun v H1 x δ1 res ⟨d, z, k⟩ => by
    obtain ⟨F1, f1, g1, fx1, S1, r1, d1, o1⟩ := res.frz z
    cases r1 with
    | d hx => exact ⟨F1, G, δ1, f1, W, _, S1, T.pre fx1, k, fun vs H2 ds δ2 F2 f2 fx2 S2 dd q => ⟨d :: ds, δ2, F2, f2, fx1.trans fx2, S2, .cons (dp_mono fx2.up hx) dd, q⟩⟩⟩
/-- quiet arguments -/
theorem ld_q {Q : List PyData → LSt → Prop} {x : PyData} (h : LQ X e δ x) (t : LD X es δ W fun ds δ2 => Q (x :: ds) δ2) (hs : starEach (e :: es) X.env = (false, eval e X.env) :: starEach es X.env := by rfl) : LD X (e :: es) δ W Q := ld_cons (le_q h ⟨x, .d, t⟩) hs
theorem le_tup {x1} (h : LD X es δ W fun ds δ1 => ds.length ≤ sizeLine ∧ Q (.d (.tuple ds)) δ1) : LE X (.Tuple es x1 pos) δ W Q :=
  le_of (pe_tup pa_tD) fun F G σ H f S T => ⟨F, G, δ, f, W, _, S, T, h, fun vs H' ds δ' F' f' fx S' d ⟨l, q⟩ => ⟨by rw [dpAll_len d]; exact l, fun p hp => ⟨_, δ', (S'.new (.tup S'.fh hp d)).pre fx, q⟩⟩⟩
theorem le_lst (h : LD X es δ W fun ds δ1 => ds.length ≤ sizeLine ∧ Q (.l (ds.map LV.d)) δ1) : LE X (.List es pos) δ W Q :=
  le_of (pe_lst pa_tD) fun F G σ H f S T => ⟨F, G, δ, f, W, _, S, T, h, fun vs H' ds δ' F' f' fx S' d ⟨l, q⟩ => ⟨by rw [dpAll_len d]; exact l, fun p hp => ⟨_, δ', (S'.new (.lst S'.fh hp d)).pre fx, q⟩⟩⟩
def CallD (c : Ct) (r : List V → Hp → VK → Prop) (xs : List PyData) (z : LV) : Prop := ∀ F H vs, Same F H → DpAll c.K F vs xs → ∀ R : VK, (∀ w H', New c F H H' w z → R w H') → r vs H R
theorem le_call {r : List V → Hp → VK → Prop} (h : PE X e (tCB r (tD X es))) (k : LD X es δ W fun ds δ1 => ∃ z, CallD (cx X) r ds z ∧ Q z δ1) : LE X e δ W Q :=
  le_of h fun F G σ H f S T => ⟨F, G, δ, f, W, _, S, T, k, fun vs H' ds δ' F' f' fx S' d ⟨z, cd, q⟩ => cd F' H' vs S'.fh d _ fun w H2 n => ⟨z, δ', (S'.new n).pre fx, q⟩⟩
/-! ### tuples and lists of data: +, slices -/
theorem dpAll_append {K : PySem.W.Frag} {F : Hp} : ∀ {vs ws : List V} {ds es : List PyData}, DpAll K F vs ds → DpAll K F ws es → DpAll K F (vs ++ ws) (ds ++ es)
  | _, _, _, _, .nil, h => h
  | _, _, _, _, .cons h t, r => .cons h (dpAll_append t r)
theorem dpAll_drop {K : PySem.W.Frag} {F : Hp} : ∀ (n : Nat) {vs : List V} {ds : List PyData}, DpAll K F vs ds → DpAll K F (vs.drop n) (ds.drop n)
  | 0, _, _, h => h
  | _ + 1, _, _, .nil => .nil
  | n + 1, _, _, .cons _ t => dpAll_drop n t
theorem dpAll_take {K : PySem.W.Frag} {F : Hp} : ∀ (n : Nat) {vs : List V} {ds : List PyData}, DpAll K F vs ds → DpAll K F (vs.take n) (ds.take n)
  | 0, _, _, _ => .nil
  | _ + 1, _, _, .nil => .nil
  | n + 1, _, _, .cons h t => .cons h (dpAll_take n t)
def cutD {α : Type} (xs : List α) (lo hi : Option Int) : List α := (xs.drop (HT.sIx xs.length 0 lo)).take (HT.sIx xs.length xs.length hi - HT.sIx xs.length 0 lo)
theorem dpAll_cut {K : PySem.W.Frag} {F : Hp} {vs : List V} {ds : List PyData} (h : DpAll K F vs ds) (lo hi : Option Int) : DpAll K F (cutV vs lo hi) (cutD ds lo hi) := by
  unfold cutV cutD
  rw [dpAll_len h]
  exact dpAll_take _ (dpAll_drop _ h)
theorem cutD_whole {α : Type} {xs : List α} {lo hi : Option Int} (h : HT.sIx xs.length 0 lo = 0 ∧ HT.sIx xs.length xs.length hi = xs.length) : cutD xs lo hi = xs := by
  unfold cutD
  rw [h.1, h.2]
  simp
theorem catT {xs ys : List PyData} (hz : xs.length + ys.length ≤ sizeLine) : OpD (cx X) (rCatA X.K) (.tuple xs) (.tuple ys) (.d (.tuple (xs ++ ys))) := by
  intro F H v u s dv du R k
  obtain ⟨a, vs, e1, s1, d1⟩ := dp_tup dv
  obtain ⟨b, us, e2, s2, d2⟩ := dp_tup du
  refine ⟨a, b, vs, us, e1, e2, sqt_mono s s1, sqt_mono s s2, by rw [dpAll_len d1, dpAll_len d2]; exact hz, fun e => ?_, fun _ e => ?_, fun _ _ p hp => ?_⟩
  · subst e
    cases d1
    rw [← e2]
    exact k _ _ (.same s du)
  · subst e
    cases d2
    rw [List.append_nil] at k
    rw [← e1]
    exact k _ _ (.same s dv)
  · exact k _ _ (.tup s hp (dpAll_append d1 d2))
theorem le_catT (h : LE X a δ W fun x δ1 => ∃ xs, x = .d (.tuple xs) ∧ LE X b δ1 W fun y δ2 => ∃ ys, y = .d (.tuple ys) ∧ xs.length + ys.length ≤ sizeLine ∧ Q (.d (.tuple (xs ++ ys))) δ2) : LE X (.BinOp a .Add b pos) δ W Q :=
  le_op (pe_op op_catA pe_tE pe_tE) (h.imp fun x δ1 ⟨xs, e, k⟩ => ⟨_, by rw [e]; exact .d, k.imp fun y δ2 ⟨ys, e2, l, q⟩ => ⟨_, by rw [e2]; exact .d, _, catT l, q⟩⟩)
/-- a part of a slice -/
def LO (X : Cx) (o : Option Expr) (δ : LSt) (i : Option Int) : Prop := match o with
  | none => i = none
  | some e => ∃ j, i = some j ∧ LQ X e δ (.int j)
def tO (X : Cx) (o : Option Expr) : TO := match o with
  | none => tNoPart
  | some e => tPart (tQ X e)
theorem po_tO {o : Option Expr} : PO X o (tO X o) := match o with
  | none => po_none
  | some _ => po_some pe_tQ
theorem tO_run {o : Option Expr} {F G H : Hp} {σ : L2.St} {f : Fp} {i : Option Int} {R : Option Int → Hp → Prop} (S : Sto (cx X) F G H σ δ f) (h : LO X o δ i) (k : R i H) : tO X o σ H R := match o, h with
  | none, h => by
    have e : i = none := h
    rw [e] at k
    exact k
  | some e, ⟨j, ej, h⟩ => ⟨F, G, δ, f, _, S, h, fun v dv => ⟨j, dp_int dv, ej ▸ k⟩⟩
theorem lo_none : LO X none δ none := rfl
theorem lo_some {j : Int} (h : LQ X e δ (.int j)) : LO X (some e) δ (some j) := ⟨j, rfl, h⟩
theorem le_sliceT {lo hi : Option Expr} {i j : Option Int} {p2 : Pos} (h : LE X e δ W fun x δ1 => ∃ xs, x = .d (.tuple xs) ∧ LO X lo δ1 i ∧ LO X hi δ1 j ∧ Q (.d (.tuple (cutD xs i j))) δ1) : LE X (.Subscript e (.Slice lo hi none p2) pos) δ W Q :=
  le_of (pe_slice sl_tupA pe_tE po_tO po_tO) fun F G σ H f S T => ⟨F, G, δ, f, W, _, S, T, h, fun v H1 x δ1 res ⟨xs, e, l1, l2, q⟩ => by
    subst e
    obtain ⟨F1, f1, g1, fx1, S1, r1, d1, o1⟩ := res
    cases r1 with
    | d hx =>
      refine tO_run S1 l1 (tO_run S1 l2 ?_)
      obtain ⟨a, vs, e1, s1, dd⟩ := dp_tup hx
      refine ⟨a, vs, e1, sqt_mono S1.fh s1, fun hw => ?_, fun _ p hp => ?_⟩
      · rw [← e1]
        rw [dpAll_len dd] at hw
        rw [cutD_whole hw] at q
        exact ⟨_, δ1, (S1.resd hx).pre fx1, q⟩
      · exact ⟨_, δ1, (S1.new (.tup S1.fh hp (dpAll_cut dd i j))).pre fx1, q⟩⟩
theorem le_sliceL {lo hi : Option Expr} {i j : Option Int} {p2 : Pos} (h : LE X e δ W fun x δ1 => ∃ xs, Fz x (.list xs) ∧ LO X lo δ1 i ∧ LO X hi δ1 j ∧ Q (.l ((cutD xs i j).map LV.d)) δ1) : LE X (.Subscript e (.Slice lo hi none p2) pos) δ W Q :=
  le_of (pe_slice sl_list pe_tE po_tO po_tO) fun F G σ H f S T => ⟨F, G, δ, f, W, _, S, T, h, fun v H1 x δ1 res ⟨xs, z, l1, l2, q⟩ => by
    obtain ⟨F1, f1, g1, fx1, S1, r1, d1, o1⟩ := res.frz z
    cases r1 with
    | d hx =>
      refine tO_run S1 l1 (tO_run S1 l2 ?_)
      obtain ⟨a, vs, e1, s1, dd⟩ := dp_lst hx
      exact ⟨a, vs, e1, sql_mono S1.fh s1, fun p hp => ⟨_, δ1, (S1.new (.lst S1.fh hp (dpAll_cut dd i j))).pre fx1, q⟩⟩⟩
theorem lq_sliceS {lo hi : Option Expr} {i j : Option Int} {p2 : Pos} {z : Str} (h : LQ X e δ (.str z)) (l1 : LO X lo δ i) (l2 : LO X hi δ j) (hz : z.length ≤ sizeLine) : LQ X (.Subscript e (.Slice lo hi none p2) pos) δ (.str (cutS z i j)) :=
  lq_of (pe_slice sl_str pe_tQ po_tO po_tO) fun F G σ H f S => ⟨F, G, δ, f, _, S, h, fun v dv => tO_run S l1 (tO_run S l2 ⟨z, dp_str dv, hz, rfl, .str _⟩)⟩
/-! list + list: the two lists of data, a new one -/
def rCatD (K : PySem.W.Frag) : R2 := fun x y H Q => ∃ l b xs zs, x = .ref l ∧ y = .ref b ∧ SqL K H l xs ∧ SqL K H b zs ∧ xs.length + zs.length ≤ sizeLine ∧ ∀ p, H p = none → Q (.ref p) (upd H p (.lst (xs ++ zs)))
theorem op_catD : OpR X (binaryOp .Add) (rCatD X.K) := by
  intro pins s σ H x y v u Q I rx ry h
  obtain ⟨l, b, xs, zs, rfl, rfl, hH, hB, hz, q⟩ := h
  cases rx
  cases ry
  obtain ⟨its, r, ⟨⟨cls, dd, data, sl⟩, n, ho, hc, hdd, hd⟩, hl⟩ := I.list hH
  obtain ⟨its2, r2, ⟨⟨cls2, dd2, data2, sl2⟩, n2, ho2, hc2, hdd2, hd2⟩, hl2⟩ := I.list hB
  simp only at hc hd hc2 hd2
  subst hc hd hc2 hd2
  have e : its.toArray ++ its2.toArray = (its ++ its2).toArray := by simp
  have e1 := r.length
  have e2 := r2.length
  refine concat_meets ⟨_, ho, rfl⟩ ⟨_, ho2, rfl⟩ noFill_list_add seq_list_add PySem.F.slot_list_add PySem.F.entry_list_add (PySem.F.args_list_add_2 _ _) (list_addW l b its.toArray its2.toArray n n2 dd dd2 sl sl2 (by simp only [List.size_toArray]; omega)) ⟨ho, ho2, ?_⟩
  rw [e]
  exact ⟨.ref _, _, I.lnew (t' := s.toks) (r.append r2) (by rw [List.length_append]; omega), rfl, q _ I.fresh⟩
theorem catL {xs ys : List PyData} (hz : xs.length + ys.length ≤ sizeLine) : OpD (cx X) (rCatD X.K) (.list xs) (.list ys) (.l ((xs ++ ys).map LV.d)) := by
  intro F H v u s dv du R k
  obtain ⟨a, vs, e1, s1, d1⟩ := dp_lst dv
  obtain ⟨b, us, e2, s2, d2⟩ := dp_lst du
  exact ⟨a, b, vs, us, e1, e2, sql_mono s s1, sql_mono s s2, by rw [dpAll_len d1, dpAll_len d2]; exact hz, fun p hp => k _ _ (.lst s hp (dpAll_append d1 d2))⟩
theorem le_catL (h : LE X a δ W fun x δ1 => ∃ xs, Fz x (.list xs) ∧ LE X b δ1 W fun y δ2 => ∃ ys, Fz y (.list ys) ∧ xs.length + ys.length ≤ sizeLine ∧ Q (.l ((xs ++ ys).map LV.d)) δ2) : LE X (.BinOp a .Add b pos) δ W Q :=
  le_op (pe_op op_catD pe_tE pe_tE) (h.imp fun x δ1 ⟨xs, z, k⟩ => ⟨_, z, k.imp fun y δ2 ⟨ys, z2, l, q⟩ => ⟨_, z2, _, catL l, q⟩⟩)
end
end Z
set_option maxHeartbeats 4000000
namespace Z
open PySem PySem.Spec PyProof.Rows L2
/-! ### comparisons of data -/
def CmpR (X : Cx) (op : CmpOp) (x y : PyData) (p : Bool) : Prop :=
  ∃ r, OpR X (compareOp op) r ∧ ∀ F H v u, Same F H → Dp X.K F v x → Dp X.K F u y → ∀ R : VK, R (.bl p) H → r v u H R
section
variable {X : Cx} {e a b : Expr} {es : List Expr} {δ : LSt} {W : LW} {Q : LV → LSt → Prop} {T : Bool → LSt → Prop} {pos : Pos} {x y z : PyData} {op : CmpOp} {p q : Bool}
theorem CmpR.imp (h : CmpR X op x y p) (e : p = q) : CmpR X op x y q := e ▸ h
theorem cmpI {op : CmpOp} {g : Int → Int → Bool} {i j : Int} (ho : OpR X (compareOp op) (rI0 fun i j => .bl (g i j))) : CmpR X op (.int i) (.int j) (g i j) := ⟨_, ho, fun F H v u s dv du R k => ⟨i, j, dp_int dv, dp_int du, k⟩⟩
theorem c_lt {i j : Int} : CmpR X .Lt (.int i) (.int j) (decide (i < j)) := cmpI op_lt
theorem c_le {i j : Int} : CmpR X .LtE (.int i) (.int j) (decide (i ≤ j)) := cmpI op_le
theorem c_gt {i j : Int} : CmpR X .Gt (.int i) (.int j) (decide (j < i)) := cmpI op_gt
theorem c_ge {i j : Int} : CmpR X .GtE (.int i) (.int j) (decide (j ≤ i)) := cmpI op_ge
theorem c_eqI {i j : Int} : CmpR X .Eq (.int i) (.int j) (decide (i = j)) := ⟨_, op_eq, fun F H v u s dv du R k => by
  rw [dp_int dv, dp_int du]
  exact ⟨rfl, by rw [dec_int]; exact k⟩⟩
theorem c_neI {i j : Int} : CmpR X .NotEq (.int i) (.int j) (!decide (i = j)) := ⟨_, op_ne, fun F H v u s dv du R k => by
  rw [dp_int dv, dp_int du]
  exact ⟨rfl, by rw [dec_int]; exact k⟩⟩
theorem c_eqS {i j : Str} : CmpR X .Eq (.str i) (.str j) (decide (i = j)) := ⟨_, op_eq, fun F H v u s dv du R k => by
  rw [dp_str dv, dp_str du]
  have : decide (V.str i = V.str j) = decide (i = j) := by simp
  exact ⟨rfl, by rw [this]; exact k⟩⟩
theorem c_neS {i j : Str} : CmpR X .NotEq (.str i) (.str j) (!decide (i = j)) := ⟨_, op_ne, fun F H v u s dv du R k => by
  rw [dp_str dv, dp_str du]
  have : decide (V.str i = V.str j) = decide (i = j) := by simp
  exact ⟨rfl, by rw [this]; exact k⟩⟩
theorem c_eqB {i j : Bool} : CmpR X .Eq (.bool i) (.bool j) (decide (i = j)) := ⟨_, op_eq, fun F H v u s dv du R k => by
  rw [dp_bool dv, dp_bool du]
  have : decide (V.bl i = V.bl j) = decide (i = j) := by simp
  exact ⟨rfl, by rw [this]; exact k⟩⟩
theorem c_isN : CmpR X .Is x .none (isNone x) := ⟨_, op_isN, fun F H v u s dv du R k => ⟨dp_none du, by rw [dp_isnone dv]; exact k⟩⟩
theorem c_notN : CmpR X .IsNot x .none (!isNone x) := ⟨_, op_notN, fun F H v u s dv du R k => ⟨dp_none du, by rw [dp_isnone dv]; exact k⟩⟩
theorem c_eqD (hu : X.A.units + 64 < cLine) (h1 : SeqAt.shaped x = true) (h2 : SeqAt.shaped y = true) : CmpR X .Eq x y (PyData.eqv x y) := ⟨_, op_eqD hu, fun F H v u s dv du R k => ⟨x, y, dp_mono s dv, dp_mono s du, h1, h2, k⟩⟩
theorem c_neD (hu : X.A.units + 64 < cLine) (h1 : SeqAt.shaped x = true) (h2 : SeqAt.shaped y = true) : CmpR X .NotEq x y (!PyData.eqv x y) := ⟨_, op_neD hu, fun F H v u s dv du R k => ⟨x, y, dp_mono s dv, dp_mono s du, h1, h2, k⟩⟩
/-- c in s, c one sign -/
theorem c_inS {c : Nat} {z : Str} : CmpR X .In (.str ⟨#[c]⟩) (.str z) (decide (c ∈ z.cps.toList)) := ⟨_, op_in_sign, fun F H v u s dv du R k => ⟨c, z, dp_str dv, dp_str du, k⟩⟩
theorem c_notInS {c : Nat} {z : Str} : CmpR X .NotIn (.str ⟨#[c]⟩) (.str z) (!decide (c ∈ z.cps.toList)) := ⟨_, op_notIn_sign, fun F H v u s dv du R k => ⟨c, z, dp_str dv, dp_str du, k⟩⟩
theorem lq_cmp (ha : LQ X a δ x) (hb : LQ X b δ y) (hc : CmpR X op x y p) (hm : behindInMarks op b = false := by first | exact nomark _ | rfl) : LQ X (.Compare a [op] [b] pos) δ (.bool p) := by
  obtain ⟨r, ho, k⟩ := hc
  exact lq_op (pe_cmpR ho pe_tQ pe_tQ hm) ha hb fun F H v u s dv du => k F H v u s dv du _ ⟨rfl, .bl p⟩
/-- a quiet test and its answer -/
def LB (X : Cx) (e : Expr) (δ : LSt) (p : Bool) : Prop := ∀ (W : LW) (T : Bool → LSt → Prop), T p δ → LT X e δ W T
def LBw (X : Cx) (e : Expr) (δ : LSt) (p : Bool) : Prop := ∀ (W : LW) (T : Bool → LSt → Prop), T p δ → LTw X e δ W T
theorem LB.go (h : LB X e δ p) (t : T p δ) : LT X e δ W T := h W T t
theorem LBw.lb (h : LBw X e δ p) : LB X e δ p := fun W T t => (h W T t).lt
theorem LB.cast (h : LB X e δ p) (e' : p = q) : LB X e δ q := e' ▸ h
theorem lb_cmp (ha : LQ X a δ x) (hb : LQ X b δ y) (hc : CmpR X op x y p) (hm : behindInMarks op b = false := by first | exact nomark _ | rfl) : LB X (.Compare a [op] [b] pos) δ p := fun W T t => by
  obtain ⟨r, ho, k⟩ := hc
  exact lt_of (pt_cmpR ho pe_tQ pe_tQ hm) fun F G σ H f S _ => ⟨F, G, δ, f, x, S, ha, fun v dv => ⟨F, G, δ, f, y, S, hb, fun u du => k F H v u S.fh dv du _ ⟨p, rfl, δ, S.aft, t⟩⟩⟩
theorem lb_val (h : LQ X e δ (.bool p)) (he : ∀ whole, isTrue e X.env whole = (do let v ← whole; standAt e.pos; holding [v] (truthy v)) := by intro _; rfl) : LB X e δ p := fun W T t =>
  lt_of (pt_val pe_tQ he) fun F G σ H f S _ => ⟨F, G, δ, f, _, S, h, fun v dv => ⟨p, dp_bool dv, δ, S.aft, t⟩⟩
def truthD : PyData → Option Bool
  | .none => some false
  | .bool b => some b
  | .int i => some (i != 0)
  | .str s => some (s.length != 0)
  | .list xs => some (!xs.isEmpty)
  | .tuple xs => some (!xs.isEmpty)
  | .dict _ => Option.none
theorem dpAll_empty {K : PySem.W.Frag} {F : Hp} {vs : List V} {ds : List PyData} (h : DpAll K F vs ds) : vs.isEmpty = ds.isEmpty := by cases h <;> rfl
theorem lb_truth (h : LQ X e δ x) (hx : truthD x = some p) (hl : ∀ s, x = .str s → s.length ≤ sizeLine) (he : ∀ whole, isTrue e X.env whole = (do let v ← whole; standAt e.pos; holding [v] (truthy v)) := by intro _; rfl) : LB X e δ p := fun W T t =>
  lt_of (pt_truth pe_tQ he) fun F G σ H f S _ => ⟨F, G, δ, f, _, S, h, fun v dv => ⟨p, by
    cases dv with
    | non => cases hx; exact rfl
    | bl b => cases hx; exact rfl
    | int i => cases hx; exact rfl
    | str s => cases hx; exact ⟨hl _ rfl, by cases s.length <;> rfl⟩
    | lst h1 h2 =>
      cases hx
      exact .inl ⟨_, sql_mono S.fh h1, by rw [dpAll_empty h2]⟩
    | tup h1 h2 =>
      cases hx
      exact .inr (.inl ⟨_, sqt_mono S.fh h1, by rw [dpAll_empty h2]⟩), δ, S.aft, t⟩⟩
theorem lt_not (h : LT X a δ W fun p δ1 => T (!p) δ1) : LT X (.UnaryOp .Not a pos) δ W T :=
  lt_of (pt_not pt_tTst) fun F G σ H f S Tk => ⟨F, G, δ, f, W, _, S, Tk, h, fun b H' δ' a q => ⟨δ', a, q⟩⟩
theorem lb_not (h : LB X a δ p) : LB X (.UnaryOp .Not a pos) δ (!p) := fun W T t => lt_not (h W _ t)
theorem ltw_and1 (h : LT X a δ W T) : LTw X (.BoolOp .And [a] pos) δ W T :=
  ltw_of (pw_and1 pt_tTst) fun F G σ H f S Tk => ⟨F, G, δ, f, W, _, S, Tk, h, fun b H' δ' a q => ⟨δ', a, q⟩⟩
theorem ltw_or1 (h : LT X a δ W T) : LTw X (.BoolOp .Or [a] pos) δ W T :=
  ltw_of (pw_or1 pt_tTst) fun F G σ H f S Tk => ⟨F, G, δ, f, W, _, S, Tk, h, fun b H' δ' a q => ⟨δ', a, q⟩⟩
theorem ltw_and {rest : List Expr} (h : LT X a δ W fun p δ1 => if p = true then LTw X (.BoolOp .And (b :: rest) pos) δ1 W T else T false δ1) : LTw X (.BoolOp .And (a :: b :: rest) pos) δ W T :=
  ltw_of (pw_and pt_tTst pw_tTw) fun F G σ H f S Tk => ⟨F, G, δ, f, W, _, S, Tk, h, fun c H' δ' ⟨F', f', fx, S'⟩ q => by
    cases c with
    | true =>
      rw [if_pos rfl] at q ⊢
      exact ⟨F', G, δ', f', W, _, S', Tk.pre fx, q, fun d H2 δ2 a2 q2 => ⟨δ2, a2.pre fx, q2⟩⟩
    | false =>
      rw [if_neg Bool.false_ne_true] at q ⊢
      exact ⟨δ', ⟨F', f', fx, S'⟩, q⟩⟩
theorem ltw_or {rest : List Expr} (h : LT X a δ W fun p δ1 => if p = true then T true δ1 else LTw X (.BoolOp .Or (b :: rest) pos) δ1 W T) : LTw X (.BoolOp .Or (a :: b :: rest) pos) δ W T :=
  ltw_of (pw_or pt_tTst pw_tTw) fun F G σ H f S Tk => ⟨F, G, δ, f, W, _, S, Tk, h, fun c H' δ' ⟨F', f', fx, S'⟩ q => by
    cases c with
    | true =>
      rw [if_pos rfl] at q ⊢
      exact ⟨δ', ⟨F', f', fx, S'⟩, q⟩
    | false =>
      rw [if_neg Bool.false_ne_true] at q ⊢
      exact ⟨F', G, δ', f', W, _, S', Tk.pre fx, q, fun d H2 δ2 a2 q2 => ⟨δ2, a2.pre fx, q2⟩⟩⟩
theorem lbw_and1 (h : LB X a δ p) : LBw X (.BoolOp .And [a] pos) δ p := fun W T t => ltw_and1 (h W T t)
theorem lbw_or1 (h : LB X a δ p) : LBw X (.BoolOp .Or [a] pos) δ p := fun W T t => ltw_or1 (h W T t)
theorem lbw_and {rest : List Expr} (h : LB X a δ p) (h2 : p = true → LBw X (.BoolOp .And (b :: rest) pos) δ q) : LBw X (.BoolOp .And (a :: b :: rest) pos) δ (p && q) := fun W T t => ltw_and (h W _ (by
  cases p with
  | true => rw [if_pos rfl]; exact h2 rfl W T t
  | false => rw [if_neg Bool.false_ne_true]; exact t))
theorem lbw_or {rest : List Expr} (h : LB X a δ p) (h2 : p = false → LBw X (.BoolOp .Or (b :: rest) pos) δ q) : LBw X (.BoolOp .Or (a :: b :: rest) pos) δ (p || q) := fun W T t => ltw_or (h W _ (by
  cases p with
  | false => rw [if_neg Bool.false_ne_true]; exact h2 rfl W T t
  | true => rw [if_pos rfl]; exact t))
/-- a chain of int comparisons as a test -/
theorem lb_chainI {op op' : CmpOp} {g g' : Int → Int → Bool} {c : Expr} {i j k : Int} (ho : OpR X (compareOp op) (rI0 fun i j => .bl (g i j))) (ho' : OpR X (compareOp op') (rI0 fun i j => .bl (g' i j))) (ha : LQ X a δ (.int i)) (hb : LQ X b δ (.int j)) (hc : LQ X c δ (.int k)) (hm : lastMarks [op, op'] [b, c] = false := by with_unfolding_all rfl) :
    LB X (.Compare a [op, op'] [b, c] pos) δ (g i j && g' j k) := fun W T t =>
  lt_of (pt_chain ho ho' (pe_tQ (e := a)) (pe_tQ (e := b)) (pe_tQ (e := c)) hm) fun F G σ H f S _ =>
    ⟨F, G, δ, f, _, S, ha, fun v dv => ⟨F, G, δ, f, _, S, hb, fun u du => ⟨i, j, dp_int dv, dp_int du, g i j, rfl, by
      cases hp : g i j with
      | true =>
        rw [if_pos rfl]
        exact ⟨F, G, δ, f, _, S, hc, fun w dw => ⟨j, k, dp_int du, dp_int dw, g' j k, rfl, δ, S.aft, by rw [hp] at t; exact t⟩⟩
      | false =>
        rw [if_neg Bool.false_ne_true]
        exact ⟨false, rfl, δ, S.aft, by rw [hp] at t; exact t⟩⟩⟩⟩
/-- comparisons whose sides do something -/
theorem le_cmp (h : LE X a δ W fun x δ1 => ∃ dx, Fz x dx ∧ LE X b δ1 W fun y δ2 => ∃ dy, Fz y dy ∧ ∃ p, CmpR X op dx dy p ∧ Q (.d (.bool p)) δ2) (hop : ∃ r, OpR X (compareOp op) r ∧ ∀ dx dy p, CmpR X op dx dy p → ∀ F H v u, Same F H → Dp X.K F v dx → Dp X.K F u dy → ∀ R : VK, R (.bl p) H → r v u H R) (hm : behindInMarks op b = false) : LE X (.Compare a [op] [b] pos) δ W Q := by
  obtain ⟨r, ho, k⟩ := hop
  exact le_op (pe_cmpR ho pe_tE pe_tE hm) (h.imp fun x δ1 ⟨dx, z, k1⟩ => ⟨dx, z, k1.imp fun y δ2 ⟨dy, z2, p, c, q⟩ => ⟨dy, z2, _, fun F H v u s dv du R kk => k dx dy p c F H v u s dv du R (kk _ _ (.same s (.bl p))), q⟩⟩)
/-- one rule of an operator, for sides that do something -/
theorem le_cmp1 {r : R2} (ho : OpR X (compareOp op) r) (h : LE X a δ W fun x δ1 => ∃ dx, Fz x dx ∧ LE X b δ1 W fun y δ2 => ∃ dy, Fz y dy ∧ ∃ p, (∀ F H v u, Same F H → Dp X.K F v dx → Dp X.K F u dy → ∀ R : VK, R (.bl p) H → r v u H R) ∧ Q (.d (.bool p)) δ2) (hm : behindInMarks op b = false := by first | exact nomark _ | rfl) : LE X (.Compare a [op] [b] pos) δ W Q :=
  le_op (pe_cmpR ho pe_tE pe_tE hm) (h.imp fun x δ1 ⟨dx, z, k1⟩ => ⟨dx, z, k1.imp fun y δ2 ⟨dy, z2, p, c, q⟩ => ⟨dy, z2, _, fun F H v u s dv du R kk => c F H v u s dv du R (kk _ _ (.same s (.bl p))), q⟩⟩)
theorem lt_cmp1 {r : R2} (ho : OpR X (compareOp op) r) (h : LE X a δ W fun x δ1 => ∃ dx, Fz x dx ∧ LE X b δ1 W fun y δ2 => ∃ dy, Fz y dy ∧ ∃ p, (∀ F H v u, Same F H → Dp X.K F v dx → Dp X.K F u dy → ∀ R : VK, R (.bl p) H → r v u H R) ∧ T p δ2) (hm : behindInMarks op b = false := by first | exact nomark _ | rfl) : LT X (.Compare a [op] [b] pos) δ W T :=
  lt_of (pt_cmpR ho pe_tE pe_tE hm) fun F G σ H f S Tk => ⟨F, G, δ, f, W, _, S, Tk, h, fun v H1 x δ1 res1 ⟨dx, zx, k2⟩ => by
    obtain ⟨F1, f1, g1, fx1, S1, r1, d1, o1⟩ := res1.frz zx
    cases r1 with
    | d hx =>
    exact ⟨F1, G, δ1, f1, W, _, S1, Tk.pre fx1, k2, fun u H2 y δ2 res2 ⟨dy, zy, p, cmp, q⟩ => by
      obtain ⟨F2, f2, g2, fx2, S2, r2, d2, o2⟩ := res2.frz zy
      cases r2 with
      | d hy => exact cmp F2 H2 v u S2.fh (dp_mono fx2.up hx) hy _ ⟨p, rfl, δ2, ⟨F2, f2, fx1.trans fx2, S2⟩, q⟩⟩⟩
/-- a value as a test -/
theorem lt_val (h : LE X e δ W fun x δ1 => ∃ p, x = .d (.bool p) ∧ T p δ1) (he : ∀ whole, isTrue e X.env whole = (do let v ← whole; standAt e.pos; holding [v] (truthy v)) := by intro _; rfl) : LT X e δ W T :=
  lt_of (pt_val pe_tE he) fun F G σ H f S Tk => ⟨F, G, δ, f, W, _, S, Tk, h, fun v H' x δ' res ⟨p, e, q⟩ => by
    subst e
    obtain ⟨F1, f1, g1, fx1, S1, r1, d1, o1⟩ := res
    cases r1 with
    | d hx => exact ⟨p, dp_bool hx, δ', ⟨F1, f1, fx1, S1⟩, q⟩⟩
theorem le_if {c : Expr} (h : LT X c δ W fun p δ1 => if p = true then LE X a δ1 W Q else LE X b δ1 W Q) : LE X (.IfExp c a b pos) δ W Q :=
  le_of (pe_ifExp pt_tTst pe_tE pe_tE) fun F G σ H f S Tk => ⟨F, G, δ, f, W, _, S, Tk, h, fun p H' δ' ⟨F1, f1, fx1, S1⟩ q => by
    cases p with
    | true =>
      rw [if_pos rfl] at q ⊢
      exact ⟨F1, G, δ', f1, W, _, S1, Tk.pre fx1, q, fun v H2 x δ2 res q2 => ⟨x, δ2, res.pre fx1, q2⟩⟩
    | false =>
      rw [if_neg Bool.false_ne_true] at q ⊢
      exact ⟨F1, G, δ', f1, W, _, S1, Tk.pre fx1, q, fun v H2 x δ2 res q2 => ⟨x, δ2, res.pre fx1, q2⟩⟩⟩
/-- and, or as values, the sides doing something -/
theorem le_one {bop} (h : LE X a δ W Q) : LE X (.BoolOp bop [a] pos) δ W Q := le_of (pe_one pe_tE) fun F G σ H f S Tk => ⟨F, G, δ, f, W, _, S, Tk, h, fun v H' x δ' res q => ⟨x, δ', res, q⟩⟩
theorem le_and {rest : List Expr} (h : LE X a δ W fun x δ1 => ∃ p, x = .d (.bool p) ∧ if p = true then LE X (.BoolOp .And (b :: rest) pos) δ1 W Q else Q (.d (.bool false)) δ1) : LE X (.BoolOp .And (a :: b :: rest) pos) δ W Q :=
  le_of (pe_and pe_tE pe_tE) fun F G σ H f S Tk => ⟨F, G, δ, f, W, _, S, Tk, h, fun v H' x δ' res ⟨p, e, q⟩ => by
    subst e
    obtain ⟨F1, f1, g1, fx1, S1, r1, d1, o1⟩ := res
    cases r1 with
    | d hx =>
    refine ⟨p, dp_bool hx, ?_⟩
    cases p with
    | true =>
      rw [if_pos rfl] at q ⊢
      exact ⟨F1, G, δ', f1, W, _, S1, Tk.pre fx1, q, fun v H2 x δ2 res q2 => ⟨x, δ2, res.pre fx1, q2⟩⟩
    | false =>
      rw [if_neg Bool.false_ne_true] at q ⊢
      exact ⟨_, δ', (S1.resd (.bl false)).pre fx1, q⟩⟩
theorem le_or {rest : List Expr} (h : LE X a δ W fun x δ1 => ∃ p, x = .d (.bool p) ∧ if p = true then Q (.d (.bool true)) δ1 else LE X (.BoolOp .Or (b :: rest) pos) δ1 W Q) : LE X (.BoolOp .Or (a :: b :: rest) pos) δ W Q :=
  le_of (pe_or pe_tE pe_tE) fun F G σ H f S Tk => ⟨F, G, δ, f, W, _, S, Tk, h, fun v H' x δ' res ⟨p, e, q⟩ => by
    subst e
    obtain ⟨F1, f1, g1, fx1, S1, r1, d1, o1⟩ := res
    cases r1 with
    | d hx =>
    refine ⟨p, dp_bool hx, ?_⟩
    cases p with
    | false =>
      rw [if_neg Bool.false_ne_true] at q ⊢
      exact ⟨F1, G, δ', f1, W, _, S1, Tk.pre fx1, q, fun v H2 x δ2 res q2 => ⟨x, δ2, res.pre fx1, q2⟩⟩
    | true =>
      rw [if_pos rfl] at q ⊢
      exact ⟨_, δ', (S1.resd (.bl true)).pre fx1, q⟩⟩
theorem le_not (h : LE X a δ W fun x δ1 => ∃ p, x = .d (.bool p) ∧ Q (.d (.bool (!p))) δ1) : LE X (.UnaryOp .Not a pos) δ W Q :=
  le_of (pe_not pe_tE) fun F G σ H f S Tk => ⟨F, G, δ, f, W, _, S, Tk, h, fun v H' x δ' res ⟨p, e, q⟩ => by
    subst e
    obtain ⟨F1, f1, g1, fx1, S1, r1, d1, o1⟩ := res
    cases r1 with
    | d hx => exact ⟨p, dp_bool hx, _, δ', (S1.resd (.bl (!p))).pre fx1, q⟩⟩
/-- two ints, the sides doing something -/
theorem le_i2 {op : Operator} {g : Int → Int → Int} {C : Int → Int → Prop} (ho : OpR X (binaryOp op) (rI C fun i j => .int (g i j))) (h : LE X a δ W fun x δ1 => ∃ i, x = .d (.int i) ∧ LE X b δ1 W fun y δ2 => ∃ j, y = .d (.int j) ∧ C i j ∧ Q (.d (.int (g i j))) δ2) : LE X (.BinOp a op b pos) δ W Q :=
  le_op (pe_op ho pe_tE pe_tE) (h.imp fun x δ1 ⟨i, e, k⟩ => ⟨.int i, by rw [e]; exact .d, k.imp fun y δ2 ⟨j, e2, hc, q⟩ => ⟨.int j, by rw [e2]; exact .d, _, fun F H v u s dv du R kk => ⟨i, j, dp_int dv, dp_int du, hc, kk _ _ (.same s (.int _))⟩, q⟩⟩)
theorem rI0_I {X : Cx} {f : Value → Value → Sem Value} {g : Int → Int → V} (h : OpR X f (rI0 g)) : OpR X f (rI (fun _ _ => True) g) := fun pins s σ H x y v u Q I rx ry ⟨i, j, e1, e2, _, q⟩ => h pins s σ H x y v u Q I rx ry ⟨i, j, e1, e2, q⟩
theorem le_cat (h : LE X a δ W fun x δ1 => ∃ i, x = .d (.str i) ∧ LE X b δ1 W fun y δ2 => ∃ j, y = .d (.str j) ∧ i.length + j.length ≤ sizeLine ∧ Q (.d (.str (i ++ j))) δ2) : LE X (.BinOp a .Add b pos) δ W Q :=
  le_op (pe_op op_add_str pe_tE pe_tE) (h.imp fun x δ1 ⟨i, e, k⟩ => ⟨.str i, by rw [e]; exact .d, k.imp fun y δ2 ⟨j, e2, hc, q⟩ => ⟨.str j, by rw [e2]; exact .d, _, fun F H v u s dv du R kk => ⟨i, j, dp_str dv, dp_str du, hc, kk _ _ (.same s (.str _))⟩, q⟩⟩)
/-- items, the sides doing something -/
theorem le_ix (h : LE X a δ W fun x δ1 => ∃ dx, Fz x dx ∧ LE X b δ1 W fun y δ2 => ∃ i z, y = .d (.int i) ∧ ((∃ ds, dx = .tuple ds ∧ atI ds i = some z) ∨ (∃ ds, dx = .list ds ∧ atI ds i = some z) ∨ ∃ t c, dx = .str t ∧ t.length ≤ sizeLine ∧ atI t.cps.toList i = some c ∧ z = .str ⟨#[c]⟩) ∧ Q (.d z) δ2) (hp : PlainIx b := by exact fun _ _ => rfl) : LE X (.Subscript a b pos) δ W Q :=
  le_op (pe_ix ix_seq pe_tE pe_tE hp) (h.imp fun x δ1 ⟨dx, zx, k⟩ => ⟨dx, zx, k.imp fun y δ2 ⟨i, z, e2, hc, q⟩ => ⟨.int i, by rw [e2]; exact .d, _, fun F H v u s dv du R kk => by
    rcases hc with ⟨ds, e, hz⟩ | ⟨ds, e, hz⟩ | ⟨t, c, e, hl, hz, ez⟩
    · subst e
      obtain ⟨p, xs, e, hs, hd⟩ := dp_tup dv
      obtain ⟨w, e1, e2⟩ := dpAll_at hd hz
      exact .inr (.inl ⟨p, xs, i, w, e, dp_int du, sqt_mono s hs, e1, kk _ _ (.same s e2)⟩)
    · subst e
      obtain ⟨p, xs, e, hs, hd⟩ := dp_lst dv
      obtain ⟨w, e1, e2⟩ := dpAll_at hd hz
      exact .inl ⟨p, xs, i, w, e, dp_int du, sql_mono s hs, e1, kk _ _ (.same s e2)⟩
    · subst e ez
      exact .inr (.inr ⟨t, i, c, dp_str dv, dp_int du, hl, hz, kk _ _ (.same s (.str _))⟩), q⟩⟩)
end
/-! ### statements -/
section
variable {X : Cx} {st : Stmt} {rest body orelse : List Stmt} {e : Expr} {δ : LSt} {W : LW} {P : LEnds} {pos : Pos}
theorem lss_nil (h : P.nx δ) : LSs X [] δ W P := lss_of pss_nil fun F G σ H f S T => ⟨δ, S.aft, h⟩
theorem lss_cons (h : LS X st δ W { P with nx := fun δ1 => LSs X rest δ1 W P }) : LSs X (st :: rest) δ W P :=
  lss_of (pss_cons ps_tS pss_tSs) fun F G σ H f S T => ⟨F, G, δ, f, W, _, S, T, h, ⟨fun σ' H' ⟨δ', ⟨F', f', fx, S'⟩, q⟩ => ⟨F', G, δ', f', W, P, S', T.pre fx, q, Cov.self.pre fx⟩, fun _ _ h => h, fun _ _ h => h, fun _ _ h => h⟩⟩
theorem lss_one (h : LS X st δ W P) : LSs X [st] δ W P := lss_of (pss_one ps_tS) fun F G σ H f S T => ⟨F, G, δ, f, W, P, S, T, h, Cov.self⟩
theorem ls_pass (h : P.nx δ) : LS X (.Pass pos) δ W P := ls_of ps_pass fun F G σ H f S T => ⟨δ, S.aft, h⟩
theorem ls_break (h : P.bk δ) : LS X (.Break pos) δ W P := ls_of ps_break fun F G σ H f S T => ⟨δ, S.aft, h⟩
theorem ls_continue (h : P.ct δ) : LS X (.Continue pos) δ W P := ls_of ps_continue fun F G σ H f S T => ⟨δ, S.aft, h⟩
theorem ls_ret (h : LE X e δ W P.rt) : LS X (.Return (some e) pos) δ W P := ls_of (ps_ret pe_tE) fun F G σ H f S T => ⟨F, G, δ, f, W, _, S, T, h, fun v H' x δ' res q => ⟨x, δ', σ, res, q⟩⟩
theorem ls_retN (h : P.rt (.d .none) δ) : LS X (.Return none pos) δ W P := ls_of ps_retN fun F G σ H f S T => ⟨_, δ, σ, S.resd .non, h⟩
theorem ls_expr (h : LE X e δ W fun _ δ1 => P.nx δ1) (hs : swapsWith e none pos.line X.env = pure false := by rfl) : LS X (.Expr e pos) δ W P :=
  ls_of (ps_expr pe_tE hs) fun F G σ H f S T => ⟨F, G, δ, f, W, _, S, T, h, fun v H' x δ' res q => ⟨δ', res.aft, q⟩⟩
theorem ls_if {c : Expr} (h : LT X c δ W fun p δ1 => if p = true then LSs X body δ1 W P else LSs X orelse δ1 W P) : LS X (.If c body orelse pos) δ W P :=
  ls_of (ps_if pt_tTst pss_tSs pss_tSs) fun F G σ H f S T => ⟨F, G, δ, f, W, _, S, T, h, fun p H' δ' ⟨F', f', fx, S'⟩ q => by
    cases p with
    | true =>
      rw [if_pos rfl] at q ⊢
      exact ⟨F', G, δ', f', W, P, S', T.pre fx, q, Cov.self.pre fx⟩
    | false =>
      rw [if_neg Bool.false_ne_true] at q ⊢
      exact ⟨F', G, δ', f', W, P, S', T.pre fx, q, Cov.self.pre fx⟩⟩
/-- an if whose test is quiet -/
theorem ls_ifb {c : Expr} {p : Bool} (h : LB X c δ p) (h1 : p = true → LSs X body δ W P) (h2 : p = false → LSs X orelse δ W P) : LS X (.If c body orelse pos) δ W P := ls_if (h.go (by
  cases p with
  | true => rw [if_pos rfl]; exact h1 rfl
  | false => rw [if_neg Bool.false_ne_true]; exact h2 rfl))
/-- what a slot may take: it isn't locked -/
def freeAt (δ : LSt) (i : Nat) : Bool := match δ[i]? with
  | some (.lk _ _) => false
  | some _ => true
  | none => false
theorem sto_set {c : Ct} {F G H : Hp} {σ : L2.St} {f g : Fp} {i : Nat} {v : V} {x : LV} (S : Sto c F G H σ δ f) (hi : freeAt δ i = true) (r : Rp c F H v x g) (d : Disj g f) (o : Off g F G) : Aft c F G H (σ.set i (some v)) (δ.set i (.is x)) := by
  obtain ⟨r0, e1, e2⟩ := rpS_drop (i := i) S.rp
  have hl : i < δ.length := by
    unfold freeAt at hi
    cases q : δ[i]? with
    | none => rw [q] at hi; cases hi
    | some s => exact (List.getElem?_eq_some_iff.mp q).1
  obtain ⟨f', q1, q2⟩ := rpS_put e1 r (fun a p q => d a p (e2 a q)) hl (.inl rfl)
  exact ⟨F, f', .refl, S.fh, S.gh, q1, fun a h => ((q2 a).mp h).elim (o a) fun h => S.off a (e2 a h)⟩
theorem ls_set {i : Nat} {nm : Str} {pos' : Pos} (hnd : X.N.Nodup) (h : LE X e δ W fun x δ1 => freeAt δ1 i = true ∧ P.nx (δ1.set i (.is x))) (hi : X.N[i]? = some nm := by rfl) (hx : Loc X.env.scope nm := by first | exact Or.inl rfl | exact Or.inr rfl) (hs : swapsWith e (some (.Name nm pos')) pos.line X.env = pure false := by rfl)
    (hf : X.fn nm = true ∨ X.env.scope.names.lookup nm = some .local := by first | exact .inl rfl | exact .inr rfl) : LS X (.Assign [.Name nm pos'] e pos) δ W P :=
  ls_of (ps_set hnd hi hx pe_tE hs hf) fun F G σ H f S T => ⟨F, G, δ, f, W, _, S, T, h, fun v H' x δ' ⟨F', f', g', fx, S', r, d, o⟩ ⟨hi, q⟩ => ⟨_, (sto_set S' hi r d o).pre fx, q⟩⟩
theorem lg_name {i : Nat} {nm : Str} {x : LV} {Q : LSt → Prop} (hnd : X.N.Nodup) (hfr : freeAt δ i = true) (q : Q (δ.set i (.is x))) (hi : X.N[i]? = some nm := by rfl) (hx : Loc X.env.scope nm := by first | exact Or.inl rfl | exact Or.inr rfl) (hf : X.fn nm = true ∨ X.env.scope.names.lookup nm = some .local := by first | exact .inl rfl | exact .inr rfl) : LG X (.Name nm pos) x δ W Q :=
  lg_of (pg_name hnd hi hx hf) fun F G σ H f g v S r d o T => ⟨_, sto_set S hfr r d o, q⟩
/-- targets of an unpacked tuple, one by one -/
def LGs (X : Cx) (tgs : List Expr) (xs : List PyData) (δ : LSt) (W : LW) (Q : LSt → Prop) : Prop := match tgs, xs with
  | [], [] => Q δ
  | t :: ts, y :: ys => LG X t (.d y) δ W fun δ1 => LGs X ts ys δ1 W Q
  | _, _ => False
def tGs (X : Cx) : List Expr → TGs
  | [] => gNil
  | t :: ts => gCons (tG X t) (tGs X ts)
theorem pgs_tGs : ∀ {ts : List Expr}, (∀ t ts', (∃ l, l ++ t :: ts' = ts) → (assignEach (t :: ts') X.env).map (·.2) = assign t X.env :: (assignEach ts' X.env).map (·.2)) → PGs X ts (tGs X ts)
  | [], _ => pgs_nil
  | t :: ts, h => pgs_cons pg_tG (pgs_tGs fun t' ts' ⟨l, e⟩ => h t' ts' ⟨t :: l, by rw [List.cons_append, e]⟩) (h t ts ⟨[], rfl⟩)
theorem lgs_run : ∀ {ts : List Expr} {xs : List PyData} {vs : List V} {δ : LSt} {F G H : Hp} {σ : L2.St} {f : Fp} {Q : LSt → Prop}, LGs X ts xs δ W Q → Sto (cx X) F G H σ δ f → DpAll X.K F vs xs → LTakes X F G W → tGs X ts vs σ H (fun σ' H' => ∃ δ', Aft (cx X) F G H' σ' δ' ∧ Q δ')
  | [], [], _, δ, F, G, H, σ, f, Q, h, S, .nil, T => ⟨rfl, δ, S.aft, h⟩
  | t :: ts, y :: ys, _, δ, F, G, H, σ, f, Q, h, S, .cons (v := v) (vs := vs) d dd, T => ⟨v, vs, rfl, F, G, δ, f, _, _, W, _, S, .d d, .nil, .nil, T, h, fun σ' H' δ' ⟨F', f', fx, S'⟩ q => by
      have r := lgs_run (ts := ts) q S' (dpAll_mono fx.up dd) (T.pre fx)
      exact tGs_mono r fun σ2 H2 ⟨δ2, a, q2⟩ => ⟨δ2, a.pre fx, q2⟩⟩
  | [], _ :: _, _, _, _, _, _, _, _, _, h, _, _, _ => h.elim
  | _ :: _, [], _, _, _, _, _, _, _, _, h, _, _, _ => h.elim
where tGs_mono : ∀ {ts : List Expr} {vs : List V} {σ : L2.St} {H : Hp} {R R' : L2.St → Hp → Prop}, tGs X ts vs σ H R → (∀ σ' H', R σ' H' → R' σ' H') → tGs X ts vs σ H R'
  | [], _, _, _, _, _, ⟨e, h⟩, k => ⟨e, k _ _ h⟩
  | _ :: _, _, _, _, _, _, ⟨v, r, e, F, G, δ, f, g, x, W, Q, S, rp, d, o, T, h, kk⟩, k => ⟨v, r, e, F, G, δ, f, g, x, W, Q, S, rp, d, o, T, h, fun σ' H' δ' a q => tGs_mono (kk σ' H' δ' a q) k⟩
theorem lg_tup {es : List Expr} {k : Nat} {xs : List PyData} {Q : LSt → Prop} (hc : X.calm = true) (h : LGs X es xs δ W Q) (hl : xs.length = es.length := by rfl)
    (hn : (assignEach es X.env).length = es.length := by rfl) (hst : (assignEach es X.env).findIdx? (·.1) = none := by rfl) (hm : ∀ t ts', (∃ l, l ++ t :: ts' = es) → (assignEach (t :: ts') X.env).map (·.2) = assign t X.env :: (assignEach ts' X.env).map (·.2)) : LG X (.Tuple es k pos) (.d (.tuple xs)) δ W Q :=
  lg_of (pg_tup hc (pgs_tGs hm) hn hst) fun F G σ H f g v S r d o T => by
    cases r with
    | d hx =>
    obtain ⟨a, vs, e, hs, dd⟩ := dp_tup hx
    exact ⟨a, vs, e, sqt_mono S.fh hs, by rw [dpAll_len dd, hl], lgs_run h S dd T⟩
theorem ls_asg {tg : Expr} (h : LE X e δ W fun x δ1 => LG X tg x δ1 W P.nx) (hs : swapsWithSole [tg] e pos.line X.env = pure false := by rfl) (hw : swappedStores [tg] e X.env = pure none := by rfl)
    (h1 : (assignEach [tg] X.env).map (·.2) = [assign tg X.env] := by rfl) : LS X (.Assign [tg] e pos) δ W P :=
  ls_of (ps_asg pe_tE pg_tG hs hw h1) fun F G σ H f S T => ⟨F, G, δ, f, W, _, S, T, h, fun v H' x δ' ⟨F', f', g', fx, S', r, d, o⟩ q => ⟨F', G, δ', f', g', x, W, _, S', r, d, o, T.pre fx, q, fun σ2 H2 δ2 a q2 => ⟨δ2, a.pre fx, q2⟩⟩⟩
/-! ### loops -/
theorem ls_while {c : Expr} (hp : PassesOwn (model X.prog X.w) X.A X.env X.xe) (I : Nat → LSt → Prop) (m0 : Nat) (h0 : I m0 δ)
    (hs : ∀ m δ1, I m δ1 → LT X c δ1 W fun p δ2 => if p = true then LSs X body δ2 W ⟨fun δ3 => ∃ m', m' < m ∧ I m' δ3, P.rt, P.nx, fun δ3 => ∃ m', m' < m ∧ I m' δ3⟩ else P.nx δ2) : LS X (.While c body [] pos) δ W P :=
  ls_of (ps_while hp pt_tTst pss_tSs) fun F G σ H f S T => by
    refine ⟨fun m σ' H' => ∃ δ', Aft (cx X) F G H' σ' δ' ∧ I m δ', ⟨m0, δ, S.aft, h0⟩, ?_⟩
    rintro m σ1 H1 ⟨δ1, ⟨F1, f1, fx1, S1⟩, i1⟩
    refine ⟨F1, G, δ1, f1, W, _, S1, T.pre fx1, hs m δ1 i1, fun p H2 δ2 ⟨F2, f2, fx2, S2⟩ q => ?_⟩
    cases p with
    | true =>
      rw [if_pos rfl] at q ⊢
      have fx := fx1.trans fx2
      refine ⟨fun σ' H' => ∃ m', m' < m ∧ ∃ δ', Aft (cx X) F G H' σ' δ' ∧ I m' δ', fun σ' H' h => h, F2, G, δ2, f2, W, _, S2, T.pre fx, q, ⟨?_, ?_, ?_, ?_⟩⟩
      · rintro σ' H' ⟨δ', a, m', hm, i⟩
        exact ⟨m', hm, δ', a.pre fx, i⟩
      · rintro v H' ⟨x, δ', σ', r, q⟩
        exact ⟨x, δ', σ', r.pre fx, q⟩
      · rintro σ' H' ⟨δ', a, i⟩
        exact ⟨δ', a.pre fx, i⟩
      · rintro σ' H' ⟨δ', a, m', hm, i⟩
        exact ⟨m', hm, δ', a.pre fx, i⟩
    | false =>
      rw [if_neg Bool.false_ne_true] at q ⊢
      exact ⟨δ2, (Aft.pre fx1 ⟨F2, f2, fx2, S2⟩), q⟩
/-- an iterator whose items are this data, one after the other, whatever else happens -/
def Yields (c : Ct) (J : It) (F : Hp) (ds : List PyData) : Prop := ∀ F2 H, Same F F2 → Same F2 H →
  (∀ i d, ds[i]? = some d → J.go i H ∧ ∀ x H', J.yld i H x H' → New c F2 H H' x (.d d)) ∧ ∀ i, ds.length ≤ i → J.stop i H
structure LI (X : Cx) (tg iter : Expr) (δ : LSt) (W : LW) (Q : List PyData → LSt → Prop) : Prop where
  run : ∀ (pins : List (Addr × Obj)) (s : Shared) (σ : L2.St) (H F G : Hp) (f : Fp), Inv X pins σ H s → Sto (cx X) F G H σ δ f → LTakes X F G W →
    wpAny (model X.prog X.w) X.A (eval iter X.env) (fun v s1 => wpAny (model X.prog X.w) X.A (pyIter v) (PIE X pins σ tg (fun J H' => ∃ ds δ' F' f', FX G F F' ∧ Sto (cx X) F' G H' σ δ' f' ∧ Yields (cx X) J F' ds ∧ Q ds δ')) X.xe s1) X.xe s
def tI (X : Cx) (tg iter : Expr) : TI := fun σ H R => ∃ F G δ f W Q, Sto (cx X) F G H σ δ f ∧ LTakes X F G W ∧ LI X tg iter δ W Q ∧ ∀ J H' ds δ' F' f', FX G F F' → Sto (cx X) F' G H' σ δ' f' → Yields (cx X) J F' ds → Q ds δ' → R J H'
theorem pi_tI {tg iter : Expr} : PI X tg iter (tI X tg iter) := ⟨fun pins s σ H R I ⟨F, G, δ, f, W, Q, S, T, h, k⟩ => thn (h.run pins s σ H F G f I S T) fun v s1 h1 => thn h1 fun itv s2 ⟨it, fp, tn, J, H', e, I', tu, t0, fpok, ds, δ', F', f', fx, S', y, q⟩ => ⟨it, fp, tn, J, H', e, I', tu, t0, fpok, k J H' ds δ' F' f' fx S' y q⟩⟩
theorem li_of {tg iter : Expr} {wi : TI} {Q : List PyData → LSt → Prop} (h : PI X tg iter wi) (k : ∀ F G σ H f, Sto (cx X) F G H σ δ f → LTakes X F G W → wi σ H (fun J H' => ∃ ds δ' F' f', FX G F F' ∧ Sto (cx X) F' G H' σ δ' f' ∧ Yields (cx X) J F' ds ∧ Q ds δ')) : LI X tg iter δ W Q :=
  .mk fun pins s σ H F G f I S T => h.run pins s σ H _ I (k F G σ H f S T)
/-- for: the word I by the turn -/
theorem ls_for {tg iter : Expr} (hp : PassesOwn (model X.prog X.w) X.A X.env X.xe) (hc : X.calm = true)
    (h : LI X tg iter δ W fun ds δ1 => ∃ I : Nat → LSt → Prop, I 0 δ1 ∧ (∀ i d δ2, ds[i]? = some d → I i δ2 → LG X tg (.d d) δ2 W fun δ3 => LSs X body δ3 W ⟨I (i + 1), P.rt, P.nx, I (i + 1)⟩) ∧ ∀ δ2, I ds.length δ2 → P.nx δ2)
    (hs : ∀ x, foldedSetIterable iter X.env x = pure x := by intro _; rfl) : LS X (.For tg iter body [] pos) δ W P :=
  ls_of (ps_for hp hc pi_tI pg_tG pss_tSs hs) fun F G σ H f S T => ⟨F, G, δ, f, W, _, S, T, h, fun J H1 ds δ1 F1 f1 fx1 S1 y ⟨I, i0, turn, done⟩ => by
    refine ⟨fun i m σ' H' => m = ds.length - i ∧ i ≤ ds.length ∧ ∃ δ', Aft (cx X) F1 G H' σ' δ' ∧ I i δ', ⟨ds.length, rfl, Nat.zero_le _, δ1, S1.aft, i0⟩, ?_⟩
    rintro i m σ2 H2 ⟨rfl, hi, δ2, ⟨F2, f2, fx2, S2⟩, i2⟩
    obtain ⟨go, stop⟩ := y F2 H2 fx2.up S2.fh
    by_cases hlt : i < ds.length
    · obtain ⟨g1, g2⟩ := go i ds[i] (by simp [hlt])
      refine .inr ⟨g1, fun σ' H' => ∃ δ', Aft (cx X) F1 G H' σ' δ' ∧ I (i + 1) δ', fun σ' H' h => ⟨ds.length - (i + 1), by omega, rfl, hlt, h⟩, fun x H3 yl => ?_⟩
      obtain ⟨F3, f3, g3, fx3, S3, r3, d3, o3⟩ := S2.new (g2 x H3 yl)
      have fx13 := fx2.trans fx3
      refine ⟨F3, G, δ2, f3, g3, _, W, _, S3, r3, d3, o3, (T.pre fx1).pre fx13, turn i ds[i] δ2 (by simp [hlt]) i2, fun σ4 H4 δ4 ⟨F4, f4, fx4, S4⟩ q => ?_⟩
      have fx14 := fx13.trans fx4
      refine ⟨F4, G, δ4, f4, W, _, S4, (T.pre fx1).pre fx14, q, ⟨?_, ?_, ?_, ?_⟩⟩
      · rintro σ' H' ⟨δ', a, i⟩
        exact ⟨δ', a.pre fx14, i⟩
      · rintro v H' ⟨x, δ', σ', r, q⟩
        exact ⟨x, δ', σ', (r.pre fx14).pre fx1, q⟩
      · rintro σ' H' ⟨δ', a, i⟩
        exact ⟨δ', (a.pre fx14).pre fx1, i⟩
      · rintro σ' H' ⟨δ', a, i⟩
        exact ⟨δ', a.pre fx14, i⟩
    · have e : i = ds.length := by omega
      subst e
      exact .inl ⟨stop _ (Nat.le_refl _), δ2, Aft.pre (fx1.trans fx2) S2.aft, done δ2 i2⟩⟩
theorem li_imp {tg iter : Expr} {Q Q' : List PyData → LSt → Prop} (h : LI X tg iter δ W Q) (k : ∀ ds δ1, Q ds δ1 → Q' ds δ1) : LI X tg iter δ W Q' := .mk fun pins s σ H F G f I S T =>
  thn (h.run pins s σ H F G f I S T) fun v s1 h1 => thn h1 fun itv s2 ⟨it, fp, tn, J, H', e, I', tu, t0, fpok, ds, δ', F', f', fx, S', y, q⟩ => ⟨it, fp, tn, J, H', e, I', tu, t0, fpok, ds, δ', F', f', fx, S', y, k ds δ' q⟩
theorem li_list {tg iter : Expr} {Q : List PyData → LSt → Prop} (h : LE X iter δ W fun x δ1 => ∃ ds, Fz x (.list ds) ∧ Q ds δ1) : LI X tg iter δ W Q :=
  li_of (pi_list pe_tE) fun F G σ H f S T => ⟨F, G, δ, f, W, _, S, T, h, fun v H1 x δ1 res ⟨ds, z, q⟩ => by
    obtain ⟨F1, f1, g1, fx1, S1, r1, d1, o1⟩ := res.frz z
    cases r1 with
    | d hx =>
    obtain ⟨a, vs, e, hs, dd⟩ := dp_lst hx
    refine ⟨a, e, ⟨vs, sql_mono S1.fh hs⟩, ds, δ1, F1, f1, fx1, S1, fun F2 H2 s1 s2 => ⟨fun i d hd => ?_, fun i hi => ⟨vs, sql_mono (s1.trans s2) hs, by rw [dpAll_len dd]; exact hi⟩⟩, q⟩
    obtain ⟨w, e1, e2⟩ := dpAll_get dd hd
    refine ⟨⟨vs, w, sql_mono (s1.trans s2) hs, e1⟩, fun x H' ⟨e3, k⟩ => ?_⟩
    have e4 := k vs (sql_mono (s1.trans s2) hs)
    rw [e1] at e4
    cases e4
    rw [e3]
    exact .same s2 (dp_mono s1 e2)⟩
theorem li_tup {tg iter : Expr} {Q : List PyData → LSt → Prop} (h : LE X iter δ W fun x δ1 => ∃ ds, x = .d (.tuple ds) ∧ Q ds δ1) : LI X tg iter δ W Q :=
  li_of (pi_tup pe_tE) fun F G σ H f S T => ⟨F, G, δ, f, W, _, S, T, h, fun v H1 x δ1 res ⟨ds, z, q⟩ => by
    subst z
    obtain ⟨F1, f1, g1, fx1, S1, r1, d1, o1⟩ := res
    cases r1 with
    | d hx =>
    obtain ⟨a, vs, e, hs, dd⟩ := dp_tup hx
    refine ⟨a, e, ⟨vs, sqt_mono S1.fh hs⟩, ds, δ1, F1, f1, fx1, S1, fun F2 H2 s1 s2 => ⟨fun i d hd => ?_, fun i hi => ⟨vs, sqt_mono (s1.trans s2) hs, by rw [dpAll_len dd]; exact hi⟩⟩, q⟩
    obtain ⟨w, e1, e2⟩ := dpAll_get dd hd
    refine ⟨⟨vs, w, sqt_mono (s1.trans s2) hs, e1⟩, fun x H' ⟨e3, k⟩ => ?_⟩
    have e4 := k vs (sqt_mono (s1.trans s2) hs)
    rw [e1] at e4
    cases e4
    rw [e3]
    exact .same s2 (dp_mono s1 e2)⟩
/-- the numbers lo, lo + 1, .. -/
def intsD (lo : Int) (n : Nat) : List PyData := (List.range n).map fun (k : Nat) => PyData.int (lo + (k : Int))
theorem intsD_get {lo : Int} {n i : Nat} {d : PyData} (h : (intsD lo n)[i]? = some d) : i < n ∧ d = .int (lo + (i : Int)) := by
  unfold intsD at h
  rw [List.getElem?_map] at h
  cases q : (List.range n)[i]? with
  | none => rw [q] at h; cases h
  | some k =>
    rw [q] at h
    obtain ⟨h1, h2⟩ := List.getElem?_eq_some_iff.mp q
    rw [List.getElem_range] at h2
    rw [List.length_range] at h1
    cases h
    exact ⟨h1, by rw [h2]⟩
theorem intsD_len {lo : Int} {n : Nat} : (intsD lo n).length = n := by simp [intsD]
theorem itr_yields {c : Ct} {lo : Int} {n : Nat} {F : Hp} : Yields c (Itr lo n) F (intsD lo n) := fun F2 H s1 s2 => ⟨fun i d hd => by
  obtain ⟨h1, h2⟩ := intsD_get hd
  exact ⟨h1, fun x H' ⟨e1, e2⟩ => by
    rw [e1, e2, h2]
    exact .same s2 (.int _)⟩, fun i hi => by rw [intsD_len] at hi; exact hi⟩
theorem li_range1 {tg a : Expr} {p : Pos} {Q : List PyData → LSt → Prop} (hm : X.mg "range" = none) (h : LD X [a] δ W fun ds δ1 => ∃ n : Int, ds = [.int n] ∧ -(2 ^ 62) ≤ n ∧ n < 2 ^ 62 ∧ Q (intsD 0 n.toNat) δ1) (hg : Gl X "range" := by rfl) (hs : starEach [a] X.env = [(false, eval a X.env)] := by rfl) : LI X tg (.Call (.Name "range" p) [a] [] pos) δ W Q :=
  li_of (pi_range1 hg hm pa_tD hs) fun F G σ H f S T => ⟨F, G, δ, f, W, _, S, T, h, fun vs H' ds δ' F' f' fx S' d ⟨n, e, h1, h2, q⟩ => by
    subst e
    obtain ⟨v, e, dv⟩ := dpAll1 d
    subst e
    rw [dp_int dv]
    exact ⟨n, rfl, h1, h2, _, δ', F', f', fx, S', itr_yields, q⟩⟩
theorem li_range2 {tg a b : Expr} {p : Pos} {Q : List PyData → LSt → Prop} (hm : X.mg "range" = none) (h : LD X [a, b] δ W fun ds δ1 => ∃ m n : Int, ds = [.int m, .int n] ∧ (-(2 ^ 62) ≤ m ∧ m < 2 ^ 62 ∧ -(2 ^ 62) ≤ n ∧ n < 2 ^ 62) ∧ Q (intsD m (n - m).toNat) δ1) (hg : Gl X "range" := by rfl) (hs : starEach [a, b] X.env = [(false, eval a X.env), (false, eval b X.env)] := by rfl) (hs2 : starEach [b] X.env = [(false, eval b X.env)] := by rfl) : LI X tg (.Call (.Name "range" p) [a, b] [] pos) δ W Q :=
  li_of (pi_range2 hg hm pa_tD hs hs2) fun F G σ H f S T => ⟨F, G, δ, f, W, _, S, T, h, fun vs H' ds δ' F' f' fx S' d ⟨m, n, e, h1, q⟩ => by
    subst e
    obtain ⟨v, u, e, dv, du⟩ := dpAll2 d
    subst e
    rw [dp_int dv, dp_int du]
    exact ⟨m, n, rfl, h1, _, δ', F', f', fx, S', itr_yields, q⟩⟩
/-- the signs of a text -/
def signsD (z : Str) : List PyData := z.cps.toList.map fun c => .str ⟨#[c]⟩
theorem li_str {tg iter : Expr} {Q : List PyData → LSt → Prop} (h : LE X iter δ W fun x δ1 => ∃ z, x = .d (.str z) ∧ Q (signsD z) δ1) : LI X tg iter δ W Q :=
  li_of (pi_str pe_tE) fun F G σ H f S T => ⟨F, G, δ, f, W, _, S, T, h, fun v H1 x δ1 res ⟨z, e, q⟩ => by
    subst e
    obtain ⟨F1, f1, g1, fx1, S1, r1, d1, o1⟩ := res
    cases r1 with
    | d hx =>
    refine ⟨z, dp_str hx, _, δ1, F1, f1, fx1, S1, fun F2 H2 s1 s2 => ⟨fun i d hd => ?_, fun i hi => ?_⟩, q⟩
    · unfold signsD at hd
      rw [List.getElem?_map, Array.getElem?_toList] at hd
      cases e : z.cps[i]? with
      | none => rw [e] at hd; cases hd
      | some c =>
        rw [e] at hd
        cases hd
        refine ⟨(Array.getElem?_eq_some_iff.mp e).1, fun x H' ⟨e1, c', e2, e3⟩ => ?_⟩
        rw [e] at e2
        cases e2
        rw [e1, e3]
        exact .same s2 (.str _)
    · have : (signsD z).length = z.cps.size := by simp [signsD]
      rw [this] at hi
      exact hi⟩
end
end Z
set_option maxHeartbeats 4000000
namespace Z
open PySem PySem.Spec PyProof.Rows L2
/-! ### patterns of names -/
inductive Pat where
  | n (j : Nat)
  | t (ps : List Pat)
mutual
def patG (K : PySem.W.Frag) : Pat → TG
  | .n j => gName j
  | .t ps => gTup K ps.length (patGs K ps)
def patGs (K : PySem.W.Frag) : List Pat → TGs
  | [] => gNil
  | p :: ps => gCons (patG K p) (patGs K ps)
end
mutual
def patL : Pat → PyData → LSt → Option LSt
  | .n j, x, δ => if freeAt δ j = true then some (δ.set j (.is (.d x))) else none
  | .t ps, .tuple xs, δ => patLs ps xs δ
  | .t _, _, _ => none
def patLs : List Pat → List PyData → LSt → Option LSt
  | [], [], δ => some δ
  | p :: ps, x :: xs, δ => match patL p x δ with
    | some δ1 => patLs ps xs δ1
    | none => none
  | _, _, _ => none
end
mutual
def patIn (vs : List Nat) : Pat → Bool
  | .n j => decide (j ∈ vs)
  | .t ps => patsIn vs ps
def patsIn (vs : List Nat) : List Pat → Bool
  | [] => true
  | p :: ps => patIn vs p && patsIn vs ps
end
theorem wipe_set {σ : L2.St} {j : Nat} {x : Option V} : ∀ {vs : List Nat}, j ∈ vs → wipe (σ.set j x) vs = wipe σ vs
  | [], h => by simp at h
  | v :: vs, h => by
    have key : ∀ vs : List Nat, wipe (σ.set j x) vs = wipe σ vs ∨ (j ∉ vs ∧ wipe (σ.set j x) vs = (wipe σ vs).set j x) := by
      intro vs
      induction vs with
      | nil => exact .inr ⟨by simp, rfl⟩
      | cons u us ih =>
        show (wipe (σ.set j x) us).set u none = (wipe σ us).set u none ∨ _
        rcases ih with e | ⟨n, e⟩
        · left; rw [e]
        · by_cases hu : u = j
          · left; subst hu; rw [e, List.set_set]
          · right
            refine ⟨by simp [n, Ne.symm hu], ?_⟩
            show (wipe (σ.set j x) us).set u none = ((wipe σ us).set u none).set j x
            rw [e, List.set_comm _ _ (Ne.symm hu)]
    rcases key (v :: vs) with e | ⟨n, _⟩
    · exact e
    · exact absurd h n
theorem wipe_setN {j : Nat} {x : Option V} : ∀ (vs : List Nat) (σ : L2.St), (wipe (σ.set j x) vs).set j none = (wipe σ vs).set j none
  | [], σ => List.set_set ..
  | u :: us, σ => by
    show ((wipe (σ.set j x) us).set u none).set j none = ((wipe σ us).set u none).set j none
    by_cases hu : u = j
    · subst hu
      rw [List.set_set, List.set_set, wipe_setN us σ]
    · rw [List.set_comm _ _ hu, List.set_comm (l := wipe σ us) _ _ hu, wipe_setN us σ]
theorem wipe_wipe (σ : L2.St) : ∀ vs : List Nat, wipe (wipe σ vs) vs = wipe σ vs
  | [] => rfl
  | v :: vs => by
    show (wipe ((wipe σ vs).set v none) vs).set v none = (wipe σ vs).set v none
    rw [wipe_setN, wipe_wipe σ vs]
theorem lenDp {c : Ct} {F G H : Hp} {σ : L2.St} {δ : LSt} {f : Fp} (S : Sto c F G H σ δ f) : σ.length = δ.length := rpS_len S.rp
section
variable {c : Ct} {F G H : Hp}
theorem Aft.same {σ : L2.St} {δ : LSt} (S : Aft c F G H σ δ) : Aft c F G H σ δ := S
mutual
theorem patG_run : ∀ {p : Pat} {x : PyData} {δ δ' : LSt} {σ : L2.St} {v : V} {f : Fp} {R : L2.St → Hp → Prop}, patL p x δ = some δ' → Sto c F G H σ δ f → Dp c.K F v x →
    (∀ σ' f', Sto c F G H σ' δ' f' → (∀ vs, patIn vs p = true → wipe σ' vs = wipe σ vs) → R σ' H) → patG c.K p v σ H R
  | .n j, x, δ, δ', σ, v, f, R, e, S, d, k => by
    have e' : (if freeAt δ j = true then some (δ.set j (.is (.d x))) else none) = some δ' := e
    by_cases hf : freeAt δ j = true
    · rw [if_pos hf] at e'
      cases e'
      obtain ⟨r0, e1, e2⟩ := rpS_drop (i := j) S.rp
      have hl : j < δ.length := by
        unfold freeAt at hf
        cases q : δ[j]? with
        | none => rw [q] at hf; cases hf
        | some s => exact (List.getElem?_eq_some_iff.mp q).1
      obtain ⟨f', q1, q2⟩ := rpS_put (v := v) (x := .d x) (s := .is (.d x)) e1 (.d d) .nil hl (.inl rfl)
      exact k _ f' ⟨S.fh, S.gh, q1, fun a h => ((q2 a).mp h).elim False.elim fun h => S.off a (e2 a h)⟩ fun vs hv => wipe_set (of_decide_eq_true hv)
    · rw [if_neg hf] at e'
      cases e'
  | .t ps, .tuple xs, δ, δ', σ, v, f, R, e, S, d, k => by
    obtain ⟨a, vs, ev, hs, dd⟩ := dp_tup d
    refine ⟨a, vs, ev, sqt_mono S.fh hs, ?_, patGs_run (show patLs ps xs δ = some δ' from e) S dd k⟩
    rw [dpAll_len dd]
    exact patLs_len e
  | .t _, .none, _, _, _, _, _, _, e, _, _, _ => nomatch (show (none : Option LSt) = some _ from e)
  | .t _, .bool _, _, _, _, _, _, _, e, _, _, _ => nomatch (show (none : Option LSt) = some _ from e)
  | .t _, .int _, _, _, _, _, _, _, e, _, _, _ => nomatch (show (none : Option LSt) = some _ from e)
  | .t _, .str _, _, _, _, _, _, _, e, _, _, _ => nomatch (show (none : Option LSt) = some _ from e)
  | .t _, .list _, _, _, _, _, _, _, e, _, _, _ => nomatch (show (none : Option LSt) = some _ from e)
  | .t _, .dict _, _, _, _, _, _, _, e, _, _, _ => nomatch (show (none : Option LSt) = some _ from e)
theorem patGs_run : ∀ {ps : List Pat} {xs : List PyData} {δ δ' : LSt} {σ : L2.St} {vs : List V} {f : Fp} {R : L2.St → Hp → Prop}, patLs ps xs δ = some δ' → Sto c F G H σ δ f → DpAll c.K F vs xs →
    (∀ σ' f', Sto c F G H σ' δ' f' → (∀ ws, patsIn ws ps = true → wipe σ' ws = wipe σ ws) → R σ' H) → patGs c.K ps vs σ H R
  | [], [], δ, δ', σ, _, f, R, e, S, .nil, k => by
    cases (show some δ = some δ' from e)
    exact ⟨rfl, k σ f S fun _ _ => rfl⟩
  | p :: ps, x :: xs, δ, δ', σ, _, f, R, e, S, .cons (v := v) (vs := vs) d dd, k => by
    have e' : (match patL p x δ with
      | some δ1 => patLs ps xs δ1
      | none => none) = some δ' := e
    cases q : patL p x δ with
    | none => rw [q] at e'; cases e'
    | some δ1 =>
      rw [q] at e'
      exact ⟨v, vs, rfl, patG_run q S d fun σ1 f1 S1 w1 => patGs_run e' S1 dd fun σ2 f2 S2 w2 => k σ2 f2 S2 fun ws hw => by
        have hw' := Bool.and_eq_true_iff.mp hw
        rw [w2 ws hw'.2, w1 ws hw'.1]⟩
  | [], _ :: _, _, _, _, _, _, _, e, _, _, _ => nomatch (show (none : Option LSt) = some _ from e)
  | _ :: _, [], _, _, _, _, _, _, e, _, _, _ => nomatch (show (none : Option LSt) = some _ from e)
theorem patLs_len : ∀ {ps : List Pat} {xs : List PyData} {δ δ' : LSt}, patLs ps xs δ = some δ' → xs.length = ps.length
  | [], [], _, _, _ => rfl
  | p :: ps, x :: xs, δ, δ', e => by
    have e' : (match patL p x δ with
      | some δ1 => patLs ps xs δ1
      | none => none) = some δ' := e
    cases q : patL p x δ with
    | none => rw [q] at e'; cases e'
    | some δ1 =>
      rw [q] at e'
      exact congrArg Nat.succ (patLs_len e')
  | [], _ :: _, _, _, e => nomatch (show (none : Option LSt) = some _ from e)
  | _ :: _, [], _, _, e => nomatch (show (none : Option LSt) = some _ from e)
end
end
/-- a pattern as a target -/
theorem lg_pat {X : Cx} {tg : Expr} {p : Pat} {x : PyData} {δ δ' : LSt} {W : LW} {Q : LSt → Prop} (hg : PG X tg (patG X.K p)) (e : patL p x δ = some δ') (q : Q δ') : LG X tg (.d x) δ W Q :=
  lg_of hg fun F G σ H f g v S r d o T => by
    cases r with
    | d hx => exact patG_run e S hx fun σ' f' S' _ => ⟨δ', ⟨F, f', .refl, S'⟩, q⟩
/-! ### comprehensions -/
def wipeL (δ : LSt) : List Nat → LSt
  | [] => δ
  | v :: vs => (wipeL δ vs).set v .no
theorem rpS_setno {c : Ct} {F H : Hp} {x : Option V} : ∀ {σ : L2.St} {δ : LSt} {f : Fp} {i : Nat}, RpS c F H σ (δ.set i .no) f → RpS c F H (σ.set i x) (δ.set i .no) f
  | [], [], _, _, r => r
  | _ :: σ, _ :: δ, _, 0, r => by
    have r' : RpS c F H _ (Sl.no :: δ) _ := r
    cases r' with
    | no r => exact .no r
  | _ :: σ, s :: δ, f, i + 1, r => by
    have r' : RpS c F H _ (s :: δ.set i .no) _ := r
    cases r' with
    | no r0 => exact .no (rpS_setno (i := i) r0)
    | is h r0 n => exact .is h (rpS_setno (i := i) r0) n
    | lk h r0 n => exact .lk h (rpS_setno (i := i) r0) n
  | [], _ :: _, _, 0, r => nomatch (rpS_len r)
  | [], _ :: _, _, _ + 1, r => nomatch (rpS_len r)
  | _ :: _, [], _, _, r => nomatch (rpS_len r)
theorem rpS_wipe {c : Ct} {F H : Hp} {σ : L2.St} {δ : LSt} {f : Fp} (r : RpS c F H σ δ f) : ∀ vs : List Nat, ∃ g, RpS c F H (wipe σ vs) (wipeL δ vs) g ∧ ∀ a, g a → f a
  | [] => ⟨f, r, fun _ h => h⟩
  | v :: vs => by
    obtain ⟨g, r1, s1⟩ := rpS_wipe r vs
    obtain ⟨g2, r2, s2⟩ := rpS_drop (i := v) r1
    exact ⟨g2, rpS_setno r2, fun a h => s1 a (s2 a h)⟩
theorem rpS_unset {c : Ct} {F H : Hp} {x : Option V} : ∀ {σ : L2.St} {δ : LSt} {f : Fp} {i : Nat}, RpS c F H (σ.set i x) (δ.set i .no) f → RpS c F H σ (δ.set i .no) f
  | [], [], _, _, r => r
  | _ :: σ, _ :: δ, _, 0, r => by
    have r' : RpS c F H _ (Sl.no :: δ) _ := r
    cases r' with
    | no r => exact .no r
  | _ :: σ, s :: δ, f, i + 1, r => by
    have r' : RpS c F H (_ :: σ.set i x) (s :: δ.set i .no) _ := r
    cases r' with
    | no r0 => exact .no (rpS_unset (i := i) r0)
    | is h r0 n => exact .is h (rpS_unset (i := i) r0) n
    | lk h r0 n => exact .lk h (rpS_unset (i := i) r0) n
  | [], _ :: _, _, 0, r => nomatch (rpS_len r)
  | [], _ :: _, _, _ + 1, r => nomatch (rpS_len r)
  | _ :: _, [], _, 0, r => nomatch (rpS_len r)
  | _ :: _, [], _, _ + 1, r => nomatch (rpS_len r)
/-- the slots are as they were; of the wiped ones nothing is known -/
theorem rpS_unwipe {c : Ct} {F H : Hp} {σ : L2.St} : ∀ {vs : List Nat} {δ : LSt} {f : Fp}, RpS c F H (wipe σ vs) δ f → ∃ g, RpS c F H σ (wipeL δ vs) g ∧ ∀ a, g a → f a
  | [], δ, f, r => ⟨f, r, fun _ h => h⟩
  | v :: vs, δ, f, r => by
    obtain ⟨g1, r1, s1⟩ := rpS_drop (i := v) r
    have r2 : RpS c F H (wipe σ vs) (δ.set v .no) g1 := rpS_unset (x := none) r1
    obtain ⟨g2, r3, s2⟩ := rpS_unwipe r2
    refine ⟨g2, ?_, fun a h => s1 a (s2 a h)⟩
    have : wipeL (δ.set v .no) vs = (wipeL δ vs).set v .no := by
      clear r r1 r2 r3 s1 s2
      induction vs with
      | nil => rfl
      | cons u us ih =>
        show (wipeL (δ.set v .no) us).set u .no = ((wipeL δ us).set u .no).set v .no
        rw [ih]
        by_cases hu : v = u
        · subst hu; rfl
        · rw [List.set_comm _ _ hu]
    rw [this] at r3
    exact r3
theorem rpAll_snoc {c : Ct} {F H : Hp} {v : V} {x : LV} {g : Fp} (h : Rp c F H v x g) : ∀ {vs : List V} {xs : List LV} {f : Fp}, RpAll c F H vs xs f → Disj f g → ∃ f', RpAll c F H (vs ++ [v]) (xs ++ [x]) f' ∧ ∀ a, f' a ↔ (f a ∨ g a)
  | _, _, _, .nil, d => ⟨_, .cons h .nil .nil', fun a => ⟨fun q => q.elim .inr False.elim, fun q => q.elim False.elim .inl⟩⟩
  | _, _, _, .cons h1 r n, d => by
    obtain ⟨f', r', e⟩ := rpAll_snoc h r fun a p q => d a (.inr p) q
    refine ⟨_, .cons h1 r' fun a p q => ?_, fun a => ?_⟩
    · rcases (e a).mp q with q | q
      · exact n a p q
      · exact d a (.inl p) q
    · rw [e a, or_assoc]
section
variable {X : Cx} {δ : LSt} {W : LW} {Q : LV → LSt → Prop} {elt tg iter c : Expr} {ifs : List Expr} {scope : Scope} {own : List (Str × Nat)} {p : Pat} {pos : Pos}
abbrev Cx.bl (X : Cx) (scope : Scope) (s : Shared) (H : Hp) (C : Addr) (cl : List (Str × Addr)) (fp : List Addr) : Cx := X.blk s H scope (compEnvC scope cl C X.env) fp
def tEU (X : Cx) (scope : Scope) (e : Expr) : TE := fun σ H R => ∃ F G δ f Q, Sto (cx X) F G H σ δ f ∧ (∀ s H C cl fp, LE (Z.Cx.bl X scope s H C cl fp) e δ W0 Q) ∧ ∀ v H' x δ', Res (cx X) F G H' σ v x δ' → Q x δ' → R v H'
theorem pe_tEU {s H C cl fp} : PE (Z.Cx.bl X scope s H C cl fp) elt (tEU X scope elt) := ⟨fun pins s1 σ H1 R I ⟨F, G, δ, f, Q, S, h, k⟩ => thn ((h s H C cl fp).run pins s1 σ H1 F G f I S ltakes0) fun u s' ⟨v, H', I', r, x, δ', res, q⟩ => ⟨v, H', I', r, k v H' x δ' res q⟩⟩
def tTU (X : Cx) (scope : Scope) (e : Expr) : TT := fun σ H R => ∃ F G δ f Q, Sto (cx X) F G H σ δ f ∧ (∀ s H C cl fp, LT (Z.Cx.bl X scope s H C cl fp) e δ W0 Q) ∧ ∀ b H' δ', Aft (cx X) F G H' σ δ' → Q b δ' → R b H'
theorem pt_tTU {s H C cl fp} : PT (Z.Cx.bl X scope s H C cl fp) c (tTU X scope c) := ⟨fun pins s1 σ H1 R I ⟨F, G, δ, f, Q, S, h, k⟩ => thn ((h s H C cl fp).run pins s1 σ H1 F G f I S ltakes0) fun b s' ⟨H', I', δ', a, q⟩ => ⟨H', I', k b H' δ' a q⟩⟩
theorem lc_t {F G H : Hp} {σ : L2.St} {f : Fp} {R : VK} {tt : TT} (LTs : LSt → (Bool → LSt → Prop) → Prop)
    (htt : ∀ F G σ H f δ T, Sto (cx X) F G H σ δ f → LTs δ T → tt σ H (fun b H' => ∃ δ', Aft (cx X) F G H' σ δ' ∧ T b δ')) (mtt : ∀ σ H (R R' : Bool → Hp → Prop), (∀ b H', R b H' → R' b H') → tt σ H R → tt σ H R')
    (hc : X.calm = true) (hN : X.N.Nodup) (ok : BlkOk X.N X.env.scope scope own) (hp : patIn (own.map (·.2)) p = true)
    (hg : ∀ s H C cl fp, PG (Z.Cx.bl X scope s H C cl fp) tg (patG X.K p)) (ht : ∀ s H C cl fp, PTs (Z.Cx.bl X scope s H C cl fp) ifs tt)
    (h : LI X tg iter δ W fun ds δ1 => ∃ I : Nat → List LV → LSt → Prop, I 0 [] (wipeL δ1 (own.map (·.2))) ∧
      (∀ i d acc δ2, ds[i]? = some d → I i acc δ2 → ∃ δ3, patL p d δ2 = some δ3 ∧ LTs δ3 fun b δ4 => if b = true then ∀ s H C cl fp, LE (Z.Cx.bl X scope s H C cl fp) elt δ4 W0 fun y δ5 => acc.length < sizeLine ∧ I (i + 1) (acc ++ [y]) (wipeL δ5 (own.map (·.2))) else I (i + 1) acc (wipeL δ4 (own.map (·.2)))) ∧
      ∀ acc δ2, I ds.length acc δ2 → Q (.l acc) (wipeL δ2 (own.map (·.2))))
    (S : Sto (cx X) F G H σ δ f) (T : LTakes X F G W) (kR : ∀ v H' x δ', Res (cx X) F G H' σ v x δ' → Q x δ' → R v H') : tLc (tI X tg iter) (patG X.K p) tt (tEU X scope elt) (own.map (·.2)) σ H R :=
  ⟨F, G, δ, f, W, _, S, T, h, fun J H1 ds δ1 F1 f1 fx1 S1 y ⟨I, i0, turn, done⟩ D hD => by
    generalize hvs : own.map (·.2) = vs at *
    refine ⟨fun i m H' => m = ds.length - i ∧ i ≤ ds.length ∧ ∃ acc g δ2 F2 f2, FX G F1 F2 ∧ Rp (cx X) F2 H' (.ref D) (.l acc) g ∧ Sto (cx X) F2 G H' (wipe σ vs) δ2 f2 ∧ Disj g f2 ∧ Off g F2 G ∧ I i acc δ2, ⟨ds.length, rfl, Nat.zero_le _, ?_⟩, ?_⟩
    · obtain ⟨g, r, s⟩ := rpS_wipe (rpS_frame (H' := upd H1 D (.lst [])) (Same.refl F1) S1.rp fun a h => upd_ne fun e => by
        obtain ⟨o, q⟩ := S1.there a h
        rw [e, hD] at q; cases q) vs
      have nF : F1 D = none := fresh_of S1.fh hD
      have nG : G D = none := fresh_of S1.gh hD
      refine ⟨[], _, _, F1, g, .refl, .l upd_same .nil (fun h => h), ⟨same_upd2 S1.fh nF, same_upd2 S1.gh nG, r, fun a h => S1.off a (s a h)⟩, fun a p q => ?_, fun a p => ?_, i0⟩
      · rcases p with p | p
        · obtain ⟨o, e⟩ := S1.there a (s a q)
          rw [p, hD] at e; cases e
        · exact p
      · rcases p with p | p
        · rw [p]; exact ⟨nF, nG⟩
        · exact p.elim
    · rintro i m H2 ⟨rfl, hi, acc, g, δ2, F2, f2, fx2, rl, S2, dj, off, i2⟩
      obtain ⟨go, stop⟩ := y F2 H2 fx2.up S2.fh
      by_cases hlt : i < ds.length
      · obtain ⟨g1, g2⟩ := go i ds[i] (by simp [hlt])
        refine .inr ⟨g1, fun H' => ∃ acc g δ2 F2 f2, FX G F1 F2 ∧ Rp (cx X) F2 H' (.ref D) (.l acc) g ∧ Sto (cx X) F2 G H' (wipe σ vs) δ2 f2 ∧ Disj g f2 ∧ Off g F2 G ∧ I (i + 1) acc δ2, fun H' h => ⟨ds.length - (i + 1), by omega, rfl, hlt, h⟩, fun x H3 yl => ?_⟩
        have thg := rp_there rl
        have S2' := S2.gadd dj
        obtain ⟨F3, f3, g3, fx3, S3, r3, d3, o3⟩ := S2'.new (g2 x H3 yl)
        cases r3 with
        | d hx =>
        obtain ⟨δ3, e3, lt⟩ := turn i ds[i] acc δ2 (by simp [hlt]) i2
        refine patG_run e3 S3 hx fun σ2 fσ Sσ hw0 => ⟨by rw [hw0 vs hp, wipe_wipe], mtt _ _ _ _ ?_ (htt _ _ _ _ _ _ _ Sσ lt)⟩
        rintro b H4 ⟨δ4, ⟨F4, f4, fx4, S4⟩, q4⟩
        have fx34 := fx3.trans fx4
        have hw : wipe σ2 vs = wipe σ vs := by rw [hw0 vs hp, wipe_wipe]
        -- what the list is behind a step
        have keep : ∀ {F' H' δ' f' fx'}, FX (Z.gadd G H2 g) F2 F' → Sto (cx X) F' (Z.gadd G H2 g) H' σ2 δ' f' → fx' = () → FX G F1 F' ∧ Rp (cx X) F' H' (.ref D) (.l acc) g ∧ Sto (cx X) F' G H' σ2 δ' f' ∧ Disj g f' ∧ Off g F' G := by
          intro F' H' δ' f' _ fx S' _
          obtain ⟨a1, a2⟩ := gadd_fx thg off fx
          obtain ⟨b1, b2⟩ := S'.ungadd thg off fx
          exact ⟨fx2.trans a1, rp_frame fx.up rl (gadd_keep thg S'.gh), b1, b2, a2⟩
        cases b with
        | false =>
          rw [if_neg Bool.false_ne_true] at q4 ⊢
          obtain ⟨k1, k2, k3, k4, k5⟩ := keep (fx' := ()) fx34 S4 rfl
          obtain ⟨g5, r5, s5⟩ := rpS_wipe k3.rp vs
          rw [hw] at r5
          exact ⟨acc, g, _, F4, g5, k1, k2, ⟨k3.fh, k3.gh, r5, fun a h => k3.off a (s5 a h)⟩, fun a p q => k4 a p (s5 a q), k5, q4⟩
        | true =>
          rw [if_pos rfl] at q4 ⊢
          refine ⟨F4, Z.gadd G H2 g, δ4, f4, _, S4, q4, ?_⟩
          rintro yv H5 yx δ5 ⟨F5, f5, gy, fx5, S5, ry, dy, oy⟩ ⟨hz, q5⟩
          obtain ⟨k1, k2, k3, k4, k5⟩ := keep (fx' := ()) (fx34.trans fx5) S5 rfl
          obtain ⟨oy1, dgy⟩ := gadd_off thg off oy
          cases k2 with
          | @l _ vsD _ gD hDl rD nD =>
          have hlen : vsD.length = acc.length := rpAll_len rD
          refine ⟨vsD, hDl, by rw [hlen]; exact hz, ?_⟩
          have noD : ∀ a, gD a → a ≠ D := fun a h e => nD (e ▸ h)
          have noY : ∀ a, gy a → a ≠ D := fun a h e => dgy D (.inl rfl) (e ▸ h)
          have nofS : ∀ a, f5 a → a ≠ D := fun a h e => k4 D (.inl rfl) (e ▸ h)
          obtain ⟨f', rA, eA⟩ := rpAll_snoc (rp_frame (H' := upd H5 D (.lst (vsD ++ [yv]))) (Same.refl F5) ry fun a h => upd_ne (noY a h)) (rpAll_frame (H' := upd H5 D (.lst (vsD ++ [yv]))) (Same.refl F5) rD fun a h => upd_ne (noD a h)) (fun a p q => dgy a (.inr p) q)
          obtain ⟨g5, r5, s5⟩ := rpS_wipe (rpS_frame (H' := upd H5 D (.lst (vsD ++ [yv]))) (Same.refl F5) k3.rp fun a h => upd_ne (nofS a h)) vs
          rw [hw] at r5
          have nF : F5 D = none := (k5 D (.inl rfl)).1
          have nG : G D = none := (k5 D (.inl rfl)).2
          refine ⟨acc ++ [yx], _, _, F5, g5, k1, .l upd_same rA fun h => ?_, ⟨same_upd2 k3.fh nF, same_upd2 k3.gh nG, r5, fun a h => k3.off a (s5 a h)⟩, fun a p q => ?_, fun a p => ?_, q5⟩
          · rcases (eA D).mp h with h | h
            · exact noD D h rfl
            · exact noY D h rfl
          · rcases p with p | p
            · exact nofS a (s5 a q) p
            · rcases (eA a).mp p with p | p
              · exact k4 a (.inr p) (s5 a q)
              · exact dy a p (s5 a q)
          · rcases p with p | p
            · rw [p]; exact ⟨nF, nG⟩
            · rcases (eA a).mp p with p | p
              · exact k5 a (.inr p)
              · exact oy1 a p
      · have e : i = ds.length := by omega
        subst e
        obtain ⟨g5, r5, s5⟩ := rpS_unwipe S2.rp
        exact .inl ⟨stop _ (Nat.le_refl _), kR _ _ _ _ ⟨F2, g5, g, fx1.trans fx2, ⟨S2.fh, S2.gh, r5, fun a h => S2.off a (s5 a h)⟩, rl, fun a p q => dj a p (s5 a q), off⟩ (done acc δ2 i2)⟩⟩
theorem lc_z {tt : TT} (LTs : LSt → (Bool → LSt → Prop) → Prop)
    (htt : ∀ F G σ H f δ T, Sto (cx X) F G H σ δ f → LTs δ T → tt σ H (fun b H' => ∃ δ', Aft (cx X) F G H' σ δ' ∧ T b δ')) (mtt : ∀ σ H (R R' : Bool → Hp → Prop), (∀ b H', R b H' → R' b H') → tt σ H R → tt σ H R')
    (hc : X.calm = true) (hN : X.N.Nodup) (ok : BlkOk X.N X.env.scope scope own) (hp : patIn (own.map (·.2)) p = true)
    (hg : ∀ s H C cl fp, PG (Z.Cx.bl X scope s H C cl fp) tg (patG X.K p)) (ht : ∀ s H C cl fp, PTs (Z.Cx.bl X scope s H C cl fp) ifs tt)
    (h : LI X tg iter δ W fun ds δ1 => ∃ I : Nat → List LV → LSt → Prop, I 0 [] (wipeL δ1 (own.map (·.2))) ∧
      (∀ i d acc δ2, ds[i]? = some d → I i acc δ2 → ∃ δ3, patL p d δ2 = some δ3 ∧ LTs δ3 fun b δ4 => if b = true then ∀ s H C cl fp, LE (Z.Cx.bl X scope s H C cl fp) elt δ4 W0 fun y δ5 => acc.length < sizeLine ∧ I (i + 1) (acc ++ [y]) (wipeL δ5 (own.map (·.2))) else I (i + 1) acc (wipeL δ4 (own.map (·.2)))) ∧
      ∀ acc δ2, I ds.length acc δ2 → Q (.l acc) (wipeL δ2 (own.map (·.2))))
    (hs : ∀ x, foldedSetIterable iter X.env x = pure x := by intro _; rfl) : LE X (.ListComp elt [⟨tg, iter, ifs, 0⟩] scope pos) δ W Q :=
  le_of (pe_lc hc hN pi_tI ok hg ht (fun s H C cl fp => pe_tEU) hs) fun F G σ H f S T => lc_t LTs htt mtt hc hN ok hp hg ht h S T fun v H' x δ' r q => ⟨x, δ', r, q⟩
theorem lcs_z {P : LEnds} {i : Nat} {y : Str} {py spos : Pos} {tt : TT} (LTs : LSt → (Bool → LSt → Prop) → Prop)
    (htt : ∀ F G σ H f δ T, Sto (cx X) F G H σ δ f → LTs δ T → tt σ H (fun b H' => ∃ δ', Aft (cx X) F G H' σ δ' ∧ T b δ')) (mtt : ∀ σ H (R R' : Bool → Hp → Prop), (∀ b H', R b H' → R' b H') → tt σ H R → tt σ H R')
    (hc : X.calm = true) (hN : X.N.Nodup) (ok : BlkOk X.N X.env.scope scope own) (hp : patIn (own.map (·.2)) p = true)
    (hg : ∀ s H C cl fp, PG (Z.Cx.bl X scope s H C cl fp) tg (patG X.K p)) (ht : ∀ s H C cl fp, PTs (Z.Cx.bl X scope s H C cl fp) ifs tt)
    (hy : X.N[i]? = some y) (hyl : X.env.scope.names.lookup y = some .local) (hsw : swapsWith (.ListComp elt [⟨tg, iter, ifs, 0⟩] scope pos) (some (.Name y py)) spos.line X.env = pure true)
    (h : LI X tg iter δ W fun ds δ1 => ∃ I : Nat → List LV → LSt → Prop, I 0 [] (wipeL δ1 (own.map (·.2))) ∧
      (∀ i d acc δ2, ds[i]? = some d → I i acc δ2 → ∃ δ3, patL p d δ2 = some δ3 ∧ LTs δ3 fun b δ4 => if b = true then ∀ s H C cl fp, LE (Z.Cx.bl X scope s H C cl fp) elt δ4 W0 fun y δ5 => acc.length < sizeLine ∧ I (i + 1) (acc ++ [y]) (wipeL δ5 (own.map (·.2))) else I (i + 1) acc (wipeL δ4 (own.map (·.2)))) ∧
      ∀ acc δ2, I ds.length acc δ2 → freeAt (wipeL δ2 (own.map (·.2))) i = true ∧ P.nx ((wipeL δ2 (own.map (·.2))).set i (.is (.l acc))))
    (hs : ∀ x, foldedSetIterable iter X.env x = pure x := by intro _; rfl) : LS X (.Assign [.Name y py] (.ListComp elt [⟨tg, iter, ifs, 0⟩] scope pos) spos) δ W P :=
  ls_of (ps_setLc hc hN hy hyl hsw pi_tI ok hg ht (fun s H C cl fp => pe_tEU) hs) fun F G σ H f S T => lc_t (Q := fun x δ1 => freeAt δ1 i = true ∧ P.nx (δ1.set i (.is x))) LTs htt mtt hc hN ok hp hg ht h S T fun v H' x δ' ⟨F', f', g', fx, S', r, d, o⟩ ⟨hi, q⟩ => ⟨_, (sto_set S' hi r d o).pre fx, q⟩
/-- [elt for tg in iter] -/
theorem le_comp (hN : X.N.Nodup) (p : Pat) (hc : X.calm = true) (ok : BlkOk X.N X.env.scope scope own) (hp : patIn (own.map (·.2)) p = true) (hg : ∀ s H C cl fp, PG (Z.Cx.bl X scope s H C cl fp) tg (patG X.K p))
    (h : LI X tg iter δ W fun ds δ1 => ∃ I : Nat → List LV → LSt → Prop, I 0 [] (wipeL δ1 (own.map (·.2))) ∧
      (∀ i d acc δ2, ds[i]? = some d → I i acc δ2 → ∃ δ3, patL p d δ2 = some δ3 ∧ ∀ s H C cl fp, LE (Z.Cx.bl X scope s H C cl fp) elt δ3 W0 fun y δ5 => acc.length < sizeLine ∧ I (i + 1) (acc ++ [y]) (wipeL δ5 (own.map (·.2)))) ∧
      ∀ acc δ2, I ds.length acc δ2 → Q (.l acc) (wipeL δ2 (own.map (·.2))))
    (hs : ∀ x, foldedSetIterable iter X.env x = pure x := by intro _; rfl) : LE X (.ListComp elt [⟨tg, iter, [], 0⟩] scope pos) δ W Q :=
  lc_z (own := own) (p := p) (fun δ T => T true δ) (tt := tYes) (fun F G σ H f δ T S t => ⟨δ, S.aft, t⟩) (fun σ H R R' k r => k _ _ r) hc hN ok hp hg (fun s H C cl fp => pts_nil)
    (li_imp h fun ds δ1 ⟨I, i0, turn, done⟩ => ⟨I, i0, fun i d acc δ2 hd hi => let ⟨δ3, e, k⟩ := turn i d acc δ2 hd hi; ⟨δ3, e, by show (if true = true then _ else _); rw [if_pos rfl]; exact k⟩, done⟩) hs
/-- x = [elt for tg in iter], on one line -/
theorem ls_comp {P : LEnds} {i : Nat} {y : Str} {py spos : Pos} (hN : X.N.Nodup) (p : Pat) (hc : X.calm = true) (ok : BlkOk X.N X.env.scope scope own) (hp : patIn (own.map (·.2)) p = true) (hg : ∀ s H C cl fp, PG (Z.Cx.bl X scope s H C cl fp) tg (patG X.K p))
    (hy : X.N[i]? = some y) (hyl : X.env.scope.names.lookup y = some .local) (hsw : swapsWith (.ListComp elt [⟨tg, iter, [], 0⟩] scope pos) (some (.Name y py)) spos.line X.env = pure true)
    (h : LI X tg iter δ W fun ds δ1 => ∃ I : Nat → List LV → LSt → Prop, I 0 [] (wipeL δ1 (own.map (·.2))) ∧
      (∀ i d acc δ2, ds[i]? = some d → I i acc δ2 → ∃ δ3, patL p d δ2 = some δ3 ∧ ∀ s H C cl fp, LE (Z.Cx.bl X scope s H C cl fp) elt δ3 W0 fun y δ5 => acc.length < sizeLine ∧ I (i + 1) (acc ++ [y]) (wipeL δ5 (own.map (·.2)))) ∧
      ∀ acc δ2, I ds.length acc δ2 → freeAt (wipeL δ2 (own.map (·.2))) i = true ∧ P.nx ((wipeL δ2 (own.map (·.2))).set i (.is (.l acc))))
    (hs : ∀ x, foldedSetIterable iter X.env x = pure x := by intro _; rfl) : LS X (.Assign [.Name y py] (.ListComp elt [⟨tg, iter, [], 0⟩] scope pos) spos) δ W P :=
  lcs_z (own := own) (p := p) (fun δ T => T true δ) (tt := tYes) (fun F G σ H f δ T S t => ⟨δ, S.aft, t⟩) (fun σ H R R' k r => k _ _ r) hc hN ok hp hg (fun s H C cl fp => pts_nil) hy hyl hsw
    (li_imp h fun ds δ1 ⟨I, i0, turn, done⟩ => ⟨I, i0, fun i d acc δ2 hd hi => let ⟨δ3, e, k⟩ := turn i d acc δ2 hd hi; ⟨δ3, e, by show (if true = true then _ else _); rw [if_pos rfl]; exact k⟩, done⟩) hs
/-- [elt for tg in iter if c] -/
theorem le_compIf (hN : X.N.Nodup) (p : Pat) (hc : X.calm = true) (ok : BlkOk X.N X.env.scope scope own) (hp : patIn (own.map (·.2)) p = true) (hg : ∀ s H C cl fp, PG (Z.Cx.bl X scope s H C cl fp) tg (patG X.K p))
    (h : LI X tg iter δ W fun ds δ1 => ∃ I : Nat → List LV → LSt → Prop, I 0 [] (wipeL δ1 (own.map (·.2))) ∧
      (∀ i d acc δ2, ds[i]? = some d → I i acc δ2 → ∃ δ3, patL p d δ2 = some δ3 ∧ ∀ s H C cl fp, LT (Z.Cx.bl X scope s H C cl fp) c δ3 W0 fun b δ4 => if b = true then ∀ s H C cl fp, LE (Z.Cx.bl X scope s H C cl fp) elt δ4 W0 fun y δ5 => acc.length < sizeLine ∧ I (i + 1) (acc ++ [y]) (wipeL δ5 (own.map (·.2))) else I (i + 1) acc (wipeL δ4 (own.map (·.2)))) ∧
      ∀ acc δ2, I ds.length acc δ2 → Q (.l acc) (wipeL δ2 (own.map (·.2))))
    (hs : ∀ x, foldedSetIterable iter X.env x = pure x := by intro _; rfl) : LE X (.ListComp elt [⟨tg, iter, [c], 0⟩] scope pos) δ W Q :=
  lc_z (own := own) (p := p) (fun δ T => ∀ s H C cl fp, LT (Z.Cx.bl X scope s H C cl fp) c δ W0 T) (tt := tTU X scope c) (fun F G σ H f δ T S t => ⟨F, G, δ, f, T, S, t, fun b H' δ' a q => ⟨δ', a, q⟩⟩) (fun σ H R R' k ⟨F, G, δ, f, Q, S, h, kk⟩ => ⟨F, G, δ, f, Q, S, h, fun b H' δ' a q => k _ _ (kk b H' δ' a q)⟩) hc hN ok hp hg (fun s H C cl fp => pts_one pt_tTU)
    (li_imp h fun ds δ1 ⟨I, i0, turn, done⟩ => ⟨I, i0, fun i d acc δ2 hd hi => turn i d acc δ2 hd hi, done⟩) hs
end
end Z
set_option maxHeartbeats 4000000
namespace Z
open PySem PySem.Spec PyProof.Rows L2
/-! ### a slot's thing changed in place -/
def upAt : LSt → Nat → LV → LSt
  | [], _, _ => []
  | s :: δ, 0, x => s.up x :: δ
  | s :: δ, i + 1, x => s :: upAt δ i x
theorem upAt_eq {s : Sl} {x : LV} : ∀ {δ : LSt} {i : Nat}, δ[i]? = some s → upAt δ i x = δ.set i (s.up x)
  | [], _, h => by simp at h
  | t :: δ, 0, h => by
    simp at h
    subst h
    rfl
  | t :: δ, i + 1, h => by
    show t :: upAt δ i x = t :: δ.set i (s.up x)
    rw [upAt_eq (δ := δ) (i := i) (by simpa using h)]
theorem sto_mod {c : Ct} {F G H : Hp} {σ : L2.St} {δ : LSt} {f : Fp} {i : Nat} {x : LV} (S : Sto c F G H σ δ f) (h : valAt δ i = some x) :
    ∃ v g r, σ[i]? = some (some v) ∧ Rp c F H v x g ∧ Disj g r ∧ (∀ a, f a ↔ (g a ∨ r a)) ∧
      ∀ F' H' x' g', FX G F F' → Same F' H' → Same G H' → (∀ a, r a → H' a = H a ∧ F' a = none) → Rp c F' H' v x' g' → Disj g' r → Off g' F' G → Aft c F G H' σ (upAt δ i x') := by
  obtain ⟨s, e1, e2⟩ := sto_get S h
  obtain ⟨v, g, r, e3, e4, e5, dj, k, lk⟩ := rpS_get S.rp e1 e2
  refine ⟨v, g, r, e3, e4, dj, k, fun F' H' x' g' fx s1 s2 kr rp d o => ?_⟩
  have hi : i < δ.length := (List.getElem?_eq_some_iff.mp e1).1
  obtain ⟨f', q1, q2⟩ := rpS_put (s := s.up x') (rpS_frame (H' := H') fx.up e5 fun a h => (kr a h).1) rp d hi (by
    cases s with
    | no => exact .inl rfl
    | is y => exact .inl rfl
    | lk u y =>
      right
      rw [← lk u y rfl]
      rfl)
  have hσ : σ.set i (some v) = σ := by
    apply List.ext_getElem?
    intro j
    by_cases hj : i = j
    · subst hj
      rw [List.getElem?_set_self (List.getElem?_eq_some_iff.mp e3).1, e3]
    · rw [List.getElem?_set_ne hj]
  rw [hσ] at q1
  have e : upAt δ i x' = δ.set i (s.up x') := upAt_eq e1
  refine ⟨F', f', fx, s1, s2, by rw [e]; exact q1, fun a h => ?_⟩
  rcases (q2 a).mp h with h | h
  · exact o a h
  · exact ⟨(kr a h).2, (S.off a ((k a).mpr (.inr h))).2⟩
/-- an owned list in a slot gets other items (some of a thing x that is at hand): the heap changes at the list alone -/
theorem sto_lst {c : Ct} {F G H : Hp} {σ : L2.St} {δ : LSt} {f gx : Fp} {i : Nat} {xs : List LV} {v : V} (S : Sto c F G H σ δ f) (h : valAt δ i = some (.l xs)) (ev : σ[i]? = some (some v)) (dx : Disj gx f) (ox : Off gx F G) :
    ∃ p vs gA, v = .ref p ∧ H p = some (.lst vs) ∧ RpAll c F H vs xs gA ∧ Disj gx gA ∧ ∀ us ys gB, RpAll c F H us ys gB → (∀ a, gB a → gA a ∨ gx a) → Aft c F G (upd H p (.lst us)) σ (upAt δ i (.l ys)) := by
  obtain ⟨v1, g, r, e1, rp, dj, iff, kk⟩ := sto_mod S h
  rw [ev] at e1
  cases e1
  cases rp with
  | @l p vs _ gA hl rA nD =>
  refine ⟨p, vs, gA, rfl, hl, rA, fun a q1 q2 => dx a q1 ((iff a).mpr (.inl (.inr q2))), fun us ys gB rB sub => ?_⟩
  have og : Off _ F G := S.off.sub fun a h => (iff a).mpr (.inl h)
  have nF : F p = none := (og p (.inl rfl)).1
  have nG : G p = none := (og p (.inl rfl)).2
  have nx : ∀ a, gx a → a ≠ p := fun a h e => dx a h ((iff a).mpr (.inl (.inl e)))
  have nB : ∀ a, gB a → a ≠ p := fun a h e => (sub a h).elim (fun h => nD (e ▸ h)) fun h => nx a h e
  refine kk F (upd H p (.lst us)) (.l ys) _ .refl (same_upd2 S.fh nF) (same_upd2 S.gh nG) (fun a h => ⟨upd_ne fun e => dj a (.inl e) h, (S.off a ((iff a).mpr (.inr h))).1⟩) (.l upd_same (rpAll_frame (Same.refl F) rB fun a h => upd_ne (nB a h)) fun h => nB p h rfl) (fun a q1 q2 => ?_) (fun a q1 => ?_)
  · rcases q1 with q1 | q1
    · exact dj a (.inl q1) q2
    · rcases sub a q1 with q1 | q1
      · exact dj a (.inr q1) q2
      · exact dx a q1 ((iff a).mpr (.inr q2))
  · rcases q1 with q1 | q1
    · rw [q1]; exact ⟨nF, nG⟩
    · rcases sub a q1 with q1 | q1
      · exact og a (.inr q1)
      · exact ox a q1
theorem rpAll_get {c : Ct} {F H : Hp} : ∀ {vs : List V} {xs : List LV} {f : Fp} {i : Nat} {x : LV}, RpAll c F H vs xs f → xs[i]? = some x → ∃ v g, vs[i]? = some v ∧ Rp c F H v x g ∧ ∀ a, g a → f a
  | _, _, _, _, _, .nil, e => by simp at e
  | _, _, _, 0, _, .cons h _ _, e => by simp at e; subst e; exact ⟨_, _, rfl, h, fun _ h => .inl h⟩
  | _, _, _, i + 1, _, .cons _ t _, e => by
    obtain ⟨v, g, e1, e2, e3⟩ := rpAll_get (i := i) t (by simpa using e)
    exact ⟨v, g, e1, e2, fun a h => .inr (e3 a h)⟩
theorem rpAll_set {c : Ct} {F H : Hp} {u : V} {y : LV} {gx : Fp} (hy : Rp c F H u y gx) : ∀ {vs : List V} {xs : List LV} {f : Fp} (i : Nat), RpAll c F H vs xs f → Disj gx f → ∃ g, RpAll c F H (vs.set i u) (xs.set i y) g ∧ ∀ a, g a → f a ∨ gx a
  | _, _, _, _, .nil, _ => ⟨_, .nil, fun _ h => h.elim⟩
  | _, _, _, 0, .cons h t n, d => ⟨_, .cons hy t fun a p q => d a p (.inr q), fun a h => h.elim .inr fun h => .inl (.inr h)⟩
  | _, _, _, i + 1, .cons h t n, d => by
    obtain ⟨g, r, s⟩ := rpAll_set hy i t fun a p q => d a p (.inr q)
    exact ⟨_, .cons h r fun a p q => (s a q).elim (n a p) fun q => d a q (.inl p), fun a h => h.elim (fun h => .inl (.inl h)) fun h => (s a h).elim (fun h => .inl (.inr h)) .inr⟩
theorem rpAll_erase {c : Ct} {F H : Hp} : ∀ {vs : List V} {xs : List LV} {f : Fp} (i : Nat), RpAll c F H vs xs f → ∃ g, RpAll c F H (vs.eraseIdx i) (xs.eraseIdx i) g ∧ ∀ a, g a → f a
  | _, _, _, _, .nil => ⟨_, .nil, fun _ h => h.elim⟩
  | _, _, _, 0, .cons h t n => ⟨_, t, fun a h => .inr h⟩
  | _, _, _, i + 1, .cons h t n => by
    obtain ⟨g, r, s⟩ := rpAll_erase i t
    exact ⟨_, .cons h r fun a p q => n a p (s a q), fun a h => h.elim .inl fun h => .inr (s a h)⟩
theorem rpAll_append {c : Ct} {F H : Hp} : ∀ {vs us : List V} {xs ys : List LV} {f g : Fp}, RpAll c F H vs xs f → RpAll c F H us ys g → Disj f g → ∃ r, RpAll c F H (vs ++ us) (xs ++ ys) r ∧ ∀ a, r a → f a ∨ g a
  | _, _, _, _, _, _, .nil, h, _ => ⟨_, h, fun _ h => .inr h⟩
  | _, _, _, _, _, _, .cons h t n, r, d => by
    obtain ⟨q, r2, s⟩ := rpAll_append t r fun a p q => d a (.inr p) q
    exact ⟨_, .cons h r2 fun a p q => (s a q).elim (n a p) fun q => d a (.inl p) q, fun a h => h.elim (fun h => .inl (.inl h)) fun h => (s a h).elim (fun h => .inl (.inr h)) .inr⟩
theorem aft_res {c : Ct} {F F1 G H : Hp} {σ : L2.St} {δ : LSt} {v : V} {x : PyData} (h : Aft c F1 G H σ δ) (d : Dp c.K F1 v x) (fx : FX G F F1) : Res c F G H σ v (.d x) δ :=
  let ⟨_, _, fx2, S2⟩ := h
  (S2.resd (dp_mono fx2.up d)).pre (fx.trans fx2)
section
variable {X : Cx} {e a b : Expr} {δ : LSt} {W : LW} {Q : LV → LSt → Prop} {pos apos : Pos} {i : Nat} {nm : Str} {p : Pos}
theorem ty_list {K : PySem.W.Frag} {H : Hp} {l : Addr} {vs : List V} (h : H l = some (.lst vs)) : tyV K "list" (.ref l) H := Or.inl ⟨rfl, _, Or.inl (Or.inl h)⟩
theorem sto_slot {c : Ct} {F G H : Hp} {σ : L2.St} {f : Fp} {x : LV} (S : Sto c F G H σ δ f) (h : valAt δ i = some x) : ∃ v g, σ[i]? = some (some v) ∧ Rp c F H v x g ∧ ∀ a, g a → f a := by
  obtain ⟨v, g, r, e1, rp, _, iff, _⟩ := sto_mod S h
  exact ⟨v, g, e1, rp, fun a h => (iff a).mpr (.inl h)⟩
theorem sto_slotL {c : Ct} {F G H : Hp} {σ : L2.St} {f : Fp} {xs : List LV} (S : Sto c F G H σ δ f) (h : valAt δ i = some (.l xs)) : ∃ l vs g, σ[i]? = some (some (.ref l)) ∧ H l = some (.lst vs) ∧ RpAll c F H vs xs g ∧ ∀ a, g a → f a := by
  obtain ⟨v, g, e1, rp, s⟩ := sto_slot S h
  cases rp with
  | l h1 h2 h3 => exact ⟨_, _, _, e1, h1, h2, fun a h => s a (.inr h)⟩
/-- xs.append(e), xs a slot's own list -/
theorem le_append (h : LE X e δ W fun x δ1 => ∃ xs, valAt δ1 i = some (.l xs) ∧ xs.length < sizeLine ∧ Q (.d .none) (upAt δ1 i (.l (xs ++ [x])))) (h0 : ∃ xs0, valAt δ i = some (.l xs0) := by exact ⟨_, rfl⟩) (hN : X.N[i]? = some nm := by rfl) (hv : Vis X.env.scope nm := by first | exact Or.inl rfl | exact Or.inr (Or.inl rfl) | exact Or.inr (Or.inr rfl)) (hd : (nm == ("__debug__" : Str)) = false := by decide)
    (hcd : (nm == ("__classdict__" : Str)) = false := by decide)
    (hs : starEach (e :: []) X.env = (false, eval e X.env) :: starEach [] X.env := by rfl) (hbase : attributeBase (.Name nm p) "append" X.env (eval (.Name nm p) X.env) = eval (.Name nm p) X.env := by rfl)
    (hfew : ((backTo pos (starEach (e :: []) X.env)).all (fun x => !x.1) && (backToKw pos (keywordEach [] X.env)).all (fun x => x.1.isSome)
      && decide ((e :: []).length + ([] : List Keyword).length + (if ([] : List Keyword).isEmpty then 0 else 1) < 30)) = true := by rfl) (hline : (apos.endLine == pos.line) = true := by rfl) : LE X (.Call (.Attribute (.Name nm p) "append" apos) [e] [] pos) δ W Q :=
  le_of (pe_bm PySem.F.plainAttrs_list PySem.F.slot_list_append PySem.F.type_list_append mt_append (pe_var hN hv hd hcd) (pa_cons pe_tE pa_nil hs) hbase hfew hline hs) fun F G σ H f S T => by
    obtain ⟨xs0, h0⟩ := h0
    obtain ⟨l, vs0, g0, e1, hl0, _, _⟩ := sto_slotL S h0
    refine ⟨_, e1, ty_list hl0, F, G, δ, f, W, _, S, T, h, fun u H1 x δ1 res ⟨xs, h1, hz, q⟩ => ?_⟩
    obtain ⟨F1, f1, gx, fx1, S1, rx, dx, ox⟩ := res
    obtain ⟨l1, vs, gA, e2, hl, rA, dA, k⟩ := sto_lst S1 h1 e1 dx ox
    cases e2
    obtain ⟨gn, rn, en⟩ := rpAll_snoc rx rA dA.symm
    exact ⟨l, vs, u, rfl, rfl, hl, by rw [rpAll_len rA]; exact hz, .d .none, _, aft_res (k _ _ gn rn fun a h => (en a).mp h) .non fx1, q⟩
/-- xs.pop(e), e an int -/
theorem le_popAt (h : LE X e δ W fun x δ1 => ∃ xs j k y, x = .d (.int j) ∧ valAt δ1 i = some (.l xs) ∧ -(2 ^ 63) ≤ j ∧ j < 2 ^ 63 ∧ seqIndex? j xs.length = some k ∧ xs[k]? = some (.d y) ∧ Q (.d y) (upAt δ1 i (.l (xs.eraseIdx k)))) (h0 : ∃ xs0, valAt δ i = some (.l xs0) := by exact ⟨_, rfl⟩) (hN : X.N[i]? = some nm := by rfl) (hv : Vis X.env.scope nm := by first | exact Or.inl rfl | exact Or.inr (Or.inl rfl) | exact Or.inr (Or.inr rfl)) (hd : (nm == ("__debug__" : Str)) = false := by decide)
    (hcd : (nm == ("__classdict__" : Str)) = false := by decide)
    (hs : starEach (e :: []) X.env = (false, eval e X.env) :: starEach [] X.env := by rfl) (hbase : attributeBase (.Name nm p) "pop" X.env (eval (.Name nm p) X.env) = eval (.Name nm p) X.env := by rfl)
    (hfew : ((backTo pos (starEach (e :: []) X.env)).all (fun x => !x.1) && (backToKw pos (keywordEach [] X.env)).all (fun x => x.1.isSome)
      && decide ((e :: []).length + ([] : List Keyword).length + (if ([] : List Keyword).isEmpty then 0 else 1) < 30)) = true := by rfl) (hline : (apos.endLine == pos.line) = true := by rfl) : LE X (.Call (.Attribute (.Name nm p) "pop" apos) [e] [] pos) δ W Q :=
  le_of (pe_bm PySem.F.plainAttrs_list PySem.F.slot_list_pop PySem.F.type_list_pop mt_popAt (pe_var hN hv hd hcd) (pa_cons pe_tE pa_nil hs) hbase hfew hline hs) fun F G σ H f S T => by
    obtain ⟨xs0, h0⟩ := h0
    obtain ⟨l, vs0, g0, e1, hl0, _, _⟩ := sto_slotL S h0
    refine ⟨_, e1, ty_list hl0, F, G, δ, f, W, _, S, T, h, fun u H1 x δ1 res ⟨xs, j, k, y, ex, h1, hj1, hj2, hk, hy, q⟩ => ?_⟩
    subst ex
    obtain ⟨F1, f1, gx, fx1, S1, rx, dx, ox⟩ := res
    cases rx with
    | d hx =>
    obtain ⟨l1, vs, gA, e2, hl, rA, dA, kk⟩ := sto_lst S1 h1 e1 Disj.nil Off.nil
    cases e2
    obtain ⟨w, gw, e3, rw', _⟩ := rpAll_get rA hy
    cases rw' with
    | d hw =>
    obtain ⟨gn, rn, en⟩ := rpAll_erase k rA
    exact ⟨l, vs, j, k, w, rfl, by rw [dp_int hx], hl, hj1, hj2, by rw [rpAll_len rA]; exact hk, e3, .d y, _, aft_res (kk _ _ gn rn fun a h => .inl (en a h)) hw fx1, q⟩
/-- xs[j], xs a slot's own list, the item data -/
theorem lq_slot {xs : List LV} {j : Int} {z : PyData} (h0 : valAt δ i = some (.l xs)) (hb : LQ X b δ (.int j)) (hz : atI xs j = some (.d z)) (hN : X.N[i]? = some nm := by rfl) (hv : Vis X.env.scope nm := by first | exact Or.inl rfl | exact Or.inr (Or.inl rfl) | exact Or.inr (Or.inr rfl)) (hd : (nm == ("__debug__" : Str)) = false := by decide)
    (hcd : (nm == ("__classdict__" : Str)) = false := by decide) (hp : PlainIx b := by exact fun _ _ => rfl) : LQ X (.Subscript (.Name nm p) b pos) δ z :=
  lq_of (pe_ix ix_list (pe_var hN hv hd hcd) pe_tQ hp) fun F G σ H f S => by
    obtain ⟨l, vs, g0, e1, hl, rA, _⟩ := sto_slotL S h0
    refine ⟨_, e1, F, G, δ, f, _, S, hb, fun u du => ?_⟩
    obtain ⟨k, e2, e3⟩ := atI_some hz
    obtain ⟨w, gw, e4, rw', _⟩ := rpAll_get rA e3
    cases rw' with
    | d hw => exact ⟨l, vs, j, w, rfl, dp_int du, SqL.of hl, atI_of (by rw [rpAll_len rA]; exact e2) e4, rfl, hw⟩
/-- len(xs) -/
theorem lq_lenSlot {xs : List LV} {p2 : Pos} (hm : X.mg "len" = none) (h0 : valAt δ i = some (.l xs)) (hN : X.N[i]? = some nm := by rfl) (hv : Vis X.env.scope nm := by first | exact Or.inl rfl | exact Or.inr (Or.inl rfl) | exact Or.inr (Or.inr rfl)) (hd : (nm == ("__debug__" : Str)) = false := by decide)
    (hcd : (nm == ("__classdict__" : Str)) = false := by decide) (hg : Gl X "len" := by rfl) (hs : starEach (Expr.Name nm p :: []) X.env = (false, eval (Expr.Name nm p) X.env) :: starEach [] X.env := by rfl) (hpl : (backTo pos (starEach ([] : List Expr) X.env)).any (·.1) = false := by rfl) : LQ X (.Call (.Name "len" p2) [.Name nm p] [] pos) δ (.int xs.length) :=
  lq_of (pe_callB call_len_seq hg hm PySem.boot_len (pa_cons (pe_var hN hv hd hcd) pa_nil hs) (he := hs) (hpl := hpl)) fun F G σ H f S => by
    obtain ⟨l, vs, g0, e1, hl, rA, _⟩ := sto_slotL S h0
    exact ⟨_, e1, l, vs, rfl, .inl (SqL.of hl), rfl, by rw [rpAll_len rA]; exact .int _⟩
/-- xs[j] = e, xs a slot's own list -/
theorem ls_store {P : LEnds} {p' ps : Pos} (h : LE X e δ W fun x δ1 => ∃ j k xs, LQ X b δ1 (.int j) ∧ valAt δ1 i = some (.l xs) ∧ ixN xs.length j = some k ∧ P.nx (upAt δ1 i (.l (xs.set k x)))) (h0 : ∃ xs0, valAt δ i = some (.l xs0) := by exact ⟨_, rfl⟩) (hN : X.N[i]? = some nm := by rfl) (hv : Vis X.env.scope nm := by first | exact Or.inl rfl | exact Or.inr (Or.inl rfl) | exact Or.inr (Or.inr rfl)) (hd : (nm == ("__debug__" : Str)) = false := by decide)
    (hcd : (nm == ("__classdict__" : Str)) = false := by decide)
    (ha : ∀ v, assign (.Subscript (.Name nm p) b p') X.env v = (do
      let ov ← holding [v] (eval (.Name nm p) X.env)
      let iv ← holding [v, ov] (eval b X.env)
      standAt p'
      holding [v, ov, iv] (setItem ov iv v)
      release [v, ov, iv] []) := by intro _; rfl)
    (hs : swapsWithSole [.Subscript (.Name nm p) b p'] e pos.line X.env = pure false := by rfl) (hw : swappedStores [.Subscript (.Name nm p) b p'] e X.env = pure none := by rfl)
    (h1 : (assignEach [.Subscript (.Name nm p) b p'] X.env).map (·.2) = [assign (.Subscript (.Name nm p) b p') X.env] := by rfl) : LS X (.Assign [.Subscript (.Name nm p) b p'] e pos) δ W P :=
  ls_of (ps_asg pe_tE (pg_sub (pe_var hN hv hd hcd) pe_tQ set_list ha) hs hw h1) fun F G σ H f S T => by
    refine ⟨F, G, δ, f, W, _, S, T, h, fun u H1 x δ1 res ⟨j, k, xs, hb, hx, hk, q⟩ => ?_⟩
    obtain ⟨F1, f1, gx, fx1, S1, rx, dx, ox⟩ := res
    obtain ⟨l, vs0, g0, e1, hl0, _, _⟩ := sto_slotL S1 hx
    refine ⟨_, e1, F1, G, δ1, f1, _, S1, hb, fun w dw => ?_⟩
    obtain ⟨l1, vs, gA, e2, hl, rA, dA, kk⟩ := sto_lst S1 hx e1 dx ox
    cases e2
    obtain ⟨gn, rn, en⟩ := rpAll_set rx k rA dA
    obtain ⟨F2, f2, fx2, S2⟩ := kk _ _ gn rn fun a h => en a h
    exact ⟨l, vs, j, k, rfl, dp_int dw, hl, by rw [rpAll_len rA]; exact hk, _, ⟨F2, f2, fx1.trans fx2, S2⟩, q⟩
end
end Z
set_option maxHeartbeats 4000000
namespace Z
open PySem PySem.Spec PyProof.Rows L2
/-! ### what a def promises, in values -/
/-- pre: of the arguments; post: of the answer and of what the owned arguments hold behind (a place left out, or none: nothing is told); exc: of the class of an exception -/
structure Spec (Γ : Type) where
  pre : Γ → List LV → Prop
  post : Γ → LV → List (Option LV) → Prop
  exc : Γ → Value → List (Option LV) → Prop := fun _ _ _ => False
inductive RpY (c : Ct) (F H : Hp) : List V → List (Option LV) → Fp → Prop
  | nil {vs : List V} : RpY c F H vs [] (fun _ => False)
  | no {v : V} {vs : List V} {ys : List (Option LV)} {f : Fp} : RpY c F H vs ys f → RpY c F H (v :: vs) (none :: ys) f
  | is {v : V} {y : LV} {vs : List V} {ys : List (Option LV)} {f g : Fp} : Rp c F H v y f → RpY c F H vs ys g → Disj f g → RpY c F H (v :: vs) (some y :: ys) (fun a => f a ∨ g a)
def lift {Γ : Type} (c : Ct) (S : Spec Γ) : Sp := fun vs H Q E => ∃ (γ : Γ) (F G : Hp) (xs : List LV) (f : Fp), Same F H ∧ Same G H ∧ RpAll c F H vs xs f ∧ Off f F G ∧ S.pre γ xs ∧
  (∀ r ys v F' H' g fy, S.post γ r ys → FX G F F' → Same F' H' → Same G H' → Rp c F' H' v r g → RpY c F' H' vs ys fy → Disj g fy → Off g F' G → Off fy F' G → Q v H') ∧
  (∀ cls d ys F' H' fy, S.exc γ cls ys → FX G F F' → Same F' H' → Same G H' → RpY c F' H' vs ys fy → Off fy F' G → E cls d H')
/-! ### a call -/
def argVals : LSt → List Arg → Option (List LV)
  | _, [] => some []
  | δ, .tmp x :: as => (argVals δ as).map (x :: ·)
  | δ, .bor i :: as => match valAt δ i with
    | some x => (argVals (δ.set i .no) as).map (x :: ·)
    | none => none
def outAll : LSt → List Arg → LSt
  | δ, [] => δ
  | δ, .tmp _ :: as => outAll δ as
  | δ, .bor i :: as => outAll (δ.set i .no) as
def back : LSt → List Arg → List (Option LV) → LSt
  | δ, [], _ => δ
  | δ, .tmp _ :: as, ys => back δ as ys.tail
  | δ, .bor i :: as, ys => (back (δ.set i .no) as ys.tail).set i (match δ[i]?, ys.head? with
    | some s, some (some y) => s.up y
    | _, _ => .no)
theorem outAll_len : ∀ (as : List Arg) (δ : LSt), (outAll δ as).length = δ.length
  | [], _ => rfl
  | .tmp _ :: as, δ => outAll_len as δ
  | .bor i :: as, δ => by rw [outAll, outAll_len as, List.length_set]
theorem back_len : ∀ (as : List Arg) (δ : LSt) (ys : List (Option LV)), (back δ as ys).length = δ.length
  | [], _, _ => rfl
  | .tmp _ :: as, δ, ys => back_len as δ ys.tail
  | .bor i :: as, δ, ys => by rw [back, List.length_set, back_len as, List.length_set]
theorem rpY_tail {c : Ct} {F H : Hp} {v : V} {vs : List V} : ∀ {ys : List (Option LV)} {f : Fp}, RpY c F H (v :: vs) ys f → ∃ g, RpY c F H vs ys.tail g ∧ ∀ a, g a → f a
  | _, _, .nil => ⟨_, .nil, fun _ h => h⟩
  | _, _, .no r => ⟨_, r, fun _ h => h⟩
  | _, _, .is _ r _ => ⟨_, r, fun _ h => .inr h⟩
theorem set_self {σ : L2.St} {i : Nat} {v : V} (e : σ[i]? = some (some v)) : σ.set i (some v) = σ := by
  apply List.ext_getElem?
  intro j
  by_cases hj : i = j
  · subst hj
    rw [List.getElem?_set_self (List.getElem?_eq_some_iff.mp e).1, e]
  · rw [List.getElem?_set_ne hj]
/-- what is lent goes out, and comes back -/
theorem args_lend {c : Ct} {F H : Hp} {σ : L2.St} : ∀ {as : List Arg} {vs : List V} {xs : List LV} {δ : LSt} {f g : Fp}, ArgsR c F H σ vs as g → RpS c F H σ δ f → Disj g f → argVals δ as = some xs →
    ∃ fa r, RpAll c F H vs xs fa ∧ RpS c F H σ (outAll δ as) r ∧ Disj fa r ∧ (∀ a, fa a ∨ r a → g a ∨ f a) ∧
      ∀ F' H' ys fy r', RpY c F' H' vs ys fy → RpS c F' H' σ (outAll δ as) r' → Disj fy r' → ∃ f', RpS c F' H' σ (back δ as ys) f' ∧ ∀ a, f' a → fy a ∨ r' a
  | [], _, xs, δ, f, _, .nil, S, d, e => by
    cases (show some [] = some xs from e)
    exact ⟨_, f, .nil, S, Disj.nil, fun a h => h.elim False.elim .inr, fun F' H' ys fy r' hy S' d' => ⟨r', S', fun a h => .inr h⟩⟩
  | .tmp x :: as, _, xs, δ, f, _, .tmp (f := g1) (g := g2) h t n, S, d, e => by
    have e' : (argVals δ as).map (x :: ·) = some xs := e
    obtain ⟨xs', e1, e2⟩ := Option.map_eq_some_iff.mp e'
    cases e2
    obtain ⟨fa, r, h1, h2, h3, h4, h5⟩ := args_lend t S (fun a p q => d a (.inr p) q) e1
    have dj : ∀ a, g1 a → fa a ∨ r a → False := fun a p q => (h4 a q).elim (n a p) fun q => d a (.inl p) q
    exact ⟨_, r, .cons h h1 fun a p q => dj a p (.inl q), h2, fun a p q => p.elim (fun p => dj a p (.inr q)) fun p => h3 a p q, fun a p => p.elim (fun p => p.elim (fun p => .inl (.inl p)) fun p => (h4 a (.inl p)).elim (fun p => .inl (.inr p)) .inr) fun p => (h4 a (.inr p)).elim (fun p => .inl (.inr p)) .inr,
      fun F' H' ys fy r' hy S' d' => by
        obtain ⟨gy, hy', sy⟩ := rpY_tail hy
        obtain ⟨f', q1, q2⟩ := h5 F' H' ys.tail gy r' hy' S' fun a p q => d' a (sy a p) q
        exact ⟨f', q1, fun a p => (q2 a p).elim (fun p => .inl (sy a p)) .inr⟩⟩
  | .bor i :: as, _, xs, δ, f, g, .bor (v := v) ev t, S, d, e => by
    have e' : (match valAt δ i with
      | some x => (argVals (δ.set i .no) as).map (x :: ·)
      | none => none) = some xs := e
    cases hv : valAt δ i with
    | none => rw [hv] at e'; cases e'
    | some x =>
      rw [hv] at e'
      obtain ⟨xs', e1, e2⟩ := Option.map_eq_some_iff.mp e'
      cases e2
      obtain ⟨s, es, ex⟩ : ∃ s, δ[i]? = some s ∧ s.val = some x := by
        unfold valAt at hv
        cases q : δ[i]? with
        | none => rw [q] at hv; cases hv
        | some s => rw [q] at hv; exact ⟨s, rfl, hv⟩
      obtain ⟨v', gi, ri, q1, q2, q3, q4, q5, q6⟩ := rpS_get S es ex
      rw [ev] at q1
      cases q1
      obtain ⟨fa, r, h1, h2, h3, h4, h5⟩ := args_lend t q3 (fun a p q => d a p ((q5 a).mpr (.inr q))) e1
      have dj : ∀ a, gi a → fa a ∨ r a → False := fun a p q => (h4 a q).elim (fun q => d a q ((q5 a).mpr (.inl p))) fun q => q4 a p q
      refine ⟨_, r, .cons q2 h1 fun a p q => dj a p (.inl q), h2, fun a p q => p.elim (fun p => dj a p (.inr q)) fun p => h3 a p q, fun a p => p.elim (fun p => p.elim (fun p => .inr ((q5 a).mpr (.inl p))) fun p => (h4 a (.inl p)).elim .inl fun p => .inr ((q5 a).mpr (.inr p))) fun p => (h4 a (.inr p)).elim .inl fun p => .inr ((q5 a).mpr (.inr p)), fun F' H' ys fy r' hy S' d' => ?_⟩
      have hl : ∀ ys, i < (back (δ.set i .no) as ys).length := fun ys => by
        rw [back_len, List.length_set]
        exact (List.getElem?_eq_some_iff.mp es).1
      have drop : ∀ ys gy, RpY c F' H' _ ys gy → (∀ a, gy a → fy a) → ∃ f', RpS c F' H' σ ((back (δ.set i .no) as ys).set i .no) f' ∧ ∀ a, f' a → fy a ∨ r' a := fun ys gy hy' sy => by
        obtain ⟨f', p1, p2⟩ := h5 F' H' ys gy r' hy' S' fun a p q => d' a (sy a p) q
        obtain ⟨f2, p3, p4⟩ := rpS_drop (i := i) p1
        exact ⟨f2, p3, fun a h => (p2 a (p4 a h)).elim (fun h => .inl (sy a h)) .inr⟩
      show ∃ f', RpS c F' H' σ ((back (δ.set i .no) as ys.tail).set i (match δ[i]?, ys.head? with
        | some s, some (some y) => s.up y
        | _, _ => .no)) f' ∧ ∀ a, f' a → fy a ∨ r' a
      rw [es]
      cases hy with
      | nil => exact drop [] _ .nil fun _ h => h.elim
      | no h0 => exact drop _ _ h0 fun _ h => h
      | @is _ y _ ys' fy1 fy2 ry rys nys =>
        obtain ⟨f', p1, p2⟩ := h5 F' H' ys' fy2 r' rys S' fun a p q => d' a (.inr p) q
        obtain ⟨f2, p3, p4⟩ := rpS_drop (i := i) p1
        obtain ⟨f3, p5, p6⟩ := rpS_put (s := s.up y) p3 ry (fun a p q => (p2 a (p4 a q)).elim (nys a p) (d' a (.inl p))) (hl ys') (by
            cases s with
            | no => exact .inl rfl
            | is y => exact .inl rfl
            | lk u y =>
              right
              rw [← q6 u _ rfl]
              rfl)
        rw [set_self ev] at p5
        exact ⟨f3, p5, fun a h => ((p6 a).mp h).elim (fun h => .inl (.inl h)) fun h => (p2 a (p4 a h)).elim (fun h => .inl (.inr h)) .inr⟩
section
variable {X : Cx} {e : Expr} {es : List Expr} {δ : LSt} {W : LW} {Q : LV → LSt → Prop} {QA : List Arg → LSt → Prop} {pos p : Pos} {nm : Str} {i : Nat}
theorem la_nil (q : QA [] δ) : LA X [] δ W QA := .mk fun pos pins s σ H F G f I S T => pa_nil.run pos pins s σ H _ I ⟨[], δ, ⟨F, f, _, .refl, S, .nil, Disj.nil, Off.nil⟩, q⟩
theorem la_tmp (h : LE X e δ W fun x δ1 => LA X es δ1 W fun as δ2 => QA (.tmp x :: as) δ2) (hs : starEach (e :: es) X.env = (false, eval e X.env) :: starEach es X.env := by rfl) : LA X (e :: es) δ W QA :=
  la_of (pa_cons pe_tE pa_tA hs) fun F G σ H f S T => ⟨F, G, δ, f, W, _, S, T, h, fun v H1 x δ1 ⟨F1, f1, g1, fx1, S1, r1, d1, o1⟩ k => by
    have t1 := rp_there r1
    refine ⟨F1, gadd G H1 g1, δ1, f1, W, _, S1.gadd d1, (T.pre fx1).gadd t1 o1, k, fun vs H2 as δ2 ⟨F2, f2, g2, fx2, S2, r2, d2, o2⟩ q => ?_⟩
    obtain ⟨a1, a2⟩ := gadd_fx t1 o1 fx2
    obtain ⟨b1, b2⟩ := S2.ungadd t1 o1 fx2
    obtain ⟨c1, c2⟩ := gadd_off t1 o1 o2
    exact ⟨.tmp x :: as, δ2, ⟨F2, f2, _, fx1.trans a1, b1, .tmp (rp_frame fx2.up r1 (gadd_keep t1 S2.gh)) r2 c2, fun a p q => p.elim (fun p => b2 a p q) fun p => d2 a p q, a2.or c1⟩, q⟩⟩
/-- quiet arguments -/
theorem la_q {x : PyData} (h : LQ X e δ x) (t : LA X es δ W fun as δ2 => QA (.tmp (.d x) :: as) δ2) (hs : starEach (e :: es) X.env = (false, eval e X.env) :: starEach es X.env := by rfl) : LA X (e :: es) δ W QA := la_tmp (le_q h t) hs
/-- what a slot holds, lent -/
theorem la_bor {x : LV} (i : Nat) (h : valAt δ i = some x) (t : LA X es δ W fun as δ2 => QA (.bor i :: as) δ2) (hN : X.N[i]? = some nm := by rfl) (hv : Vis X.env.scope nm := by first | exact Or.inl rfl | exact Or.inr (Or.inl rfl) | exact Or.inr (Or.inr rfl)) (hd : (nm == ("__debug__" : Str)) = false := by decide)
    (hcd : (nm == ("__classdict__" : Str)) = false := by decide) (hs : starEach (Expr.Name nm p :: es) X.env = (false, eval (Expr.Name nm p) X.env) :: starEach es X.env := by rfl) : LA X (Expr.Name nm p :: es) δ W QA :=
  la_of (pa_cons (pe_var hN hv hd hcd) pa_tA hs) fun F G σ H f S T => by
    obtain ⟨v, g, e1, _, _⟩ := sto_slot S h
    exact ⟨v, e1, F, G, δ, f, W, _, S, T, t, fun vs H2 as δ2 ⟨F2, f2, g2, fx2, S2, r2, d2, o2⟩ q => ⟨.bor i :: as, δ2, ⟨F2, f2, g2, fx2, S2, .bor e1 r2, d2, o2⟩, q⟩⟩
/-- what follows a call, by the promise -/
theorem call_run {Γ : Type} {Sc : Spec Γ} {F G H : Hp} {σ : L2.St} {vs : List V} {as : List Arg} {δ1 : LSt} {WX : L2.WX} {R : VK} (res : ResA (cx X) F G H σ vs as δ1) (γ : Γ) (xs : List LV) (hx : argVals δ1 as = some xs) (hp : Sc.pre γ xs)
    (hr : ∀ r ys, Sc.post γ r ys → ∀ v H', Res (cx X) F G H' σ v r (back δ1 as ys) → R v H') (he : ∀ cls ys, Sc.exc γ cls ys → ∀ d H', Aft (cx X) F G H' σ (back δ1 as ys) → WX cls d σ H') : lift (cx X) Sc vs H R (fun cls d H' => WX cls d σ H') := by
  obtain ⟨F1, f1, g1, fx1, S1, rA, dA, oA⟩ := res
  obtain ⟨fa, r, h1, h2, h3, h4, h5⟩ := args_lend rA S1.rp dA hx
  have t := rpS_there h2
  have oall : Off (fun a => fa a ∨ r a) F1 G := fun a h => (h4 a h).elim (oA a) (S1.off a)
  have or : Off r F1 G := fun a h => oall a (.inr h)
  refine ⟨γ, F1, gadd G H r, xs, fa, S1.fh, gadd_same S1.gh, h1, gadd_offmk (fun a h => oall a (.inl h)) h3.symm, hp, fun rr ys v F' H' g fy ps fx s1 s2 rp ry dj o1 o2 => ?_, fun cls d ys F' H' fy ps fx s1 s2 ry o2 => ?_⟩
  · obtain ⟨a1, a2⟩ := gadd_fx t or fx
    obtain ⟨b1, b2⟩ := gadd_off t or o1
    obtain ⟨c1, c2⟩ := gadd_off t or o2
    obtain ⟨f', q1, q2⟩ := h5 F' H' ys fy r ry (rpS_frame fx.up h2 (gadd_keep t s2)) c2.symm
    exact hr rr ys ps v H' ⟨F', f', g, fx1.trans a1, ⟨s1, gadd_g or s2, q1, fun a h => (q2 a h).elim (c1 a) (a2 a)⟩, rp, fun a p q => (q2 a q).elim (dj a p) fun q => b2 a q p, b1⟩
  · obtain ⟨a1, a2⟩ := gadd_fx t or fx
    obtain ⟨c1, c2⟩ := gadd_off t or o2
    obtain ⟨f', q1, q2⟩ := h5 F' H' ys fy r ry (rpS_frame fx.up h2 (gadd_keep t s2)) c2.symm
    exact he cls ys ps d H' ⟨F', f', fx1.trans a1, ⟨s1, gadd_g or s2, q1, fun a h => (q2 a h).elim (c1 a) (a2 a)⟩⟩
/-- f(e, ..) -/
theorem le_callF {Γ : Type} {Sc : Spec Γ} {k : Nat} {f : Addr} {fd : FuncData} {ps : List Str} (Fn : FnOk X.prog X.w X.K X.mg X.base (L2.CX X.prog X.w) k f fd ps (lift (cx X) Sc)) (hr : Room k X.A) (hm : X.mg nm = some (.ref f)) (hk : PySem.W.keepIn X.K (.ref f) = true) (hb : Binds X.K fd ps [])
    (h : LA X (e :: es) δ W fun as δ1 => ∃ γ xs, argVals δ1 as = some xs ∧ Sc.pre γ xs ∧ (∀ r ys, Sc.post γ r ys → Q r (back δ1 as ys)) ∧ ∀ cls ys, Sc.exc γ cls ys → W cls (back δ1 as ys))
    (hg : Gl X nm := by rfl) (hdb : (nm == ("__debug__" : Str)) = false := by decide) (he : starEach (e :: es) X.env = (false, eval e X.env) :: starEach es X.env := by rfl) (hpl : (backTo pos (starEach es X.env)).any (·.1) = false := by rfl) : LE X (.Call (.Name nm p) (e :: es) [] pos) δ W Q :=
  .mk fun pins s σ H F G f' I S T => by
    refine (pe_callS (E := WE _) Fn hr hg hm hk hb (fun σ => passAt T σ) pa_tA hdb he hpl).run pins s σ H _ I ⟨F, G, δ, f', W, _, S, T, h, fun vs H1 as δ1 res ⟨γ, xs, hx, hp, q1, q2⟩ => ?_⟩
    exact call_run (WX := fun cls _ σ H => ∃ δ, Aft (cx X) F G H σ δ ∧ W cls δ) res γ xs hx hp (fun r ys ps v H' rs => ⟨r, _, rs, q1 r ys ps⟩) fun cls ys ps d H' a => ⟨_, a, q2 cls ys ps⟩
/-! ### errors raised and caught -/
theorem ls_raise {P : LEnds} {C : Addr} {m : Str} {j : Nat} {p2 p3 : Pos} (hc : X.calm = true) (q : PySem.W.excIn X.K C He.veBase "ValueError.__new__" = true) (gC : X.mg nm = some (.ref C)) (kC : PySem.W.keepIn X.K (.ref C) = true)
    (hb : PySem.W.subIn X.K (.ref C) (.type "BaseException") = some true) (ht : PySem.W.typeIn X.K (.ref C) = some (.type "type")) (h : W (.ref C) δ) (hg : Gl X nm := by rfl) (hdb : (nm == ("__debug__" : Str)) = false := by decide) :
    LS X (.Raise (some (.Call (.Name nm p) [.Constant (.str m) j p2] [] pos)) none p3) δ W P := .mk fun pins s σ H F G f I S T =>
  (ps_raise hc T (pmk_own PySem.F.excBase_ValueError q gC kC (raises_own hb ht) hg hdb)).run pins s σ H _ I ⟨δ, S.aft, h⟩
/-- the clauses: the class named, what stands in the suite -/
def hdW (X : Cx) (W : LW) (P : LEnds) : List (Value × List Stmt) → LW
  | [] => W
  | (c, su) :: r => fun cls δ => ∃ b, PySem.W.exmOne X.K cls c = some b ∧ (b = true → ∀ a oe pn, LSs (X.suite a ((a, oe) :: pn)) su δ W0 P) ∧ (b = false → hdW X W P r cls δ)
def tSu (X : Cx) (su : List Stmt) : Addr → Value → Option Addr → TS := fun _ _ _ D σ H => ∃ F G δ f P, Sto (cx X) F G H σ δ f ∧ (∀ a oe pn, LSs (X.suite a ((a, oe) :: pn)) su δ W0 P) ∧ Cov (cx X) F G P D
theorem pss_tSu {su : List Stmt} {a : Addr} {oe : Obj} {cls : Value} {d : Option Addr} {pn : List (Addr × Obj)} : PSs (X.suite a ((a, oe) :: pn)) su (tSu X su a cls d) := ⟨fun pins s σ H D I ⟨F, G, δ, f, P, S, h, k⟩ =>
  thn ((h a oe pn).run pins s σ H F G f I S ltakes0) fun fl s' q => Cov.sp (X := X.suite a ((a, oe) :: pn)) k q⟩
inductive HdL (X : Cx) : List ExceptHandler → List (Value × List Stmt) → Prop
  | nil : HdL X [] []
  | cons {x : Str} {c : Value} {b₀ : Stmt} {suite : List Stmt} {np pos' : Pos} {hds : List ExceptHandler} {l : List (Value × List Stmt)} (hc : Names X x c) (r : HdL X hds l) : HdL X (.ExceptHandler (some (.Name x np)) none (b₀ :: suite) pos' :: hds) ((c, b₀ :: suite) :: l)
theorem HdL.ok {hds : List ExceptHandler} {l : List (Value × List Stmt)} (h : HdL X hds l) : HdsOk X hds (l.map fun q => (q.1, tSu X q.2)) := by
  induction h with
  | nil => exact .nil
  | cons hc r ih => exact .cons hc (fun a oe cls d pn _ _ => pss_tSu) ih
theorem hdW_many {F G : Hp} {P : LEnds} {D : Ends} (k : Cov (cx X) F G P D) : ∀ {l : List (Value × List Stmt)} {cls : Value} {d : Option Addr} {σ : L2.St} {H : Hp} {δ : LSt}, Aft (cx X) F G H σ δ → hdW X W P l cls δ →
    wMany X.K (fun cls _ σ H => ∃ δ, Aft (cx X) F G H σ δ ∧ W cls δ) D (l.map fun q => (q.1, tSu X q.2)) cls d σ H
  | [], _, _, _, _, δ, a, h => ⟨δ, a, h⟩
  | (c, su) :: r, cls, d, σ, H, δ, a, ⟨b, e, h1, h2⟩ => ⟨b, e, fun hb _ _ => by
      obtain ⟨F', f', fx, S'⟩ := a
      exact ⟨F', G, δ, f', P, S', h1 hb, k.pre fx⟩, fun hb => hdW_many k a (h2 hb)⟩
theorem ls_try {P : LEnds} {body : List Stmt} {h₀ : ExceptHandler} {hds : List ExceptHandler} {l : List (Value × List Stmt)} (hs : X.stack = X.env :: X.outer) (hf : X.env.frame = some X.env.locals) (hh : HdL X (h₀ :: hds) l)
    (hb : ∀ pn xe, PassesOwn (model X.prog X.w) X.A X.env xe → LSs (X.tr pn xe) body δ (hdW X W P l) P) : LS X (.Try body (h₀ :: hds) [] [] pos) δ W P := .mk fun pins s σ H F G f I S T => by
  refine (ps_try_many (tb := fun WX D σ H => ∃ F G δ f W P, Sto (cx X) F G H σ δ f ∧ (∀ pn xe, PassesOwn (model X.prog X.w) X.A X.env xe → LSs (X.tr pn xe) body δ W P) ∧ (∀ cls d σ H, (∃ δ, Aft (cx X) F G H σ δ ∧ W cls δ) → WX cls d σ H) ∧ Cov (cx X) F G P D) hs hf T (fun WX pn xe tk hp => ⟨fun pins s σ H D I ⟨F, G, δ, f, W, P, S, h, hw, k⟩ => ?_⟩) hh.ok).run pins s σ H _ I ?_
  · exact thn ((h pn xe hp).run pins s σ H F G f I S (tk.imp fun cls d σ H x => hw cls d σ H x)) fun fl s' q => Cov.sp (X := X.tr pn xe) k q
  · exact ⟨F, G, δ, f, hdW X W P l, P, S, hb, fun cls d σ H ⟨δ', a, w⟩ => hdW_many Cov.self a w, Cov.self⟩
end
/-! ### a def keeps its promise -/
def mkSl : List Bool → List V → List LV → LSt
  | b :: bs, v :: vs, x :: xs => (if b then .lk v x else .is x) :: mkSl bs vs xs
  | _, _, _ => []
def start0 (mask : List Bool) (vs : List V) (xs : List LV) (n : Nat) : LSt := mkSl mask vs xs ++ List.replicate (n - vs.length) .no
def Fits : List V → List (Option LV) → LSt → Prop
  | _, [], _ => True
  | _ :: vs, none :: ys, _ :: δ => Fits vs ys δ
  | v :: vs, some y :: ys, s :: δ => s = .lk v y ∧ Fits vs ys δ
  | _, _, _ => False
theorem fits_rp {c : Ct} {F H : Hp} : ∀ {vs : List V} {ys : List (Option LV)} {σ : L2.St} {δ : LSt} {f : Fp}, RpS c F H σ δ f → Fits vs ys δ → ∃ g, RpY c F H vs ys g ∧ ∀ a, g a → f a
  | _, [], _, _, _, _, _ => ⟨_, .nil, fun _ h => h.elim⟩
  | v :: vs, none :: ys, _, s :: δ, _, r, h => by
    cases r with
    | no r0 =>
      obtain ⟨g, q1, q2⟩ := fits_rp (vs := vs) (ys := ys) r0 h
      exact ⟨g, .no q1, q2⟩
    | is _ r0 _ =>
      obtain ⟨g, q1, q2⟩ := fits_rp (vs := vs) (ys := ys) r0 h
      exact ⟨g, .no q1, fun a h => .inr (q2 a h)⟩
    | lk _ r0 _ =>
      obtain ⟨g, q1, q2⟩ := fits_rp (vs := vs) (ys := ys) r0 h
      exact ⟨g, .no q1, fun a h => .inr (q2 a h)⟩
  | v :: vs, some y :: ys, _, s :: δ, _, r, ⟨e, h⟩ => by
    subst e
    cases r with
    | lk h1 r0 n =>
      obtain ⟨g, q1, q2⟩ := fits_rp (vs := vs) (ys := ys) r0 h
      exact ⟨_, .is h1 q1 fun a p q => n a p (q2 a q), fun a h => h.elim .inl fun h => .inr (q2 a h)⟩
  | [], none :: _, _, _, _, _, h => h.elim
  | [], some _ :: _, _, _, _, _, h => h.elim
  | _ :: _, none :: _, _, [], _, _, h => h.elim
  | _ :: _, some _ :: _, _, [], _, _, h => h.elim
theorem rpS_rep {c : Ct} {F H : Hp} : ∀ (σ : L2.St), RpS c F H σ (List.replicate σ.length .no) (fun _ => False)
  | [] => .nil
  | _ :: σ => .no (rpS_rep σ)
theorem rpS_mk {c : Ct} {F H : Hp} {n : Nat} : ∀ {mask : List Bool} {vs : List V} {xs : List LV} {f : Fp}, RpAll c F H vs xs f → mask.length = vs.length → ∃ g, RpS c F H (vs.map some ++ List.replicate n none) (mkSl mask vs xs ++ List.replicate n .no) g ∧ ∀ a, g a → f a
  | [], [], _, _, .nil, _ => by
    have := rpS_rep (c := c) (F := F) (H := H) (List.replicate n (none : Option V))
    rw [List.length_replicate] at this
    exact ⟨_, this, fun _ h => h.elim⟩
  | b :: mask, _, _, _, .cons (v := v) (x := x) h t d, hl => by
    obtain ⟨g, q1, q2⟩ := rpS_mk (n := n) (mask := mask) t (Nat.succ.inj hl)
    cases b with
    | true => exact ⟨_, .lk h q1 fun a p q => d a p (q2 a q), fun a p => p.elim .inl fun p => .inr (q2 a p)⟩
    | false => exact ⟨_, .is h q1 fun a p q => d a p (q2 a q), fun a p => p.elim .inl fun p => .inr (q2 a p)⟩
  | [], _, _, _, .cons .., hl => nomatch hl
  | _ :: _, _, _, _, .nil, hl => nomatch hl
section
variable {P : Program} {w : World} {K : PySem.W.Frag} {mg : Str → Option Value} {base : Heap} {x qual : Str} {params : Arguments} {body : List Stmt} {scope : Scope} {dvs : List V} {kws : List (Str × V)} {f : Addr} {fd : FuncData} {Γ : Type}
/-- the ends of a body, by the promise -/
def endsOf (S : Spec Γ) (γ : Γ) (vs : List V) : LEnds where
  nx := fun δ => ∃ ys, S.post γ (.d .none) ys ∧ Fits vs ys δ
  rt := fun r δ => ∃ ys, S.post γ r ys ∧ Fits vs ys δ
def wOf (S : Spec Γ) (γ : Γ) (vs : List V) : LW := fun cls δ => ∃ ys, S.exc γ cls ys ∧ Fits vs ys δ
theorem ok_of {S : Spec Γ} {N ps : List Str} {k : Nat} (F : FunD K x qual params body scope dvs kws f fd) (Sc : FnScope N ps scope) (mask : List Bool) (hm : mask.length = ps.length) (len : ∀ γ xs, S.pre γ xs → xs.length = ps.length)
    (hbody : ∀ (cdv : Value) (A : Around) (outer : List Env) (s : Shared) (H : Hp) (E : XK) (γ : Γ) (vs : List V) (xs : List LV), Room k (A.deeper (envOfC qual scope s.heap.objs.size f cdv)) → vs.length = ps.length → S.pre γ xs →
      LSs (cxOf (L2.CX P w) P w K mg base N qual scope f cdv A outer s H E) body (start0 mask vs xs N.length) (wOf S γ vs) (endsOf S γ vs)) : FnOk P w K mg base (L2.CX P w) (k + 1) f fd ps (lift ⟨P, w, K, mg⟩ S) := by
  refine F.ok Sc (fun vs H Q E h => ?_) (fun cdv A outer s H vs Q E hr h => ?_)
  · obtain ⟨γ, F, G, xs, f, _, _, r, _, hp, _⟩ := h
    rw [rpAll_len r]
    exact len γ xs hp
  · obtain ⟨γ, F, G, xs, fa, s1, s2, r, off, hp, hQ, hE⟩ := h
    have hl : vs.length = ps.length := by rw [rpAll_len r]; exact len γ xs hp
    obtain ⟨g, q1, q2⟩ := rpS_mk (n := N.length - vs.length) (mask := mask) r (by rw [hm, hl])
    refine ⟨tSs _ body, pss_tSs, F, G, start0 mask vs xs N.length, g, wOf S γ vs, endsOf S γ vs, ⟨s1, s2, q1, fun a h => off a (q2 a h)⟩, ?_, hbody cdv A outer s H E γ vs xs hr hl hp, ?_⟩
    · refine (takes_of rfl rfl rfl rfl).imp ?_
      rintro cls d σ H' ⟨δ, ⟨F', f', fx, S'⟩, ys, he, hf⟩
      obtain ⟨gy, ry, sy⟩ := fits_rp S'.rp hf
      exact hE cls d ys F' H' gy he fx S'.fh S'.gh ry (S'.off.sub sy)
    · refine ⟨?_, ?_, fun _ _ ⟨_, _, h⟩ => h.elim, fun _ _ ⟨_, _, h⟩ => h.elim⟩
      · rintro σ' H' ⟨δ, ⟨F', f', fx, S'⟩, ys, hps, hf⟩
        obtain ⟨gy, ry, sy⟩ := fits_rp S'.rp hf
        exact hQ _ ys .non F' H' _ gy hps fx S'.fh S'.gh (.d .non) ry Disj.nil Off.nil (S'.off.sub sy)
      · rintro v H' ⟨r, δ, σ', ⟨F', f', g', fx, S', rp, dj, o⟩, ys, hps, hf⟩
        obtain ⟨gy, ry, sy⟩ := fits_rp S'.rp hf
        exact hQ r ys v F' H' g' gy hps fx S'.fh S'.gh rp ry (fun a p q => dj a p (sy a q)) o (S'.off.sub sy)
end
end Z
set_option maxHeartbeats 4000000
namespace Z
open PySem PySem.Spec PyProof.Rows L2
/-! ### isinstance -/
def typeD : PyData → String
  | .none => "NoneType"
  | .bool _ => "bool"
  | .int _ => "int"
  | .str _ => "str"
  | .list _ => "list"
  | .tuple _ => "tuple"
  | .dict _ => "dict"
def isTy (T : String) (x : PyData) : Bool := (kitB (typeD x) T).getD false
theorem dp_type {K : PySem.W.Frag} {F H : Hp} {v : V} {x : PyData} (s : Same F H) (h : Dp K F v x) : TyX K H v (.type (typeD x)) := by
  cases h with
  | non => exact .base .non
  | bl b => exact .base (.bl b)
  | int i => exact .base (.int i)
  | str z => exact .base (.str z)
  | lst h _ =>
    rcases h with (h | ⟨o, h⟩) | ⟨o, its, n, h, hc, _⟩
    · exact .base (.lst (s _ _ h))
    · exact .base (.frz (s _ _ h))
    · exact .kList h hc
  | tup h _ =>
    rcases h with (h | ⟨o, h⟩) | ⟨o, its, n, h, hc, _⟩
    · exact .base (.tup (s _ _ h))
    · exact .fTuple (s _ _ h)
    · exact .kTuple h hc
theorem kit_int : (["NoneType", "bool", "int", "str", "list", "tuple", "dict"].all fun a => ["int", "bool", "str", "tuple", "list"].all fun b => (kitB a b).isSome) = true := by decide +kernel
theorem kit_some {x : PyData} {T : String} (hT : T ∈ ["int", "bool", "str", "tuple", "list"]) : kitB (typeD x) T = some (isTy T x) := by
  have h := List.all_eq_true.mp kit_int (typeD x) (by cases x <;> simp [typeD])
  have h2 := List.all_eq_true.mp h T hT
  unfold isTy
  cases e : kitB (typeD x) T with
  | none => rw [e] at h2; cases h2
  | some b => rfl
section
variable {X : Cx} {e a b : Expr} {es : List Expr} {δ : LSt} {W : LW} {Q : LV → LSt → Prop} {pos p p2 : Pos} {x y z : PyData}
theorem lq_isi {T : Str} {Tn : String} (hm : X.mg "isinstance" = none) (hmT : X.mg T = none) (hbT : bootBuiltins T = some (.type Tn)) (h : LQ X e δ x) (hT : Tn ∈ ["int", "bool", "str", "tuple", "list"] := by decide) (hg : Gl X "isinstance" := by rfl) (hgT : Gl X T := by rfl)
    (hn : T ≠ "__name__" := by decide) (hd : (T == ("__debug__" : Str)) = false := by decide)
    (hs : starEach [e, .Name T p2] X.env = (false, eval e X.env) :: starEach [.Name T p2] X.env := by rfl) (hs2 : starEach [Expr.Name T p2] X.env = (false, eval (.Name T p2) X.env) :: starEach [] X.env := by rfl) (hpl : (backTo pos (starEach [Expr.Name T p2] X.env)).any (·.1) = false := by rfl) :
    LQ X (.Call (.Name "isinstance" p) [e, .Name T p2] [] pos) δ (.bool (isTy Tn x)) :=
  lq_of (pe_callB call_isi hg hm (by decide +kernel) (pa_cons pe_tQ (pa_cons (pe_bltn (v := .ty Tn) hgT hmT hbT rfl hn hd) pa_nil hs2) hs) (he := hs) (hpl := hpl)) fun F G σ H f S =>
    ⟨F, G, δ, f, x, S, h, fun v dv => ⟨v, .ty Tn, _, _, _, rfl, .ty Tn, dp_type S.fh dv, kit_ty (kit_some hT), rfl, .bl _⟩⟩
/-! ### len -/
def lenD : PyData → Option Nat
  | .str s => some s.length
  | .list xs => some xs.length
  | .tuple xs => some xs.length
  | _ => none
theorem dp_len {K : PySem.W.Frag} {F H : Hp} {v : V} {n : Nat} (s : Same F H) (h : Dp K F v x) (hn : lenD x = some n) (hl : ∀ z, x = .str z → z.length ≤ sizeLine) : LenV K v H n := by
  cases h with
  | str z =>
    cases hn
    exact ⟨hl _ rfl, rfl⟩
  | lst h d =>
    cases hn
    exact .inl ⟨_, sql_mono s h, (dpAll_len d).symm⟩
  | tup h d =>
    cases hn
    exact .inr ⟨_, sqt_mono s h, (dpAll_len d).symm⟩
  | _ => cases hn
theorem lq_len {n : Nat} (hm : X.mg "len" = none) (h : LQ X e δ x) (hn : lenD x = some n) (hl : ∀ z, x = .str z → z.length ≤ sizeLine) (hg : Gl X "len" := by rfl) (hs : starEach [e] X.env = (false, eval e X.env) :: starEach [] X.env := by rfl) (hpl : (backTo pos (starEach ([] : List Expr) X.env)).any (·.1) = false := by rfl) :
    LQ X (.Call (.Name "len" p) [e] [] pos) δ (.int n) :=
  lq_of (pe_callB call_len hg hm PySem.boot_len (pa_cons pe_tQ pa_nil hs) (he := hs) (hpl := hpl)) fun F G σ H f S => ⟨F, G, δ, f, x, S, h, fun v dv => ⟨v, n, rfl, dp_len S.fh dv hn hl, rfl, .int _⟩⟩
theorem lq_lenT {ds : List PyData} (hm : X.mg "len" = none) (h : LQ X e δ (.tuple ds)) (hg : Gl X "len" := by rfl) (hs : starEach [e] X.env = (false, eval e X.env) :: starEach [] X.env := by rfl) (hpl : (backTo pos (starEach ([] : List Expr) X.env)).any (·.1) = false := by rfl) : LQ X (.Call (.Name "len" p) [e] [] pos) δ (.int ds.length) := lq_len hm h rfl (fun _ h => by cases h) hg hs hpl
theorem lq_lenL {ds : List PyData} (hm : X.mg "len" = none) (h : LQ X e δ (.list ds)) (hg : Gl X "len" := by rfl) (hs : starEach [e] X.env = (false, eval e X.env) :: starEach [] X.env := by rfl) (hpl : (backTo pos (starEach ([] : List Expr) X.env)).any (·.1) = false := by rfl) : LQ X (.Call (.Name "len" p) [e] [] pos) δ (.int ds.length) := lq_len hm h rfl (fun _ h => by cases h) hg hs hpl
theorem lq_lenS {s : Str} (hm : X.mg "len" = none) (h : LQ X e δ (.str s)) (hl : s.length ≤ sizeLine) (hg : Gl X "len" := by rfl) (hs : starEach [e] X.env = (false, eval e X.env) :: starEach [] X.env := by rfl) (hpl : (backTo pos (starEach ([] : List Expr) X.env)).any (·.1) = false := by rfl) : LQ X (.Call (.Name "len" p) [e] [] pos) δ (.int s.length) := lq_len hm h rfl (fun _ h => by cases h; exact hl) hg hs hpl
/-! ### all of bools, tuple(..), list(..) -/
theorem dpAll_bools {K : PySem.W.Frag} {F : Hp} : ∀ {vs : List V} {bs : List Bool}, DpAll K F vs (bs.map .bool) → vs = bs.map V.bl
  | _, [], h => by cases h; rfl
  | _, b :: bs, h => by
    cases h with
    | cons h t => rw [dp_bool h, dpAll_bools t]; rfl
theorem dpAll_strs {K : PySem.W.Frag} {F : Hp} : ∀ {vs : List V} {bs : List Str}, DpAll K F vs (bs.map .str) → vs = bs.map V.str
  | _, [], h => by cases h; rfl
  | _, b :: bs, h => by
    cases h with
    | cons h t => rw [dp_str h, dpAll_strs t]; rfl
theorem dpAll_ints {K : PySem.W.Frag} {F : Hp} : ∀ {vs : List V} {bs : List Int}, DpAll K F vs (bs.map .int) → vs = bs.map V.int
  | _, [], h => by cases h; rfl
  | _, b :: bs, h => by
    cases h with
    | cons h t => rw [dp_int h, dpAll_ints t]; rfl
theorem le_all (hc : X.calm = true) (hm : X.mg "all" = none) (h : LE X e δ W fun x δ1 => ∃ bs : List Bool, Fz x (.list (bs.map .bool)) ∧ Q (.d (.bool (bs.all id))) δ1) (hg : Gl X "all" := by rfl) (hs : starEach [e] X.env = (false, eval e X.env) :: starEach [] X.env := by rfl) (hpl : (backTo pos (starEach ([] : List Expr) X.env)).any (·.1) = false := by rfl) :
    LE X (.Call (.Name "all" p) [e] [] pos) δ W Q :=
  le_call (pe_callB (cr_all hc) hg hm (by decide +kernel) pa_tD (he := hs) (hpl := hpl)) (ld_cons (h.imp fun x δ1 ⟨bs, z, q⟩ => ⟨_, z, ld_nil ⟨_, fun F H vs s d R k => by
    obtain ⟨v, e, dv⟩ := dpAll1 d
    subst e
    obtain ⟨a, xs, e, hl, dd⟩ := dp_lst dv
    subst e
    rw [dpAll_bools dd] at hl
    exact ⟨a, bs, rfl, sql_mono s hl, k _ _ (.same s (.bl _))⟩, q⟩⟩) hs)
theorem le_any (hc : X.calm = true) (hm : X.mg "any" = none) (h : LE X e δ W fun x δ1 => ∃ bs : List Bool, Fz x (.list (bs.map .bool)) ∧ Q (.d (.bool (bs.any id))) δ1) (hg : Gl X "any" := by rfl) (hs : starEach [e] X.env = (false, eval e X.env) :: starEach [] X.env := by rfl) (hpl : (backTo pos (starEach ([] : List Expr) X.env)).any (·.1) = false := by rfl) :
    LE X (.Call (.Name "any" p) [e] [] pos) δ W Q :=
  le_call (pe_callB (cr_any hc) hg hm (by decide +kernel) pa_tD (he := hs) (hpl := hpl)) (ld_cons (h.imp fun x δ1 ⟨bs, z, q⟩ => ⟨_, z, ld_nil ⟨_, fun F H vs s d R k => by
    obtain ⟨v, e, dv⟩ := dpAll1 d
    subst e
    obtain ⟨a, xs, e, hl, dd⟩ := dp_lst dv
    subst e
    rw [dpAll_bools dd] at hl
    exact ⟨a, bs, rfl, sql_mono s hl, k _ _ (.same s (.bl _))⟩, q⟩⟩) hs)
theorem le_tupleL (hm : X.mg "tuple" = none) (h : LE X e δ W fun x δ1 => ∃ ds, Fz x (.list ds) ∧ Q (.d (.tuple ds)) δ1) (hg : Gl X "tuple" := by rfl) (hs : starEach [e] X.env = (false, eval e X.env) :: starEach [] X.env := by rfl) (hpl : (backTo pos (starEach ([] : List Expr) X.env)).any (·.1) = false := by rfl) :
    LE X (.Call (.Name "tuple" p) [e] [] pos) δ W Q :=
  le_call (pe_callTy call_tuple_of hg hm (by decide +kernel) pa_tD (he := hs) (hpl := hpl)) (ld_cons (h.imp fun x δ1 ⟨ds, z, q⟩ => ⟨_, z, ld_nil ⟨_, fun F H vs s d R k => by
    obtain ⟨v, e, dv⟩ := dpAll1 d
    subst e
    obtain ⟨a, xs, e, hl, dd⟩ := dp_lst dv
    subst e
    exact ⟨a, xs, rfl, .inl ⟨sql_mono s hl, fun l hl => k _ _ (.tup s hl dd)⟩⟩, q⟩⟩) hs)
theorem le_listD (hm : X.mg "list" = none) (h : LE X e δ W fun x δ1 => ∃ ds, (Fz x (.list ds) ∨ Fz x (.tuple ds)) ∧ Q (.l (ds.map LV.d)) δ1) (hg : Gl X "list" := by rfl) (hs : starEach [e] X.env = (false, eval e X.env) :: starEach [] X.env := by rfl) (hpl : (backTo pos (starEach ([] : List Expr) X.env)).any (·.1) = false := by rfl) :
    LE X (.Call (.Name "list" p) [e] [] pos) δ W Q :=
  le_call (pe_callTy call_list_of hg hm (by decide +kernel) pa_tD (he := hs) (hpl := hpl)) (ld_cons (h.imp fun x δ1 ⟨ds, z, q⟩ => by
    rcases z with z | z
    · exact ⟨_, z, ld_nil ⟨_, fun F H vs s d R k => by
        obtain ⟨v, e, dv⟩ := dpAll1 d
        subst e
        obtain ⟨a, xs, e, hl, dd⟩ := dp_lst dv
        subst e
        exact ⟨a, xs, rfl, .inl (sql_mono s hl), fun l hl => k _ _ (.lst s hl dd)⟩, q⟩⟩
    · exact ⟨_, z, ld_nil ⟨_, fun F H vs s d R k => by
        obtain ⟨v, e, dv⟩ := dpAll1 d
        subst e
        obtain ⟨a, xs, e, hl, dd⟩ := dp_tup dv
        subst e
        exact ⟨a, xs, rfl, .inr (sqt_mono s hl), fun l hl => k _ _ (.lst s hl dd)⟩, q⟩⟩) hs)
/-- list(text): its signs -/
theorem call_list_txt (hc : X.calm = true) : CallR X (.type "list") (fun xs H Q => ∃ z : Str, xs = [.str z] ∧ z.length ≤ sizeLine ∧ ∀ l, H l = none → Q (.ref l) (upd H l (.lst (z.cps.toList.map fun c => V.str ⟨#[c]⟩)))) := by
  intro pins s σ H xs us Q I r h
  obtain ⟨z, rfl, hz, q⟩ := h
  obtain ⟨u, rfl, t, rfl⟩ := vals1 r
  refine call_list_str (I.ok.hd hc) z t (fun h' tk acc' c' kp e it => ?_) hz
  obtain ⟨i1, i2⟩ := it
  have hv : Vals (z.cps.toList.map fun c => V.str ⟨#[c]⟩) acc'.toList := by
    have len : acc'.toList.length = z.cps.toList.length := by rw [Array.length_toList, i1, Array.length_toList]
    have all : ∀ j v, acc'.toList[j]? = some v → ∃ c, z.cps.toList[j]? = some c ∧ RelV (V.str ⟨#[c]⟩) v := fun j v hj => by
      obtain ⟨c, u, h1, h2⟩ := i2 j v (by rw [← Array.getElem?_toList]; exact hj)
      exact ⟨c, by rw [Array.getElem?_toList]; exact h1, ⟨u, h2⟩⟩
    revert len all
    generalize acc'.toList = us
    generalize z.cps.toList = cs
    intro len all
    induction cs generalizing us with
    | nil =>
      cases us with
      | nil => exact .nil
      | cons _ _ => cases len
    | cons c cs ih =>
      cases us with
      | nil => cases len
      | cons u us =>
        obtain ⟨c', h1, h2⟩ := all 0 u rfl
        cases (show some c = some c' from h1)
        exact .cons h2 (ih us (Nat.succ.inj len) fun j v hj => all (j + 1) v hj)
  have hsz : (z.cps.toList.map fun c => V.str ⟨#[c]⟩).length ≤ sizeLine := by rw [List.length_map, Array.length_toList]; exact hz
  exact ⟨.ref s.heap.objs.size, _, I.laid (t' := tk) kp (Nat.le_refl _) (show ObjOk X.prog X.w _ h' _ (.lst _) from ⟨hsz, acc'.toList, c', hv, by rw [e]⟩), rfl, q _ (I.hok.fresh (Nat.le_refl _))⟩
theorem dpAll_signs {K : PySem.W.Frag} {F : Hp} : ∀ (cs : List Nat), DpAll K F (cs.map fun c => V.str ⟨#[c]⟩) (cs.map fun c => .str ⟨#[c]⟩)
  | [] => .nil
  | c :: cs => .cons (.str _) (dpAll_signs cs)
theorem le_listS (hc : X.calm = true) (hm : X.mg "list" = none) (h : LE X e δ W fun x δ1 => ∃ z, x = .d (.str z) ∧ z.length ≤ sizeLine ∧ Q (.l ((signsD z).map LV.d)) δ1) (hg : Gl X "list" := by rfl) (hs : starEach [e] X.env = (false, eval e X.env) :: starEach [] X.env := by rfl) (hpl : (backTo pos (starEach ([] : List Expr) X.env)).any (·.1) = false := by rfl) :
    LE X (.Call (.Name "list" p) [e] [] pos) δ W Q :=
  le_call (pe_callTy (call_list_txt hc) hg hm (by decide +kernel) pa_tD (he := hs) (hpl := hpl)) (ld_cons (h.imp fun x δ1 ⟨z, e, hz, q⟩ => ⟨.str z, by rw [e]; exact .d, ld_nil ⟨_, fun F H vs s d R k => by
    obtain ⟨v, e, dv⟩ := dpAll1 d
    subst e
    exact ⟨z, by rw [dp_str dv], hz, fun l hl => k _ _ (.lst s hl (dpAll_signs _))⟩, q⟩⟩) hs)
/-! ### abs, int -/
theorem lq_abs {i : Int} (hm : X.mg "abs" = none) (h : LQ X e δ (.int i)) (hg : Gl X "abs" := by rfl) (hs : starEach [e] X.env = (false, eval e X.env) :: starEach [] X.env := by rfl) (hpl : (backTo pos (starEach ([] : List Expr) X.env)).any (·.1) = false := by rfl) : LQ X (.Call (.Name "abs" p) [e] [] pos) δ (.int (if i < 0 then -i else i)) :=
  lq_of (pe_callB call_abs hg hm (by decide +kernel) (pa_cons pe_tQ pa_nil hs) (he := hs) (hpl := hpl)) fun F G σ H f S => ⟨F, G, δ, f, _, S, h, fun v dv => ⟨i, by rw [dp_int dv], rfl, .int _⟩⟩
theorem lq_intI {i : Int} (hm : X.mg "int" = none) (h : LQ X e δ (.int i)) (hg : Gl X "int" := by rfl) (hs : starEach [e] X.env = (false, eval e X.env) :: starEach [] X.env := by rfl) (hpl : (backTo pos (starEach ([] : List Expr) X.env)).any (·.1) = false := by rfl) : LQ X (.Call (.Name "int" p) [e] [] pos) δ (.int i) :=
  lq_of (pe_callTy call_int1 hg hm (by decide +kernel) (pa_cons pe_tQ pa_nil hs) (he := hs) (hpl := hpl)) fun F G σ H f S => ⟨F, G, δ, f, _, S, h, fun v dv => .inl ⟨i, by rw [dp_int dv], rfl, .int _⟩⟩
theorem le_intI (hm : X.mg "int" = none) (h : LE X e δ W fun x δ1 => ∃ i, x = .d (.int i) ∧ Q (.d (.int i)) δ1) (hg : Gl X "int" := by rfl) (hs : starEach [e] X.env = (false, eval e X.env) :: starEach [] X.env := by rfl) (hpl : (backTo pos (starEach ([] : List Expr) X.env)).any (·.1) = false := by rfl) : LE X (.Call (.Name "int" p) [e] [] pos) δ W Q :=
  le_call (pe_callTy call_int1 hg hm (by decide +kernel) pa_tD (he := hs) (hpl := hpl)) (ld_cons (h.imp fun x δ1 ⟨i, e, q⟩ => ⟨.int i, by rw [e]; exact .d, ld_nil ⟨_, fun F H vs s d R k => by
    obtain ⟨v, e, dv⟩ := dpAll1 d
    subst e
    exact .inl ⟨i, by rw [dp_int dv], k _ _ (.same s (.int _))⟩, q⟩⟩) hs)
/-! ### methods of texts -/
/-- the first place of a sign -/
def placeOf (c : Nat) (cs : List Nat) : Nat := cs.idxOf c
theorem occ_sign {z : Str} {c : Nat} (h : c ∈ z.cps.toList) : ∃ rest, Builtin.Str.occurrences z ⟨#[c]⟩ 0 z.length 1 = placeOf c z.cps.toList :: rest := by
  have at_iff : ∀ i, PySem.StrLaws.At z ⟨#[c]⟩ z.length i ↔ z.cps.toList[i]? = some c := fun i => PySem.StrLaws.subAt_one z c i
  have hlt : List.idxOf c z.cps.toList < z.cps.toList.length := List.idxOf_lt_length_of_mem h
  have hp : z.cps.toList[List.idxOf c z.cps.toList]? = some c := by
    rw [List.getElem?_eq_getElem hlt, List.getElem_idxOf]
  rcases PySem.StrLaws.occ_head z ⟨#[c]⟩ 1 (Nat.le_refl _) with ⟨_, hn⟩ | ⟨i, r, e, ha, hb⟩
  · exact absurd ((at_iff _).mpr hp) (hn _)
  · refine ⟨r, ?_⟩
    have hi := (at_iff i).mp ha
    have : i = List.idxOf c z.cps.toList := by
      rcases Nat.lt_trichotomy i (List.idxOf c z.cps.toList) with hl | hl | hl
      · obtain ⟨h1, h2⟩ := List.getElem?_eq_some_iff.mp hi
        have := List.not_of_lt_findIdx (p := fun x => x == c) (xs := z.cps.toList) (i := i) hl
        simp [h2] at this
      · exact hl
      · exact absurd ((at_iff _).mpr hp) (hb _ hl)
    rw [e, this]
    rfl
variable {o : Expr} {apos : Pos}
/-- text.index(sign) -/
theorem lq_index {z : Str} {c : Nat} (ho : LQ X o δ (.str z)) (h : LQ X e δ (.str ⟨#[c]⟩)) (hc : c ∈ z.cps.toList)
    (hs : starEach [e] X.env = [(false, eval e X.env)] := by rfl) (hbase : attributeBase o "index" X.env (eval o X.env) = eval o X.env := by rfl) (hline : (apos.endLine == pos.line) = true := by rfl) : LQ X (.Call (.Attribute o "index" apos) [e] [] pos) δ (.int (placeOf c z.cps.toList : Nat)) :=
  lq_of (pe_m1 PySem.F.slot_str_index PySem.F.type_str_index mt_sindex pe_tQ pe_tQ hs hbase hline) fun F G σ H f S => ⟨F, G, δ, f, _, S, ho, fun v dv => ⟨⟨z, dp_str dv⟩, F, G, δ, f, _, S, h, fun u du => by
    obtain ⟨rest, e⟩ := occ_sign hc
    exact ⟨z, ⟨#[c]⟩, _, rest, dp_str dv, by rw [dp_str du], e, rfl, .int _⟩⟩⟩
/-- text.startswith(text) -/
theorem lq_starts {z y : Str} (ho : LQ X o δ (.str z)) (h : LQ X e δ (.str y))
    (hs : starEach [e] X.env = [(false, eval e X.env)] := by rfl) (hbase : attributeBase o "startswith" X.env (eval o X.env) = eval o X.env := by rfl) (hline : (apos.endLine == pos.line) = true := by rfl) : LQ X (.Call (.Attribute o "startswith" apos) [e] [] pos) δ (.bool (Txt.startswith z y)) :=
  lq_of (pe_m1 PySem.F.slot_str_startswith PySem.F.type_str_startswith mt_startswith pe_tQ pe_tQ hs hbase hline) fun F G σ H f S => ⟨F, G, δ, f, _, S, ho, fun v dv => ⟨⟨z, dp_str dv⟩, F, G, δ, f, _, S, h, fun u du => ⟨z, y, dp_str dv, by rw [dp_str du], rfl, .bl _⟩⟩⟩
/-- ''.join(list of texts) -/
theorem le_join {z : Str} (ho : LQ X o δ (.str z)) (h : LE X e δ W fun x δ1 => ∃ ys : List Str, Fz x (.list (ys.map .str)) ∧ (ys.map (·.length)).sum + ys.length * z.length ≤ 16777216 ∧ Q (.d (.str (Str.join z ys))) δ1)
    (hs : starEach [e] X.env = [(false, eval e X.env)] := by rfl) (hbase : attributeBase o "join" X.env (eval o X.env) = eval o X.env := by rfl) (hline : (apos.endLine == pos.line) = true := by rfl) : LE X (.Call (.Attribute o "join" apos) [e] [] pos) δ W Q :=
  le_of (pe_join pe_tQ pe_tE hs hbase hline) fun F G σ H f S T => ⟨F, G, δ, f, _, S, ho, fun v dv => ⟨⟨z, dp_str dv⟩, F, G, δ, f, W, _, S, T, h, fun u H1 x δ1 res ⟨ys, zz, hz, q⟩ => by
    obtain ⟨F1, f1, g1, fx1, S1, r1, d1, o1⟩ := res.frz zz
    cases r1 with
    | d hx =>
    obtain ⟨a, vs, e, hl, dd⟩ := dp_lst hx
    subst e
    rw [dpAll_strs dd] at hl
    exact ⟨z, a, ys, dp_str dv, rfl, .inl (sql_mono S1.fh hl), hz, _, δ1, ⟨F1, f1, _, fx1, S1, .d (.str _), .nil, .nil⟩, by rw [TL.join_eq]; exact q⟩⟩⟩
/-- x in l: flat data -/
theorem inV_d {K : PySem.W.Frag} {F : Hp} : True := trivial
end
end Z
set_option maxHeartbeats 4000000
namespace Zs
open PySem PyProof.Rows
open Sem (wp)
/-- the texts met so far, each once -/
def metS (val : Nat → Str) : Nat → List Str
  | 0 => []
  | i + 1 => if val i ∈ metS val i then metS val i else metS val i ++ [val i]
theorem metS_le (val : Nat → Str) : ∀ i, (metS val i).length ≤ i
  | 0 => Nat.le_refl _
  | i + 1 => by
    have h := metS_le val i
    unfold metS
    split
    · omega
    · rw [List.length_append]
      show (metS val i).length + 1 ≤ i + 1
      omega
def inS (l : List Str) : Str → Bool := fun k => decide (k ∈ l)
theorem inS_step (val : Nat → Str) (i : Nat) (k : Str) : inS (metS val (i + 1)) k = (inS (metS val i) k || decide (k = val i)) := by
  unfold inS
  show decide (k ∈ metS val (i + 1)) = _
  rw [metS]
  split
  · rename_i h
    by_cases hk : k = val i
    · subst hk; simp [h]
    · simp [hk]
  · simp
theorem len_step (val : Nat → Str) (i : Nat) : (metS val (i + 1)).length = if inS (metS val i) (val i) = true then (metS val i).length else (metS val i).length + 1 := by
  rw [metS]
  unfold inS
  by_cases h : val i ∈ metS val i
  · rw [if_pos h, if_pos (decide_eq_true h)]
  · rw [if_neg h, if_neg (by rw [decide_eq_false h]; exact Bool.false_ne_true), List.length_append]
    rfl
section
variable {prog : Program} {w : World} {A : Around} {E : Value → Shared → Prop} {R : Result → Shared → Prop} {I : Addr} {n : Nat} {fp wr : List Addr} {G : Array GenState → Array GenState → Prop} {P : Nat → Value → Prop} {St : Nat → Shared → Prop} {s : Shared}
theorem set_cong {K : Type} [DecidableEq K] {knd : KeyKind prog w K} {h : Heap} {a : Addr} {S S' : K → Bool} {m m' : Nat} (x : h.SetOf knd a S m) (e : ∀ k, S' k = S k) (e2 : m' = m) : h.SetOf knd a S' m' := by
  have : S' = S := funext e
  rw [this, e2]
  exact x
theorem set_stay {K : Type} [DecidableEq K] {knd : KeyKind prog w K} {h h' : Heap} {a : Addr} {S : K → Bool} {m : Nat} (x : h.SetOf knd a S m) (k : ∀ o, h.get? a = some o → h'.get? a = some o) : h'.SetOf knd a S m := by
  obtain ⟨o, es, ep, tb, ho, rest⟩ := x
  exact ⟨o, es, ep, tb, k o ho, rest⟩
/-- the loop of set(..) over an iterator of texts -/
theorem loop_strs (W : WalksS prog w A.in1 I fp wr G n P St) (D : Addr) (hD : D ∉ fp) (val : Nat → Str) (hv : ∀ i v, P i v → ∃ t, v = .str (val i) t) (hb : n + 1 < scanBound) :
    ∀ (k i : Nat) (s : Shared), n - i = k → i ≤ n → St i s → s.heap.SetOf (strKind prog w) D (inS (metS val i)) (metS val i).length →
      (∀ s', Moved (D :: wr) G s s' → s'.heap.SetOf (strKind prog w) D (inS (metS val n)) (metS val n).length → R (.ok (.ret .none)) s') →
      codeAny (model prog w) A (.builtin "set.update.loop" ⟨[.ref D, .ref I], []⟩) R s := by
  have nw : D ∉ wr := fun h => hD (W.sub _ h)
  have sub : ∀ b ∈ wr, b ∈ D :: wr := fun b h => List.mem_cons_of_mem _ h
  intro k
  induction k with
  | zero =>
    intro i s hk hi st hS hR
    obtain rfl : i = n := by omega
    refine codeAny_builtin PyProof.Rows.F.entry_set_update_loop ?_
    rw [Around.under_plainId PyProof.Rows.F.plain_set_update_loop _]
    show wpAny _ A.in1 (do let r ← pyNext (.ref I); _) _ _ s
    refine wpAny_bind (W.done s _ _ st fun s' hm => ?_)
    show wpAny _ A.in1 (ret Value.none) _ _ s'
    exact wpAny_pure (hR s' (hm.mono sub) (set_stay hS fun o e => hm.heap D o nw e))
  | succ k ih =>
    intro i s hk hi st hS hR
    have lt : i < n := by omega
    refine codeAny_builtin PyProof.Rows.F.entry_set_update_loop ?_
    rw [Around.under_plainId PyProof.Rows.F.plain_set_update_loop _]
    show wpAny _ A.in1 (do let r ← pyNext (.ref I); _) _ _ s
    refine wpAny_bind (W.item i s _ _ lt st fun v s' hP st' hm => ?_)
    obtain ⟨t, rfl⟩ := hv i v hP
    have hS' := set_stay (h' := s'.heap) hS fun o e => hm.heap D o nw e
    have isk : (strKind prog w).is (val i) (.str (val i) t) = true := by simp [PySem.strKind, Value.isStrOf]
    show wpAny _ A.in1 (do let a ← holding [Value.str (val i) t] (setAdd D (.str (val i) t)); _) _ _ s'
    refine wpAny_bind (wpAny_holding ?_)
    unfold setAdd
    refine wpAny_holding ?_
    refine wpAny_bind ((strKind prog w).pyHash (k := val i) isk ?_)
    have room : (metS val i).length + 1 < scanBound := by
      have := metS_le val i
      omega
    refine wpAny_setAddHashed_of (knd := strKind prog w) isk rfl hS' room fun h' sb S2 => ?_
    have S3 : h'.SetOf (strKind prog w) D (inS (metS val (i + 1))) (metS val (i + 1)).length := set_cong S2 (inS_step val i) (len_step val i)
    refine wpAny_pure ⟨plainId_quiet PyProof.Rows.F.plain_set_update_loop _, ih (i + 1) _ (by omega) lt (W.frame _ s' _ _ st' (Nat.le_succ _) fun b hb o e => ?_) S3 fun s2 hm2 S4 => ?_⟩
    · rw [sb.2 b fun h : b = D => hD (h ▸ hb)]
      exact e
    · refine hR s2 (Moved.trans W.gtrans ((hm.mono sub).then_heap (Nat.le_succ _) fun b o hb e => ?_) hm2) S4
      rw [sb.2 b fun h : b = D => hb (h ▸ List.mem_cons_self)]
      exact e
theorem sub_str_set : isSubtype (.type "str") (.type "set") = pure false := by rw [isSubtype_type]; kernel_rfl
theorem sub_str_frozenset : isSubtype (.type "str") (.type "frozenset") = pure false := by rw [isSubtype_type]; kernel_rfl
/-- the signs of a text -/
def sign (x : Str) (i : Nat) : Str := ⟨#[x.cps.getD i 0]⟩
theorem call_set_str {x : Str} {t : Tok} {Q : Value → Shared → Prop} (hh : A.handled = none) (hb : x.cps.size + 1 < scanBound)
    (h : ∀ (h' : Heap) (tk : Nat), h'.SetOf (strKind prog w) s.heap.objs.size (inS (metS (sign x) x.cps.size)) (metS (sign x) x.cps.size).length →
      (∀ b o, b < s.heap.objs.size → s.heap.get? b = some o → h'.get? b = some o) → Q (.ref s.heap.objs.size) { s with heap := h', toks := tk }) :
    wpAny (model prog w) A (call (.type "set") [.str x t]) Q E s := by
  obtain ⟨c, tl, hmro⟩ := PySem.F.called_set.mro
  have made := PySem.F.called_set.made
  have sb := PySem.F.called_set.sub
  refine wpAny_call (codeAny_of_tree ?_)
  show wpAny _ _ (callAny (.type "set") _) _ _ _
  refine wpAny_pure ⟨Code.quiet_builtin _ (by decide +kernel), codeAny_builtin PySem.F.entry_type_call ?_⟩
  rw [Around.under_plain (weight_type_call_type "set" [.str x t] []) rfl]
  have q1 := PySem.F.called_set.notType
  have q2 := PySem.F.called_set.canCreate
  have q3 := PySem.F.typeCall_set_1 (.str x t)
  repeat (any_goals (first | assumption | wp_step))
  refine codeAny_mono (PySem.code_set_new_1 (.str x t) (E := E) (Q₁ := fun obj s1 => ∃ led : Bool, obj = .ref s.heap.objs.size ∧ s1 = { s with heap := s.heap.push { cls := .type "set", dict := none, data := .set #[] 0 (.fresh 0 0 led) } }) fun led => ⟨led, rfl, rfl⟩) fun r s1 hr => ?_
  cases r with
  | error e => exact hr
  | ok fl =>
    cases fl with
    | ret obj =>
      obtain ⟨led, rfl, rfl⟩ := hr
      have gS : (s.heap.push { cls := .type "set", dict := none, data := .set #[] 0 (.fresh 0 0 led) }).get? s.heap.objs.size = some { cls := .type "set", dict := none, data := .set #[] 0 (.fresh 0 0 led) } := Heap.get?_push_size _ rfl
      have tS : Shared.TypeIs { s with heap := s.heap.push { cls := .type "set", dict := none, data := .set #[] 0 (.fresh 0 0 led) } } (.ref s.heap.objs.size) "set" := ⟨_, gS, rfl⟩
      have p1 := PySem.F.called_set.init.lookup
      have p2 := PySem.F.called_set.init.bind (.ref s.heap.objs.size)
      repeat (any_goals (first | assumption | wp_step))
      refine codeAny_mono (codeAny_call_builtin (R := wants (fun r s2 => r = .none ∧ ∃ h' tk, s2 = { s with heap := h', toks := tk } ∧
          h'.SetOf (strKind prog w) s.heap.objs.size (inS (metS (sign x) x.cps.size)) (metS (sign x) x.cps.size).length ∧
          (∀ b o, b < s.heap.objs.size → s.heap.get? b = some o → h'.get? b = some o)) E) PySem.F.called_set.init.plain PySem.F.entry_set_init (PySem.check_set_init_1 tS ?_)) fun r2 s2 hr2 => ?_
      · have s1 := sub_str_set
        have s2 := sub_str_frozenset
        have s3 : (Value.type "str" == Value.type "dict") = false := by decide
        unfold Builtin.«set.__init__» noKeywords Builtin.Frozenset.updateFrom
        generalize hPI : pyIter = PI
        wp_walk
        subst hPI
        refine wpAny_pyIter_str fun o St W st0 => ?_
        refine wpAny_bind (wpAny_runValue ?_)
        have hh3 : A.in1.in1.in1.handled = none := by simp [hh]
        have nf : s.heap.objs.size ∉ [(s.heap.push { cls := .type "set", dict := none, data := .set #[] 0 (.fresh 0 0 led) }).objs.size] := by
          rw [Heap.size_push, List.mem_singleton]
          exact Nat.ne_of_lt (Nat.lt_succ_self _)
        refine loop_strs ((W _ hh3).toS) s.heap.objs.size nf (sign x) (fun i v ⟨c, u, h1, h2⟩ => ⟨u, by
          rw [h2]
          have : x.cps.getD i 0 = c := by simp [Array.getD_eq_getD_getElem?, h1]
          unfold sign
          rw [this]⟩) hb (x.cps.size - 0) 0 _ (by omega) (Nat.zero_le _) st0 ?S0 ?R0
        case S0 =>
          have get : ((s.heap.push { cls := .type "set", dict := none, data := .set #[] 0 (.fresh 0 0 led) }).push o).get? s.heap.objs.size = some { cls := .type "set", dict := none, data := .set #[] 0 (.fresh 0 0 led) } := Heap.get?_push_of_some _ gS
          exact set_cong ((setObjOf_fresh (knd := strKind prog w) led).setOf get (by unfold scanBound; omega)) (fun k => by unfold inS; simp [metS]) rfl
        case R0 =>
          intro s' hm S'
          obtain ⟨h', g', d', tk', os'⟩ := s'
          obtain rfl : g' = s.gens := hm.gens
          obtain rfl : d' = s.drawn := hm.drawn
          obtain rfl : os' = s.os := hm.os
          show wpAny _ _ _ _ _ _
          refine wpAny_pure ?_
          show wpAny _ _ (ret Value.none) _ _ _
          refine wpAny_pure ⟨rfl, h', tk', rfl, S', fun b o' hb e => ?_⟩
          refine hm.heap b o' (fun hmem => ?_) (Heap.get?_push_of_some _ (Heap.get?_push_of_some _ e))
          rcases List.mem_cons.mp hmem with e | hmem
          · exact absurd e (Nat.ne_of_lt hb)
          · have e := List.mem_singleton.mp hmem
            rw [Heap.size_push] at e
            exact Nat.lt_irrefl _ (Nat.lt_trans (Nat.lt_succ_self _) (e ▸ hb))
      · cases r2 with
        | error e => exact hr2
        | ok fl2 =>
          cases fl2 with
          | ret r =>
            obtain ⟨rfl, h', tk, rfl, S', k'⟩ := hr2
            repeat (any_goals (first | assumption | wp_step))
            exact h _ _ S' k'
          | _ => exact hr2.elim
    | _ => exact hr.elim
end
end Zs
namespace Z
open PySem PySem.Spec PyProof.Rows L2
/-- how many unlike signs -/
def distinct (z : Str) : Nat := (Zs.metS (Zs.sign z) z.cps.size).length
section
variable {X : Cx} {e : Expr} {δ : LSt} {pos pos2 p p2 : Pos}
/-- len(set(text)) -/
theorem pe_lenSetTxt {te : TE} (hc : X.calm = true) (hg : Gl X "len") (hm : X.mg "len" = none) (hg2 : Gl X "set") (hm2 : X.mg "set" = none) (he : PE X e te) (hs : starEach [e] X.env = [(false, eval e X.env)]) :
    PE X (.Call (.Name "len" p) [.Call (.Name "set" p2) [e] [] pos2] [] pos) (fun σ H Q => te σ H fun x H1 => ∃ z, x = .str z ∧ z.cps.size + 1 < scanBound ∧ Q (.int (distinct z)) H1) := by
  refine ⟨fun pins s σ H Q I h => ?_⟩
  refine Call_ (ld_blt I hg hm PySem.boot_len ?_)
  refine PyProof.Rows.callWith_builtin1 (PyProof.Rows.args_cons ?_ rfl) rfl rfl
  refine Call_ (ld_blt I hg2 hm2 boot_set ?_)
  refine PyProof.Rows.callWith_type1 (PyProof.Rows.args_cons (thn (he.run pins s σ H _ I h) fun v s1 ⟨x, H1, I1, r1, z, ex, hb, q1⟩ => PyProof.Rows.args_nil ?_) hs) hs rfl
  subst ex
  obtain ⟨t, rfl⟩ := r1
  refine Zs.call_set_str (I1.ok.hd hc) hb fun h' tk hS hk => ?_
  refine PyProof.Rows.args_nil ?_
  obtain ⟨o, es, ep, tb, ho, hex, hd, _, _, hbd, hf, hn⟩ := hS
  have I2 : Inv X pins σ H1 { s1 with heap := h', toks := tk } := I1.kept fun b o e => hk b o (Heap.lt_size e) e
  have hbd' : (es.size : Int) < 2 ^ 63 := by
    unfold scanBound at hbd
    omega
  exact call_len_set ho hex hd hf hbd' ⟨.int (distinct z), H1, I2.tok _, ⟨_, by rw [hn]; rfl⟩, q1⟩
theorem lq_lenSetS {z : Str} (hc : X.calm = true) (hm : X.mg "len" = none) (hm2 : X.mg "set" = none) (h : LQ X e δ (.str z)) (hb : z.cps.size + 1 < scanBound) (hg : Gl X "len" := by rfl) (hg2 : Gl X "set" := by rfl) (hs : starEach [e] X.env = (false, eval e X.env) :: starEach [] X.env := by rfl) : LQ X (.Call (.Name "len" p) [.Call (.Name "set" p2) [e] [] pos2] [] pos) δ (.int (distinct z)) :=
  lq_of (pe_lenSetTxt hc hg hm hg2 hm2 pe_tQ hs) fun F G σ H f S => ⟨F, G, δ, f, _, S, h, fun v dv => ⟨z, dp_str dv, hb, rfl, .int _⟩⟩
end
end Z
set_option maxHeartbeats 4000000
namespace Z
open PySem PySem.Spec PyProof.Rows L2
/-! ### a def that may be called -/
structure Cal {Γ : Type} (P : Program) (w : World) (K : PySem.W.Frag) (mg : Str → Option Value) (base : Heap) (k : Nat) (nm : Str) (ps : List Str) (S : Spec Γ) : Prop where
  ex : ∃ f fd, FnOk P w K mg base (L2.CX P w) k f fd ps (lift ⟨P, w, K, mg⟩ S) ∧ Binds K fd ps [] ∧ mg nm = some (.ref f) ∧ PySem.W.keepIn K (.ref f) = true
section
variable {X : Cx} {e : Expr} {es : List Expr} {δ : LSt} {W : LW} {Q : LV → LSt → Prop} {pos p : Pos} {nm : Str}
/-- f(e, ..) of a def -/
theorem le_cal {Γ : Type} {Sc : Spec Γ} {k m : Nat} {ps : List Str} (C : Cal X.prog X.w X.K X.mg X.base k nm ps Sc) (hr : Room m X.A) (hkm : k ≤ m)
    (h : LA X (e :: es) δ W fun as δ1 => ∃ γ xs, argVals δ1 as = some xs ∧ Sc.pre γ xs ∧ (∀ r ys, Sc.post γ r ys → Q r (back δ1 as ys)) ∧ ∀ cls ys, Sc.exc γ cls ys → W cls (back δ1 as ys))
    (hg : Gl X nm := by rfl) (hdb : (nm == ("__debug__" : Str)) = false := by decide) (he : starEach (e :: es) X.env = (false, eval e X.env) :: starEach es X.env := by rfl) (hpl : (backTo pos (starEach es X.env)).any (·.1) = false := by rfl) : LE X (.Call (.Name nm p) (e :: es) [] pos) δ W Q := by
  obtain ⟨f, fd, Fn, hb, hm, hk⟩ := C.ex
  exact le_callF Fn (hr.mono hkm) hm hk hb h hg hdb he hpl
/-- a call whose answer is told by its arguments (data), nothing else changes -/
structure CalQ (P : Program) (w : World) (K : PySem.W.Frag) (mg : Str → Option Value) (base : Heap) (k : Nat) (nm : Str) (ps : List Str) (f : List PyData → PyData → Prop) : Prop where
  c : Cal P w K mg base k nm ps (⟨fun γ xs => xs = γ.1.map LV.d ∧ f γ.1 γ.2, fun γ r _ => r = .d γ.2, fun _ _ _ => False⟩ : Spec (List PyData × PyData))
end
/-! ### the names of a def's body, looked up once -/
structure VisOk (X : Cx) (i : Nat) (nm : Str) : Prop where
  n : X.N[i]? = some nm
  v : Vis X.env.scope nm
  d : (nm == ("__debug__" : Str)) = false
  c : (nm == ("__classdict__" : Str)) = false
structure GlOk (X : Cx) (nm : Str) : Prop where
  g : Gl X nm
  d : (nm == ("__debug__" : Str)) = false
structure LocOk (X : Cx) (i : Nat) (nm : Str) : Prop where
  n : X.N[i]? = some nm
  l : Loc X.env.scope nm
def visB (sc : Scope) (x : Str) : Bool := (decide (sc.names.lookup x = some .local) || decide (sc.names.lookup x = some .cell) || decide (sc.names.lookup x = some .free)) && !(x == ("__debug__" : Str)) && !(x == ("__classdict__" : Str))
def locB (sc : Scope) (x : Str) : Bool := decide (sc.names.lookup x = some .local) || decide (sc.names.lookup x = some .cell)
def glB (sc : Scope) (x : Str) : Bool := decide (sc.names.lookup x = some .globalImplicit) && !(x == ("__debug__" : Str))
def atB (N : List Str) (i : Nat) (p : Str → Bool) : Bool := match N[i]? with
  | some x => p x
  | none => false
/-- vs: the places that are seen; ls: those that are bound here; gs: the module's and the built-in names -/
def evB (sc : Scope) (N : List Str) (vs ls : List Nat) (gs : List Str) : Bool := vs.all (fun i => atB N i (visB sc)) && (ls.all (fun i => atB N i (locB sc)) && gs.all (glB sc))
structure Ev (X : Cx) (N : List Str) (vs ls : List Nat) (gs : List Str) : Prop where
  hN : X.N = N
  ok : evB X.env.scope N vs ls gs = true
section
variable {X : Cx} {N : List Str} {vs ls : List Nat} {gs : List Str}
theorem atB_ok {N : List Str} {i : Nat} {p : Str → Bool} {x : Str} (h : atB N i p = true) (e : N[i]? = some x) : p x = true := by
  unfold atB at h
  rw [e] at h
  exact h
theorem Ev.v (E : Ev X N vs ls gs) (j : Nat) {i : Nat} {nm : Str} (e : vs[j]? = some i) (e2 : N[i]? = some nm) : VisOk X i nm := by
  have h := (Bool.and_eq_true_iff.mp E.ok).1
  have h1 := atB_ok (List.all_eq_true.mp h i (List.mem_of_getElem? e)) e2
  unfold visB at h1
  simp only [Bool.and_eq_true, Bool.or_eq_true, decide_eq_true_eq, Bool.not_eq_true'] at h1
  obtain ⟨⟨h1, h2⟩, h3⟩ := h1
  exact ⟨by rw [E.hN]; exact e2, by
    rcases h1 with (h1 | h1) | h1
    · exact .inl h1
    · exact .inr (.inl h1)
    · exact .inr (.inr h1), h2, h3⟩
theorem Ev.l (E : Ev X N vs ls gs) (j : Nat) {i : Nat} {nm : Str} (e : ls[j]? = some i) (e2 : N[i]? = some nm) : LocOk X i nm := by
  have h := (Bool.and_eq_true_iff.mp (Bool.and_eq_true_iff.mp E.ok).2).1
  have h1 := atB_ok (List.all_eq_true.mp h i (List.mem_of_getElem? e)) e2
  unfold locB at h1
  simp only [Bool.or_eq_true, decide_eq_true_eq] at h1
  exact ⟨by rw [E.hN]; exact e2, h1⟩
theorem Ev.g (E : Ev X N vs ls gs) (j : Nat) {nm : Str} (e : gs[j]? = some nm) : GlOk X nm := by
  have h := (Bool.and_eq_true_iff.mp (Bool.and_eq_true_iff.mp E.ok).2).2
  have h1 := List.all_eq_true.mp h nm (List.mem_of_getElem? e)
  unfold glB at h1
  simp only [Bool.and_eq_true, decide_eq_true_eq, Bool.not_eq_true'] at h1
  exact ⟨h1.1, h1.2⟩
end
section
variable {X : Cx} {e b : Expr} {es : List Expr} {δ : LSt} {W : LW} {Q : LV → LSt → Prop} {P : LEnds} {pos p apos : Pos} {nm : Str} {i : Nat} {x z : PyData}
theorem lq_v (v : VisOk X i nm) (h : valAt δ i = some (.d x)) : LQ X (.Name nm pos) δ x := lq_name h v.n v.v v.d v.c
theorem lq_gi {j : Int} (g : GlOk X nm) (hm : ∃ t, X.mg nm = some (.int j t)) : LQ X (.Name nm pos) δ (.int j) := lq_globI hm g.g g.d
theorem lx_slot {xs : List LV} {j : Int} (v : VisOk X i nm) (h0 : valAt δ i = some (.l xs)) (hb : LQ X b δ (.int j)) (hz : atI xs j = some (.d z)) (hp : PlainIx b := by exact fun _ _ => rfl) : LQ X (.Subscript (.Name nm p) b pos) δ z := lq_slot h0 hb hz v.n v.v v.d v.c hp
theorem lx_lenSlot {xs : List LV} {p2 : Pos} (v : VisOk X i nm) (g : GlOk X "len") (hm : X.mg "len" = none) (h0 : valAt δ i = some (.l xs)) : LQ X (.Call (.Name "len" p2) [.Name nm p] [] pos) δ (.int xs.length) := lq_lenSlot hm h0 v.n v.v v.d v.c g.g
theorem sx_set {p' : Pos} (l : LocOk X i nm) (hnd : X.N.Nodup) (hfn : X.fn nm = true) (h : LE X e δ W fun x δ1 => freeAt δ1 i = true ∧ P.nx (δ1.set i (.is x))) (hs : swapsWith e (some (.Name nm p')) pos.line X.env = pure false := by rfl) : LS X (.Assign [.Name nm p'] e pos) δ W P :=
  ls_set hnd h l.n l.l hs (.inl hfn)
theorem ex_append (v : VisOk X i nm) (h : LE X e δ W fun x δ1 => ∃ xs, valAt δ1 i = some (.l xs) ∧ xs.length < sizeLine ∧ Q (.d .none) (upAt δ1 i (.l (xs ++ [x])))) (h0 : ∃ xs0, valAt δ i = some (.l xs0))
    (hs : starEach (e :: []) X.env = (false, eval e X.env) :: starEach [] X.env := by rfl) (hbase : attributeBase (.Name nm p) "append" X.env (eval (.Name nm p) X.env) = eval (.Name nm p) X.env := by rfl)
    (hfew : ((backTo pos (starEach (e :: []) X.env)).all (fun x => !x.1) && (backToKw pos (keywordEach [] X.env)).all (fun x => x.1.isSome)
      && decide ((e :: []).length + ([] : List Keyword).length + (if ([] : List Keyword).isEmpty then 0 else 1) < 30)) = true := by rfl) (hline : (apos.endLine == pos.line) = true := by rfl) : LE X (.Call (.Attribute (.Name nm p) "append" apos) [e] [] pos) δ W Q :=
  le_append h h0 v.n v.v v.d v.c hs hbase hfew hline
theorem ex_popAt (v : VisOk X i nm) (h : LE X e δ W fun x δ1 => ∃ xs j k y, x = .d (.int j) ∧ valAt δ1 i = some (.l xs) ∧ -(2 ^ 63) ≤ j ∧ j < 2 ^ 63 ∧ seqIndex? j xs.length = some k ∧ xs[k]? = some (.d y) ∧ Q (.d y) (upAt δ1 i (.l (xs.eraseIdx k)))) (h0 : ∃ xs0, valAt δ i = some (.l xs0))
    (hs : starEach (e :: []) X.env = (false, eval e X.env) :: starEach [] X.env := by rfl) (hbase : attributeBase (.Name nm p) "pop" X.env (eval (.Name nm p) X.env) = eval (.Name nm p) X.env := by rfl)
    (hfew : ((backTo pos (starEach (e :: []) X.env)).all (fun x => !x.1) && (backToKw pos (keywordEach [] X.env)).all (fun x => x.1.isSome)
      && decide ((e :: []).length + ([] : List Keyword).length + (if ([] : List Keyword).isEmpty then 0 else 1) < 30)) = true := by rfl) (hline : (apos.endLine == pos.line) = true := by rfl) : LE X (.Call (.Attribute (.Name nm p) "pop" apos) [e] [] pos) δ W Q :=
  le_popAt h h0 v.n v.v v.d v.c hs hbase hfew hline
theorem sx_store {p' : Pos} (v : VisOk X i nm) (h : LE X e δ W fun x δ1 => ∃ j k xs, LQ X b δ1 (.int j) ∧ valAt δ1 i = some (.l xs) ∧ ixN xs.length j = some k ∧ P.nx (upAt δ1 i (.l (xs.set k x)))) (h0 : ∃ xs0, valAt δ i = some (.l xs0))
    (ha : ∀ v, assign (.Subscript (.Name nm p) b p') X.env v = (do
      let ov ← holding [v] (eval (.Name nm p) X.env)
      let iv ← holding [v, ov] (eval b X.env)
      standAt p'
      holding [v, ov, iv] (setItem ov iv v)
      release [v, ov, iv] []) := by intro _; rfl)
    (hs : swapsWithSole [.Subscript (.Name nm p) b p'] e pos.line X.env = pure false := by rfl) (hw : swappedStores [.Subscript (.Name nm p) b p'] e X.env = pure none := by rfl)
    (h1 : (assignEach [.Subscript (.Name nm p) b p'] X.env).map (·.2) = [assign (.Subscript (.Name nm p) b p') X.env] := by rfl) : LS X (.Assign [.Subscript (.Name nm p) b p'] e pos) δ W P :=
  ls_store (ps := pos) h h0 v.n v.v v.d v.c ha hs hw h1
theorem ax_bor {QA : List Arg → LSt → Prop} {x : LV} (v : VisOk X i nm) (h : valAt δ i = some x) (t : LA X es δ W fun as δ2 => QA (.bor i :: as) δ2) (hs : starEach (Expr.Name nm p :: es) X.env = (false, eval (Expr.Name nm p) X.env) :: starEach es X.env := by rfl) : LA X (Expr.Name nm p :: es) δ W QA :=
  la_bor i h t v.n v.v v.d v.c hs
theorem ex_cal {Γ : Type} {Sc : Spec Γ} {k m : Nat} {ps : List Str} (g : GlOk X nm) (C : Cal X.prog X.w X.K X.mg X.base k nm ps Sc) (hr : Room m X.A) (hkm : k ≤ m)
    (h : LA X (e :: es) δ W fun as δ1 => ∃ γ xs, argVals δ1 as = some xs ∧ Sc.pre γ xs ∧ (∀ r ys, Sc.post γ r ys → Q r (back δ1 as ys)) ∧ ∀ cls ys, Sc.exc γ cls ys → W cls (back δ1 as ys))
    (he : starEach (e :: es) X.env = (false, eval e X.env) :: starEach es X.env := by rfl) (hpl : (backTo pos (starEach es X.env)).any (·.1) = false := by rfl) : LE X (.Call (.Name nm p) (e :: es) [] pos) δ W Q := le_cal C hr hkm h g.g g.d he hpl
end
/-! ### small rules with the answer left open -/
def addD : PyData → PyData → Option PyData
  | .int i, .int j => some (.int (i + j))
  | .str i, .str j => some (.str (i ++ j))
  | _, _ => none
section
variable {X : Cx} {a b : Expr} {δ : LSt} {pos : Pos} {x y z : PyData}
theorem lq_plus (ha : LQ X a δ x) (hb : LQ X b δ y) (e : addD x y = some z) (hl : ∀ s, z = .str s → s.length ≤ sizeLine) : LQ X (.BinOp a .Add b pos) δ z := by
  cases x <;> cases y <;> simp [addD] at e
  · subst e; exact lq_add ha hb
  · subst e
    refine lq_cat ha hb ?_
    have := hl _ rfl
    rwa [Str.length_append] at this
def ixD (x : PyData) (i : Int) : Option PyData := match x with
  | .tuple ds => atI ds i
  | .list ds => atI ds i
  | .str s => (atI s.cps.toList i).map fun c => .str ⟨#[c]⟩
  | _ => none
theorem lq_ix {i : Int} (ha : LQ X a δ x) (hb : LQ X b δ (.int i)) (e : ixD x i = some z) (hl : ∀ s, x = .str s → s.length ≤ sizeLine) (hp : PlainIx b := by exact fun _ _ => rfl) : LQ X (.Subscript a b pos) δ z := by
  cases x with
  | tuple ds => exact lq_ixT ha hb e hp
  | list ds => exact lq_ixL ha hb e hp
  | str s =>
    obtain ⟨c, e1, e2⟩ := Option.map_eq_some_iff.mp (show (atI s.cps.toList i).map (fun c => PyData.str ⟨#[c]⟩) = some z from e)
    subst e2
    exact lq_ixS ha hb e1 (hl _ rfl) hp
  | _ => cases e
theorem lq_mul {i j : Int} (ha : LQ X a δ (.int i)) (hb : LQ X b δ (.int j)) (hc : CMul i j) : LQ X (.BinOp a .Mult b pos) δ (.int (i * j)) := lq_i2 op_mul ha hb hc
theorem lq_mod {i j : Int} (ha : LQ X a δ (.int i)) (hb : LQ X b δ (.int j)) (hc : 0 < j) : LQ X (.BinOp a .Mod b pos) δ (.int (i % j)) := lq_i2 op_mod ha hb hc
theorem lq_fdiv {i j : Int} (ha : LQ X a δ (.int i)) (hb : LQ X b δ (.int j)) (hc : CDiv i j) : LQ X (.BinOp a .FloorDiv b pos) δ (.int (i / j)) := lq_i2 op_fdiv ha hb hc
theorem lq_xor {i j : Int} (ha : LQ X a δ (.int i)) (hb : LQ X b δ (.int j)) : LQ X (.BinOp a .BitXor b pos) δ (.int (Builtin.bitXor i j)) := lq_op (pe_op op_xor pe_tQ pe_tQ) ha hb fun F H v u _ dv du => ⟨i, j, dp_int dv, dp_int du, rfl, .int _⟩
theorem lq_pow {i j : Int} (ha : LQ X a δ (.int i)) (hb : LQ X b δ (.int j)) (hc : CPow i j) : LQ X (.BinOp a .Pow b pos) δ (.int (i ^ j.toNat)) := lq_i2 op_pow ha hb hc
end
theorem at_map {α : Type} {f : α → PyData} {xs : List α} {i : Nat} {x : α} (h : xs[i]? = some x) : atI (xs.map f) (i : Int) = some (f x) := by
  obtain ⟨h1, h2⟩ := List.getElem?_eq_some_iff.mp h
  have : ixN (xs.map f).length (i : Int) = some i := by
    unfold ixN
    rw [List.length_map]
    simp <;> omega
  exact atI_of this (by rw [List.getElem?_map, h]; rfl)
theorem at_nat {α : Type} {xs : List α} {i : Nat} {x : α} (h : xs[i]? = some x) : atI xs (i : Int) = some x := by
  obtain ⟨h1, h2⟩ := List.getElem?_eq_some_iff.mp h
  have : ixN xs.length (i : Int) = some i := by
    unfold ixN
    simp <;> omega
  exact atI_of this h
end Z
set_option maxHeartbeats 4000000
namespace Z
open PySem PySem.Spec PyProof.Rows L2
/-! ### a slot forgotten -/
theorem sto_drop {c : Ct} {F G H : Hp} {σ : L2.St} {δ : LSt} {f : Fp} (i : Nat) (S : Sto c F G H σ δ f) : ∃ f', Sto c F G H σ (δ.set i .no) f' := by
  obtain ⟨g, r, s⟩ := rpS_drop (i := i) S.rp
  exact ⟨g, S.fh, S.gh, r, fun a h => S.off a (s a h)⟩
section
variable {X : Cx} {st : List Stmt} {e : Expr} {δ : LSt} {W : LW} {P : LEnds} {Q : LV → LSt → Prop}
theorem lss_drop (i : Nat) (h : LSs X st (δ.set i .no) W P) : LSs X st δ W P := .mk fun pins s σ H F G f I S T => by
  obtain ⟨f', S'⟩ := sto_drop i S
  exact h.run pins s σ H F G f' I S' T
theorem gx_name {i : Nat} {nm : Str} {x : LV} {pos : Pos} {Q : LSt → Prop} (l : LocOk X i nm) (hnd : X.N.Nodup) (hfn : X.fn nm = true) (hfr : freeAt δ i = true) (q : Q (δ.set i (.is x))) : LG X (.Name nm pos) x δ W Q := lg_name hnd hfr q l.n l.l (.inl hfn)
/-- the state told anew -/
theorem lss_as {δ' : LSt} (e : δ = δ') (h : LSs X st δ' W P) : LSs X st δ W P := e ▸ h
end
/-! ### calls whose arguments are data -/
section
variable {X : Cx} {e : Expr} {es : List Expr} {δ : LSt} {W : LW} {Q : LV → LSt → Prop} {QA : List Arg → LSt → Prop} {pos p p2 : Pos} {nm pn : Str} {i : Nat}
def tmps (ds : List PyData) : List Arg := ds.map fun d => .tmp (.d d)
theorem la_qs : ∀ {es : List Expr} {ds : List PyData}, LQs X δ es ds → QA (tmps ds) δ → LA X es δ W QA := by
  intro es ds h
  induction h generalizing QA with
  | nil => exact fun q => la_nil q
  | cons h t hs ih => exact fun q => la_tmp (le_q h (ih q)) hs
theorem argVals_tmps (δ : LSt) : ∀ ds : List PyData, argVals δ (tmps ds) = some (ds.map LV.d)
  | [] => rfl
  | d :: ds => by
    show (argVals δ (tmps ds)).map _ = _
    rw [argVals_tmps δ ds]
    rfl
theorem back_tmps (δ : LSt) : ∀ (ds : List PyData) (ys : List (Option LV)), back δ (tmps ds) ys = δ
  | [], _ => rfl
  | _ :: ds, ys => back_tmps δ ds ys.tail
/-- f(quiet, ..) -/
theorem ex_calQ {Γ : Type} {Sc : Spec Γ} {k m : Nat} {ps : List Str} {ds : List PyData} (g : GlOk X nm) (C : Cal X.prog X.w X.K X.mg X.base k nm ps Sc) (hr : Room m X.A) (hkm : k ≤ m) (ha : LQs X δ (e :: es) ds) (γ : Γ) (pre : Sc.pre γ (ds.map LV.d))
    (post : ∀ r ys, Sc.post γ r ys → Q r δ) (exc : ∀ cls ys, Sc.exc γ cls ys → W cls δ)
    (he : starEach (e :: es) X.env = (false, eval e X.env) :: starEach es X.env := by rfl) (hpl : (backTo pos (starEach es X.env)).any (·.1) = false := by rfl) : LE X (.Call (.Name nm p) (e :: es) [] pos) δ W Q :=
  ex_cal g C hr hkm (la_qs ha ⟨γ, _, argVals_tmps δ ds, pre, fun r ys h => by rw [back_tmps]; exact post r ys h, fun cls ys h => by rw [back_tmps]; exact exc cls ys h⟩) he hpl
/-- f(x, quiet, ..), x a slot's own thing, lent -/
theorem ex_calP {Γ : Type} {Sc : Spec Γ} {k m : Nat} {ps : List Str} {ds : List PyData} {pv : LV} (g : GlOk X nm) (C : Cal X.prog X.w X.K X.mg X.base k nm ps Sc) (hr : Room m X.A) (hkm : k ≤ m) (v : VisOk X i pn) (hp : valAt δ i = some pv) (ha : LQs X δ es ds) (γ : Γ) (pre : Sc.pre γ (pv :: ds.map LV.d))
    (post : ∀ r ys, Sc.post γ r ys → ∃ y, ys.head? = some (some y) ∧ Q r (upAt δ i y)) (exc : ∀ cls ys, ¬ Sc.exc γ cls ys)
    (he : starEach (Expr.Name pn p2 :: es) X.env = (false, eval (Expr.Name pn p2) X.env) :: starEach es X.env := by rfl) (hpl : (backTo pos (starEach es X.env)).any (·.1) = false := by rfl) : LE X (.Call (.Name nm p) (.Name pn p2 :: es) [] pos) δ W Q :=
  ex_cal g C hr hkm (ax_bor v hp (la_qs ha ⟨γ, pv :: ds.map LV.d, by
    show (match valAt δ i with
      | some x => (argVals (δ.set i .no) (tmps ds)).map (x :: ·)
      | none => none) = _
    rw [hp, argVals_tmps]
    rfl, pre, fun r ys h => by
    obtain ⟨y, e1, q⟩ := post r ys h
    have : back δ (.bor i :: tmps ds) ys = upAt δ i y := by
      show (back (δ.set i .no) (tmps ds) ys.tail).set i (match δ[i]?, ys.head? with
        | some s, some (some y) => s.up y
        | _, _ => .no) = _
      rw [back_tmps, e1]
      cases h : δ[i]? with
      | none =>
        unfold valAt at hp
        rw [h] at hp
        cases hp
      | some s =>
        show (δ.set i .no).set i (s.up y) = upAt δ i y
        rw [List.set_set, upAt_eq h]
    rw [this]
    exact q, fun cls ys h => absurd h (exc cls ys)⟩) he) he hpl
end
/-! ### the pool of draws -/
inductive PoolV : LV → Prop
  | mk (cs : List Int) (a b c e : Int) : 0 ≤ a → PoolV (.l [.d (.list (cs.map .int)), .d (.int a), .d (.int b), .d (.int c), .d (.int e)])
def S_mixed : Spec (Int × Int) where
  pre γ xs := xs = [.d (.int γ.1), .d (.int γ.2)]
  post γ r ys := ∃ n : Int, r = .d (.int n)
def S_pool : Spec (List Int) where
  pre γ xs := xs = [.d (.list (γ.map .int))]
  post γ r ys := PoolV r
def S_draw : Spec (LV × Int) where
  pre γ xs := xs = [γ.1, .d (.int γ.2)] ∧ PoolV γ.1 ∧ 0 < γ.2 ∧ γ.2 < 1073741824
  post γ r ys := ∃ n pv, r = .d (.int n) ∧ 0 ≤ n ∧ n < γ.2 ∧ PoolV pv ∧ ys = [some pv, none]
section
variable {X : Cx} {e : Expr} {δ : LSt} {W : LW} {Q : LV → LSt → Prop} {pos p p2 : Pos} {pn : Str} {i : Nat}
/-- a draw below a limit -/
theorem ex_draw {m : Nat} {pv : LV} {lim : Int} {k : Nat} (g : GlOk X "_law_draw") (C : Cal X.prog X.w X.K X.mg X.base k "_law_draw" ["pool", "limit"] S_draw) (hr : Room m X.A) (hkm : k ≤ m) (v : VisOk X i pn) (hp : valAt δ i = some pv) (hpv : PoolV pv) (he : LQ X e δ (.int lim)) (h0 : 0 < lim) (h1 : lim < 1073741824)
    (q : ∀ n pv', 0 ≤ n → n < lim → PoolV pv' → Q (.d (.int n)) (upAt δ i pv'))
    (hs : starEach (e :: []) X.env = (false, eval e X.env) :: starEach [] X.env := by rfl) (he2 : starEach [Expr.Name pn p2, e] X.env = (false, eval (Expr.Name pn p2) X.env) :: starEach [e] X.env := by rfl) (hpl : (backTo pos (starEach [e] X.env)).any (·.1) = false := by rfl) : LE X (.Call (.Name "_law_draw" p) [.Name pn p2, e] [] pos) δ W Q :=
  ex_calP g C hr hkm v hp (.cons he .nil hs) (pv, lim) ⟨rfl, hpv, h0, h1⟩ (fun r ys ⟨n, pv', e1, h1, h2, h3, e2⟩ => ⟨pv', by rw [e2]; rfl, by rw [e1]; exact q n pv' h1 h2 h3⟩) (fun _ _ h => h) he2 hpl
end
end Z
set_option maxHeartbeats 4000000
namespace Z
open PySem PySem.Spec PyProof.Rows L2
/-! ### comprehensions of one name -/
def ownB (scope sc : Scope) (nm : Str) : Bool := decide (scope.names.lookup nm = some .cell) || decide ((relS scope sc).names.lookup nm = some .local)
section
variable {X : Cx} {elt iter c e : Expr} {δ : LSt} {W : LW} {Q : LV → LSt → Prop} {T : Bool → LSt → Prop} {pos p : Pos} {nm : Str} {j : Nat} {scope : Scope} {N : List Str} {vs ls : List Nat} {gs : List Str}
theorem ev_bl {s : Shared} {H : Hp} {C : Addr} {cl : List (Str × Addr)} {fp : List Addr} (eN : X.N = N) (hb : evB (relS scope X.env.scope) N vs ls gs = true) : Ev (Z.Cx.bl X scope s H C cl fp) N vs ls gs := ⟨eN, hb⟩
theorem pg_bl {s : Shared} {H : Hp} {C : Addr} {cl : List (Str × Addr)} {fp : List Addr} (hN : X.N.Nodup) (eN : X.N = N) (hb : evB (relS scope X.env.scope) N vs ls gs = true) (k : Nat) (e1 : ls[k]? = some j) (e2 : N[j]? = some nm) (ho : ownB scope X.env.scope nm = true) : PG (Z.Cx.bl X scope s H C cl fp) (.Name nm p) (gName j) := by
  have l := (ev_bl (X := X) (scope := scope) (s := s) (H := H) (C := C) (cl := cl) (fp := fp) eN hb).l k e1 e2
  refine pg_name hN l.n l.l ?_
  unfold ownB at ho
  rcases Bool.or_eq_true_iff.mp ho with h | h
  · left
    have := of_decide_eq_true h
    show (scope.names.lookup nm == some NameKind.cell) = true
    rw [this]
    rfl
  · right
    exact of_decide_eq_true h
/-- [elt for x in iter if c]: each turn leaves the state but for x -/
theorem cx_mapIf (hN : X.N.Nodup) (hc : X.calm = true) (ok : BlkOk X.N X.env.scope scope [(nm, j)]) (eN : X.N = N) (hb : evB (relS scope X.env.scope) N vs ls gs = true) (k : Nat) (e1 : ls[k]? = some j) (e2 : N[j]? = some nm) (ho : ownB scope X.env.scope nm = true) (t : PyData → Bool) (g : PyData → PyData)
    (h : LI X (.Name nm p) iter δ W fun ds δ1 => ds.length ≤ sizeLine ∧ freeAt δ1 j = true ∧ (∀ d ∈ ds, ∀ s H C cl fp, Ev (Z.Cx.bl X scope s H C cl fp) N vs ls gs → LT (Z.Cx.bl X scope s H C cl fp) c (δ1.set j (.is (.d d))) W0 fun b δ4 => b = t d ∧ δ4 = δ1.set j (.is (.d d))) ∧
      (∀ d ∈ ds, t d = true → ∀ s H C cl fp, Ev (Z.Cx.bl X scope s H C cl fp) N vs ls gs → LE (Z.Cx.bl X scope s H C cl fp) elt (δ1.set j (.is (.d d))) W0 fun y δ5 => y = .d (g d) ∧ δ5 = δ1.set j (.is (.d d))) ∧ Q (.l (((ds.filter t).map g).map LV.d)) (δ1.set j .no))
    (hs : ∀ x, foldedSetIterable iter X.env x = pure x := by intro _; rfl) : LE X (.ListComp elt [⟨.Name nm p, iter, [c], 0⟩] scope pos) δ W Q := by
  refine le_compIf (own := [(nm, j)]) hN (.n j) hc ok (by simp [patIn]) (fun s H C cl fp => pg_bl hN eN hb k e1 e2 ho) (li_imp h fun ds δ1 ⟨hl, hf, hcnd, helt, q⟩ => ?_) hs
  have fr : ∀ s, freeAt (δ1.set j s) j = freeAt (δ1.set j s) j := fun _ => rfl
  have hj : j < δ1.length := by
    unfold freeAt at hf
    cases q : δ1[j]? with
    | none => rw [q] at hf; cases hf
    | some s => exact (List.getElem?_eq_some_iff.mp q).1
  have hfno : freeAt (δ1.set j .no) j = true := by
    unfold freeAt
    rw [List.getElem?_set_self hj]
  refine ⟨fun i acc δ2 => δ2 = δ1.set j .no ∧ acc = (((ds.take i).filter t).map g).map LV.d, ⟨rfl, by simp⟩, ?_, ?_⟩
  · rintro i d acc δ2 hd ⟨rfl, rfl⟩
    have hmem : d ∈ ds := List.mem_of_getElem? hd
    have hi : i < ds.length := (List.getElem?_eq_some_iff.mp hd).1
    have ht : ds.take (i + 1) = ds.take i ++ [d] := by rw [List.take_add_one, hd]; rfl
    refine ⟨δ1.set j (.is (.d d)), ?_, ?_⟩
    · show (if freeAt (δ1.set j .no) j = true then some ((δ1.set j .no).set j (.is (.d d))) else none) = _
      rw [if_pos hfno, List.set_set]
    · intro s H C cl fp
      have h1 := hcnd d hmem s H C cl fp (ev_bl eN hb)
      refine .mk fun pins s' σ H' F G f I S Tk => thn (h1.run pins s' σ H' F G f I S Tk) fun b s2 ⟨H2, I2, δ4, a, e3, e4⟩ => ⟨H2, I2, δ4, a, ?_⟩
      subst e4
      cases b with
      | false =>
        rw [if_neg Bool.false_ne_true]
        refine ⟨by show (δ1.set j (.is (.d d))).set j .no = _; rw [List.set_set], ?_⟩
        rw [ht, List.filter_append, List.filter_cons_of_neg (by rw [← e3]; exact Bool.false_ne_true)]
        simp
      | true =>
        rw [if_pos rfl]
        intro s H C cl fp
        refine (helt d hmem e3.symm s H C cl fp (ev_bl eN hb)).imp fun y δ5 ⟨e5, e6⟩ => ⟨?_, ?_, ?_⟩
        · have h1 : ((ds.take i).filter t).length ≤ (ds.take i).length := List.length_filter_le _ _
          rw [List.length_map, List.length_map]
          rw [List.length_take] at h1
          omega
        · rw [e6]
          show (δ1.set j (.is (.d d))).set j .no = _
          rw [List.set_set]
        · rw [ht, List.filter_append, List.filter_cons_of_pos (by rw [← e3]), e5]
          simp
  · rintro acc δ2 ⟨rfl, rfl⟩
    rw [List.take_length]
    show Q _ ((δ1.set j .no).set j .no)
    rw [List.set_set]
    exact q
theorem cx_map (hN : X.N.Nodup) (hc : X.calm = true) (ok : BlkOk X.N X.env.scope scope [(nm, j)]) (eN : X.N = N) (hb : evB (relS scope X.env.scope) N vs ls gs = true) (k : Nat) (e1 : ls[k]? = some j) (e2 : N[j]? = some nm) (ho : ownB scope X.env.scope nm = true) (g : PyData → PyData)
    (h : LI X (.Name nm p) iter δ W fun ds δ1 => ds.length ≤ sizeLine ∧ freeAt δ1 j = true ∧
      (∀ d ∈ ds, ∀ s H C cl fp, Ev (Z.Cx.bl X scope s H C cl fp) N vs ls gs → LE (Z.Cx.bl X scope s H C cl fp) elt (δ1.set j (.is (.d d))) W0 fun y δ5 => y = .d (g d) ∧ δ5 = δ1.set j (.is (.d d))) ∧ Q (.l ((ds.map g).map LV.d)) (δ1.set j .no))
    (hs : ∀ x, foldedSetIterable iter X.env x = pure x := by intro _; rfl) : LE X (.ListComp elt [⟨.Name nm p, iter, [], 0⟩] scope pos) δ W Q := by
  refine le_comp (own := [(nm, j)]) hN (.n j) hc ok (by simp [patIn]) (fun s H C cl fp => pg_bl hN eN hb k e1 e2 ho) (li_imp h fun ds δ1 ⟨hl, hf, helt, q⟩ => ?_) hs
  have hj : j < δ1.length := by
    unfold freeAt at hf
    cases q : δ1[j]? with
    | none => rw [q] at hf; cases hf
    | some s => exact (List.getElem?_eq_some_iff.mp q).1
  have hfno : freeAt (δ1.set j .no) j = true := by
    unfold freeAt
    rw [List.getElem?_set_self hj]
  refine ⟨fun i acc δ2 => δ2 = δ1.set j .no ∧ acc = ((ds.take i).map g).map LV.d, ⟨rfl, by simp⟩, ?_, ?_⟩
  · rintro i d acc δ2 hd ⟨rfl, rfl⟩
    have hmem : d ∈ ds := List.mem_of_getElem? hd
    have hi : i < ds.length := (List.getElem?_eq_some_iff.mp hd).1
    have ht : ds.take (i + 1) = ds.take i ++ [d] := by rw [List.take_add_one, hd]; rfl
    refine ⟨δ1.set j (.is (.d d)), ?_, ?_⟩
    · show (if freeAt (δ1.set j .no) j = true then some ((δ1.set j .no).set j (.is (.d d))) else none) = _
      rw [if_pos hfno, List.set_set]
    · intro s H C cl fp
      refine (helt d hmem s H C cl fp (ev_bl eN hb)).imp fun y δ5 ⟨e5, e6⟩ => ⟨?_, ?_, ?_⟩
      · rw [List.length_map, List.length_map, List.length_take]
        omega
      · rw [e6]
        show (δ1.set j (.is (.d d))).set j .no = _
        rw [List.set_set]
      · rw [ht, e5]
        simp
  · rintro acc δ2 ⟨rfl, rfl⟩
    rw [List.take_length]
    show Q _ ((δ1.set j .no).set j .no)
    rw [List.set_set]
    exact q
def swB (scope sc : Scope) (y : Str) : Bool := decide (sc.kind = .function) && (decide (sc.names.lookup y = some .local) && !(scope.names.any fun (n, k) => n == y && (k == .local || k == .cell)))
/-- y = [elt for x in iter], on one line -/
theorem sx_map {P : LEnds} {i : Nat} {y : Str} {py spos : Pos} (hN : X.N.Nodup) (hc : X.calm = true) (ok : BlkOk X.N X.env.scope scope [(nm, j)]) (eN : X.N = N) (hb : evB (relS scope X.env.scope) N vs ls gs = true) (k : Nat) (e1 : ls[k]? = some j) (e2 : N[j]? = some nm) (ho : ownB scope X.env.scope nm = true) (hy : X.N[i]? = some y) (hsw : swB scope X.env.scope y = true) (g : PyData → PyData)
    (h : LI X (.Name nm p) iter δ W fun ds δ1 => ds.length ≤ sizeLine ∧ freeAt δ1 j = true ∧
      (∀ d ∈ ds, ∀ s H C cl fp, Ev (Z.Cx.bl X scope s H C cl fp) N vs ls gs → LE (Z.Cx.bl X scope s H C cl fp) elt (δ1.set j (.is (.d d))) W0 fun y δ5 => y = .d (g d) ∧ δ5 = δ1.set j (.is (.d d))) ∧ freeAt (δ1.set j .no) i = true ∧ P.nx ((δ1.set j .no).set i (.is (.l ((ds.map g).map LV.d)))))
    (hl : (py.line == pos.line) = true := by rfl) (hs : ∀ x, foldedSetIterable iter X.env x = pure x := by intro _; rfl) : LS X (.Assign [.Name y py] (.ListComp elt [⟨.Name nm p, iter, [], 0⟩] scope pos) spos) δ W P := by
  unfold swB at hsw
  simp only [Bool.and_eq_true, decide_eq_true_eq, Bool.not_eq_true'] at hsw
  obtain ⟨w1, w2, w3⟩ := hsw
  refine ls_comp (own := [(nm, j)]) hN (.n j) hc ok (by simp [patIn]) (fun s H C cl fp => pg_bl hN eN hb k e1 e2 ho) hy w2 (sw_true w1 w2 hl w3) (li_imp h fun ds δ1 ⟨hl, hf, helt, q1, q2⟩ => ?_) hs
  have hj : j < δ1.length := by
    unfold freeAt at hf
    cases q : δ1[j]? with
    | none => rw [q] at hf; cases hf
    | some s => exact (List.getElem?_eq_some_iff.mp q).1
  have hfno : freeAt (δ1.set j .no) j = true := by
    unfold freeAt
    rw [List.getElem?_set_self hj]
  refine ⟨fun i acc δ2 => δ2 = δ1.set j .no ∧ acc = ((ds.take i).map g).map LV.d, ⟨rfl, by simp⟩, ?_, ?_⟩
  · rintro i d acc δ2 hd ⟨rfl, rfl⟩
    have hmem : d ∈ ds := List.mem_of_getElem? hd
    have hi : i < ds.length := (List.getElem?_eq_some_iff.mp hd).1
    have ht : ds.take (i + 1) = ds.take i ++ [d] := by rw [List.take_add_one, hd]; rfl
    refine ⟨δ1.set j (.is (.d d)), ?_, ?_⟩
    · show (if freeAt (δ1.set j .no) j = true then some ((δ1.set j .no).set j (.is (.d d))) else none) = _
      rw [if_pos hfno, List.set_set]
    · intro s H C cl fp
      refine (helt d hmem s H C cl fp (ev_bl eN hb)).imp fun y δ5 ⟨e5, e6⟩ => ⟨?_, ?_, ?_⟩
      · rw [List.length_map, List.length_map, List.length_take]
        omega
      · rw [e6]
        show (δ1.set j (.is (.d d))).set j .no = _
        rw [List.set_set]
      · rw [ht, e5]
        simp
  · rintro acc δ2 ⟨rfl, rfl⟩
    rw [List.take_length]
    show freeAt ((δ1.set j .no).set j .no) i = true ∧ P.nx (((δ1.set j .no).set j .no).set i _)
    rw [List.set_set]
    exact ⟨q1, q2⟩
/-! ### or, and that end early -/
theorem lb_or_t {a b : Expr} {rest : List Expr} (h : LB X a δ true) : LB X (.BoolOp .Or (a :: b :: rest) pos) δ true := LBw.lb (lbw_or (q := true) h fun hb => nomatch hb)
theorem lb_and_f {a b : Expr} {rest : List Expr} (h : LB X a δ false) : LB X (.BoolOp .And (a :: b :: rest) pos) δ false := LBw.lb (lbw_and (q := true) h fun hb => nomatch hb)
theorem LBw.cast {a : Expr} {p q : Bool} (h : LBw X a δ p) (e : p = q) : LBw X a δ q := e ▸ h
end
/-! ### targets of two and three names -/
section
variable {X : Cx} {δ : LSt} {W : LW} {Q : LSt → Prop} {pos p1 p2 p3 : Pos} {n1 n2 n3 : Str} {i1 i2 i3 : Nat} {a b c : PyData} {k : Nat}
theorem names_each {es : List Expr} (h : ∀ e ∈ es, ∃ n p, e = .Name n p) : ∀ t ts', (∃ l, l ++ t :: ts' = es) → (assignEach (t :: ts') X.env).map (·.2) = assign t X.env :: (assignEach ts' X.env).map (·.2) := by
  rintro t ts' ⟨l, rfl⟩
  obtain ⟨n, p, rfl⟩ := h t (by simp)
  rfl
theorem gx_tup2 (hc : X.calm = true) (hnd : X.N.Nodup) (l1 : LocOk X i1 n1) (l2 : LocOk X i2 n2) (f1 : X.fn n1 = true) (f2 : X.fn n2 = true) (h1 : freeAt δ i1 = true) (h2 : freeAt (δ.set i1 (.is (.d a))) i2 = true) (q : Q ((δ.set i1 (.is (.d a))).set i2 (.is (.d b)))) :
    LG X (.Tuple [.Name n1 p1, .Name n2 p2] k pos) (.d (.tuple [a, b])) δ W Q :=
  lg_tup hc (gx_name l1 hnd f1 h1 (gx_name l2 hnd f2 h2 q)) rfl rfl rfl (names_each fun e he => by
    simp only [List.mem_cons, List.not_mem_nil, or_false] at he
    rcases he with rfl | rfl <;> exact ⟨_, _, rfl⟩)
theorem gx_tup3 (hc : X.calm = true) (hnd : X.N.Nodup) (l1 : LocOk X i1 n1) (l2 : LocOk X i2 n2) (l3 : LocOk X i3 n3) (f1 : X.fn n1 = true) (f2 : X.fn n2 = true) (f3 : X.fn n3 = true) (h1 : freeAt δ i1 = true) (h2 : freeAt (δ.set i1 (.is (.d a))) i2 = true) (h3 : freeAt ((δ.set i1 (.is (.d a))).set i2 (.is (.d b))) i3 = true)
    (q : Q (((δ.set i1 (.is (.d a))).set i2 (.is (.d b))).set i3 (.is (.d c)))) : LG X (.Tuple [.Name n1 p1, .Name n2 p2, .Name n3 p3] k pos) (.d (.tuple [a, b, c])) δ W Q :=
  lg_tup hc (gx_name l1 hnd f1 h1 (gx_name l2 hnd f2 h2 (gx_name l3 hnd f3 h3 q))) rfl rfl rfl (names_each fun e he => by
    simp only [List.mem_cons, List.not_mem_nil, or_false] at he
    rcases he with rfl | rfl | rfl <;> exact ⟨_, _, rfl⟩)
end
/-! ### kinds of data -/
theorem isTy_tuple (v : PyData) : isTy "tuple" v = (match v with | .tuple _ => true | _ => false) := by cases v <;> (simp only [isTy, typeD]; decide +kernel)
theorem isTy_str (v : PyData) : isTy "str" v = (match v with | .str _ => true | _ => false) := by cases v <;> (simp only [isTy, typeD]; decide +kernel)
theorem isTy_bool (v : PyData) : isTy "bool" v = (match v with | .bool _ => true | _ => false) := by cases v <;> (simp only [isTy, typeD]; decide +kernel)
theorem isTy_int (v : PyData) : isTy "int" v = (match v with | .int _ => true | .bool _ => true | _ => false) := by cases v <;> (simp only [isTy, typeD]; decide +kernel)
end Z
set_option maxHeartbeats 4000000
namespace Z
open PySem PySem.Spec PyProof.Rows L2
/-! ### a thing moved out of its slot -/
section
variable {X : Cx} {δ : LSt} {W : LW} {Q : LV → LSt → Prop} {pos : Pos} {nm : Str} {i : Nat}
theorem le_move {x : LV} (v : VisOk X i nm) (h : valAt δ i = some x) (q : Q x (δ.set i .no)) : LE X (.Name nm pos) δ W Q :=
  le_of (pe_var v.n v.v v.d v.c) fun F G σ H f S T => by
    obtain ⟨s, e1, e2⟩ := sto_get S h
    obtain ⟨w, g, r, e3, e4, e5, dj, k, _⟩ := rpS_get S.rp e1 e2
    exact ⟨w, e3, x, _, ⟨F, r, g, .refl, ⟨S.fh, S.gh, e5, S.off.sub fun a h => (k a).mpr (.inr h)⟩, e4, dj, S.off.sub fun a h => (k a).mpr (.inl h)⟩, q⟩
end
/-! ### dicts of ints to data -/
def getM (ds : List (Int × PyData)) (k : Int) : Option PyData := (ds.find? fun q => decide (q.1 = k)).map (·.2)
def putM (ds : List (Int × PyData)) (k : Int) (d : PyData) : List (Int × PyData) := if (ds.any fun q => decide (q.1 = k)) = true then ds.map (fun q => if q.1 = k then (q.1, d) else q) else ds ++ [(k, d)]
theorem getM_nil {k : Int} : getM [] k = none := rfl
theorem getM_cons (q : Int × PyData) (ds : List (Int × PyData)) (k : Int) : getM (q :: ds) k = if q.1 = k then some q.2 else getM ds k := by
  unfold getM
  by_cases h : q.1 = k
  · rw [if_pos h, List.find?_cons_of_pos (by simpa using h)]
    rfl
  · rw [if_neg h, List.find?_cons_of_neg (by simpa using h)]
theorem getM_append (ds es : List (Int × PyData)) (k : Int) : getM (ds ++ es) k = (getM ds k).or (getM es k) := by
  induction ds with
  | nil => rfl
  | cons q ds ih =>
    rw [List.cons_append, getM_cons, getM_cons, ih]
    split <;> rfl
theorem any_getM (ds : List (Int × PyData)) (k : Int) : (ds.any fun q => decide (q.1 = k)) = (getM ds k).isSome := by
  induction ds with
  | nil => rfl
  | cons q ds ih =>
    rw [getM_cons, List.any_cons, ih]
    by_cases h : q.1 = k
    · simp [h]
    · simp [h]
theorem getM_map (ds : List (Int × PyData)) (k j : Int) (d : PyData) : getM (ds.map fun q => if q.1 = k then (q.1, d) else q) j = (getM ds j).map fun x => if j = k then d else x := by
  induction ds with
  | nil => rfl
  | cons q ds ih =>
    rw [List.map_cons, getM_cons, getM_cons, ih]
    by_cases h : q.1 = k
    · rw [if_pos h]
      by_cases h2 : q.1 = j
      · rw [if_pos h2, if_pos h2]
        have : j = k := h2.symm.trans h
        simp [this]
      · rw [if_neg h2, if_neg h2]
    · rw [if_neg h]
      by_cases h2 : q.1 = j
      · rw [if_pos h2, if_pos h2]
        have : j ≠ k := fun e => h (h2.trans e)
        simp [this]
      · rw [if_neg h2, if_neg h2]
theorem getM_put (ds : List (Int × PyData)) (k j : Int) (d : PyData) : getM (putM ds k d) j = if j = k then some d else getM ds j := by
  unfold putM
  rw [any_getM]
  by_cases h : (getM ds k).isSome = true
  · rw [if_pos h, getM_map]
    by_cases e : j = k
    · subst e
      rw [if_pos rfl]
      obtain ⟨x, hx⟩ := Option.isSome_iff_exists.mp h
      rw [hx]
      simp
    · rw [if_neg e]
      cases getM ds j <;> simp [e]
  · rw [if_neg h, getM_append, getM_cons, getM_nil]
    have hn : getM ds k = none := by
      cases q : getM ds k with
      | none => rfl
      | some x => rw [q] at h; exact absurd rfl h
    by_cases e : j = k
    · subst e
      rw [hn]
      simp
    · rw [if_neg e, if_neg (fun z => e z.symm)]
      cases getM ds j <;> rfl
theorem putM_len (ds : List (Int × PyData)) (k : Int) (d : PyData) : (putM ds k d).length = if (getM ds k).isSome = true then ds.length else ds.length + 1 := by
  unfold putM
  rw [any_getM]
  split
  · rw [List.length_map]
  · rw [List.length_append]
    rfl
theorem putM_keys (ds : List (Int × PyData)) (k : Int) (d : PyData) : (putM ds k d).map (·.1) = if (getM ds k).isSome = true then ds.map (·.1) else ds.map (·.1) ++ [k] := by
  unfold putM
  rw [any_getM]
  split
  · rw [List.map_map]
    apply List.map_congr_left
    intro q hq
    simp only [Function.comp]
    split <;> rfl
  · rw [List.map_append]
    rfl
section
variable {K : PySem.W.Frag} {F : Hp}
theorem dpP_val {kvs : List (Key × V)} {ds : List (Int × PyData)} (h : DpP K F kvs ds) (k : Int) : (getM ds k = none ∧ valV kvs (.inl k) = none) ∨ ∃ d v, getM ds k = some d ∧ valV kvs (.inl k) = some v ∧ Dp K F v d := by
  induction h with
  | nil => exact .inl ⟨rfl, rfl⟩
  | @cons k0 v0 d0 kvs ds hd _ ih =>
    rw [getM_cons]
    by_cases e : k0 = k
    · rw [if_pos e]
      exact .inr ⟨d0, v0, rfl, valV_pos (by rw [e]), hd⟩
    · rw [if_neg e, valV_neg (p := ((.inl k0 : Key), v0)) (fun z => e (Sum.inl.inj z))]
      exact ih
theorem dpP_any {kvs : List (Key × V)} {ds : List (Int × PyData)} (h : DpP K F kvs ds) (k : Int) : (kvs.any fun q => decide (q.1 = (.inl k : Key))) = ds.any fun q => decide (q.1 = k) := by
  rw [valV_any, any_getM]
  rcases dpP_val h k with ⟨h1, h2⟩ | ⟨d, v, h1, h2, _⟩ <;> rw [h1, h2] <;> rfl
theorem dpP_append {kvs kvs' : List (Key × V)} {ds ds' : List (Int × PyData)} (h : DpP K F kvs ds) (h' : DpP K F kvs' ds') : DpP K F (kvs ++ kvs') (ds ++ ds') := by
  induction h with
  | nil => exact h'
  | cons hd _ ih => exact .cons hd ih
theorem dpP_repl {k : Int} {v : V} {d : PyData} (hd : Dp K F v d) {kvs : List (Key × V)} {ds : List (Int × PyData)} (h : DpP K F kvs ds) : DpP K F (kvs.map fun kv => if kv.1 = (.inl k : Key) then (kv.1, v) else kv) (ds.map fun q => if q.1 = k then (q.1, d) else q) := by
  induction h with
  | nil => exact .nil
  | @cons k0 v0 d0 kvs ds h0 _ ih =>
    rw [List.map_cons, List.map_cons]
    by_cases e : k0 = k
    · have e1 : (if ((.inl k0 : Key), v0).1 = (.inl k : Key) then (((.inl k0 : Key), v0).1, v) else ((.inl k0 : Key), v0)) = (.inl k0, v) := if_pos (by rw [e])
      have e2 : (if (k0, d0).1 = k then ((k0, d0).1, d) else (k0, d0)) = (k0, d) := if_pos e
      rw [e1, e2]
      exact .cons hd ih
    · have e1 : (if ((.inl k0 : Key), v0).1 = (.inl k : Key) then (((.inl k0 : Key), v0).1, v) else ((.inl k0 : Key), v0)) = (.inl k0, v0) := if_neg fun z => e (Sum.inl.inj z)
      have e2 : (if (k0, d0).1 = k then ((k0, d0).1, d) else (k0, d0)) = (k0, d0) := if_neg e
      rw [e1, e2]
      exact .cons h0 ih
theorem dpP_put {kvs : List (Key × V)} {ds : List (Int × PyData)} (h : DpP K F kvs ds) {k : Int} {v : V} {d : PyData} (hd : Dp K F v d) : DpP K F (putK kvs (.inl k) v) (putM ds k d) := by
  unfold putK putM
  rw [dpP_any h]
  split
  · exact dpP_repl hd h
  · exact dpP_append h (.cons hd .nil)
theorem dpP_len {kvs : List (Key × V)} {ds : List (Int × PyData)} (h : DpP K F kvs ds) : kvs.length = ds.length := by
  induction h with
  | nil => rfl
  | cons _ _ ih => exact congrArg Nat.succ ih
end
theorem sto_slotM {c : Ct} {F G H : Hp} {σ : L2.St} {δ : LSt} {f : Fp} {i : Nat} {ds : List (Int × PyData)} (S : Sto c F G H σ δ f) (h : valAt δ i = some (.m ds)) : ∃ a kvs, σ[i]? = some (some (.ref a)) ∧ H a = some (.dK kvs) ∧ DpP c.K F kvs ds := by
  obtain ⟨v, g, e1, rp, s⟩ := sto_slot S h
  cases rp with
  | m h1 h2 => exact ⟨_, _, e1, h1, h2⟩
section
variable {X : Cx} {e b k : Expr} {δ : LSt} {W : LW} {Q : LV → LSt → Prop} {P : LEnds} {pos p p2 : Pos} {nm : Str} {i : Nat} {ds : List (Int × PyData)} {j : Int} {z : PyData}
theorem le_dnew (q : Q (.m []) δ) : LE X (.Dict [] [] pos) δ W Q :=
  le_of pe_dnewK fun F G σ H f S T a ha => ⟨.m [], δ, S.new ⟨F, _, Same.refl F, fun _ _ h => .inl h, same_upd2 S.fh (fresh_of S.fh ha), same_new ha, .m upd_same .nil, fun b hb => hb ▸ ⟨ha, fresh_of S.fh ha⟩⟩, q⟩
/-- d[k] -/
theorem lx_dget (hu : X.A.units + 64 < cLine) (v : VisOk X i nm) (h0 : valAt δ i = some (.m ds)) (hk : LQ X k δ (.int j)) (hz : getM ds j = some z) (hs : NoSl k := by intro _ _; rfl) : LQ X (.Subscript (.Name nm p) k pos) δ z :=
  lq_of (pe_dget (by omega) (pe_var v.n v.v v.d v.c) pe_tQ hs) fun F G σ H f S => by
    obtain ⟨a, kvs, e1, hl, hd⟩ := sto_slotM S h0
    refine ⟨_, e1, F, G, δ, f, _, S, hk, fun u du => ?_⟩
    rcases dpP_val hd j with ⟨h1, _⟩ | ⟨d, w, h1, h2, h3⟩
    · rw [h1] at hz; cases hz
    · rw [h1] at hz
      cases hz
      exact ⟨a, w, rfl, .inl ⟨kvs, .inl j, .inl hl, dp_int du, h2.symm ▸ rfl⟩, rfl, h3⟩
/-- d[k] = e -/
theorem sx_dput {p' : Pos} (hu : X.A.units + 64 < cLine) (v : VisOk X i nm) (h : LE X e δ W fun x δ1 => ∃ d j ds, Fz x d ∧ valAt δ1 i = some (.m ds) ∧ ds.length < sizeLine ∧ LQ X k δ1 (.int j) ∧ P.nx (upAt δ1 i (.m (putM ds j d))))
    (hs : swapsWith e (some (.Subscript (.Name nm p) k p')) pos.line X.env = pure false := by rfl) : LS X (.Assign [.Subscript (.Name nm p) k p'] e pos) δ W P :=
  ls_of (ps_dput (by omega) (pe_var v.n v.v v.d v.c) pe_tQ pe_tE hs) fun F G σ H f S T => by
    refine ⟨F, G, δ, f, W, _, S, T, h, fun u H1 x δ1 res ⟨d, j, ds, zz, hx, hl, hk, q⟩ => ?_⟩
    obtain ⟨F1, f1, g1, fx1, S1, r1, d1, o1⟩ := res.frz zz
    cases r1 with
    | d hd =>
    obtain ⟨w, gw, r, e1, rp, dj, iff, kk⟩ := sto_mod S1 hx
    cases rp with
    | @m a kvs _ hH hP =>
    refine ⟨_, e1, F1, G, δ1, f1, _, S1, hk, fun y dy => ?_⟩
    have og : Off _ F1 G := S1.off.sub fun b h => (iff b).mpr (.inl h)
    have nF : F1 a = none := (og a rfl).1
    have nG : G a = none := (og a rfl).2
    obtain ⟨F2, f2, fx2, S2⟩ := kk F1 (upd H1 a (.dK (putK kvs (.inl j) u))) (.m (putM ds j d)) _ .refl (same_upd2 S1.fh nF) (same_upd2 S1.gh nG) (fun b h => ⟨upd_ne fun e => dj b e h, (S1.off b ((iff b).mpr (.inr h))).1⟩) (.m upd_same (dpP_put hP hd)) (fun b q1 q2 => dj b q1 q2) (fun b q1 => og b q1)
    exact ⟨a, _, rfl, dp_int dy ▸ .inl ⟨kvs, .inl j, hH, rfl, by rw [dpP_len hP]; exact hl, rfl⟩, _, ⟨F2, f2, fx1.trans fx2, S2⟩, q⟩
/-- k in d, k not in d -/
theorem lb_din (hu : X.A.units + 64 < cLine) (v : VisOk X i nm) (h0 : valAt δ i = some (.m ds)) (hk : LQ X k δ (.int j)) (hm : behindInMarks .In (Expr.Name nm p) = false := by rfl) : LB X (.Compare k [.In] [.Name nm p] pos) δ (getM ds j).isSome := fun W T t =>
  lt_of (pt_cmp (pc_din (by omega) pe_tQ (pe_var v.n v.v v.d v.c)) hm) fun F G σ H f S _ => ⟨F, G, δ, f, _, S, hk, fun u du => by
    obtain ⟨a, kvs, e1, hl, hd⟩ := sto_slotM S h0
    refine ⟨_, e1, a, _, rfl, .inl ⟨kvs, .inl j, .inl hl, dp_int du, rfl⟩, (getM ds j).isSome, ?_, δ, S.aft, t⟩
    rcases dpP_val hd j with ⟨h1, h2⟩ | ⟨d, w, h1, h2, _⟩ <;> rw [h1, h2] <;> rfl⟩
theorem lb_dnotin (hu : X.A.units + 64 < cLine) (v : VisOk X i nm) (h0 : valAt δ i = some (.m ds)) (hk : LQ X k δ (.int j)) (hm : behindInMarks .NotIn (Expr.Name nm p) = false := by rfl) : LB X (.Compare k [.NotIn] [.Name nm p] pos) δ (!(getM ds j).isSome) := fun W T t =>
  lt_of (pt_cmp (pc_dnotin (by omega) pe_tQ (pe_var v.n v.v v.d v.c)) hm) fun F G σ H f S _ => ⟨F, G, δ, f, _, S, hk, fun u du => by
    obtain ⟨a, kvs, e1, hl, hd⟩ := sto_slotM S h0
    refine ⟨_, e1, a, _, rfl, .inl ⟨kvs, .inl j, .inl hl, dp_int du, rfl⟩, !(getM ds j).isSome, ?_, δ, S.aft, t⟩
    rcases dpP_val hd j with ⟨h1, h2⟩ | ⟨d, w, h1, h2, _⟩ <;> rw [h1, h2] <;> rfl⟩
theorem lq_din (hu : X.A.units + 64 < cLine) (v : VisOk X i nm) (h0 : valAt δ i = some (.m ds)) (hk : LQ X k δ (.int j)) (hm : behindInMarks .In (Expr.Name nm p) = false := by rfl) : LQ X (.Compare k [.In] [.Name nm p] pos) δ (.bool (getM ds j).isSome) :=
  lq_of (pe_cmp (pc_din (by omega) pe_tQ (pe_var v.n v.v v.d v.c)) hm) fun F G σ H f S => ⟨F, G, δ, f, _, S, hk, fun u du => by
    obtain ⟨a, kvs, e1, hl, hd⟩ := sto_slotM S h0
    refine ⟨_, e1, a, _, rfl, .inl ⟨kvs, .inl j, .inl hl, dp_int du, rfl⟩, rfl, ?_⟩
    rcases dpP_val hd j with ⟨h1, h2⟩ | ⟨d, w, h1, h2, _⟩ <;> rw [h1, h2] <;> exact .bl _⟩
/-- len(d) -/
theorem lx_dlen (v : VisOk X i nm) (g : GlOk X "len") (hm : X.mg "len" = none) (h0 : valAt δ i = some (.m ds)) (hs : starEach (Expr.Name nm p :: []) X.env = (false, eval (Expr.Name nm p) X.env) :: starEach [] X.env := by rfl) (hpl : (backTo pos (starEach ([] : List Expr) X.env)).any (·.1) = false := by rfl) : LQ X (.Call (.Name "len" p2) [.Name nm p] [] pos) δ (.int ds.length) :=
  lq_of (pe_callB call_lenD g.g hm PySem.boot_len (pa_cons (pe_var v.n v.v v.d v.c) pa_nil hs) (he := hs) (hpl := hpl)) fun F G σ H f S => by
    obtain ⟨a, kvs, e1, hl, hd⟩ := sto_slotM S h0
    exact ⟨_, e1, a, kvs, rfl, hl, rfl, by rw [dpP_len hd]; exact .int _⟩
end
end Z
set_option maxHeartbeats 4000000
namespace Z
open PySem PySem.Spec PyProof.Rows L2
/-! ### dicts whose keys are nested tuples, values ints -/
section
variable {X : Cx} {pins : List (Addr × Obj)} {σ : L2.St} {H : Hp} {s : Shared}
mutual
theorem nk_is (I : Inv X pins σ H s) : ∀ (k : NestedKey) {v : V} {u : Value}, Dp X.K H v (nkD k) → RelV v u → NestedIs s.heap k u
  | .none, v, u, d, r => by
    have e := dp_none (show Dp X.K H v .none from d)
    subst e
    cases r
    exact .none
  | .num i, v, u, d, r => by
    have e := dp_int (show Dp X.K H v (.int i) from d)
    subst e
    obtain ⟨t, e⟩ := r
    subst e
    exact .int i t
  | .text x, v, u, d, r => by
    have e := dp_str (show Dp X.K H v (.str x) from d)
    subst e
    obtain ⟨t, e⟩ := r
    subst e
    exact .text x t
  | .tup ks, v, u, d, r => by
    obtain ⟨a, xs, e, hs, dd⟩ := dp_tup (show Dp X.K H v (.tuple (nkDs ks)) from d)
    subst e
    cases r
    obtain ⟨its, rv, ⟨o, h1, h2, n, h3⟩, _⟩ := I.tuple hs
    exact .tup h1 h2 h3 (by rw [List.toList_toArray]; exact nks_is I ks dd rv)
theorem nks_is (I : Inv X pins σ H s) : ∀ (ks : List NestedKey) {vs : List V} {us : List Value}, DpAll X.K H vs (nkDs ks) → Vals vs us → NestedAll s.heap ks us
  | [], vs, us, d, r => by
    cases (show DpAll X.K H vs [] from d)
    cases r
    exact .nil
  | k :: ks, vs, us, d, r => by
    cases (show DpAll X.K H vs (nkD k :: nkDs ks) from d) with
    | cons d1 d2 =>
      cases r with
      | cons r1 r2 => exact .cons (nk_is I k d1 r1) (nks_is I ks d2 r2)
end
abbrev NPair : NestedKey × Addr × Int → NestedKey × Addr × Value → Prop := fun x y => y.1 = x.1 ∧ y.2.1 = x.2.1 ∧ ∃ t, y.2.2 = .int x.2.2 t
theorem paired_mem {α β : Type} {R : α → β → Prop} {l : List α} {m : List β} (h : Paired R l m) : ∀ y ∈ m, ∃ x ∈ l, R x y := by
  induction h with
  | nil => intro y hy; cases hy
  | cons r _ ih =>
    intro y hy
    rcases List.mem_cons.mp hy with rfl | hy
    · exact ⟨_, List.mem_cons_self .., r⟩
    · obtain ⟨x, hx, hr⟩ := ih y hy
      exact ⟨x, List.mem_cons_of_mem _ hx, hr⟩
theorem npair_keys {l : List (NestedKey × Addr × Int)} {m : List (NestedKey × Addr × Value)} (h : Paired NPair l m) : m.map (·.1) = l.map (·.1) := by
  induction h with
  | nil => rfl
  | cons r _ ih => rw [List.map_cons, List.map_cons, ih, r.1]
theorem npair_len {l : List (NestedKey × Addr × Int)} {m : List (NestedKey × Addr × Value)} (h : Paired NPair l m) : l.length = m.length := by
  induction h with
  | nil => rfl
  | cons _ _ ih => exact congrArg Nat.succ ih
theorem nd_of {a : Addr} {xs : List (NestedKey × Addr × Int)} (I : Inv X pins σ H s) (e : H a = some (NDict X.prog X.w a xs)) (hk : ∀ x ∈ xs, Dp X.K H (.ref x.2.1) (nkD x.1)) :
    (a == sysModules) = false ∧ (∀ x ∈ xs, x.1.depth ≤ 8) ∧ ∃ vs, s.heap.DictOfH (nestedKind X.prog X.w) a vs ∧ Paired NPair xs vs := by
  obtain ⟨⟨h1, hd, o, es, ep, vs, g1, g2, g3, g4, g5, g6⟩, _, _⟩ := I.hok a _ e
  refine ⟨h1, hd, vs, ⟨o, es, ep, g1, g2, g3, g4, fun y hy => ?_, by rw [npair_keys g6]; exact g5⟩, g6⟩
  obtain ⟨x, hx, e1, e2, _⟩ := paired_mem g6 y hy
  rw [e1, e2]
  exact ⟨nk_is I x.1 (hk x hx) rfl, hd x hx⟩
end
/-- {} -/
def tDNewN (X : Cx) : TE := fun _ H Q => ∀ p, H p = none → Q (.ref p) (upd H p (NDict X.prog X.w p []))
section
variable {X : Cx} {pos : Pos}
theorem nd_ok {H : Hp} {h : Heap} {a : Addr} {xs : List (NestedKey × Addr × Int)} {o : Obj} {es : Array DictEntry} {ep : Nat} {vs : List (NestedKey × Addr × Value)} (h0 : (a == sysModules) = false) (hd : ∀ x ∈ xs, x.1.depth ≤ 8) (g1 : h.get? a = some o) (g2 : o.ExactDict) (g3 : o.data = .dict es ep) (g4 : es.toList = vs.map (entryOfKey (nestedKind X.prog X.w))) (g5 : (xs.map (·.1)).Nodup) (g6 : Paired NPair xs vs) :
    ObjOk X.prog X.w H h a (NDict X.prog X.w a xs) := by
  refine ⟨⟨h0, hd, o, es, ep, vs, g1, g2, g3, g4, g5, g6⟩, ⟨o, g1⟩, fun h1 h2 p k => ?_⟩
  obtain ⟨g0, gd, o, es, ep, vs, g1, g⟩ := p
  exact ⟨g0, gd, o, es, ep, vs, k o g1, g⟩
theorem pe_dnewN : PE X (.Dict [] [] pos) (tDNewN X) := ⟨fun pins s σ H Q I h =>
  wpAny_Dict_empty ⟨.ref s.heap.objs.size, _, I.laid (a := s.heap.objs.size) (o := NDict X.prog X.w s.heap.objs.size []) (t' := s.toks) (fun _ _ q => Heap.get?_push_of_some _ q) (Nat.le_refl _)
    (nd_ok (beq_eq_false_iff_ne.mpr (Ne.symm (Nat.ne_of_lt I.big))) (fun x hx => by cases hx) (es := #[]) (ep := 0) (vs := []) (Heap.get?_push_size _ rfl) ⟨rfl, rfl, rfl⟩ rfl rfl List.nodup_nil .nil), rfl, h _ (I.hok.fresh (Nat.le_refl _))⟩⟩
end
/-! ### d.setdefault(key, number), len(d) -/
def tSetDef (X : Cx) (td ty tx : TE) : TE := fun σ H Q => td σ H fun x H1 => ∃ a xs, x = .ref a ∧ H1 a = some (NDict X.prog X.w a xs) ∧ (∀ x ∈ xs, Dp X.K H1 (.ref x.2.1) (nkD x.1)) ∧ ty σ H1 fun y H2 => tx σ H2 fun z H3 => ∃ (xs3 : List (NestedKey × Addr × Int)) (kk : NestedKey) (b : Addr) (j : Int), H3 a = some (NDict X.prog X.w a xs3) ∧ (∀ x ∈ xs3, Dp X.K H3 (.ref x.2.1) (nkD x.1)) ∧ y = .ref b ∧ Dp X.K H3 (.ref b) (nkD kk) ∧ kk.depth ≤ 8 ∧ z = .int j ∧ xs3.length < sizeLine ∧
  (∀ r : Int, Q (.int r) H3) ∧ Q (.int j) (upd H3 a (NDict X.prog X.w a (xs3 ++ [(kk, b, j)])))
theorem pe_setdef {X : Cx} {o e f : Expr} {apos cpos : Pos} {td ty tx : TE} (hu : X.A.units + 64 < cLine) (ho : PE X o td) (he : PE X e ty) (hf : PE X f tx) (m : M2 X o "setdefault" apos e f cpos) : PE X (.Call (.Attribute o "setdefault" apos) [e, f] [] cpos) (tSetDef X td ty tx) := by
  refine ⟨fun pins s σ H Q I h => ?_⟩
  refine wpAny_Call_method m.base m.few m.line PySem.F.plainAttrs_dict PySem.F.slot_dict_setdefault PySem.F.type_dict_setdefault (thn (ho.run pins s σ H _ I h) fun u s1 ⟨x, H1, I1, rx, a, xs, ex, ha, hk, q1⟩ => ?_)
  subst ex
  obtain rfl : u = Value.ref a := rx
  obtain ⟨_, _, vs, hm, _⟩ := nd_of I1 ha hk
  refine ⟨hm.typeIs, fun b q => ?_, ?_⟩
  · cases q
    obtain ⟨ob, _, _, h1, h2, _⟩ := hm
    exact ⟨ob, h1, h2.2.1⟩
  rw [m.trees]
  refine Calls.callWith_builtin rfl (Calls.evalArgs_plain (Calls.spliced_cons (thn (he.run pins s1 σ H1 _ I1 q1) fun iv s2 ⟨y, H2, I2, ry, q2⟩ =>
    Calls.spliced_cons (thn (hf.run pins s2 σ H2 _ I2 q2) fun fv s3 ⟨z, H3, I3, rz, xs3, kk, b, j, ha3, hk3, ey, dk, dp8, ez, hl, qF, qN⟩ => Calls.spliced_nil ?_))))
  subst ey ez
  obtain rfl : iv = Value.ref b := ry
  obtain ⟨t, rfl⟩ := rz
  obtain ⟨h0, hd8, vs3, hm3, hp3⟩ := nd_of I3 ha3 hk3
  refine call_setdefault_heap (knd := nestedKind X.prog X.w) (by show X.A.in1.units + 8 < cLine; have : X.A.in1.units = X.A.units + 1 := rfl; omega) ⟨nk_is I3 kk dk rfl, dp8⟩ h0 hm3 (fun p hp => ?_) (fun hn h' hm' hs => ?_) (by rw [← npair_len hp3]; exact Nat.le_of_lt hl)
  · obtain ⟨y, hy, e⟩ := Option.map_eq_some_iff.mp hp
    obtain ⟨x, hx, _, _, t', e3⟩ := paired_mem hp3 y (List.mem_of_find?_eq_some hy)
    subst e
    rw [e3]
    exact ⟨.int x.2.2, H3, I3.tok _, ⟨t', rfl⟩, qF _⟩
  · rw [storedH_new hn] at hm'
    obtain ⟨o', es, ep, g1, g2, g3, g4, g5, g6⟩ := hm'
    have hp' : Paired NPair (xs3 ++ [(kk, b, j)]) (vs3 ++ [(kk, b, Value.int j t)]) := Paired.snoc hp3 ⟨rfl, rfl, t, rfl⟩
    refine ⟨.int j, _, d_write I3 (by rw [ha3]; exact True.intro) hs ⟨o', g1⟩ (nd_ok h0 (fun x hx => ?_) g1 g2 g3 g4 (by rw [← npair_keys hp']; exact g6) hp'), ⟨t, rfl⟩, qN⟩
    rcases List.mem_append.mp hx with hx | hx
    · exact hd8 x hx
    · rw [List.mem_singleton] at hx
      rw [hx]
      exact dp8
theorem call_lenN {X : Cx} : CallR X (.builtin "len") (fun xs H Q => ∃ (a : Addr) (ys : List (NestedKey × Addr × Int)), xs = [V.ref a] ∧ H a = some (NDict X.prog X.w a ys) ∧ (∀ x ∈ ys, Dp X.K H (.ref x.2.1) (nkD x.1)) ∧ ys.length ≤ sizeLine ∧ Q (.int ys.length) H) := by
  intro pins s σ H xs us Q I r h
  obtain ⟨a, ys, rfl, ha, hk, hz, q⟩ := h
  obtain ⟨u, rfl, ru⟩ := vals1 r
  obtain rfl : u = .ref a := ru
  obtain ⟨h0, _, vs, hm, hp⟩ := nd_of I ha hk
  refine call_len_dictH h0 hm (by rw [← npair_len hp]; rw [sizeLine_eq] at hz; omega) ?_
  rw [← npair_len hp]
  exact ⟨.int ((ys.length : Nat) : Int), H, I.tok _, ⟨_, rfl⟩, q⟩
theorem sto_slotN {c : Ct} {F G H : Hp} {σ : L2.St} {δ : LSt} {f : Fp} {i : Nat} {ds : List (NestedKey × Int)} (S : Sto c F G H σ δ f) (h : valAt δ i = some (.n ds)) : ∃ a xs, σ[i]? = some (some (.ref a)) ∧ H a = some (NDict c.P c.w a xs) ∧ (∀ x ∈ xs, Dp c.K F (.ref x.2.1) (nkD x.1)) ∧ ds.length = xs.length := by
  obtain ⟨v, g, e1, rp, s⟩ := sto_slot S h
  cases rp with
  | n h1 h2 h3 => exact ⟨_, _, e1, h1, h2, by rw [h3, List.length_map]⟩
section
variable {X : Cx} {e f : Expr} {δ : LSt} {W : LW} {Q : LV → LSt → Prop} {pos p p2 apos : Pos} {nm : Str} {i : Nat} {ds : List (NestedKey × Int)}
theorem le_dnewN (q : Q (.n []) δ) : LE X (.Dict [] [] pos) δ W Q :=
  le_of pe_dnewN fun F G σ H f S T a ha => ⟨.n [], δ, S.new ⟨F, _, Same.refl F, fun _ _ h => .inl h, same_upd2 S.fh (fresh_of S.fh ha), same_new ha, .n (xs := []) upd_same (fun x hx => by cases hx) rfl, fun b hb => hb ▸ ⟨ha, fresh_of S.fh ha⟩⟩, q⟩
theorem lx_nlen (v : VisOk X i nm) (g : GlOk X "len") (hm : X.mg "len" = none) (h0 : valAt δ i = some (.n ds)) (hz : ds.length ≤ sizeLine) (hs : starEach (Expr.Name nm p :: []) X.env = (false, eval (Expr.Name nm p) X.env) :: starEach [] X.env := by rfl) (hpl : (backTo pos (starEach ([] : List Expr) X.env)).any (·.1) = false := by rfl) : LQ X (.Call (.Name "len" p2) [.Name nm p] [] pos) δ (.int ds.length) :=
  lq_of (pe_callB call_lenN g.g hm PySem.boot_len (pa_cons (pe_var v.n v.v v.d v.c) pa_nil hs) (he := hs) (hpl := hpl)) fun F G σ H f S => by
    obtain ⟨a, xs, e1, hl, hk, hn⟩ := sto_slotN S h0
    exact ⟨_, e1, a, xs, rfl, hl, fun x hx => dp_mono S.fh (hk x hx), by rw [← hn]; exact hz, rfl, by rw [hn]; exact .int _⟩
/-- d.setdefault(key, j): some int -/
theorem ex_setdef (hu : X.A.units + 64 < cLine) (v : VisOk X i nm) (h0 : valAt δ i = some (.n ds)) (h : LE X e δ W fun x δ1 => ∃ (ks : List NestedKey) (j : Int) (ds : List (NestedKey × Int)), x = .d (nkD (.tup ks)) ∧ (NestedKey.tup ks).depth ≤ 8 ∧ LQ X f δ1 (.int j) ∧ valAt δ1 i = some (.n ds) ∧ ds.length < sizeLine ∧ ∀ (r : Int) ds', ds'.length ≤ ds.length + 1 → Q (.d (.int r)) (upAt δ1 i (.n ds')))
    (m : M2 X (.Name nm p) "setdefault" apos e f pos := by exact ⟨rfl, rfl, rfl, rfl⟩) : LE X (.Call (.Attribute (.Name nm p) "setdefault" apos) [e, f] [] pos) δ W Q :=
  le_of (pe_setdef hu (pe_var v.n v.v v.d v.c) pe_tE pe_tQ m) fun F G σ H fp S T => by
    obtain ⟨a0, xs0, e10, hl0, hk0, _⟩ := sto_slotN S h0
    refine ⟨_, e10, a0, xs0, rfl, hl0, fun x hx => dp_mono S.fh (hk0 x hx), F, G, δ, fp, W, _, S, T, h, fun u H1 x δ1 res ⟨ks, j, ds, ex, hd8, hf, hx, hlen, q⟩ => ?_⟩
    subst ex
    obtain ⟨F1, f1, g1, fx1, S1, r1, d1, o1⟩ := res
    cases r1 with
    | d hd =>
    refine ⟨F1, G, δ1, f1, _, S1, hf, fun w dw => ?_⟩
    obtain ⟨b, _, eb, _⟩ := dp_tup (show Dp X.K F1 u (.tuple (nkDs ks)) from hd)
    subst eb
    obtain ⟨v2, gw, r, e1, rp, dj, iff, kk⟩ := sto_mod S1 hx
    rw [e10] at e1
    cases e1
    cases rp with
    | @n a xs ds0 hH hK eds =>
    have og : Off _ F1 G := S1.off.sub fun b h => (iff b).mpr (.inl h)
    have nF : F1 a0 = none := (og a0 rfl).1
    have nG : G a0 = none := (og a0 rfl).2
    have hlen2 : xs.length < sizeLine := by rw [eds, List.length_map] at hlen; exact hlen
    refine ⟨xs, .tup ks, b, j, hH, fun x hx => dp_mono S1.fh (hK x hx), rfl, dp_mono S1.fh hd, hd8, dp_int dw, hlen2, fun r => ?_, ?_⟩
    · obtain ⟨F2, f2, fx2, S2⟩ := kk F1 H1 (.n ds) _ .refl S1.fh S1.gh (fun c h => ⟨rfl, (S1.off c ((iff c).mpr (.inr h))).1⟩) (.n hH hK eds) dj og
      exact ⟨_, _, aft_res ⟨F2, f2, fx2, S2⟩ (.int r) fx1, q r ds (Nat.le_succ _)⟩
    · obtain ⟨F2, f2, fx2, S2⟩ := kk F1 (upd H1 a0 (NDict X.prog X.w a0 (xs ++ [(.tup ks, b, j)]))) (.n ((xs ++ [(NestedKey.tup ks, b, j)]).map fun x => (x.1, x.2.2))) _ .refl (same_upd2 S1.fh nF) (same_upd2 S1.gh nG) (fun c h => ⟨upd_ne fun e => dj c e h, (S1.off c ((iff c).mpr (.inr h))).1⟩)
        (.n upd_same (fun x hx => by
          rcases List.mem_append.mp hx with hx | hx
          · exact hK x hx
          · rw [List.mem_singleton] at hx
            rw [hx]
            exact hd) rfl) dj og
      exact ⟨_, _, aft_res ⟨F2, f2, fx2, S2⟩ (.int j) fx1, q j _ (by rw [eds, List.length_map, List.length_map, List.length_append]; exact Nat.le_refl _)⟩
end
end Z
set_option maxHeartbeats 4000000
namespace Z
open PySem PySem.Spec PyProof.Rows L2
/-! ### the law itself: a list of ints in, True out -/
def S_law : Spec (List Int) where
  pre γ xs := γ.length ≤ 63 ∧ xs = [.d (.list (γ.map .int))]
  post γ r ys := r = .d (.bool true)
def spLaw (K : PySem.W.Frag) : Sp := fun vs H Q _ => ∃ (a : Addr) (ns : List Int), ns.length ≤ 63 ∧ vs = [.ref a] ∧ SqL K H a (ns.map V.int) ∧ ∀ H', Q (.bl true) H'
theorem dpAll_int {K : PySem.W.Frag} {F : Hp} : ∀ ns : List Int, DpAll K F (ns.map V.int) (ns.map PyData.int)
  | [] => .nil
  | n :: ns => .cons (.int n) (dpAll_int ns)
theorem law_imp {c : Ct} {K : PySem.W.Frag} (e : c.K = K) {vs : List V} {H : Hp} {Q : VK} {E : XK} (h : spLaw K vs H Q E) : lift c S_law vs H Q E := by
  subst e
  obtain ⟨a, ns, hn, rfl, hs, q⟩ := h
  have e0 : Same (fun _ => none) H := fun _ _ z => by cases z
  refine ⟨ns, H, fun _ => none, _, _, Same.refl H, e0, .cons (.d (.lst hs (dpAll_int ns))) .nil Disj.nil, fun b hb => (Or.elim hb (fun z : False => False.elim z) fun z : False => False.elim z), ⟨hn, rfl⟩, ?_, ?_⟩
  · intro r ys v F' H' g fy hp _ _ _ rp _ _ _ _
    have hp : r = .d (.bool true) := hp
    subst hp
    cases rp with
    | d hd => rw [dp_bool hd]; exact q H'
  · intro cls d ys F' H' fy hp
    exact False.elim hp
end Z
section
set_option maxHeartbeats 0
namespace Hd
open PySem PySem.Spec PyProof.Rows L2
def topS (i : Nat) : Stmt := PySem.Challenge.pw_signwright_k86_plain_ones_and_spoilt_one.main.body.getD i (.Pass ⟨0, 0, 0, 0⟩)
def d_0 : He.DefD := ⟨("are_signs", none), "are_signs", "are_signs", defArgs (topS 6), defBody (topS 6), defScope (topS 6), [], []⟩
def d_1 : He.DefD := ⟨("is_text_of", none), "is_text_of", "is_text_of", defArgs (topS 7), defBody (topS 7), defScope (topS 7), [], []⟩
def d_2 : He.DefD := ⟨("check_text", none), "check_text", "check_text", defArgs (topS 8), defBody (topS 8), defScope (topS 8), [], []⟩
def d_3 : He.DefD := ⟨("gap", none), "gap", "gap", defArgs (topS 10), defBody (topS 10), defScope (topS 10), [], []⟩
def d_4 : He.DefD := ⟨("check_same_signs", none), "check_same_signs", "check_same_signs", defArgs (topS 12), defBody (topS 12), defScope (topS 12), [], []⟩
def d_5 : He.DefD := ⟨("is_number_below", none), "is_number_below", "is_number_below", defArgs (topS 15), defBody (topS 15), defScope (topS 15), [], []⟩
def d_6 : He.DefD := ⟨("is_plain_step", none), "is_plain_step", "is_plain_step", defArgs (topS 16), defBody (topS 16), defScope (topS 16), [], []⟩
def d_7 : He.DefD := ⟨("is_plain_state", none), "is_plain_state", "is_plain_state", defArgs (topS 17), defBody (topS 17), defScope (topS 17), [], []⟩
def d_8 : He.DefD := ⟨("is_plain_value", none), "is_plain_value", "is_plain_value", defArgs (topS 18), defBody (topS 18), defScope (topS 18), [], []⟩
def d_9 : He.DefD := ⟨("written_by", none), "written_by", "written_by", defArgs (topS 19), defBody (topS 19), defScope (topS 19), [], []⟩
def d_10 : He.DefD := ⟨("led_by", none), "led_by", "led_by", defArgs (topS 20), defBody (topS 20), defScope (topS 20), [], []⟩
def d_11 : He.DefD := ⟨("states_ahead", none), "states_ahead", "states_ahead", defArgs (topS 21), defBody (topS 21), defScope (topS 21), [], []⟩
def d_12 : He.DefD := ⟨("one_writing_each", none), "one_writing_each", "one_writing_each", defArgs (topS 22), defBody (topS 22), defScope (topS 22), [], []⟩
def d_13 : He.DefD := ⟨("common_beginning", none), "common_beginning", "common_beginning", defArgs (topS 23), defBody (topS 23), defScope (topS 23), [], []⟩
def d_14 : He.DefD := ⟨("writings_from", none), "writings_from", "writings_from", defArgs (topS 24), defBody (topS 24), defScope (topS 24), [], []⟩
def d_15 : He.DefD := ⟨("common_writings", none), "common_writings", "common_writings", defArgs (topS 25), defBody (topS 25), defScope (topS 25), [], []⟩
def d_16 : He.DefD := ⟨("early_state", none), "early_state", "early_state", defArgs (topS 26), defBody (topS 26), defScope (topS 26), [], []⟩
def d_17 : He.DefD := ⟨("early_form", none), "early_form", "early_form", defArgs (topS 27), defBody (topS 27), defScope (topS 27), [], []⟩
def d_18 : He.DefD := ⟨("states_met", none), "states_met", "states_met", defArgs (topS 28), defBody (topS 28), defScope (topS 28), [], []⟩
def d_19 : He.DefD := ⟨("twin_kinds", none), "twin_kinds", "twin_kinds", defArgs (topS 29), defBody (topS 29), defScope (topS 29), [], []⟩
def d_20 : He.DefD := ⟨("joined_twins", none), "joined_twins", "joined_twins", defArgs (topS 30), defBody (topS 30), defScope (topS 30), [], []⟩
def d_21 : He.DefD := ⟨("least_form", none), "least_form", "least_form", defArgs (topS 31), defBody (topS 31), defScope (topS 31), [], []⟩
def d_22 : He.DefD := ⟨("check_plain", none), "check_plain", "check_plain", defArgs (topS 33), defBody (topS 33), defScope (topS 33), [], []⟩
def d_23 : He.DefD := ⟨("check_two_plains", none), "check_two_plains", "check_two_plains", defArgs (topS 34), defBody (topS 34), defScope (topS 34), [], []⟩
def d_24 : He.DefD := ⟨("loop_among", none), "loop_among", "loop_among", defArgs (topS 36), defBody (topS 36), defScope (topS 36), [], []⟩
def d_25 : He.DefD := ⟨("raised", none), "raised", "raised", defArgs (topS 37), defBody (topS 37), defScope (topS 37), [], []⟩
def d_26 : He.DefD := ⟨("greatest_heights", none), "greatest_heights", "greatest_heights", defArgs (topS 38), defBody (topS 38), defScope (topS 38), [], []⟩
def d_27 : He.DefD := ⟨("useful_rows", none), "useful_rows", "useful_rows", defArgs (topS 40), defBody (topS 40), defScope (topS 40), [], []⟩
def d_28 : He.DefD := ⟨("heights_of", none), "heights_of", "heights_of", defArgs (topS 41), defBody (topS 41), defScope (topS 41), [], []⟩
def d_29 : He.DefD := ⟨("first_way", none), "first_way", "first_way", defArgs (topS 42), defBody (topS 42), defScope (topS 42), [], []⟩
def d_30 : He.DefD := ⟨("endless_growth", none), "endless_growth", "endless_growth", defArgs (topS 43), defBody (topS 43), defScope (topS 43), [], []⟩
def d_31 : He.DefD := ⟨("most_growth", none), "most_growth", "most_growth", defArgs (topS 44), defBody (topS 44), defScope (topS 44), [], []⟩
def d_32 : He.DefD := ⟨("growth_of", none), "growth_of", "growth_of", defArgs (topS 45), defBody (topS 45), defScope (topS 45), [], []⟩
def d_33 : He.DefD := ⟨("first_difference", none), "first_difference", "first_difference", defArgs (topS 49), defBody (topS 49), defScope (topS 49), [], []⟩
def d_34 : He.DefD := ⟨("is_plain", none), "is_plain", "is_plain", defArgs (topS 51), defBody (topS 51), defScope (topS 51), [], []⟩
def d_35 : He.DefD := ⟨("run_plain", none), "run_plain", "run_plain", defArgs (topS 52), defBody (topS 52), defScope (topS 52), [], []⟩
def d_36 : He.DefD := ⟨("least_plain", none), "least_plain", "least_plain", defArgs (topS 53), defBody (topS 53), defScope (topS 53), [], []⟩
def d_37 : He.DefD := ⟨("same_plain", none), "same_plain", "same_plain", defArgs (topS 54), defBody (topS 54), defScope (topS 54), [], []⟩
def d_38 : He.DefD := ⟨("growth", none), "growth", "growth", defArgs (topS 55), defBody (topS 55), defScope (topS 55), [], []⟩
def d_39 : He.DefD := ⟨("_law_mixed", none), "_law_mixed", "_law_mixed", defArgs (topS 57), defBody (topS 57), defScope (topS 57), [], []⟩
def d_40 : He.DefD := ⟨("_law_pool", none), "_law_pool", "_law_pool", defArgs (topS 58), defBody (topS 58), defScope (topS 58), [], []⟩
def d_41 : He.DefD := ⟨("_law_draw", none), "_law_draw", "_law_draw", defArgs (topS 59), defBody (topS 59), defScope (topS 59), [], []⟩
def d_42 : He.DefD := ⟨("_law_signs", none), "_law_signs", "_law_signs", defArgs (topS 60), defBody (topS 60), defScope (topS 60), [], []⟩
def d_43 : He.DefD := ⟨("_law_word", none), "_law_word", "_law_word", defArgs (topS 61), defBody (topS 61), defScope (topS 61), [], []⟩
def d_44 : He.DefD := ⟨("_law_same", none), "_law_same", "_law_same", defArgs (topS 62), defBody (topS 62), defScope (topS 62), [], []⟩
def d_45 : He.DefD := ⟨("_law_common", none), "_law_common", "_law_common", defArgs (topS 63), defBody (topS 63), defScope (topS 63), [], []⟩
def d_46 : He.DefD := ⟨("_law_plain", none), "_law_plain", "_law_plain", defArgs (topS 64), defBody (topS 64), defScope (topS 64), [], []⟩
def d_47 : He.DefD := ⟨("_law_run", none), "_law_run", "_law_run", defArgs (topS 65), defBody (topS 65), defScope (topS 65), [], []⟩
def d_48 : He.DefD := ⟨("_law_live", none), "_law_live", "_law_live", defArgs (topS 66), defBody (topS 66), defScope (topS 66), [], []⟩
def d_49 : He.DefD := ⟨("_law_ahead", none), "_law_ahead", "_law_ahead", defArgs (topS 67), defBody (topS 67), defScope (topS 67), [], []⟩
def d_50 : He.DefD := ⟨("_law_kin", none), "_law_kin", "_law_kin", defArgs (topS 68), defBody (topS 68), defScope (topS 68), [], []⟩
def d_51 : He.DefD := ⟨("_law_least", none), "_law_least", "_law_least", defArgs (topS 69), defBody (topS 69), defScope (topS 69), [], []⟩
def d_52 : He.DefD := ⟨("_law_nearly", none), "_law_nearly", "_law_nearly", defArgs (topS 70), defBody (topS 70), defScope (topS 70), [], []⟩
def d_53 : He.DefD := ⟨("_law_strange", none), "_law_strange", "_law_strange", defArgs (topS 71), defBody (topS 71), defScope (topS 71), [], []⟩
def d_54 : He.DefD := ⟨("_law_spoilt", none), "_law_spoilt", "_law_spoilt", defArgs (topS 72), defBody (topS 72), defScope (topS 72), [], []⟩
def d_55 : He.DefD := ⟨("_law_refused", none), "_law_refused", "_law_refused", defArgs (topS 73), defBody (topS 73), defScope (topS 73), [], []⟩
def d_56 : He.DefD := ⟨("_law_strange_text", none), "_law_strange_text", "_law_strange_text", defArgs (topS 74), defBody (topS 74), defScope (topS 74), [], []⟩
def d_57 : He.DefD := ⟨("law", none), "law", "law", defArgs (topS 75), defBody (topS 75), defScope (topS 75), [], []⟩
def d_58 : He.DefD := ⟨("Unlike", some "__init__"), "__init__", "Unlike.__init__", defArgs (inClass (topS 48) 0), defBody (inClass (topS 48) 0), defScope (inClass (topS 48) 0), [], []⟩
def d_59 : He.DefD := ⟨("Unlike", some "put"), "put", "Unlike.put", defArgs (inClass (topS 48) 1), defBody (inClass (topS 48) 1), defScope (inClass (topS 48) 1), [], []⟩
def d_60 : He.DefD := ⟨("Unlike", some "begun"), "begun", "Unlike.begun", defArgs (inClass (topS 48) 2), defBody (inClass (topS 48) 2), defScope (inClass (topS 48) 2), [], []⟩
def d_61 : He.DefD := ⟨("Unlike", some "led"), "led", "Unlike.led", defArgs (inClass (topS 48) 3), defBody (inClass (topS 48) 3), defScope (inClass (topS 48) 3), [], []⟩
def d_62 : He.DefD := ⟨("Unlike", some "differs"), "differs", "Unlike.differs", defArgs (inClass (topS 48) 4), defBody (inClass (topS 48) 4), defScope (inClass (topS 48) 4), [], []⟩
def d_63 : He.DefD := ⟨("Unlike", some "text_to"), "text_to", "Unlike.text_to", defArgs (inClass (topS 48) 5), defBody (inClass (topS 48) 5), defScope (inClass (topS 48) 5), [], []⟩
def d_64 : He.DefD := ⟨("Unlike", some "first"), "first", "Unlike.first", defArgs (inClass (topS 48) 6), defBody (inClass (topS 48) 6), defScope (inClass (topS 48) 6), [], []⟩
def fn_0 : List He.DefD := [d_0, d_1, d_2, d_3, d_4, d_5, d_6, d_7, d_8, d_9, d_10, d_11, d_12, d_13, d_14, d_15, d_16, d_17, d_18, d_19, d_20, d_21, d_22, d_23, d_24, d_25, d_26, d_27, d_28, d_29]
def fn_1 : List He.DefD := [d_30, d_31, d_32, d_33, d_34, d_35, d_36, d_37, d_38, d_39, d_40, d_41, d_42, d_43, d_44, d_45, d_46, d_47, d_48, d_49, d_50, d_51, d_52, d_53, d_54, d_55, d_56, d_57, d_58, d_59]
def fn_2 : List He.DefD := [d_60, d_61, d_62, d_63, d_64]
abbrev fn : List He.DefD := fn_0 ++ (fn_1 ++ (fn_2))
def fa_0 : List He.Fa := [.glo "are_signs", .glo "is_text_of", .glo "check_text", .glo "gap", .glo "check_same_signs", .glo "is_number_below", .glo "is_plain_step", .glo "is_plain_state", .glo "is_plain_value", .glo "written_by", .glo "led_by", .glo "states_ahead", .glo "one_writing_each", .glo "common_beginning", .glo "writings_from", .glo "common_writings", .glo "early_state", .glo "early_form", .glo "states_met", .glo "twin_kinds", .glo "joined_twins", .glo "least_form", .glo "check_plain", .glo "check_two_plains", .glo "loop_among", .glo "raised", .glo "greatest_heights", .glo "useful_rows", .glo "heights_of", .glo "first_way"]
def fa_1 : List He.Fa := [.glo "endless_growth", .glo "most_growth", .glo "growth_of", .glo "first_difference", .glo "is_plain", .glo "run_plain", .glo "least_plain", .glo "same_plain", .glo "growth", .glo "_law_mixed", .glo "_law_pool", .glo "_law_draw", .glo "_law_signs", .glo "_law_word", .glo "_law_same", .glo "_law_common", .glo "_law_plain", .glo "_law_run", .glo "_law_live", .glo "_law_ahead", .glo "_law_kin", .glo "_law_least", .glo "_law_nearly", .glo "_law_strange", .glo "_law_spoilt", .glo "_law_refused", .glo "_law_strange_text", .glo "law", .glo "SignError", .glo "BadSigns"]
def fa_2 : List He.Fa := [.glo "BadPlain", .glo "Unlike", .exc "SignError", .exc "BadSigns", .exc "BadPlain", .exm "SignError" "SignError" true, .exm "SignError" "BadSigns" false, .exm "SignError" "BadPlain" false, .exm "BadSigns" "SignError" true, .exm "BadSigns" "BadSigns" true, .exm "BadSigns" "BadPlain" false, .exm "BadPlain" "SignError" true, .exm "BadPlain" "BadSigns" false, .exm "BadPlain" "BadPlain" true, .cls "Unlike", .mkr "Unlike", .meth "Unlike" "__init__", .meth "Unlike" "put", .meth "Unlike" "begun", .meth "Unlike" "led", .meth "Unlike" "differs", .meth "Unlike" "text_to", .meth "Unlike" "first", .noat "Unlike" "one", .noat "Unlike" "other", .noat "Unlike" "places", .noat "Unlike" "came", .noat "Unlike" "gaps", .int "MOST_SIGNS" 5, .int "MOST_PLAIN_STATES" 2000]
def fa_3 : List He.Fa := [.int "MOST_GAPS" 2, .free "ValueError", .free "all", .free "enumerate", .free "tuple", .free "range", .free "list", .free "len", .free "max", .free "isinstance", .free "str", .free "bool", .free "zip", .free "int", .free "abs", .free "set"]
abbrev fa : List He.Fa := fa_0 ++ (fa_1 ++ (fa_2 ++ (fa_3)))
def loose_0 : List PySem.Str := ["SignError", "BadSigns", "BadPlain", "MOST_SIGNS", "are_signs", "is_text_of", "check_text", "gap", "check_same_signs", "MOST_PLAIN_STATES", "is_number_below", "is_plain_step", "is_plain_state", "is_plain_value", "written_by", "led_by", "states_ahead", "one_writing_each", "common_beginning", "writings_from", "common_writings", "early_state", "early_form", "states_met", "twin_kinds", "joined_twins", "least_form", "check_plain", "check_two_plains", "loop_among"]
def loose_1 : List PySem.Str := ["raised", "greatest_heights", "useful_rows", "heights_of", "first_way", "endless_growth", "most_growth", "growth_of", "MOST_GAPS", "Unlike", "first_difference", "is_plain", "run_plain", "least_plain", "same_plain", "growth", "_law_mixed", "_law_pool", "_law_draw", "_law_signs", "_law_word", "_law_same", "_law_common", "_law_plain", "_law_run", "_law_live", "_law_ahead", "_law_kin", "_law_least", "_law_nearly"]
def loose_2 : List PySem.Str := ["_law_strange", "_law_spoilt", "_law_refused", "_law_strange_text"]
abbrev loose : List PySem.Str := loose_0 ++ (loose_1 ++ (loose_2))
abbrev R : PySem.W.OpenRow := PySem.W.OpenLaw.row PySem.Challenge.rw_signwright_k86_plain_ones_and_spoilt_one
abbrev hk : PySem.W.Hook := He.hookD 5 fa fn
def ob (s : PySem.W.SharedT) : He.AlD := He.obsDG 5 fa fn (HandSHeadRun.getT s)
theorem ob_eq (s : PySem.W.SharedT) : ob s = hk.obs s.abs := He.obsDG_eq (HandSHeadRun.getT_eq s)
theorem run (w : World) : HandSHeadRun.RunEq R (PySem.W.view R.prog [75]) hk ob 4960 loose w := by
  intro os
  kernel_rfl
theorem noexc {P : Program} {w : World} {K : PySem.W.Frag} {mg : Str → Option Value} {base : Heap} {k : Nat} {f : Addr} {fd : FuncData} {ps : List Str} {sp : Sp} (F : FnOk P w K mg base (L2.CX P w) k f fd ps sp) :
    FnOk P w K mg base CX0 k f fd ps (fun vs H Q _ => sp vs H Q (fun _ _ _ => False)) :=
  ⟨fun vs H Q E h => F.len vs H Q _ h, fun A outer s H args us vs Q E hr he hb hv hs => codeAny_mono (F.run A outer s H args us vs Q _ hr he hb hv hs) fun r s' hq => by
    cases r with
    | error e =>
      obtain ⟨_, _, _, _, _, _, _, _, _, _, _, _, z⟩ := hq
      exact z.elim
    | ok fl =>
      cases fl with
      | ret u => exact hq
      | next => exact hq
      | brk => exact hq
      | cont => exact hq⟩

end Hd
open PySem PySem.W PySem.Calls PyProof.Rows
theorem Hd.holds_of (k : Nat) (hk : k ≤ 60) (sp : PySem.W.Frag → L2.Sp)
    (hsp : ∀ (K : PySem.W.Frag) (H : L2.Hp) (a : Addr) (ns : List Int), ns.length ≤ 63 → L2.SqL K H a (ns.map L2.V.int) → sp K [.ref a] H (fun v _ => v = .bl true) fun _ _ _ => False)
    (hF : ∀ (w : World) (K : PySem.W.Frag) (h : Heap) (mg : PySem.Str → Option Value), K.In h → h.Ns mainGlobals mg → He.SaysD Hd.fa Hd.fn K →
      ∀ (fa : Addr) (fd : FuncData), mg "law" = some (.ref fa) → L2.FunD K "law" "law" (L2.defArgs (Hd.topS 75)) (L2.defBody (Hd.topS 75)) (L2.defScope (Hd.topS 75)) [] [] fa fd →
      ∀ base : Heap, K.In base → base.Ns mainGlobals mg → L2.FnOk PySem.Challenge.pw_signwright_k86_plain_ones_and_spoilt_one w K mg base (L2.CX PySem.Challenge.pw_signwright_k86_plain_ones_and_spoilt_one w) k fa fd ["script"] (sp K)) :
    PySem.Challenge.rw_signwright_k86_plain_ones_and_spoilt_one.Holds := by
  w_on; o_law
  refine HandSHeadRun.head_any (r := OpenLaw.row PySem.Challenge.rw_signwright_k86_plain_ones_and_spoilt_one) (q := view (OpenLaw.row PySem.Challenge.rw_signwright_k86_plain_ones_and_spoilt_one).prog [75]) (H := Hd.hk) (ob := Hd.ob) (M := 4960) (loose := Hd.loose) (d := HandSHeadRun.topDef (OpenLaw.row PySem.Challenge.rw_signwright_k86_plain_ones_and_spoilt_one).prog 75) (kwd := []) Hd.ob_eq
    (by kernel_rfl) (fun s => by kernel_rfl) Hd.run (by kernel_rfl) (by kernel_rfl) (by kernel_rfl) (by rfl) (by first | assumption | decide +kernel) (by decide +kernel) ⟨rfl, rfl, rfl, rfl, rfl, by decide +kernel⟩ ?hw ?hc
  case hw => w_witness2
  case hc =>
    refine L2.walk_ofE (l := PySem.Challenge.rw_signwright_k86_plain_ones_and_spoilt_one) (n := 63) (k := k) (x := "script") (CX := L2.CX0) rfl (by decide) (by kernel_rfl) ⟨rfl, ?dp, ?un⟩ ?F ?X
    case dp => exact Nat.lt_of_le_of_lt (Nat.add_le_add_right (Nat.add_le_add_left (Nat.mul_le_mul_left 3 hk) _) 5) (by decide)
    case un => exact Nat.lt_of_le_of_lt (Nat.add_le_add_right (Nat.add_le_add_left (Nat.mul_le_mul_left 16 hk) _) 200) (by decide)
    case X => exact fun _ _ _ _ z => z
    case F =>
      intro w mg fa h Y G hmg0
      obtain ⟨K, KX, c⟩ := Y
      have hmg : mg ("law" : PySem.Str) = some (.ref fa) := by
        have e : (HandSHeadRun.topDef (OpenLaw.row PySem.Challenge.rw_signwright_k86_plain_ones_and_spoilt_one).prog 75).name = ("law" : PySem.Str) := by kernel_rfl
        rw [← e]
        exact hmg0
      obtain ⟨fd, FD⟩ := c.def_ 57 (d := Hd.d_57) rfl
      have e := hmg.symm.trans (He.glo_ok KX G (c.fact 57 (f := .glo "law") rfl))
      cases e
      have b := L2.FunD.bindsA (ps := ["script"]) FD fun _ _ _ _ _ _ us hl => match us, hl with | [_], _ => rfl
      exact ⟨K, fd, fun vs H Q _ => sp K vs H Q (fun _ _ _ => False), KX, fun s v => b s [v] rfl, fun H a ns hl _ hS => hsp K H a ns hl hS, fun base Kb Gb => Hd.noexc (hF w K h mg KX G c _ fd hmg FD base Kb Gb)⟩
end
set_option maxHeartbeats 4000000
namespace Z
open PySem PySem.Spec PyProof.Rows L2
/-- what the top leaves -/
structure Tp (K : PySem.W.Frag) (mg : Str → Option Value) : Prop where
  h : ∃ h : Heap, K.In h ∧ h.Ns mainGlobals mg
  c : He.SaysD Hd.fa Hd.fn K
section
variable {P : Program} {w : World} {K : PySem.W.Frag} {mg : Str → Option Value} {base : Heap}
theorem Tp.free (T : Tp K mg) {x : Str} (i : Nat) (e : Hd.fa[i]? = some (.free x) := by rfl) : mg x = none := by
  obtain ⟨h, KX, G⟩ := T.h
  exact He.free_ok KX G (T.c.fact i e)
theorem Tp.glo (T : Tp K mg) {x : Str} (i : Nat) (e : Hd.fa[i]? = some (.glo x) := by rfl) : mg x = some (.ref (He.ga K x)) := by
  obtain ⟨h, KX, G⟩ := T.h
  exact He.glo_ok KX G (T.c.fact i e)
theorem Tp.int (T : Tp K mg) {x : Str} {j : Int} (i : Nat) (e : Hd.fa[i]? = some (.int x j) := by rfl) : ∃ t, mg x = some (.int j t) := by
  obtain ⟨h, KX, G⟩ := T.h
  exact He.int_ok KX G (T.c.fact i e)
/-- a def, from its body -/
theorem cal_of {Γ : Type} {S : Spec Γ} (T : Tp K mg) {k : Nat} {nm : Str} {ps N : List Str} {params : Arguments} {body : List Stmt} {scope : Scope} (i j : Nat) (hd : Hd.fn[i]? = some ⟨(nm, none), nm, nm, params, body, scope, [], []⟩) (hg : Hd.fa[j]? = some (.glo nm))
    (hb : ∀ (kV doc pm : Value) (an : Option Addr) (cdv ct : Value) (us : List Value), us.length = ps.length → bindArgs (PySem.W.fnOf nm nm params body scope .none kV doc pm an cdv ct) ⟨us, []⟩ = pure (ps.zip us))
    (mask : List Bool) (hm : mask.length = ps.length) (sc : C8.scC N ps scope = true) (len : ∀ γ xs, S.pre γ xs → xs.length = ps.length)
    (hbody : ∀ (cdv : Value) (A : Around) (outer : List Env) (s : Shared) (H : Hp) (E : XK) (γ : Γ) (vs : List V) (xs : List LV), Room k (A.deeper (envOfC nm scope s.heap.objs.size (He.ga K nm) cdv)) → vs.length = ps.length → S.pre γ xs →
      LSs (cxOf (L2.CX P w) P w K mg base N nm scope (He.ga K nm) cdv A outer s H E) body (start0 mask vs xs N.length) (wOf S γ vs) (endsOf S γ vs)) : Cal P w K mg base (k + 1) nm ps S := by
  obtain ⟨fd, F⟩ := T.c.def_ i hd
  have F' : FunD K nm nm params body scope [] [] (He.ga K nm) fd := F
  exact ⟨_, fd, ok_of F' (C8.fnScope_by sc) mask hm len hbody, F'.bindsN hb, T.glo j hg, F'.kp⟩
end
theorem fr_ValueError {K : PySem.W.Frag} {mg : Str → Option Value} (T : Tp K mg) : mg "ValueError" = none := T.free 91
theorem fr_all {K : PySem.W.Frag} {mg : Str → Option Value} (T : Tp K mg) : mg "all" = none := T.free 92
theorem fr_enumerate {K : PySem.W.Frag} {mg : Str → Option Value} (T : Tp K mg) : mg "enumerate" = none := T.free 93
theorem fr_tuple {K : PySem.W.Frag} {mg : Str → Option Value} (T : Tp K mg) : mg "tuple" = none := T.free 94
theorem fr_range {K : PySem.W.Frag} {mg : Str → Option Value} (T : Tp K mg) : mg "range" = none := T.free 95
theorem fr_list {K : PySem.W.Frag} {mg : Str → Option Value} (T : Tp K mg) : mg "list" = none := T.free 96
theorem fr_len {K : PySem.W.Frag} {mg : Str → Option Value} (T : Tp K mg) : mg "len" = none := T.free 97
theorem fr_max {K : PySem.W.Frag} {mg : Str → Option Value} (T : Tp K mg) : mg "max" = none := T.free 98
theorem fr_isinstance {K : PySem.W.Frag} {mg : Str → Option Value} (T : Tp K mg) : mg "isinstance" = none := T.free 99
theorem fr_str {K : PySem.W.Frag} {mg : Str → Option Value} (T : Tp K mg) : mg "str" = none := T.free 100
theorem fr_bool {K : PySem.W.Frag} {mg : Str → Option Value} (T : Tp K mg) : mg "bool" = none := T.free 101
theorem fr_zip {K : PySem.W.Frag} {mg : Str → Option Value} (T : Tp K mg) : mg "zip" = none := T.free 102
theorem fr_int {K : PySem.W.Frag} {mg : Str → Option Value} (T : Tp K mg) : mg "int" = none := T.free 103
theorem fr_abs {K : PySem.W.Frag} {mg : Str → Option Value} (T : Tp K mg) : mg "abs" = none := T.free 104
theorem fr_set {K : PySem.W.Frag} {mg : Str → Option Value} (T : Tp K mg) : mg "set" = none := T.free 105
theorem gi_MOST_SIGNS {K : PySem.W.Frag} {mg : Str → Option Value} (T : Tp K mg) : ∃ t, mg "MOST_SIGNS" = some (.int 5 t) := T.int 88
theorem gi_MOST_PLAIN_STATES {K : PySem.W.Frag} {mg : Str → Option Value} (T : Tp K mg) : ∃ t, mg "MOST_PLAIN_STATES" = some (.int 2000 t) := T.int 89
theorem gi_MOST_GAPS {K : PySem.W.Frag} {mg : Str → Option Value} (T : Tp K mg) : ∃ t, mg "MOST_GAPS" = some (.int 2 t) := T.int 90
end Z
set_option maxHeartbeats 400000
namespace Z
open PySem PySem.Spec PyProof.Rows L2
local macro_rules | `(tactic| walk_at "len") => `(tactic| (intro zz hz; first | (cases hz; done) | (injection hz with hz; subst hz; first | assumption | (simp only [PySem.Str.length_append, Str.length] at *; simp [sizeLine] at *; omega))))
local macro_rules | `(tactic| walk_at "c") => `(tactic| first | rfl | assumption | decide | omega)
local macro_rules | `(tactic| walk_at "ix") => `(tactic| first | assumption | rfl)
local macro_rules | `(tactic| walk_at "mem") => `(tactic| assumption)
local macro_rules | `(tactic| walk_at "sz") => `(tactic| first | assumption | omega)
local macro_rules | `(tactic| walk_at "mul") => `(tactic| first | exact .inr ⟨by decide, by decide⟩ | exact .inl ⟨by decide, by decide⟩)
local macro_rules | `(tactic| walk_at "div") => `(tactic| first | exact ⟨by decide, by decide⟩ | exact ⟨by omega, by omega⟩)
local macro_rules | `(tactic| walk_at "cmp") => `(tactic| first | exact c_lt | exact c_le | exact c_gt | exact c_ge | exact c_eqI | exact c_neI | exact c_eqS | exact c_neS | exact c_eqB | exact c_isN | exact c_notN | exact c_inS | exact c_notInS)
section
variable {P : Program} {w : World} {K : PySem.W.Frag} {mg : Str → Option Value} {base : Heap}
-- _law_mixed: ['seed', 'k', 'one', 'two']
theorem ok_mixed (T : Tp K mg) : Cal P w K mg base 1 "_law_mixed" ["seed", "k"] S_mixed := by
  refine cal_of (k := 0) T (N := ["seed", "k", "one", "two"]) 39 39 rfl rfl (fun _ _ _ _ _ _ us hl => match us, hl with | [_, _], _ => rfl) [false, false] rfl (by decide +kernel) (fun γ xs h => ?_) ?_
  · first | exact congrArg List.length (show _ = _ from h) | exact congrArg List.length (show _ ∧ _ from h).1
  intro cdv A outer s H E γ vs xs hr hl hpre
  obtain ⟨v0, v1, rfl⟩ : ∃ v0 v1, vs = [v0, v1] := by
    match vs, hl with
    | [a0, a1], _ => exact ⟨a0, a1, rfl⟩
  have hnd : (["seed", "k", "one", "two"] : List Str).Nodup := by decide +kernel
  obtain ⟨i, j⟩ := γ
  obtain rfl := hpre
  have EV : Ev (cxOf (L2.CX P w) P w K mg base ["seed", "k", "one", "two"] "_law_mixed" (defScope (Hd.topS 57)) (He.ga K "_law_mixed") cdv A outer s H E) ["seed", "k", "one", "two"] [0, 1, 2, 3] [0, 1, 2, 3] ["int"] := ⟨rfl, (by decide +kernel : evB (defScope (Hd.topS 57)) ["seed", "k", "one", "two"] [0, 1, 2, 3] [0, 1, 2, 3] ["int"] = true)⟩
  refine lss_cons (sx_set (EV.l 2 (i := 2) (nm := "one") rfl rfl) hnd rfl (le_q (lq_mod (lq_intI (fr_int T) (lq_plus (lq_plus (lq_mul (lq_v (EV.v 0 (i := 0) (nm := "seed") rfl rfl) rfl) lq_int (by walk_at "mul")) (lq_mul (lq_v (EV.v 1 (i := 1) (nm := "k") rfl rfl) rfl) lq_int (by walk_at "mul")) (by walk_at "c") (by walk_at "len")) lq_int (by walk_at "c") (by walk_at "len")) (EV.g 0 (nm := "int") rfl).g) lq_int (by walk_at "c")) ⟨rfl, ?_⟩))
  refine lss_cons (sx_set (EV.l 3 (i := 3) (nm := "two") rfl rfl) hnd rfl (le_q (lq_mod (lq_intI (fr_int T) (lq_plus (lq_mul (lq_xor (lq_v (EV.v 2 (i := 2) (nm := "one") rfl rfl) rfl) (lq_fdiv (lq_v (EV.v 2 (i := 2) (nm := "one") rfl rfl) rfl) lq_int (by walk_at "div"))) lq_int (by walk_at "mul")) (lq_mul (lq_v (EV.v 1 (i := 1) (nm := "k") rfl rfl) rfl) lq_int (by walk_at "mul")) (by walk_at "c") (by walk_at "len")) (EV.g 0 (nm := "int") rfl).g) lq_int (by walk_at "c")) ⟨rfl, ?_⟩))
  exact lss_one (ls_ret (le_q (lq_xor (lq_v (EV.v 3 (i := 3) (nm := "two") rfl rfl) rfl) (lq_fdiv (lq_v (EV.v 3 (i := 3) (nm := "two") rfl rfl) rfl) lq_int (by walk_at "div"))) ⟨[], ⟨_, rfl⟩, trivial⟩))
-- _law_pool: ['script', 'seed', 'cell']
theorem ok_pool (T : Tp K mg) : Cal P w K mg base 1 "_law_pool" ["script"] S_pool := by
  refine cal_of (k := 0) T (N := ["script", "seed", "cell"]) 40 40 rfl rfl (fun _ _ _ _ _ _ us hl => match us, hl with | [_], _ => rfl) [false] rfl (by decide +kernel) (fun γ xs h => ?_) ?_
  · first | exact congrArg List.length (show _ = _ from h) | exact congrArg List.length (show _ ∧ _ from h).1
  intro cdv A outer s H E γ vs xs hr hl hpre
  obtain ⟨v0, rfl⟩ : ∃ v0, vs = [v0] := by
    match vs, hl with
    | [a0], _ => exact ⟨a0, rfl⟩
  have hnd : (["script", "seed", "cell"] : List Str).Nodup := by decide +kernel
  obtain rfl := hpre
  have EV : Ev (cxOf (L2.CX P w) P w K mg base ["script", "seed", "cell"] "_law_pool" (defScope (Hd.topS 58)) (He.ga K "_law_pool") cdv A outer s H E) ["script", "seed", "cell"] [0, 1, 2] [0, 1, 2] ["int", "list"] := ⟨rfl, (by decide +kernel : evB (defScope (Hd.topS 58)) ["script", "seed", "cell"] [0, 1, 2] [0, 1, 2] ["int", "list"] = true)⟩
  refine lss_cons (sx_set (EV.l 1 (i := 1) (nm := "seed") rfl rfl) hnd rfl (le_q lq_int ⟨rfl, ?_⟩))
  refine lss_cons (ls_for (passes_of rfl) rfl (li_list (le_q (lq_v (EV.v 0 (i := 0) (nm := "script") rfl rfl) rfl) ⟨_, .d, fun i δ => ∃ sd : Int, δ = [.is (.d (.list (γ.map .int))), .is (.d (.int sd)), .no], ⟨5, rfl⟩, ?_, ?_⟩)))
  · rintro i d δ hd ⟨sd, rfl⟩
    obtain ⟨v, rfl⟩ : ∃ v, d = .int v := by
      rw [List.getElem?_map] at hd
      cases h : γ[i]? with
      | none => rw [h] at hd; cases hd
      | some v => rw [h] at hd; cases hd; exact ⟨v, rfl⟩
    refine gx_name (EV.l 2 (i := 2) (nm := "cell") rfl rfl) hnd rfl rfl ?_
    refine lss_cons (sx_set (EV.l 1 (i := 1) (nm := "seed") rfl rfl) hnd rfl (le_q (lq_mod (lq_intI (fr_int T) (lq_plus (lq_mul (lq_v (EV.v 1 (i := 1) (nm := "seed") rfl rfl) rfl) lq_int (by walk_at "mul")) (lq_v (EV.v 2 (i := 2) (nm := "cell") rfl rfl) rfl) (by walk_at "c") (by walk_at "len")) (EV.g 0 (nm := "int") rfl).g) lq_int (by walk_at "c")) ⟨rfl, ?_⟩))
    exact lss_drop 2 (lss_nil ⟨_, rfl⟩)
  · rintro δ ⟨sd, rfl⟩
    exact lss_one (ls_ret (le_lst (ld_cons (le_listD (fr_list T) (le_q (lq_v (EV.v 0 (i := 0) (nm := "script") rfl rfl) rfl) ⟨_, .inl .d, _, fz_map, ld_q lq_int (ld_q lq_int (ld_q (lq_v (EV.v 1 (i := 1) (nm := "seed") rfl rfl) rfl) (ld_q lq_int (ld_nil ⟨by simp [sizeLine], [], .mk γ 0 0 sd 0 (by decide), trivial⟩))))⟩) (EV.g 1 (nm := "list") rfl).g))))
-- _law_draw: ['pool', 'limit', 'cell', 'digit']
theorem ok_draw (T : Tp K mg) : Cal P w K mg base 2 "_law_draw" ["pool", "limit"] S_draw := by
  refine cal_of (k := 1) T (N := ["pool", "limit", "cell", "digit"]) 41 41 rfl rfl (fun _ _ _ _ _ _ us hl => match us, hl with | [_, _], _ => rfl) [true, false] rfl (by decide +kernel) (fun γ xs h => ?_) ?_
  · first | exact congrArg List.length (show _ = _ from h) | exact congrArg List.length (show _ ∧ _ from h).1
  intro cdv A outer s H E γ vs xs hr hl hpre
  obtain ⟨v0, v1, rfl⟩ : ∃ v0 v1, vs = [v0, v1] := by
    match vs, hl with
    | [a0, a1], _ => exact ⟨a0, a1, rfl⟩
  have hnd : (["pool", "limit", "cell", "digit"] : List Str).Nodup := by decide +kernel
  obtain ⟨pv, lim⟩ := γ
  obtain ⟨rfl, hpv, h0, h1⟩ := hpre
  have EV : Ev (cxOf (L2.CX P w) P w K mg base ["pool", "limit", "cell", "digit"] "_law_draw" (defScope (Hd.topS 59)) (He.ga K "_law_draw") cdv A outer s H E) ["pool", "limit", "cell", "digit"] [0, 1, 2, 3] [0, 1, 2, 3] ["len", "abs", "int", "_law_mixed"] := ⟨rfl, (by decide +kernel : evB (defScope (Hd.topS 59)) ["pool", "limit", "cell", "digit"] [0, 1, 2, 3] [0, 1, 2, 3] ["len", "abs", "int", "_law_mixed"] = true)⟩
  have TAIL : ∀ (pv0 : LV) (cs : List Int) (a b c e : Int), 0 ≤ a → LSs (cxOf (L2.CX P w) P w K mg base ["pool", "limit", "cell", "digit"] "_law_draw" (defScope (Hd.topS 59)) (He.ga K "_law_draw") cdv A outer s H E) ((defBody (Hd.topS 59)).drop 2) [.lk v0 (.l [.d (.list (cs.map .int)), .d (.int a), .d (.int b), .d (.int c), .d (.int e)]), .is (.d (.int lim)), .no, .no] (wOf S_draw (pv0, lim) [v0, v1]) (endsOf S_draw (pv0, lim) [v0, v1]) := by
    intro pv0 cs a b c e ha
    refine lss_cons (ls_ifb (lb_cmp (lx_slot (EV.v 0 (i := 0) (nm := "pool") rfl rfl) rfl lq_int (by walk_at "ix")) lq_int (by walk_at "cmp")) (fun hc => ?_) (fun hc => ?_))
    · refine lss_cons (sx_set (EV.l 3 (i := 3) (nm := "digit") rfl rfl) hnd rfl (le_q (lq_mod (lq_intI (fr_int T) (lx_slot (EV.v 0 (i := 0) (nm := "pool") rfl rfl) rfl lq_int (by walk_at "ix")) (EV.g 2 (nm := "int") rfl).g) (lq_v (EV.v 1 (i := 1) (nm := "limit") rfl rfl) rfl) (by walk_at "c")) ⟨rfl, ?_⟩))
      refine lss_cons (sx_store (EV.v 0 (i := 0) (nm := "pool") rfl rfl) (le_q (lq_fdiv (lx_slot (EV.v 0 (i := 0) (nm := "pool") rfl rfl) rfl lq_int (by walk_at "ix")) (lq_v (EV.v 1 (i := 1) (nm := "limit") rfl rfl) rfl) (by walk_at "div")) ⟨2, 2, _, lq_int, rfl, rfl, ?_⟩) ⟨_, rfl⟩)
      exact lss_one (ls_ret (le_q (lq_v (EV.v 3 (i := 3) (nm := "digit") rfl rfl) rfl) ⟨_, ⟨_, _, rfl, Int.emod_nonneg _ (by omega), Int.emod_lt_of_pos _ h0, .mk cs a (b / lim) c e ha, rfl⟩, rfl, trivial⟩))
    · refine lss_nil ?_
      refine lss_one (ls_ret (le_i2 op_mod (le_intI (fr_int T) (ex_calQ (EV.g 3 (nm := "_law_mixed") rfl) (ok_mixed T) hr (by decide) (lqs_cons (lx_slot (EV.v 0 (i := 0) (nm := "pool") rfl rfl) rfl lq_int (by walk_at "ix")) (lqs_cons (lx_slot (EV.v 0 (i := 0) (nm := "pool") rfl rfl) rfl lq_int (by walk_at "ix")) .nil)) (c, e) rfl (fun r ys h => ?_) (fun _ _ h => h.elim)) (EV.g 2 (nm := "int") rfl).g)))
      obtain ⟨n, rfl⟩ := h
      exact ⟨n, rfl, n, rfl, le_q (lq_v (EV.v 1 (i := 1) (nm := "limit") rfl rfl) rfl) ⟨lim, rfl, h0, _, ⟨_, _, rfl, Int.emod_nonneg _ (by omega), Int.emod_lt_of_pos _ h0, .mk cs a b c e ha, rfl⟩, rfl, trivial⟩⟩
  cases hpv with
  | mk cs a b c e ha =>
  refine lss_cons (sx_store (EV.v 0 (i := 0) (nm := "pool") rfl rfl) (le_q (lq_plus (lx_slot (EV.v 0 (i := 0) (nm := "pool") rfl rfl) rfl lq_int (by walk_at "ix")) lq_int (by walk_at "c") (by walk_at "len")) ⟨4, 4, _, lq_int, rfl, rfl, ?_⟩) ⟨_, rfl⟩)
  refine lss_cons (ls_ifb (p := decide (b < 1000000) && decide (a < cs.length)) (LB.cast (LBw.lb (lbw_and (lb_cmp (lx_slot (EV.v 0 (i := 0) (nm := "pool") rfl rfl) rfl lq_int (by walk_at "ix")) lq_int (by walk_at "cmp")) fun hb => (lbw_and1 (lb_cmp (lx_slot (EV.v 0 (i := 0) (nm := "pool") rfl rfl) rfl lq_int (by walk_at "ix")) (lq_len (fr_len T) (lx_slot (EV.v 0 (i := 0) (nm := "pool") rfl rfl) rfl lq_int (by walk_at "ix")) (by walk_at "ix") (by walk_at "len") (EV.g 0 (nm := "len") rfl).g) (by walk_at "cmp"))))) (by simp)) (fun hc => ?_) (fun hc => ?_))
  · simp only [Bool.and_eq_true, decide_eq_true_eq] at hc
    obtain ⟨v, hv⟩ : ∃ v : Int, cs[a.toNat]? = some v := ⟨cs[a.toNat]'(by omega), by simp⟩
    have hix : atI (cs.map PyData.int) a = some (.int v) := by
      have := at_map (f := PyData.int) hv
      rwa [Int.toNat_of_nonneg ha] at this
    refine lss_cons (sx_set (EV.l 2 (i := 2) (nm := "cell") rfl rfl) hnd rfl (le_q (lq_abs (fr_abs T) (lq_ix (lx_slot (EV.v 0 (i := 0) (nm := "pool") rfl rfl) rfl lq_int (by walk_at "ix")) (lx_slot (EV.v 0 (i := 0) (nm := "pool") rfl rfl) rfl lq_int (by walk_at "ix")) (by walk_at "ix") (by walk_at "len")) (EV.g 1 (nm := "abs") rfl).g) ⟨rfl, ?_⟩))
    refine lss_cons (sx_store (EV.v 0 (i := 0) (nm := "pool") rfl rfl) (le_q (lq_plus (lx_slot (EV.v 0 (i := 0) (nm := "pool") rfl rfl) rfl lq_int (by walk_at "ix")) lq_int (by walk_at "c") (by walk_at "len")) ⟨1, 1, _, lq_int, rfl, rfl, ?_⟩) ⟨_, rfl⟩)
    refine lss_cons (ls_ifb (lb_cmp (lq_v (EV.v 2 (i := 2) (nm := "cell") rfl rfl) rfl) (lq_pow lq_int lq_int ⟨by decide, by decide, by decide⟩) (by walk_at "cmp")) (fun _ => ?_) (fun _ => ?_))
    · refine lss_cons (sx_store (EV.v 0 (i := 0) (nm := "pool") rfl rfl) (le_q (lq_v (EV.v 2 (i := 2) (nm := "cell") rfl rfl) rfl) ⟨2, 2, _, lq_int, rfl, rfl, ?_⟩) ⟨_, rfl⟩)
      exact lss_drop 2 (lss_nil (lss_nil (TAIL _ _ (a + 1) _ _ _ (by omega))))
    · refine lss_cons (sx_store (EV.v 0 (i := 0) (nm := "pool") rfl rfl) (le_q (lq_mod (lq_intI (fr_int T) (lq_plus (lq_mul (lx_slot (EV.v 0 (i := 0) (nm := "pool") rfl rfl) rfl lq_int (by walk_at "ix")) lq_int (by walk_at "mul")) (lq_v (EV.v 2 (i := 2) (nm := "cell") rfl rfl) rfl) (by walk_at "c") (by walk_at "len")) (EV.g 2 (nm := "int") rfl).g) lq_int (by walk_at "c")) ⟨3, 3, _, lq_int, rfl, rfl, ?_⟩) ⟨_, rfl⟩)
      exact lss_drop 2 (lss_nil (lss_nil (TAIL _ _ (a + 1) _ _ _ (by omega))))
  · exact lss_nil (TAIL _ cs a b c _ ha)
end
end Z
set_option maxHeartbeats 400000
namespace Z
open PySem PySem.Spec PyProof.Rows L2
local macro_rules | `(tactic| walk_at "len") => `(tactic| (intro zz hz; first | (cases hz; done) | (injection hz with hz; subst hz; first | assumption | (simp only [PySem.Str.length_append, Str.length] at *; simp [sizeLine] at *; omega))))
local macro_rules | `(tactic| walk_at "c") => `(tactic| first | rfl | assumption | decide | omega)
local macro_rules | `(tactic| walk_at "ix") => `(tactic| first | assumption | rfl)
local macro_rules | `(tactic| walk_at "mem") => `(tactic| assumption)
local macro_rules | `(tactic| walk_at "sz") => `(tactic| first | assumption | omega)
local macro_rules | `(tactic| walk_at "mul") => `(tactic| first | exact .inr ⟨by decide, by decide⟩ | exact .inl ⟨by decide, by decide⟩)
local macro_rules | `(tactic| walk_at "div") => `(tactic| first | exact ⟨by decide, by decide⟩ | exact ⟨by omega, by omega⟩)
local macro_rules | `(tactic| walk_at "cmp") => `(tactic| first | exact c_lt | exact c_le | exact c_gt | exact c_ge | exact c_eqI | exact c_neI | exact c_eqS | exact c_neS | exact c_eqB | exact c_isN | exact c_notN | exact c_inS | exact c_notInS)
/-! ### texts over signs -/
def Over (S z : Str) : Prop := ∀ c ∈ z.cps.toList, c ∈ S.cps.toList
theorem cps_cat (a b : Str) : (a ++ b).cps.toList = a.cps.toList ++ b.cps.toList := by show (a.cps ++ b.cps).toList = _; rw [Array.toList_append]
theorem Over.cat {S a b : Str} (h : Over S a) (k : Over S b) : Over S (a ++ b) := fun c hc => by
  rw [cps_cat, List.mem_append] at hc
  exact hc.elim (h c) (k c)
theorem Over.one {S : Str} {c : Nat} (h : c ∈ S.cps.toList) : Over S ⟨#[c]⟩ := fun d hd => by
  simp at hd
  rw [hd]
  exact h
theorem Over.empty {S : Str} : Over S Str.empty := fun c hc => by simp [Str.empty] at hc
theorem seqIx {j : Int} {n : Nat} (h0 : 0 ≤ j) (h1 : j < n) : seqIndex? j n = some j.toNat := by
  unfold seqIndex?
  simp [h0, h1] <;> omega
theorem map_erase {α β : Type} {f : α → β} : ∀ (l : List α) (n : Nat), (l.map f).eraseIdx n = (l.eraseIdx n).map f
  | [], _ => rfl
  | _ :: _, 0 => rfl
  | a :: l, n + 1 => congrArg (f a :: ·) (map_erase l n)
theorem perm_erase {α : Type} : ∀ (l : List α) (n : Nat) (h : n < l.length), (l[n] :: l.eraseIdx n).Perm l
  | [], _, h => absurd h (Nat.not_lt_zero _)
  | _ :: _, 0, _ => List.Perm.refl _
  | a :: l, n + 1, h => by
    have h' : n < l.length := Nat.lt_of_succ_lt_succ h
    exact (List.Perm.swap a l[n] _).trans ((perm_erase l n h').cons a)
def S_signs : Spec (LV × Nat) where
  pre γ xs := xs = [γ.1, .d (.int (γ.2 : Nat))] ∧ PoolV γ.1 ∧ γ.2 ≤ 30
  post γ r ys := ∃ S pv, r = .d (.str S) ∧ S.length = γ.2 ∧ S.cps.toList.Nodup ∧ PoolV pv ∧ ys = [some pv, none]
def S_word : Spec (LV × Str × Nat) where
  pre γ xs := xs = [γ.1, .d (.str γ.2.1), .d (.int (γ.2.2 : Nat))] ∧ PoolV γ.1 ∧ 0 < γ.2.1.length ∧ γ.2.1.length ≤ 1000 ∧ γ.2.2 ≤ 1000
  post γ r ys := ∃ z pv, r = .d (.str z) ∧ z.length ≤ γ.2.2 ∧ Over γ.2.1 z ∧ PoolV pv ∧ ys = [some pv, none, none]
section
variable {P : Program} {w : World} {K : PySem.W.Frag} {mg : Str → Option Value} {base : Heap}
-- _law_signs: ['pool', 'total', 'left', 'signs', 'k']
theorem ok_signs (T : Tp K mg) : Cal P w K mg base 3 "_law_signs" ["pool", "total"] S_signs := by
  refine cal_of (k := 2) T (N := ["pool", "total", "left", "signs", "k"]) 42 42 rfl rfl (fun _ _ _ _ _ _ us hl => match us, hl with | [_, _], _ => rfl) [true, false] rfl (by decide +kernel) (fun γ xs h => ?_) ?_
  · first | exact congrArg List.length (show _ = _ from h) | exact congrArg List.length (show _ ∧ _ from h).1
  intro cdv A outer s H E γ vs xs hr hl hpre
  obtain ⟨v0, v1, rfl⟩ : ∃ v0 v1, vs = [v0, v1] := by
    match vs, hl with
    | [a0, a1], _ => exact ⟨a0, a1, rfl⟩
  have hnd : (["pool", "total", "left", "signs", "k"] : List Str).Nodup := by decide +kernel
  obtain ⟨pv, total⟩ := γ
  obtain ⟨rfl, hpv, (ht : total ≤ 30)⟩ := hpre
  dsimp only
  have EV : Ev (cxOf (L2.CX P w) P w K mg base ["pool", "total", "left", "signs", "k"] "_law_signs" (defScope (Hd.topS 60)) (He.ga K "_law_signs") cdv A outer s H E) ["pool", "total", "left", "signs", "k"] [0, 1, 2, 3, 4] [0, 1, 2, 3, 4] ["list", "range", "_law_draw", "len"] := ⟨rfl, (by decide +kernel : evB (defScope (Hd.topS 60)) ["pool", "total", "left", "signs", "k"] [0, 1, 2, 3, 4] [0, 1, 2, 3, 4] ["list", "range", "_law_draw", "len"] = true)⟩
  refine lss_cons (sx_set (EV.l 2 (i := 2) (nm := "left") rfl rfl) hnd rfl (le_listS rfl (fr_list T) (le_q lq_str ⟨_, rfl, by decide +kernel, rfl, ?_⟩) (EV.g 0 (nm := "list") rfl).g))
  refine lss_cons (sx_set (EV.l 3 (i := 3) (nm := "signs") rfl rfl) hnd rfl (le_q lq_str ⟨rfl, ?_⟩))
  refine lss_cons (ls_for (passes_of rfl) rfl (li_range1 (fr_range T) (ld_q (lq_v (EV.v 1 (i := 1) (nm := "total") rfl rfl) rfl) (ld_nil ⟨_, rfl, by omega, by omega, fun i δ => ∃ pv L S, δ = [.lk v0 pv, .is (.d (.int total)), .is (.l (L.map fun c => LV.d (.str ⟨#[c]⟩))), .is (.d (.str S)), .no] ∧ PoolV pv ∧ L.length + i = 36 ∧ S.length = i ∧ (S.cps.toList ++ L).Nodup, ?_, ?_, ?_⟩)) (EV.g 1 (nm := "range") rfl).g))
  · refine ⟨pv, (Str.ofString "abcxyzKQ0179 #;:[](){}=>|&-*+?.,!~@_").cps.toList, Str.ofString "", ?_, hpv, by decide +kernel, by decide +kernel, by decide +kernel⟩
    show [Sl.lk v0 pv, Sl.is (.d (.int (total : Nat))), Sl.is (.l ((signsD _).map LV.d)), Sl.is (.d (.str _)), Sl.no] = _
    rw [signsD, List.map_map]
    rfl
  · rintro i d δ hd ⟨pv, L, S, rfl, hpv, hL, hS, hnd2⟩
    obtain ⟨hi, rfl⟩ := intsD_get hd
    have hi' : i < 30 := by omega
    refine gx_name (EV.l 4 (i := 4) (nm := "k") rfl rfl) hnd rfl rfl ?_
    refine lss_cons (sx_set (EV.l 3 (i := 3) (nm := "signs") rfl rfl) hnd rfl (le_cat (le_q (lq_v (EV.v 3 (i := 3) (nm := "signs") rfl rfl) rfl) ⟨_, rfl, ?_⟩)))
    refine ex_popAt (EV.v 2 (i := 2) (nm := "left") rfl rfl) ?_ ⟨_, rfl⟩
    refine ex_draw (EV.g 2 (nm := "_law_draw") rfl) (ok_draw T) hr (by decide) (EV.v 0 (i := 0) (nm := "pool") rfl rfl) rfl hpv (lx_lenSlot (EV.v 2 (i := 2) (nm := "left") rfl rfl) (EV.g 3 (nm := "len") rfl) (fr_len T) rfl) (by simp; omega) (by simp; omega) fun n pv' h0 h1 hp' => ?_
    have h1' : n < L.length := by simpa using h1
    have hn : n.toNat < L.length := by omega
    refine ⟨_, n, n.toNat, .str ⟨#[L[n.toNat]]⟩, rfl, rfl, by omega, by omega, ?_, ?_, _, rfl, ?_, rfl, ?_⟩
    · rw [List.length_map]; exact seqIx h0 h1'
    · rw [List.getElem?_map, List.getElem?_eq_getElem hn]; rfl
    · show S.length + 1 ≤ sizeLine
      rw [hS]; simp [sizeLine]; omega
    · refine lss_drop 4 (lss_nil ⟨pv', L.eraseIdx n.toNat, S ++ ⟨#[L[n.toNat]]⟩, ?_, hp', ?_, ?_, ?_⟩)
      · show [Sl.lk v0 pv', Sl.is (.d (.int (total : Nat))), Sl.is (.l ((L.map fun c => LV.d (.str ⟨#[c]⟩)).eraseIdx n.toNat)), Sl.is (.d (.str _)), Sl.no] = _
        rw [map_erase]
      · rw [List.length_eraseIdx_of_lt hn]; omega
      · rw [Str.length_append, hS]; rfl
      · rw [cps_cat, List.append_assoc]
        have p : (L[n.toNat] :: L.eraseIdx n.toNat).Perm L := perm_erase L _ hn
        exact ((List.Perm.append_left S.cps.toList p).nodup_iff).mpr hnd2
  · rintro δ ⟨pv, L, S, rfl, hpv, hL, hS, hnd2⟩
    exact lss_one (ls_ret (le_q (lq_v (EV.v 3 (i := 3) (nm := "signs") rfl rfl) rfl) ⟨_, ⟨S, pv, rfl, by rw [hS]; simp [intsD_len], (List.nodup_append.mp hnd2).1, hpv, rfl⟩, rfl, trivial⟩))
-- _law_word: ['pool', 'signs', 'longest', 'word', 'k']
theorem ok_word (T : Tp K mg) : Cal P w K mg base 3 "_law_word" ["pool", "signs", "longest"] S_word := by
  refine cal_of (k := 2) T (N := ["pool", "signs", "longest", "word", "k"]) 43 43 rfl rfl (fun _ _ _ _ _ _ us hl => match us, hl with | [_, _, _], _ => rfl) [true, false, false] rfl (by decide +kernel) (fun γ xs h => ?_) ?_
  · first | exact congrArg List.length (show _ = _ from h) | exact congrArg List.length (show _ ∧ _ from h).1
  intro cdv A outer s H E γ vs xs hr hl hpre
  obtain ⟨v0, v1, v2, rfl⟩ : ∃ v0 v1 v2, vs = [v0, v1, v2] := by
    match vs, hl with
    | [a0, a1, a2], _ => exact ⟨a0, a1, a2, rfl⟩
  have hnd : (["pool", "signs", "longest", "word", "k"] : List Str).Nodup := by decide +kernel
  obtain ⟨pv, S, mx⟩ := γ
  obtain ⟨rfl, hpv, (hS0 : 0 < S.length), (hS1 : S.length ≤ 1000), (hm : mx ≤ 1000)⟩ := hpre
  dsimp only
  have EV : Ev (cxOf (L2.CX P w) P w K mg base ["pool", "signs", "longest", "word", "k"] "_law_word" (defScope (Hd.topS 61)) (He.ga K "_law_word") cdv A outer s H E) ["pool", "signs", "longest", "word", "k"] [0, 1, 2, 3, 4] [0, 1, 2, 3, 4] ["range", "_law_draw", "len"] := ⟨rfl, (by decide +kernel : evB (defScope (Hd.topS 61)) ["pool", "signs", "longest", "word", "k"] [0, 1, 2, 3, 4] [0, 1, 2, 3, 4] ["range", "_law_draw", "len"] = true)⟩
  refine lss_cons (sx_set (EV.l 3 (i := 3) (nm := "word") rfl rfl) hnd rfl (le_q lq_str ⟨rfl, ?_⟩))
  refine lss_cons (ls_for (passes_of rfl) rfl (li_range1 (fr_range T) (ld_cons (ex_draw (EV.g 1 (nm := "_law_draw") rfl) (ok_draw T) hr (by decide) (EV.v 0 (i := 0) (nm := "pool") rfl rfl) rfl hpv (lq_plus (lq_v (EV.v 2 (i := 2) (nm := "longest") rfl rfl) rfl) lq_int (by walk_at "c") (by walk_at "len")) (by omega) (by omega) fun n pv' h0 h1 hp' => ⟨_, .d, ld_nil ⟨n, rfl, by omega, by omega, fun i δ => ∃ pv z, δ = [.lk v0 pv, .is (.d (.str S)), .is (.d (.int (mx : Nat))), .is (.d (.str z)), .no] ∧ PoolV pv ∧ z.length = i ∧ Over S z, ⟨pv', _, rfl, hp', by decide +kernel, Over.empty⟩, ?_, ?_⟩⟩)) (EV.g 0 (nm := "range") rfl).g))
  · rintro i d δ hd ⟨pv, z, rfl, hpv, hz, ov⟩
    obtain ⟨hi, rfl⟩ := intsD_get hd
    have hi' : i ≤ 1000 := by omega
    refine gx_name (EV.l 4 (i := 4) (nm := "k") rfl rfl) hnd rfl rfl ?_
    refine lss_cons (sx_set (EV.l 3 (i := 3) (nm := "word") rfl rfl) hnd rfl (le_cat (le_q (lq_v (EV.v 3 (i := 3) (nm := "word") rfl rfl) rfl) ⟨_, rfl, ?_⟩)))
    refine le_ix (le_q (lq_v (EV.v 1 (i := 1) (nm := "signs") rfl rfl) rfl) ⟨_, .d, ?_⟩)
    refine ex_draw (EV.g 1 (nm := "_law_draw") rfl) (ok_draw T) hr (by decide) (EV.v 0 (i := 0) (nm := "pool") rfl rfl) rfl hpv (lq_len (fr_len T) (lq_v (EV.v 1 (i := 1) (nm := "signs") rfl rfl) rfl) (by walk_at "ix") (by walk_at "len") (EV.g 2 (nm := "len") rfl).g) (by omega) (by omega) fun n2 pv2 h2 h3 hp2 => ?_
    have hn : n2.toNat < S.cps.toList.length := by rw [Array.length_toList]; show _ < S.length; omega
    refine ⟨n2, .str ⟨#[S.cps.toList[n2.toNat]]⟩, rfl, .inr (.inr ⟨S, S.cps.toList[n2.toNat], rfl, by simp [sizeLine]; omega, ?_, rfl⟩), _, rfl, ?_, rfl, ?_⟩
    · have := at_nat (List.getElem?_eq_getElem hn)
      rwa [Int.toNat_of_nonneg h2] at this
    · show z.length + 1 ≤ sizeLine
      rw [hz]; simp [sizeLine]; omega
    · refine lss_drop 4 (lss_nil ⟨pv2, z ++ ⟨#[S.cps.toList[n2.toNat]]⟩, rfl, hp2, by rw [Str.length_append, hz]; rfl, ov.cat (.one (List.getElem_mem hn))⟩)
  · rintro δ ⟨pv, z, rfl, hpv, hz, ov⟩
    rw [intsD_len] at hz
    exact lss_one (ls_ret (le_q (lq_v (EV.v 3 (i := 3) (nm := "word") rfl rfl) rfl) ⟨_, ⟨z, pv, rfl, by show z.length ≤ mx; omega, ov, hpv, rfl⟩, rfl, trivial⟩))
end
end Z
set_option maxHeartbeats 400000
namespace Z
open PySem PySem.Spec PyProof.Rows L2
local macro_rules | `(tactic| walk_at "len") => `(tactic| (intro zz hz; first | (cases hz; done) | (injection hz with hz; subst hz; first | assumption | (simp only [PySem.Str.length_append, Str.length] at *; simp [sizeLine] at *; omega))))
local macro_rules | `(tactic| walk_at "c") => `(tactic| first | rfl | assumption | decide | omega)
local macro_rules | `(tactic| walk_at "ix") => `(tactic| first | assumption | rfl)
local macro_rules | `(tactic| walk_at "mem") => `(tactic| assumption)
local macro_rules | `(tactic| walk_at "sz") => `(tactic| first | assumption | omega)
local macro_rules | `(tactic| walk_at "mul") => `(tactic| first | exact .inr ⟨by decide, by decide⟩ | exact .inl ⟨by decide, by decide⟩)
local macro_rules | `(tactic| walk_at "div") => `(tactic| first | exact ⟨by decide, by decide⟩ | exact ⟨by omega, by omega⟩)
local macro_rules | `(tactic| walk_at "cmp") => `(tactic| first | exact c_lt | exact c_le | exact c_gt | exact c_ge | exact c_eqI | exact c_neI | exact c_eqS | exact c_neS | exact c_eqB | exact c_isN | exact c_notN | exact c_inS | exact c_notInS)
/-! ### the checks, told of data -/
mutual
def fitD : PyData → Bool
  | .str s => decide (s.length ≤ 1000)
  | .list xs => fitAll xs
  | .tuple xs => fitAll xs
  | _ => true
def fitAll : List PyData → Bool
  | [] => true
  | x :: xs => fitD x && fitAll xs
end
theorem fitAll_iff {xs : List PyData} : fitAll xs = true ↔ ∀ x ∈ xs, fitD x = true := by
  induction xs with
  | nil => simp [fitAll]
  | cons x xs ih => simp [fitAll, ih]
theorem fit_at {xs : List PyData} {x : PyData} (h : fitD (.tuple xs) = true) (m : x ∈ xs) : fitD x = true := fitAll_iff.mp h x m
theorem fit_str {s : Str} (h : fitD (.str s) = true) : s.length ≤ 1000 := by simpa [fitD] using h
def isTextD (S : Str) : PyData → Bool
  | .str z => z.cps.toList.all fun c => decide (c ∈ S.cps.toList)
  | _ => false
def isNumD (n : Int) : PyData → Bool
  | .int i => decide (0 ≤ i) && decide (i < n)
  | _ => false
def isStepD (S : Str) (n : Int) : PyData → Bool
  | .none => true
  | .tuple [a, b] => isTextD S a && isNumD n b
  | _ => false
def S_isText : Spec (Str × PyData) where
  pre γ xs := xs = [.d (.str γ.1), .d γ.2] ∧ fitD γ.2 = true
  post γ r ys := r = .d (.bool (isTextD γ.1 γ.2))
def S_isNum : Spec (PyData × Int) where
  pre γ xs := xs = [.d γ.1, .d (.int γ.2)]
  post γ r ys := r = .d (.bool (isNumD γ.2 γ.1))
def S_isStep : Spec (Str × PyData × Int) where
  pre γ xs := xs = [.d (.str γ.1), .d γ.2.1, .d (.int γ.2.2)] ∧ fitD γ.2.1 = true
  post γ r ys := r = .d (.bool (isStepD γ.1 γ.2.2 γ.2.1))
section
variable {P : Program} {w : World} {K : PySem.W.Frag} {mg : Str → Option Value} {base : Heap}
-- is_text_of: ['signs', 'value', 'char']
theorem ok_isText (T : Tp K mg) : Cal P w K mg base 1 "is_text_of" ["signs", "value"] S_isText := by
  refine cal_of (k := 0) T (N := ["signs", "value", "char"]) 1 1 rfl rfl (fun _ _ _ _ _ _ us hl => match us, hl with | [_, _], _ => rfl) [false, false] rfl (by decide +kernel) (fun γ xs h => ?_) ?_
  · first | exact congrArg List.length (show _ = _ from h) | exact congrArg List.length (show _ ∧ _ from h).1
  intro cdv A outer s H E γ vs xs hr hl hpre
  obtain ⟨v0, v1, rfl⟩ : ∃ v0 v1, vs = [v0, v1] := by
    match vs, hl with
    | [a0, a1], _ => exact ⟨a0, a1, rfl⟩
  have hnd : (["signs", "value", "char"] : List Str).Nodup := by decide +kernel
  obtain ⟨S, v⟩ := γ
  obtain ⟨rfl, (hf : fitD v = true)⟩ := hpre
  dsimp only
  have EV : Ev (cxOf (L2.CX P w) P w K mg base ["signs", "value", "char"] "is_text_of" (defScope (Hd.topS 7)) (He.ga K "is_text_of") cdv A outer s H E) ["signs", "value", "char"] [0, 1] [0, 1] ["isinstance", "str", "all"] := ⟨rfl, (by decide +kernel : evB (defScope (Hd.topS 7)) ["signs", "value", "char"] [0, 1] [0, 1] ["isinstance", "str", "all"] = true)⟩
  refine lss_cons (ls_ifb (lb_not (lb_val (lq_isi (Tn := "str") (fr_isinstance T) (fr_str T) (by kernel_rfl) (lq_v (EV.v 1 (i := 1) (nm := "value") rfl rfl) rfl) (by decide +kernel) (EV.g 0 (nm := "isinstance") rfl).g (EV.g 1 (nm := "str") rfl).g))) (fun hc => ?_) (fun hc => ?_))
  · refine lss_one (ls_ret (le_q lq_bool ⟨[], ?_, trivial⟩))
    rw [isTy_str] at hc
    cases v <;> first | rfl | simp at hc
  · rw [isTy_str] at hc
    cases v with
    | str z =>
      have hz := fit_str hf
      refine lss_nil (lss_one (ls_ret (le_all rfl (fr_all T) ?_ (EV.g 2 (nm := "all") rfl).g)))
      refine cx_map (N := ["signs", "value", "char"]) (vs := [2, 0]) (ls := [2]) (gs := []) hnd rfl (show BlkOk ["signs", "value", "char"] (defScope (Hd.topS 7)) _ [("char", 2)] from blkOk_by (by decide +kernel)) rfl (show evB (relS _ (defScope (Hd.topS 7))) _ _ _ _ = true by decide +kernel) 0 rfl rfl (show ownB _ (defScope (Hd.topS 7)) _ = true by decide +kernel) (fun d => match d with | .str c => .bool (isTextD S (.str c)) | _ => .none) (li_str (le_q (lq_v (EV.v 1 (i := 1) (nm := "value") rfl rfl) rfl) ⟨z, rfl, ?_, rfl, ?_, ?_⟩))
      · unfold signsD; rw [List.length_map, Array.length_toList]; exact Nat.le_trans hz (by decide)
      · intro d hd s H C cl fp EB
        obtain ⟨c, hc, rfl⟩ := List.mem_map.mp (show d ∈ z.cps.toList.map _ from hd)
        refine le_q (lq_cmp (lq_v (EB.v 0 (i := 2) (nm := "char") rfl rfl) rfl) (lq_v (EB.v 1 (i := 0) (nm := "signs") rfl rfl) rfl) (by walk_at "cmp")) ⟨?_, rfl⟩
        simp [isTextD]
      · refine ⟨z.cps.toList.map fun c => decide (c ∈ S.cps.toList), ?_, [], ?_, trivial⟩
        · have : (signsD z).map (fun d => match d with | .str c => PyData.bool (isTextD S (.str c)) | _ => .none) = (z.cps.toList.map fun c => decide (c ∈ S.cps.toList)).map PyData.bool := by
            unfold signsD
            rw [List.map_map, List.map_map]
            apply List.map_congr_left
            intro c hc
            simp [isTextD]
          rw [this]
          exact fz_map
        · show LV.d _ = LV.d _
          simp [isTextD]
    | _ => simp at hc
-- is_number_below: ['value', 'many']
theorem ok_isNum (T : Tp K mg) : Cal P w K mg base 1 "is_number_below" ["value", "many"] S_isNum := by
  refine cal_of (k := 0) T (N := ["value", "many"]) 5 5 rfl rfl (fun _ _ _ _ _ _ us hl => match us, hl with | [_, _], _ => rfl) [false, false] rfl (by decide +kernel) (fun γ xs h => ?_) ?_
  · first | exact congrArg List.length (show _ = _ from h) | exact congrArg List.length (show _ ∧ _ from h).1
  intro cdv A outer s H E γ vs xs hr hl hpre
  obtain ⟨v0, v1, rfl⟩ : ∃ v0 v1, vs = [v0, v1] := by
    match vs, hl with
    | [a0, a1], _ => exact ⟨a0, a1, rfl⟩
  have hnd : (["value", "many"] : List Str).Nodup := by decide +kernel
  obtain ⟨v, n⟩ := γ
  obtain rfl := hpre
  dsimp only
  have EV : Ev (cxOf (L2.CX P w) P w K mg base ["value", "many"] "is_number_below" (defScope (Hd.topS 15)) (He.ga K "is_number_below") cdv A outer s H E) ["value", "many"] [0, 1] [0, 1] ["isinstance", "int", "bool"] := ⟨rfl, (by decide +kernel : evB (defScope (Hd.topS 15)) ["value", "many"] [0, 1] [0, 1] ["isinstance", "int", "bool"] = true)⟩
  refine lss_cons (ls_ifb (LBw.lb (lbw_or (lb_not (lb_val (lq_isi (Tn := "int") (fr_isinstance T) (fr_int T) (by kernel_rfl) (lq_v (EV.v 0 (i := 0) (nm := "value") rfl rfl) rfl) (by decide +kernel) (EV.g 0 (nm := "isinstance") rfl).g (EV.g 1 (nm := "int") rfl).g))) fun hb => (lbw_or1 (lb_val (lq_isi (Tn := "bool") (fr_isinstance T) (fr_bool T) (by kernel_rfl) (lq_v (EV.v 0 (i := 0) (nm := "value") rfl rfl) rfl) (by decide +kernel) (EV.g 0 (nm := "isinstance") rfl).g (EV.g 2 (nm := "bool") rfl).g))))) (fun hc => ?_) (fun hc => ?_))
  · refine lss_one (ls_ret (le_q lq_bool ⟨[], ?_, trivial⟩))
    rw [isTy_int, isTy_bool] at hc
    cases v <;> first | rfl | simp at hc
  · rw [isTy_int, isTy_bool] at hc
    cases v with
    | int i => exact lss_nil (lss_one (ls_ret (le_q (lq_chainI op_le op_lt lq_int (lq_v (EV.v 0 (i := 0) (nm := "value") rfl rfl) rfl) (lq_v (EV.v 1 (i := 1) (nm := "many") rfl rfl) rfl)) ⟨[], rfl, trivial⟩)))
    | _ => simp at hc
end
end Z
set_option maxHeartbeats 400000
namespace Z
open PySem PySem.Spec PyProof.Rows L2
local macro_rules | `(tactic| walk_at "len") => `(tactic| (intro zz hz; first | (cases hz; done) | (injection hz with hz; subst hz; first | assumption | (simp only [PySem.Str.length_append, Str.length] at *; simp [sizeLine] at *; omega))))
local macro_rules | `(tactic| walk_at "c") => `(tactic| first | rfl | assumption | decide | omega)
local macro_rules | `(tactic| walk_at "ix") => `(tactic| first | assumption | rfl)
local macro_rules | `(tactic| walk_at "mem") => `(tactic| assumption)
local macro_rules | `(tactic| walk_at "sz") => `(tactic| first | assumption | omega)
local macro_rules | `(tactic| walk_at "mul") => `(tactic| first | exact .inr ⟨by decide, by decide⟩ | exact .inl ⟨by decide, by decide⟩)
local macro_rules | `(tactic| walk_at "div") => `(tactic| first | exact ⟨by decide, by decide⟩ | exact ⟨by omega, by omega⟩)
local macro_rules | `(tactic| walk_at "cmp") => `(tactic| first | exact c_lt | exact c_le | exact c_gt | exact c_ge | exact c_eqI | exact c_neI | exact c_eqS | exact c_neS | exact c_eqB | exact c_isN | exact c_notN | exact c_inS | exact c_notInS)
def isStateD (S : Str) (n : Int) : PyData → Bool
  | .tuple [e, .tuple row] => (isNone e || isTextD S e) && (decide (row.length = S.length) && row.all (isStepD S n))
  | _ => false
def areSigns (S : Str) : Bool := decide (1 ≤ S.length) && (decide (S.length ≤ 5) && decide (distinct S = S.length))
def noText : PyData → Bool
  | .str z => decide (z = Str.ofString "")
  | _ => false
def isPlainD : PyData → Bool
  | .tuple [.str S, b, .tuple sts] => areSigns S && (isTextD S b && (decide (sts.length ≤ 2000) && (if sts.length = 0 then noText b else sts.all (isStateD S sts.length))))
  | _ => false
def S_areSigns : Spec Str where
  pre γ xs := xs = [.d (.str γ)] ∧ γ.length ≤ 1000
  post γ r ys := r = .d (.bool (areSigns γ))
def S_isState : Spec (Str × PyData × Int) where
  pre γ xs := xs = [.d (.str γ.1), .d γ.2.1, .d (.int γ.2.2)] ∧ fitD γ.2.1 = true ∧ γ.1.length ≤ 1000
  post γ r ys := r = .d (.bool (isStateD γ.1 γ.2.2 γ.2.1))
def S_isPlain : Spec PyData where
  pre γ xs := xs = [.d γ] ∧ fitD γ = true
  post γ r ys := r = .d (.bool (isPlainD γ))
theorem tup_or (v : PyData) : (∃ ds, v = .tuple ds) ∨ isTy "tuple" v = false := by
  rw [isTy_tuple]
  cases v with
  | tuple ds => exact .inl ⟨ds, rfl⟩
  | _ => exact .inr rfl
theorem str_or (v : PyData) : (∃ z, v = .str z) ∨ isTy "str" v = false := by
  rw [isTy_str]
  cases v with
  | str ds => exact .inl ⟨ds, rfl⟩
  | _ => exact .inr rfl
theorem isTy_tup (ds : List PyData) : isTy "tuple" (.tuple ds) = true := by rw [isTy_tuple]
theorem isTy_st (ds : Str) : isTy "str" (.str ds) = true := by rw [isTy_str]
section
variable {P : Program} {w : World} {K : PySem.W.Frag} {mg : Str → Option Value} {base : Heap}
-- is_plain_step: ['signs', 'value', 'many']
theorem ok_isStep (T : Tp K mg) : Cal P w K mg base 2 "is_plain_step" ["signs", "value", "many"] S_isStep := by
  refine cal_of (k := 1) T (N := ["signs", "value", "many"]) 6 6 rfl rfl (fun _ _ _ _ _ _ us hl => match us, hl with | [_, _, _], _ => rfl) [false, false, false] rfl (by decide +kernel) (fun γ xs h => ?_) ?_
  · first | exact congrArg List.length (show _ = _ from h) | exact congrArg List.length (show _ ∧ _ from h).1
  intro cdv A outer s H E γ vs xs hr hl hpre
  obtain ⟨v0, v1, v2, rfl⟩ : ∃ v0 v1 v2, vs = [v0, v1, v2] := by
    match vs, hl with
    | [a0, a1, a2], _ => exact ⟨a0, a1, a2, rfl⟩
  have hnd : (["signs", "value", "many"] : List Str).Nodup := by decide +kernel
  obtain ⟨S, v, n⟩ := γ
  obtain ⟨rfl, (hf : fitD v = true)⟩ := hpre
  dsimp only
  have EV : Ev (cxOf (L2.CX P w) P w K mg base ["signs", "value", "many"] "is_plain_step" (defScope (Hd.topS 16)) (He.ga K "is_plain_step") cdv A outer s H E) ["signs", "value", "many"] [0, 1, 2] [0, 1, 2] ["isinstance", "tuple", "len", "is_text_of", "is_number_below"] := ⟨rfl, (by decide +kernel : evB (defScope (Hd.topS 16)) ["signs", "value", "many"] [0, 1, 2] [0, 1, 2] ["isinstance", "tuple", "len", "is_text_of", "is_number_below"] = true)⟩
  refine lss_cons (ls_ifb (lb_cmp (lq_v (EV.v 1 (i := 1) (nm := "value") rfl rfl) rfl) lq_none (by walk_at "cmp")) (fun hc => ?_) (fun hc => ?_))
  · refine lss_one (ls_ret (le_q lq_bool ⟨[], ?_, trivial⟩))
    cases v <;> first | rfl | simp [isNone] at hc
  refine lss_nil ?_
  rcases tup_or v with ⟨ds, rfl⟩ | ht
  · refine lss_cons (ls_ifb (p := decide (ds.length ≠ 2)) (LB.cast (LBw.lb (lbw_or (lb_not (lb_val (lq_isi (Tn := "tuple") (fr_isinstance T) (fr_tuple T) (by kernel_rfl) (lq_v (EV.v 1 (i := 1) (nm := "value") rfl rfl) rfl) (by decide +kernel) (EV.g 0 (nm := "isinstance") rfl).g (EV.g 1 (nm := "tuple") rfl).g))) fun hb => (lbw_or1 (lb_cmp (lq_len (fr_len T) (lq_v (EV.v 1 (i := 1) (nm := "value") rfl rfl) rfl) (by walk_at "ix") (by walk_at "len") (EV.g 2 (nm := "len") rfl).g) lq_int (by walk_at "cmp"))))) (by simp [isTy_tup] <;> omega)) (fun hc => ?_) (fun hc => ?_))
    · refine lss_one (ls_ret (le_q lq_bool ⟨[], ?_, trivial⟩))
      match ds, hc with
      | [], _ => rfl
      | [_], _ => rfl
      | [_, _], hc => simp at hc
      | _ :: _ :: _ :: _, _ => rfl
    · obtain ⟨a, b, rfl⟩ : ∃ a b, ds = [a, b] := by
        match ds, hc with
        | [a, b], _ => exact ⟨a, b, rfl⟩
        | [], hc => simp at hc
        | [_], hc => simp at hc
        | _ :: _ :: _ :: _, hc => simp at hc
      refine lss_nil (lss_one (ls_ret (le_and (ex_calQ (EV.g 3 (nm := "is_text_of") rfl) (ok_isText T) hr (by decide) (lqs_cons (lq_v (EV.v 0 (i := 0) (nm := "signs") rfl rfl) rfl) (lqs_cons (lq_ix (lq_v (EV.v 1 (i := 1) (nm := "value") rfl rfl) rfl) lq_int (by walk_at "ix") (by walk_at "len")) .nil)) (S, a) ⟨rfl, fit_at hf (by simp)⟩ (fun r ys h => ?_) (fun _ _ h => h.elim)))))
      subst h
      refine ⟨_, rfl, ?_⟩
      cases hta : isTextD S a with
      | false =>
        rw [if_neg Bool.false_ne_true]
        exact ⟨[], by show _ = LV.d (.bool (isTextD S a && isNumD n b)); rw [hta]; rfl, trivial⟩
      | true =>
        rw [if_pos rfl]
        refine le_one (ex_calQ (EV.g 4 (nm := "is_number_below") rfl) (ok_isNum T) hr (by decide) (lqs_cons (lq_ix (lq_v (EV.v 1 (i := 1) (nm := "value") rfl rfl) rfl) lq_int (by walk_at "ix") (by walk_at "len")) (lqs_cons (lq_v (EV.v 2 (i := 2) (nm := "many") rfl rfl) rfl) .nil)) (b, n) rfl (fun r ys h => ?_) (fun _ _ h => h.elim))
        subst h
        exact ⟨[], by show _ = LV.d (.bool (isTextD S a && isNumD n b)); rw [hta]; rfl, trivial⟩
  · refine lss_cons (ls_ifb (lb_or_t (LB.cast (lb_not (lb_val (lq_isi (Tn := "tuple") (fr_isinstance T) (fr_tuple T) (by kernel_rfl) (lq_v (EV.v 1 (i := 1) (nm := "value") rfl rfl) rfl) (by decide +kernel) (EV.g 0 (nm := "isinstance") rfl).g (EV.g 1 (nm := "tuple") rfl).g))) (by rw [ht]; rfl))) (fun hc => ?_) (fun hc => nomatch hc))
    refine lss_one (ls_ret (le_q lq_bool ⟨[], ?_, trivial⟩))
    rw [isTy_tuple] at ht
    cases v <;> first | rfl | (simp [isNone] at hc; done) | (simp at ht; done)
-- are_signs: ['signs']
theorem ok_areSigns (T : Tp K mg) : Cal P w K mg base 1 "are_signs" ["signs"] S_areSigns := by
  refine cal_of (k := 0) T (N := ["signs"]) 0 0 rfl rfl (fun _ _ _ _ _ _ us hl => match us, hl with | [_], _ => rfl) [false] rfl (by decide +kernel) (fun γ xs h => ?_) ?_
  · first | exact congrArg List.length (show _ = _ from h) | exact congrArg List.length (show _ ∧ _ from h).1
  intro cdv A outer s H E γ vs xs hr hl hpre
  obtain ⟨v0, rfl⟩ : ∃ v0, vs = [v0] := by
    match vs, hl with
    | [a0], _ => exact ⟨a0, rfl⟩
  have hnd : (["signs"] : List Str).Nodup := by decide +kernel
  obtain ⟨rfl, (hf : γ.length ≤ 1000)⟩ := hpre
  have EV : Ev (cxOf (L2.CX P w) P w K mg base ["signs"] "are_signs" (defScope (Hd.topS 6)) (He.ga K "are_signs") cdv A outer s H E) ["signs"] [0] [0] ["len", "MOST_SIGNS", "set"] := ⟨rfl, (by decide +kernel : evB (defScope (Hd.topS 6)) ["signs"] [0] [0] ["len", "MOST_SIGNS", "set"] = true)⟩
  have hsz : γ.length ≤ sizeLine := Nat.le_trans hf (by decide)
  have hsz2 : γ.cps.size + 1 < scanBound := by
    have : γ.cps.size ≤ 1000 := hf
    unfold scanBound
    omega
  refine lss_one (ls_ret (le_q (lq_and (lq_chainI op_le op_le lq_int (lq_len (fr_len T) (lq_v (EV.v 0 (i := 0) (nm := "signs") rfl rfl) rfl) (by walk_at "ix") (by walk_at "len") (EV.g 0 (nm := "len") rfl).g) (lq_gi (EV.g 1 (nm := "MOST_SIGNS") rfl) (gi_MOST_SIGNS T))) (fun hb => lq_one (lq_cmp (lq_lenSetS rfl (fr_len T) (fr_set T) (lq_v (EV.v 0 (i := 0) (nm := "signs") rfl rfl) rfl) (by walk_at "sz") (EV.g 0 (nm := "len") rfl).g (EV.g 2 (nm := "set") rfl).g) (lq_len (fr_len T) (lq_v (EV.v 0 (i := 0) (nm := "signs") rfl rfl) rfl) (by walk_at "ix") (by walk_at "len") (EV.g 0 (nm := "len") rfl).g) c_eqI))) ⟨[], ?_, trivial⟩))
  show LV.d _ = LV.d (.bool (areSigns γ))
  unfold areSigns
  rw [Bool.and_assoc]
  congr 2
  have e1 : decide ((1 : Int) ≤ (γ.length : Int)) = decide (1 ≤ γ.length) := by simp <;> omega
  have e2 : decide ((γ.length : Int) ≤ 5) = decide (γ.length ≤ 5) := by simp <;> omega
  have e3 : decide ((distinct γ : Int) = (γ.length : Int)) = decide (distinct γ = γ.length) := by simp <;> omega
  rw [e1, e2, e3]
end
end Z
set_option maxHeartbeats 400000
namespace Z
open PySem PySem.Spec PyProof.Rows L2
local macro_rules | `(tactic| walk_at "len") => `(tactic| (intro zz hz; first | (cases hz; done) | (injection hz with hz; subst hz; first | assumption | (simp only [PySem.Str.length_append, Str.length] at *; simp [sizeLine] at *; omega))))
local macro_rules | `(tactic| walk_at "c") => `(tactic| first | rfl | assumption | decide | omega)
local macro_rules | `(tactic| walk_at "ix") => `(tactic| first | assumption | rfl)
local macro_rules | `(tactic| walk_at "mem") => `(tactic| assumption)
local macro_rules | `(tactic| walk_at "sz") => `(tactic| first | assumption | omega)
local macro_rules | `(tactic| walk_at "mul") => `(tactic| first | exact .inr ⟨by decide, by decide⟩ | exact .inl ⟨by decide, by decide⟩)
local macro_rules | `(tactic| walk_at "div") => `(tactic| first | exact ⟨by decide, by decide⟩ | exact ⟨by omega, by omega⟩)
local macro_rules | `(tactic| walk_at "cmp") => `(tactic| first | exact c_lt | exact c_le | exact c_gt | exact c_ge | exact c_eqI | exact c_neI | exact c_eqS | exact c_neS | exact c_eqB | exact c_isN | exact c_notN | exact c_inS | exact c_notInS)
theorem fit_len : ∀ {ds : List PyData}, fitD (.tuple ds) = true → True := fun _ => trivial
theorem two_or (ds : List PyData) : (∃ a b, ds = [a, b]) ∨ ds.length ≠ 2 := by
  match ds with
  | [a, b] => exact .inl ⟨a, b, rfl⟩
  | [] => exact .inr (by simp)
  | [_] => exact .inr (by simp)
  | _ :: _ :: _ :: _ => exact .inr (by simp)
theorem three_or (ds : List PyData) : (∃ a b c, ds = [a, b, c]) ∨ ds.length ≠ 3 := by
  match ds with
  | [a, b, c] => exact .inl ⟨a, b, c, rfl⟩
  | [] => exact .inr (by simp)
  | [_] => exact .inr (by simp)
  | [_, _] => exact .inr (by simp)
  | _ :: _ :: _ :: _ :: _ => exact .inr (by simp)
theorem state_no {S : Str} {n : Int} {v : PyData} (h : ∀ a b, v ≠ .tuple [a, .tuple b]) : isStateD S n v = false := by
  unfold isStateD
  split
  · rename_i e row
    exact absurd rfl (h e row)
  · rfl
section
variable {P : Program} {w : World} {K : PySem.W.Frag} {mg : Str → Option Value} {base : Heap}
-- is_plain_state: ['signs', 'value', 'many', 'end', 'row', 'step']
theorem ok_isState (T : Tp K mg) : Cal P w K mg base 3 "is_plain_state" ["signs", "value", "many"] S_isState := by
  refine cal_of (k := 2) T (N := ["signs", "value", "many", "end", "row", "step"]) 7 7 rfl rfl (fun _ _ _ _ _ _ us hl => match us, hl with | [_, _, _], _ => rfl) [false, false, false] rfl (by decide +kernel) (fun γ xs h => ?_) ?_
  · first | exact congrArg List.length (show _ = _ from h) | exact congrArg List.length (show _ ∧ _ from h).1
  intro cdv A outer s H E γ vs xs hr hl hpre
  obtain ⟨v0, v1, v2, rfl⟩ : ∃ v0 v1 v2, vs = [v0, v1, v2] := by
    match vs, hl with
    | [a0, a1, a2], _ => exact ⟨a0, a1, a2, rfl⟩
  have hnd : (["signs", "value", "many", "end", "row", "step"] : List Str).Nodup := by decide +kernel
  obtain ⟨S, v, n⟩ := γ
  obtain ⟨rfl, (hf : fitD v = true), (hS : S.length ≤ 1000)⟩ := hpre
  dsimp only
  have EV : Ev (cxOf (L2.CX P w) P w K mg base ["signs", "value", "many", "end", "row", "step"] "is_plain_state" (defScope (Hd.topS 17)) (He.ga K "is_plain_state") cdv A outer s H E) ["signs", "value", "many", "end", "row", "step"] [0, 1, 2, 3, 4] [0, 1, 2, 3, 4] ["isinstance", "tuple", "len", "is_text_of", "all"] := ⟨rfl, (by decide +kernel : evB (defScope (Hd.topS 17)) ["signs", "value", "many", "end", "row", "step"] [0, 1, 2, 3, 4] [0, 1, 2, 3, 4] ["isinstance", "tuple", "len", "is_text_of", "all"] = true)⟩
  have hsz : S.length ≤ sizeLine := Nat.le_trans hS (by decide)
  rcases tup_or v with ⟨ds, rfl⟩ | ht
  rotate_left
  · refine lss_cons (ls_ifb (lb_or_t (LB.cast (lb_not (lb_val (lq_isi (Tn := "tuple") (fr_isinstance T) (fr_tuple T) (by kernel_rfl) (lq_v (EV.v 1 (i := 1) (nm := "value") rfl rfl) rfl) (by decide +kernel) (EV.g 0 (nm := "isinstance") rfl).g (EV.g 1 (nm := "tuple") rfl).g))) (by rw [ht]; rfl))) (fun hc => ?_) (fun hc => nomatch hc))
    refine lss_one (ls_ret (le_q lq_bool ⟨[], ?_, trivial⟩))
    show LV.d _ = LV.d (.bool (isStateD S n v))
    rw [state_no]
    rintro a b rfl
    rw [isTy_tup] at ht
    cases ht
  rcases two_or ds with ⟨a, b, rfl⟩ | h2
  rotate_left
  · refine lss_cons (ls_ifb (p := true) (LB.cast (LBw.lb (lbw_or (lb_not (lb_val (lq_isi (Tn := "tuple") (fr_isinstance T) (fr_tuple T) (by kernel_rfl) (lq_v (EV.v 1 (i := 1) (nm := "value") rfl rfl) rfl) (by decide +kernel) (EV.g 0 (nm := "isinstance") rfl).g (EV.g 1 (nm := "tuple") rfl).g))) fun hb => (lbw_or1 (lb_cmp (lq_len (fr_len T) (lq_v (EV.v 1 (i := 1) (nm := "value") rfl rfl) rfl) (by walk_at "ix") (by walk_at "len") (EV.g 2 (nm := "len") rfl).g) lq_int (by walk_at "cmp"))))) (by simp [isTy_tup]; omega)) (fun hc => ?_) (fun hc => nomatch hc))
    refine lss_one (ls_ret (le_q lq_bool ⟨[], ?_, trivial⟩))
    show LV.d _ = LV.d (.bool (isStateD S n _))
    rw [state_no]
    intro a b e
    cases e
    exact h2 rfl
  refine lss_cons (ls_ifb (p := false) (LB.cast (LBw.lb (lbw_or (lb_not (lb_val (lq_isi (Tn := "tuple") (fr_isinstance T) (fr_tuple T) (by kernel_rfl) (lq_v (EV.v 1 (i := 1) (nm := "value") rfl rfl) rfl) (by decide +kernel) (EV.g 0 (nm := "isinstance") rfl).g (EV.g 1 (nm := "tuple") rfl).g))) fun hb => (lbw_or1 (lb_cmp (lq_len (fr_len T) (lq_v (EV.v 1 (i := 1) (nm := "value") rfl rfl) rfl) (by walk_at "ix") (by walk_at "len") (EV.g 2 (nm := "len") rfl).g) lq_int (by walk_at "cmp"))))) (by simp [isTy_tup])) (fun hc => nomatch hc) (fun hc => lss_nil ?_))
  refine lss_cons (ls_asg (le_q (lq_v (EV.v 1 (i := 1) (nm := "value") rfl rfl) rfl) (gx_tup2 rfl hnd (EV.l 3 (i := 3) (nm := "end") rfl rfl) (EV.l 4 (i := 4) (nm := "row") rfl rfl) rfl rfl rfl rfl ?_)))
  have hfa : fitD a = true := fit_at hf (by simp)
  have hfb : fitD b = true := fit_at hf (by simp)
  have key : ∀ (h : (isNone a || isTextD S a) = true), LSs (cxOf (L2.CX P w) P w K mg base ["signs", "value", "many", "end", "row", "step"] "is_plain_state" (defScope (Hd.topS 17)) (He.ga K "is_plain_state") cdv A outer s H E) ((defBody (Hd.topS 17)).drop 3)
      [.is (.d (.str S)), .is (.d (.tuple [a, b])), .is (.d (.int n)), .is (.d a), .is (.d b), .no] (wOf S_isState (S, .tuple [a, b], n) [v0, v1, v2]) (endsOf S_isState (S, .tuple [a, b], n) [v0, v1, v2]) := by
    intro h
    rcases tup_or b with ⟨row, rfl⟩ | ht
    rotate_left
    · refine lss_cons (ls_ifb (lb_or_t (LB.cast (lb_not (lb_val (lq_isi (Tn := "tuple") (fr_isinstance T) (fr_tuple T) (by kernel_rfl) (lq_v (EV.v 4 (i := 4) (nm := "row") rfl rfl) rfl) (by decide +kernel) (EV.g 0 (nm := "isinstance") rfl).g (EV.g 1 (nm := "tuple") rfl).g))) (by rw [ht]; rfl))) (fun hc => ?_) (fun hc => nomatch hc))
      refine lss_one (ls_ret (le_q lq_bool ⟨[], ?_, trivial⟩))
      show LV.d _ = LV.d (.bool (isStateD S n _))
      rw [state_no]
      intro a b e
      cases e
      rw [isTy_tup] at ht
      cases ht
    by_cases hl : row.length = S.length
    rotate_left
    · refine lss_cons (ls_ifb (p := true) (LB.cast (LBw.lb (lbw_or (lb_not (lb_val (lq_isi (Tn := "tuple") (fr_isinstance T) (fr_tuple T) (by kernel_rfl) (lq_v (EV.v 4 (i := 4) (nm := "row") rfl rfl) rfl) (by decide +kernel) (EV.g 0 (nm := "isinstance") rfl).g (EV.g 1 (nm := "tuple") rfl).g))) fun hb => (lbw_or1 (lb_cmp (lq_len (fr_len T) (lq_v (EV.v 4 (i := 4) (nm := "row") rfl rfl) rfl) (by walk_at "ix") (by walk_at "len") (EV.g 2 (nm := "len") rfl).g) (lq_len (fr_len T) (lq_v (EV.v 0 (i := 0) (nm := "signs") rfl rfl) rfl) (by walk_at "ix") (by walk_at "len") (EV.g 2 (nm := "len") rfl).g) (by walk_at "cmp"))))) (by simp [isTy_tup]; omega)) (fun hc => ?_) (fun hc => nomatch hc))
      refine lss_one (ls_ret (le_q lq_bool ⟨[], ?_, trivial⟩))
      show LV.d _ = LV.d (.bool (isStateD S n _))
      simp [isStateD, hl]
    refine lss_cons (ls_ifb (p := false) (LB.cast (LBw.lb (lbw_or (lb_not (lb_val (lq_isi (Tn := "tuple") (fr_isinstance T) (fr_tuple T) (by kernel_rfl) (lq_v (EV.v 4 (i := 4) (nm := "row") rfl rfl) rfl) (by decide +kernel) (EV.g 0 (nm := "isinstance") rfl).g (EV.g 1 (nm := "tuple") rfl).g))) fun hb => (lbw_or1 (lb_cmp (lq_len (fr_len T) (lq_v (EV.v 4 (i := 4) (nm := "row") rfl rfl) rfl) (by walk_at "ix") (by walk_at "len") (EV.g 2 (nm := "len") rfl).g) (lq_len (fr_len T) (lq_v (EV.v 0 (i := 0) (nm := "signs") rfl rfl) rfl) (by walk_at "ix") (by walk_at "len") (EV.g 2 (nm := "len") rfl).g) (by walk_at "cmp"))))) (by simp [isTy_tup]; omega)) (fun hc => nomatch hc) (fun hc => lss_nil ?_))
    refine lss_one (ls_ret (le_all rfl (fr_all T) ?_ (EV.g 4 (nm := "all") rfl).g))
    refine cx_map (N := ["signs", "value", "many", "end", "row", "step"]) (vs := [0, 5, 2]) (ls := [5]) (gs := ["is_plain_step"]) hnd rfl (show BlkOk ["signs", "value", "many", "end", "row", "step"] (defScope (Hd.topS 17)) _ [("step", 5)] from blkOk_by (by decide +kernel)) rfl (show evB (relS _ (defScope (Hd.topS 17))) _ _ _ _ = true by decide +kernel) 0 rfl rfl (show ownB _ (defScope (Hd.topS 17)) _ = true by decide +kernel) (fun d => .bool (isStepD S n d)) (li_tup (le_q (lq_v (EV.v 4 (i := 4) (nm := "row") rfl rfl) rfl) ⟨row, rfl, by rw [hl]; exact hsz, rfl, ?_, ?_⟩))
    · intro d hd s H C cl fp EB
      refine ex_calQ (EB.g 0 (nm := "is_plain_step") rfl) (ok_isStep T) hr (by decide) (lqs_cons (lq_v (EB.v 0 (i := 0) (nm := "signs") rfl rfl) rfl) (lqs_cons (lq_v (EB.v 1 (i := 5) (nm := "step") rfl rfl) rfl) (lqs_cons (lq_v (EB.v 2 (i := 2) (nm := "many") rfl rfl) rfl) .nil))) (S, d, n) ⟨rfl, fit_at hfb hd⟩ (fun r ys h => ⟨h, rfl⟩) (fun _ _ h => h.elim)
    · refine ⟨row.map (isStepD S n), ?_, [], ?_, trivial⟩
      · have : row.map (fun d => PyData.bool (isStepD S n d)) = (row.map (isStepD S n)).map PyData.bool := by rw [List.map_map]; rfl
        rw [this]
        exact fz_map
      · show LV.d _ = LV.d (.bool (isStateD S n _))
        simp [isStateD, hl, h, List.all_map]
  cases hn : isNone a with
  | true =>
    refine lss_cons (ls_if (LTw.lt (ltw_and (LB.go (LB.cast (q := false) (lb_cmp (lq_v (EV.v 3 (i := 3) (nm := "end") rfl rfl) rfl) lq_none (by walk_at "cmp")) (by simp [hn])) ?_))))
    rw [if_neg Bool.false_ne_true]
    rw [if_neg Bool.false_ne_true]
    exact lss_nil (key (by rw [hn]; rfl))
  | false =>
    refine lss_cons (ls_if (LTw.lt (ltw_and (LB.go (LB.cast (q := true) (lb_cmp (lq_v (EV.v 3 (i := 3) (nm := "end") rfl rfl) rfl) lq_none (by walk_at "cmp")) (by simp [hn])) ?_))))
    rw [if_pos rfl]
    refine ltw_and1 (lt_not (lt_val (ex_calQ (EV.g 3 (nm := "is_text_of") rfl) (ok_isText T) hr (by decide) (lqs_cons (lq_v (EV.v 0 (i := 0) (nm := "signs") rfl rfl) rfl) (lqs_cons (lq_v (EV.v 3 (i := 3) (nm := "end") rfl rfl) rfl) .nil)) (S, a) ⟨rfl, hfa⟩ (fun r ys h => ?_) (fun _ _ h => h.elim))))
    subst h
    refine ⟨_, rfl, ?_⟩
    cases hta : isTextD S a with
    | false =>
      rw [if_pos (show (!false) = true from rfl)]
      refine lss_one (ls_ret (le_q lq_bool ⟨[], ?_, trivial⟩))
      show LV.d _ = LV.d (.bool (isStateD S n _))
      unfold isStateD
      split
      · rename_i h; cases h; simp [hn, hta]
      · rfl
    | true =>
      rw [if_neg (by simp)]
      exact lss_nil (key (by rw [hta]; simp))
end
end Z
set_option maxHeartbeats 400000
namespace Z
open PySem PySem.Spec PyProof.Rows L2
local macro_rules | `(tactic| walk_at "len") => `(tactic| (intro zz hz; first | (cases hz; done) | (injection hz with hz; subst hz; first | assumption | (simp only [PySem.Str.length_append, Str.length] at *; simp [sizeLine] at *; omega))))
local macro_rules | `(tactic| walk_at "c") => `(tactic| first | rfl | assumption | decide | omega)
local macro_rules | `(tactic| walk_at "ix") => `(tactic| first | assumption | rfl)
local macro_rules | `(tactic| walk_at "mem") => `(tactic| assumption)
local macro_rules | `(tactic| walk_at "sz") => `(tactic| first | assumption | omega)
local macro_rules | `(tactic| walk_at "mul") => `(tactic| first | exact .inr ⟨by decide, by decide⟩ | exact .inl ⟨by decide, by decide⟩)
local macro_rules | `(tactic| walk_at "div") => `(tactic| first | exact ⟨by decide, by decide⟩ | exact ⟨by omega, by omega⟩)
local macro_rules | `(tactic| walk_at "cmp") => `(tactic| first | exact c_lt | exact c_le | exact c_gt | exact c_ge | exact c_eqI | exact c_neI | exact c_eqS | exact c_neS | exact c_eqB | exact c_isN | exact c_notN | exact c_inS | exact c_notInS)
theorem plain_no {v : PyData} (h : ∀ S b sts, v ≠ .tuple [.str S, b, .tuple sts]) : isPlainD v = false := by
  unfold isPlainD
  split
  · rename_i S b sts
    exact absurd rfl (h S b sts)
  · rfl
section
variable {P : Program} {w : World} {K : PySem.W.Frag} {mg : Str → Option Value} {base : Heap}
-- is_plain_value: ['value', 'signs', 'begin', 'states', 'state']
theorem ok_isPlain (T : Tp K mg) : Cal P w K mg base 4 "is_plain_value" ["value"] S_isPlain := by
  refine cal_of (k := 3) T (N := ["value", "signs", "begin", "states", "state"]) 8 8 rfl rfl (fun _ _ _ _ _ _ us hl => match us, hl with | [_], _ => rfl) [false] rfl (by decide +kernel) (fun γ xs h => ?_) ?_
  · first | exact congrArg List.length (show _ = _ from h) | exact congrArg List.length (show _ ∧ _ from h).1
  intro cdv A outer s H E γ vs xs hr hl hpre
  obtain ⟨v0, rfl⟩ : ∃ v0, vs = [v0] := by
    match vs, hl with
    | [a0], _ => exact ⟨a0, rfl⟩
  have hnd : (["value", "signs", "begin", "states", "state"] : List Str).Nodup := by decide +kernel
  obtain ⟨rfl, (hf : fitD γ = true)⟩ := hpre
  have EV : Ev (cxOf (L2.CX P w) P w K mg base ["value", "signs", "begin", "states", "state"] "is_plain_value" (defScope (Hd.topS 18)) (He.ga K "is_plain_value") cdv A outer s H E) ["value", "signs", "begin", "states", "state"] [0, 1, 2, 3] [0, 1, 2, 3] ["isinstance", "tuple", "len", "str", "are_signs", "is_text_of", "MOST_PLAIN_STATES", "all"] := ⟨rfl, (by decide +kernel : evB (defScope (Hd.topS 18)) ["value", "signs", "begin", "states", "state"] [0, 1, 2, 3] [0, 1, 2, 3] ["isinstance", "tuple", "len", "str", "are_signs", "is_text_of", "MOST_PLAIN_STATES", "all"] = true)⟩
  rcases tup_or γ with ⟨ds, rfl⟩ | ht
  rotate_left
  · refine lss_cons (ls_ifb (lb_or_t (LB.cast (lb_not (lb_val (lq_isi (Tn := "tuple") (fr_isinstance T) (fr_tuple T) (by kernel_rfl) (lq_v (EV.v 0 (i := 0) (nm := "value") rfl rfl) rfl) (by decide +kernel) (EV.g 0 (nm := "isinstance") rfl).g (EV.g 1 (nm := "tuple") rfl).g))) (by rw [ht]; rfl))) (fun hc => ?_) (fun hc => nomatch hc))
    refine lss_one (ls_ret (le_q lq_bool ⟨[], ?_, trivial⟩))
    show LV.d _ = LV.d (.bool (isPlainD γ))
    rw [plain_no]
    rintro S b sts rfl
    rw [isTy_tup] at ht
    cases ht
  rcases three_or ds with ⟨sv, b, stv, rfl⟩ | h2
  rotate_left
  · refine lss_cons (ls_ifb (p := true) (LB.cast (LBw.lb (lbw_or (lb_not (lb_val (lq_isi (Tn := "tuple") (fr_isinstance T) (fr_tuple T) (by kernel_rfl) (lq_v (EV.v 0 (i := 0) (nm := "value") rfl rfl) rfl) (by decide +kernel) (EV.g 0 (nm := "isinstance") rfl).g (EV.g 1 (nm := "tuple") rfl).g))) fun hb => (lbw_or1 (lb_cmp (lq_len (fr_len T) (lq_v (EV.v 0 (i := 0) (nm := "value") rfl rfl) rfl) (by walk_at "ix") (by walk_at "len") (EV.g 2 (nm := "len") rfl).g) lq_int (by walk_at "cmp"))))) (by simp [isTy_tup]; omega)) (fun hc => ?_) (fun hc => nomatch hc))
    refine lss_one (ls_ret (le_q lq_bool ⟨[], ?_, trivial⟩))
    show LV.d _ = LV.d (.bool (isPlainD _))
    rw [plain_no]
    intro S b sts e
    cases e
    exact h2 rfl
  refine lss_cons (ls_ifb (p := false) (LB.cast (LBw.lb (lbw_or (lb_not (lb_val (lq_isi (Tn := "tuple") (fr_isinstance T) (fr_tuple T) (by kernel_rfl) (lq_v (EV.v 0 (i := 0) (nm := "value") rfl rfl) rfl) (by decide +kernel) (EV.g 0 (nm := "isinstance") rfl).g (EV.g 1 (nm := "tuple") rfl).g))) fun hb => (lbw_or1 (lb_cmp (lq_len (fr_len T) (lq_v (EV.v 0 (i := 0) (nm := "value") rfl rfl) rfl) (by walk_at "ix") (by walk_at "len") (EV.g 2 (nm := "len") rfl).g) lq_int (by walk_at "cmp"))))) (by simp [isTy_tup])) (fun hc => nomatch hc) (fun hc => lss_nil ?_))
  refine lss_cons (ls_asg (le_q (lq_v (EV.v 0 (i := 0) (nm := "value") rfl rfl) rfl) (gx_tup3 rfl hnd (EV.l 1 (i := 1) (nm := "signs") rfl rfl) (EV.l 2 (i := 2) (nm := "begin") rfl rfl) (EV.l 3 (i := 3) (nm := "states") rfl rfl) rfl rfl rfl rfl rfl rfl ?_)))
  have hfb : fitD b = true := fit_at hf (by simp)
  have hfs : fitD stv = true := fit_at hf (by simp)
  rcases str_or sv with ⟨S, rfl⟩ | hs
  rotate_left
  · refine lss_cons (ls_ifb (lb_or_t (LB.cast (lb_not (lb_val (lq_isi (Tn := "str") (fr_isinstance T) (fr_str T) (by kernel_rfl) (lq_v (EV.v 1 (i := 1) (nm := "signs") rfl rfl) rfl) (by decide +kernel) (EV.g 0 (nm := "isinstance") rfl).g (EV.g 3 (nm := "str") rfl).g))) (by rw [hs]; rfl))) (fun hc => ?_) (fun hc => nomatch hc))
    refine lss_one (ls_ret (le_q lq_bool ⟨[], ?_, trivial⟩))
    show LV.d _ = LV.d (.bool (isPlainD _))
    rw [plain_no]
    intro S b sts e
    cases e
    rw [isTy_st] at hs
    cases hs
  have hS : S.length ≤ 1000 := fit_str (fit_at hf (by simp))
  refine lss_cons (ls_if (LTw.lt (ltw_or (LB.go (LB.cast (q := false) (lb_not (lb_val (lq_isi (Tn := "str") (fr_isinstance T) (fr_str T) (by kernel_rfl) (lq_v (EV.v 1 (i := 1) (nm := "signs") rfl rfl) rfl) (by decide +kernel) (EV.g 0 (nm := "isinstance") rfl).g (EV.g 3 (nm := "str") rfl).g))) (by simp [isTy_st])) ?_))))
  rw [if_neg Bool.false_ne_true]
  refine ltw_or1 (lt_not (lt_val (ex_calQ (EV.g 4 (nm := "are_signs") rfl) (ok_areSigns T) hr (by decide) (lqs_cons (lq_v (EV.v 1 (i := 1) (nm := "signs") rfl rfl) rfl) .nil) S ⟨rfl, hS⟩ (fun r ys h => ?_) (fun _ _ h => h.elim))))
  subst h
  refine ⟨_, rfl, ?_⟩
  cases hA : areSigns S with
  | false =>
    rw [if_pos (show (!false) = true from rfl)]
    refine lss_one (ls_ret (le_q lq_bool ⟨[], ?_, trivial⟩))
    show LV.d _ = LV.d (.bool (isPlainD _))
    unfold isPlainD
    split
    · rename_i h; cases h; rw [hA]; rfl
    · rfl
  | true =>
  rw [if_neg (by simp)]
  refine lss_nil ?_
  refine lss_cons (ls_if (LTw.lt (ltw_or (lt_not (lt_val (ex_calQ (EV.g 5 (nm := "is_text_of") rfl) (ok_isText T) hr (by decide) (lqs_cons (lq_v (EV.v 1 (i := 1) (nm := "signs") rfl rfl) rfl) (lqs_cons (lq_v (EV.v 2 (i := 2) (nm := "begin") rfl rfl) rfl) .nil)) (S, b) ⟨rfl, hfb⟩ (fun r ys h => ?_) (fun _ _ h => h.elim)))))))
  subst h
  refine ⟨_, rfl, ?_⟩
  dsimp only
  cases hB : isTextD S b with
  | false =>
    rw [if_pos (show (!false) = true from rfl)]
    rw [if_pos rfl]
    refine lss_one (ls_ret (le_q lq_bool ⟨[], ?_, trivial⟩))
    show LV.d _ = LV.d (.bool (isPlainD _))
    unfold isPlainD
    split
    · rename_i h; cases h; rw [hA, hB]; rfl
    · rfl
  | true =>
  rw [if_neg (by simp)]
  rcases tup_or stv with ⟨sts, rfl⟩ | ht
  rotate_left
  · refine ltw_or1 (LB.go (LB.cast (q := true) (lb_not (lb_val (lq_isi (Tn := "tuple") (fr_isinstance T) (fr_tuple T) (by kernel_rfl) (lq_v (EV.v 3 (i := 3) (nm := "states") rfl rfl) rfl) (by decide +kernel) (EV.g 0 (nm := "isinstance") rfl).g (EV.g 1 (nm := "tuple") rfl).g))) (by rw [ht]; rfl)) ?_)
    rw [if_pos rfl]
    refine lss_one (ls_ret (le_q lq_bool ⟨[], ?_, trivial⟩))
    show LV.d _ = LV.d (.bool (isPlainD _))
    rw [plain_no]
    intro S b sts e
    cases e
    rw [isTy_tup] at ht
    cases ht
  refine ltw_or1 (LB.go (LB.cast (q := false) (lb_not (lb_val (lq_isi (Tn := "tuple") (fr_isinstance T) (fr_tuple T) (by kernel_rfl) (lq_v (EV.v 3 (i := 3) (nm := "states") rfl rfl) rfl) (by decide +kernel) (EV.g 0 (nm := "isinstance") rfl).g (EV.g 1 (nm := "tuple") rfl).g))) (by simp [isTy_tup])) ?_)
  rw [if_neg (by simp)]
  refine lss_nil ?_
  have val : isPlainD (.tuple [.str S, b, .tuple sts]) = (decide (sts.length ≤ 2000) && (if sts.length = 0 then noText b else sts.all (isStateD S sts.length))) := by
    show (areSigns S && (isTextD S b && _)) = _
    rw [hA, hB, Bool.true_and, Bool.true_and]
  by_cases hm : sts.length ≤ 2000
  rotate_left
  · refine lss_cons (ls_ifb (p := true) (LB.cast (lb_cmp (lq_len (fr_len T) (lq_v (EV.v 3 (i := 3) (nm := "states") rfl rfl) rfl) (by walk_at "ix") (by walk_at "len") (EV.g 2 (nm := "len") rfl).g) (lq_gi (EV.g 6 (nm := "MOST_PLAIN_STATES") rfl) (gi_MOST_PLAIN_STATES T)) (by walk_at "cmp")) (by simp; omega)) (fun hc => ?_) (fun hc => nomatch hc))
    refine lss_one (ls_ret (le_q lq_bool ⟨[], ?_, trivial⟩))
    show LV.d _ = LV.d (.bool (isPlainD _))
    rw [val]
    simp [hm]
  refine lss_cons (ls_ifb (p := false) (LB.cast (lb_cmp (lq_len (fr_len T) (lq_v (EV.v 3 (i := 3) (nm := "states") rfl rfl) rfl) (by walk_at "ix") (by walk_at "len") (EV.g 2 (nm := "len") rfl).g) (lq_gi (EV.g 6 (nm := "MOST_PLAIN_STATES") rfl) (gi_MOST_PLAIN_STATES T)) (by walk_at "cmp")) (by simp; omega)) (fun hc => nomatch hc) (fun hc => lss_nil ?_))
  by_cases h0 : sts.length = 0
  · refine lss_cons (ls_ifb (p := true) (LB.cast (lb_cmp (lq_len (fr_len T) (lq_v (EV.v 3 (i := 3) (nm := "states") rfl rfl) rfl) (by walk_at "ix") (by walk_at "len") (EV.g 2 (nm := "len") rfl).g) lq_int (by walk_at "cmp")) (decide_eq_true (by omega))) (fun hc => ?_) (fun hc => nomatch hc))
    cases b with
    | str z =>
      refine lss_one (ls_ret (le_q (lq_cmp (lq_v (EV.v 2 (i := 2) (nm := "begin") rfl rfl) rfl) lq_str c_eqS) ⟨[], ?_, trivial⟩))
      show LV.d _ = LV.d (.bool (isPlainD _))
      rw [val]
      simp [h0, noText]
    | _ => simp [isTextD] at hB
  refine lss_cons (ls_ifb (p := false) (LB.cast (lb_cmp (lq_len (fr_len T) (lq_v (EV.v 3 (i := 3) (nm := "states") rfl rfl) rfl) (by walk_at "ix") (by walk_at "len") (EV.g 2 (nm := "len") rfl).g) lq_int (by walk_at "cmp")) (decide_eq_false (by omega))) (fun hc => nomatch hc) (fun hc => lss_nil ?_))
  refine lss_one (ls_ret (le_all rfl (fr_all T) ?_ (EV.g 7 (nm := "all") rfl).g))
  refine cx_map (N := ["value", "signs", "begin", "states", "state"]) (vs := [1, 4, 3]) (ls := [4]) (gs := ["is_plain_state", "len"]) hnd rfl (show BlkOk ["value", "signs", "begin", "states", "state"] (defScope (Hd.topS 18)) _ [("state", 4)] from blkOk_by (by decide +kernel)) rfl (show evB (relS _ (defScope (Hd.topS 18))) _ _ _ _ = true by decide +kernel) 0 rfl rfl (show ownB _ (defScope (Hd.topS 18)) _ = true by decide +kernel) (fun d => .bool (isStateD S sts.length d)) (li_tup (le_q (lq_v (EV.v 3 (i := 3) (nm := "states") rfl rfl) rfl) ⟨sts, rfl, Nat.le_trans hm (by decide), rfl, ?_, ?_⟩))
  · intro d hd s H C cl fp EB
    refine ex_calQ (EB.g 0 (nm := "is_plain_state") rfl) (ok_isState T) hr (by decide) (lqs_cons (lq_v (EB.v 0 (i := 1) (nm := "signs") rfl rfl) rfl) (lqs_cons (lq_v (EB.v 1 (i := 4) (nm := "state") rfl rfl) rfl) (lqs_cons (lq_len (fr_len T) (lq_v (EB.v 2 (i := 3) (nm := "states") rfl rfl) rfl) (by walk_at "ix") (by walk_at "len") (EB.g 1 (nm := "len") rfl).g) .nil))) (S, d, (sts.length : Int)) ⟨rfl, fit_at hfs hd, hS⟩ (fun r ys h => ⟨h, rfl⟩) (fun _ _ h => h.elim)
  · refine ⟨sts.map (isStateD S sts.length), ?_, [], ?_, trivial⟩
    · have : sts.map (fun d => PyData.bool (isStateD S sts.length d)) = (sts.map (isStateD S sts.length)).map PyData.bool := by rw [List.map_map]; rfl
      rw [this]
      exact fz_map
    · show LV.d _ = LV.d (.bool (isPlainD _))
      rw [val]
      simp [hm, h0, List.all_map]
end
end Z
set_option maxHeartbeats 400000
namespace Z
open PySem PySem.Spec PyProof.Rows L2
local macro_rules | `(tactic| walk_at "len") => `(tactic| (intro zz hz; first | (cases hz; done) | (injection hz with hz; subst hz; first | assumption | (simp only [PySem.Str.length_append, Str.length] at *; simp [sizeLine] at *; omega))))
local macro_rules | `(tactic| walk_at "c") => `(tactic| first | rfl | assumption | decide | omega)
local macro_rules | `(tactic| walk_at "ix") => `(tactic| first | assumption | rfl)
local macro_rules | `(tactic| walk_at "mem") => `(tactic| assumption)
local macro_rules | `(tactic| walk_at "sz") => `(tactic| first | assumption | omega)
local macro_rules | `(tactic| walk_at "mul") => `(tactic| first | exact .inr ⟨by decide, by decide⟩ | exact .inl ⟨by decide, by decide⟩)
local macro_rules | `(tactic| walk_at "div") => `(tactic| first | exact ⟨by decide, by decide⟩ | exact ⟨by omega, by omega⟩)
local macro_rules | `(tactic| walk_at "cmp") => `(tactic| first | exact c_lt | exact c_le | exact c_gt | exact c_ge | exact c_eqI | exact c_neI | exact c_eqS | exact c_neS | exact c_eqB | exact c_isN | exact c_notN | exact c_inS | exact c_notInS)
/-! ### plain writers, typed -/
abbrev PStep := Option (Str × Nat)
abbrev PState := Option Str × List PStep
structure PPlain where
  S : Str
  b : Str
  sts : List PState
def encStep : PStep → PyData
  | none => .none
  | some (t, k) => .tuple [.str t, .int (k : Nat)]
def encEnd : Option Str → PyData
  | none => .none
  | some e => .str e
def encState (s : PState) : PyData := .tuple [encEnd s.1, .tuple (s.2.map encStep)]
def encPlain (p : PPlain) : PyData := .tuple [.str p.S, .str p.b, .tuple (p.sts.map encState)]
structure WfS (S : Str) (n : Nat) (s : PState) : Prop where
  e : ∀ e, s.1 = some e → Over S e ∧ e.length ≤ 100
  l : s.2.length = S.length
  r : ∀ t k, some (t, k) ∈ s.2 → Over S t ∧ t.length ≤ 100 ∧ k < n
structure WfP (p : PPlain) : Prop where
  s : areSigns p.S = true
  b : Over p.S p.b ∧ p.b.length ≤ 100
  n : p.sts.length ≤ 2000
  z : p.sts.length = 0 → p.b = Str.ofString ""
  st : ∀ s ∈ p.sts, WfS p.S p.sts.length s
theorem over_text {S z : Str} (h : Over S z) : isTextD S (.str z) = true := by
  unfold isTextD
  rw [List.all_eq_true]
  exact fun c hc => decide_eq_true (h c hc)
theorem text_over {S z : Str} (h : isTextD S (.str z) = true) : Over S z := fun c hc => by
  unfold isTextD at h
  exact of_decide_eq_true (List.all_eq_true.mp h c hc)
theorem wf_step {S : Str} {n : Nat} {st : PStep} (h : ∀ t k, st = some (t, k) → Over S t ∧ t.length ≤ 100 ∧ k < n) : isStepD S n (encStep st) = true := by
  cases st with
  | none => rfl
  | some q =>
    obtain ⟨t, k⟩ := q
    obtain ⟨h1, _, h3⟩ := h t k rfl
    show (isTextD S (.str t) && (decide (0 ≤ ((k : Nat) : Int)) && decide (((k : Nat) : Int) < n))) = true
    rw [over_text h1]
    simp <;> omega
theorem wf_state {S : Str} {n : Nat} {s : PState} (h : WfS S n s) : isStateD S n (encState s) = true := by
  show ((isNone (encEnd s.1) || isTextD S (encEnd s.1)) && (decide ((s.2.map encStep).length = S.length) && (s.2.map encStep).all (isStepD S n))) = true
  have h1 : (isNone (encEnd s.1) || isTextD S (encEnd s.1)) = true := by
    cases e : s.1 with
    | none => rfl
    | some w => rw [show isTextD S (encEnd (some w)) = true from over_text (h.e w e).1, Bool.or_true]
  rw [h1, List.length_map, h.l]
  simp only [decide_true, Bool.true_and, List.all_map, List.all_eq_true]
  exact fun st hst => wf_step fun t k e => h.r t k (e ▸ hst)
theorem wf_plain {p : PPlain} (h : WfP p) : isPlainD (encPlain p) = true := by
  show (areSigns p.S && (isTextD p.S (.str p.b) && (decide ((p.sts.map encState).length ≤ 2000) && (if (p.sts.map encState).length = 0 then noText (.str p.b) else (p.sts.map encState).all (isStateD p.S ((p.sts.map encState).length : Nat)))))) = true
  rw [h.s, over_text h.b.1, List.length_map, decide_eq_true h.n]
  simp only [Bool.true_and]
  split
  · rename_i h0
    show decide (p.b = Str.ofString "") = true
    exact decide_eq_true (h.z h0)
  · rw [List.all_map, List.all_eq_true]
    exact fun s hs => wf_state (h.st s hs)
theorem fit_text {S z : Str} (h : z.length ≤ 100) : fitD (.str z) = true := decide_eq_true (by omega)
theorem fit_state {S : Str} {n : Nat} {s : PState} (h : WfS S n s) : fitD (encState s) = true := by
  show fitAll [encEnd s.1, .tuple (s.2.map encStep)] = true
  rw [fitAll_iff]
  intro x hx
  simp only [List.mem_cons, List.not_mem_nil, or_false] at hx
  rcases hx with rfl | rfl
  · cases e : s.1 with
    | none => rfl
    | some w => exact fit_text (S := S) (h.e w e).2
  · show fitAll _ = true
    rw [fitAll_iff]
    intro x hx
    obtain ⟨st, hst, rfl⟩ := List.mem_map.mp hx
    cases st with
    | none => rfl
    | some q =>
      obtain ⟨t, k⟩ := q
      show fitAll [.str t, .int _] = true
      rw [fitAll_iff]
      intro x hx
      simp only [List.mem_cons, List.not_mem_nil, or_false] at hx
      rcases hx with rfl | rfl
      · exact fit_text (S := S) (h.r t k hst).2.1
      · rfl
theorem signs5 {S : Str} (h : areSigns S = true) : 1 ≤ S.length ∧ S.length ≤ 5 := by
  unfold areSigns at h
  simp only [Bool.and_eq_true, decide_eq_true_eq] at h
  exact ⟨h.1, h.2.1⟩
theorem fit_plain {p : PPlain} (h : WfP p) : fitD (encPlain p) = true := by
  show fitAll [.str p.S, .str p.b, .tuple (p.sts.map encState)] = true
  rw [fitAll_iff]
  intro x hx
  simp only [List.mem_cons, List.not_mem_nil, or_false] at hx
  rcases hx with rfl | rfl | rfl
  · have := signs5 h.s
    exact decide_eq_true (by omega)
  · exact fit_text (S := p.S) h.b.2
  · show fitAll _ = true
    rw [fitAll_iff]
    intro x hx
    obtain ⟨s, hs, rfl⟩ := List.mem_map.mp hx
    exact fit_state (h.st s hs)
/-! ### a run over a text -/
def stepAt (p : PPlain) (i c : Nat) : PStep := match p.sts[i]? with
  | some s => (s.2[placeOf c p.S.cps.toList]?).getD none
  | none => none
def walkStep (p : PPlain) (o : Option (List Str × Nat)) (c : Nat) : Option (List Str × Nat) := match o with
  | some (l, i) => (match stepAt p i c with
    | some (t, k) => some (l ++ [t], k)
    | none => none)
  | none => none
def walk (p : PPlain) (i : Nat) (cs : List Nat) : Option (List Str × Nat) := cs.foldl (walkStep p) (some ([], i))
theorem walk_none (p : PPlain) : ∀ cs : List Nat, cs.foldl (walkStep p) none = none
  | [] => rfl
  | _ :: cs => walk_none p cs
theorem walk_snoc (p : PPlain) (i c : Nat) (cs : List Nat) : walk p i (cs ++ [c]) = walkStep p (walk p i cs) c := by
  unfold walk
  rw [List.foldl_append]
  rfl
theorem walk_stop {p : PPlain} {i : Nat} {cs ds : List Nat} (h : walk p i cs = none) : walk p i (cs ++ ds) = none := by
  unfold walk at *
  rw [List.foldl_append, h, walk_none]
def encLed : Option (List Str × Nat) → PyData
  | some (l, i) => .tuple [.str (Str.join (Str.ofString "") l), .int (i : Nat)]
  | none => .none
def endAt (p : PPlain) (i : Nat) : Option Str := match p.sts[i]? with
  | some s => s.1
  | none => none
def runP (p : PPlain) (z : Str) : Option Str := if p.sts.length = 0 then none else match walk p 0 z.cps.toList with
  | some (l, i) => (match endAt p i with
    | some e => some (p.b ++ Str.join (Str.ofString "") l ++ e)
    | none => none)
  | none => none
/-- what a walk keeps -/
theorem walk_keep {p : PPlain} (h : WfP p) {i : Nat} (hi : i < p.sts.length) : ∀ (cs : List Nat) (l : List Str) (k : Nat), walk p i cs = some (l, k) → k < p.sts.length ∧ l.length = cs.length ∧ ∀ t ∈ l, t.length ≤ 100 ∧ Over p.S t := by
  have key : ∀ (n : Nat) (cs : List Nat), cs.length = n → ∀ (l : List Str) (k : Nat), walk p i cs = some (l, k) → k < p.sts.length ∧ l.length = cs.length ∧ ∀ t ∈ l, t.length ≤ 100 ∧ Over p.S t := by
    intro n
    induction n with
    | zero =>
      intro cs hn l k e
      cases cs with
      | nil =>
        cases e
        exact ⟨hi, rfl, by simp⟩
      | cons _ _ => cases hn
    | succ n ih =>
      intro cs hn l k e
      rcases List.eq_nil_or_concat cs with rfl | ⟨cs', c, e'⟩
      · cases hn
      · rw [List.concat_eq_append] at e'
        subst e'
        rw [walk_snoc] at e
        have hn' : cs'.length = n := by
          rw [List.length_append] at hn
          simpa using hn
        cases hw : walk p i cs' with
        | none => rw [hw] at e; cases e
        | some q =>
          obtain ⟨l', k'⟩ := q
          obtain ⟨h1, h2, h3⟩ := ih cs' hn' l' k' hw
          rw [hw] at e
          have e2 : (match stepAt p k' c with
            | some (t, k) => some (l' ++ [t], k)
            | none => none) = some (l, k) := e
          cases hs : stepAt p k' c with
          | none => rw [hs] at e2; cases e2
          | some q =>
            obtain ⟨t, k2⟩ := q
            rw [hs] at e2
            cases e2
            unfold stepAt at hs
            rw [List.getElem?_eq_getElem h1] at hs
            have hm : some (t, k) ∈ p.sts[k'].2 := by
              have hs' : (p.sts[k'].2[placeOf c p.S.cps.toList]?).getD none = some (t, k) := hs
              cases hq : p.sts[k'].2[placeOf c p.S.cps.toList]? with
              | none => rw [hq] at hs'; cases hs'
              | some st =>
                rw [hq] at hs'
                have : st = some (t, k) := hs'
                rw [← this]
                exact List.mem_of_getElem? hq
            have w := (h.st _ (List.getElem_mem h1)).r t k hm
            refine ⟨w.2.2, by rw [List.length_append, List.length_append, h2]; rfl, fun u hu => ?_⟩
            rcases List.mem_append.mp hu with hu | hu
            · exact h3 u hu
            · rw [List.mem_singleton] at hu
              rw [hu]
              exact ⟨w.2.1, w.1⟩
  exact fun cs => key _ cs rfl
theorem join_len : ∀ (l : List Str), (∀ t ∈ l, t.length ≤ 100) → (Str.join (Str.ofString "") l).length ≤ 100 * l.length
  | [], _ => by show (0 : Nat) ≤ 0; omega
  | [x], h => by
    have := h x (by simp)
    show x.length ≤ 100 * 1
    omega
  | x :: y :: r, h => by
    have h1 := h x (by simp)
    have h2 := join_len (y :: r) fun t ht => h t (List.mem_cons_of_mem _ ht)
    show (x ++ Str.ofString "" ++ Str.join (Str.ofString "") (y :: r)).length ≤ _
    rw [Str.length_append, Str.length_append]
    have h3 : (Str.ofString "").length = 0 := by decide +kernel
    rw [h3]
    have h4 : (x :: y :: r).length = (y :: r).length + 1 := rfl
    omega
theorem sum_len : ∀ (l : List Str), (∀ t ∈ l, t.length ≤ 100) → (l.map (·.length)).sum ≤ 100 * l.length
  | [], _ => by simp
  | x :: r, h => by
    have h1 := h x (by simp)
    have h2 := sum_len r fun t ht => h t (List.mem_cons_of_mem _ ht)
    simp only [List.map_cons, List.sum_cons, List.length_cons]
    omega
theorem join_snoc (t : Str) : ∀ (l : List Str), Str.join (Str.ofString "") (l ++ [t]) = Str.join (Str.ofString "") l ++ t
  | [] => (PySem.Str.empty_append t).symm
  | [x] => by
    show x ++ Str.ofString "" ++ t = x ++ t
    rw [show Str.ofString "" = Str.empty by decide +kernel, PySem.Str.append_assoc, PySem.Str.empty_append]
  | x :: y :: r => by
    show x ++ Str.ofString "" ++ Str.join (Str.ofString "") (y :: r ++ [t]) = x ++ Str.ofString "" ++ Str.join (Str.ofString "") (y :: r) ++ t
    rw [join_snoc t (y :: r), PySem.Str.append_assoc, PySem.Str.append_assoc, PySem.Str.append_assoc]
/-- the step at a place, as data -/
theorem step_fact {p : PPlain} (h : WfP p) {i c : Nat} (hi : i < p.sts.length) (hc : c ∈ p.S.cps.toList) : ∃ s, p.sts[i]? = some s ∧ WfS p.S p.sts.length s ∧ s.2[placeOf c p.S.cps.toList]? = some (stepAt p i c) := by
  refine ⟨p.sts[i], List.getElem?_eq_getElem hi, h.st _ (List.getElem_mem hi), ?_⟩
  have hl : placeOf c p.S.cps.toList < p.sts[i].2.length := by
    rw [(h.st _ (List.getElem_mem hi)).l]
    have : placeOf c p.S.cps.toList < p.S.cps.toList.length := List.idxOf_lt_length_of_mem hc
    rw [Array.length_toList] at this
    exact this
  unfold stepAt
  rw [List.getElem?_eq_getElem hi]
  show _ = some ((p.sts[i].2[placeOf c p.S.cps.toList]?).getD none)
  rw [List.getElem?_eq_getElem hl]
  rfl
end Z
set_option maxHeartbeats 400000
namespace Z
open PySem PySem.Spec PyProof.Rows L2
local macro_rules | `(tactic| walk_at "len") => `(tactic| (intro zz hz; first | (cases hz; done) | (injection hz with hz; subst hz; first | assumption | (simp only [PySem.Str.length_append, Str.length] at *; simp [sizeLine] at *; omega))))
local macro_rules | `(tactic| walk_at "c") => `(tactic| first | rfl | assumption | decide | omega)
local macro_rules | `(tactic| walk_at "ix") => `(tactic| first | assumption | rfl)
local macro_rules | `(tactic| walk_at "mem") => `(tactic| assumption)
local macro_rules | `(tactic| walk_at "sz") => `(tactic| first | assumption | omega)
local macro_rules | `(tactic| walk_at "mul") => `(tactic| first | exact .inr ⟨by decide, by decide⟩ | exact .inl ⟨by decide, by decide⟩)
local macro_rules | `(tactic| walk_at "div") => `(tactic| first | exact ⟨by decide, by decide⟩ | exact ⟨by omega, by omega⟩)
local macro_rules | `(tactic| walk_at "cmp") => `(tactic| first | exact c_lt | exact c_le | exact c_gt | exact c_ge | exact c_eqI | exact c_neI | exact c_eqS | exact c_neS | exact c_eqB | exact c_isN | exact c_notN | exact c_inS | exact c_notInS)
section
variable {K : PySem.W.Frag} {mg : Str → Option Value}
/-- a class of errors of the program's own -/
structure ExcOk (K : PySem.W.Frag) (mg : Str → Option Value) (nm : Str) : Prop where
  g : mg nm = some (.ref (He.ga K nm))
  q : PySem.W.excIn K (He.ga K nm) He.veBase "ValueError.__new__" = true
  k : PySem.W.keepIn K (.ref (He.ga K nm)) = true
  b : PySem.W.subIn K (.ref (He.ga K nm)) (.type "BaseException") = some true
  t : PySem.W.typeIn K (.ref (He.ga K nm)) = some (.type "type")
theorem Tp.exc (T : Tp K mg) {nm : Str} (i j : Nat) (e : Hd.fa[i]? = some (.exc nm)) (e2 : Hd.fa[j]? = some (.glo nm)) : ExcOk K mg nm := by
  obtain ⟨h1, h2, h3, h4⟩ := He.exc_ok (T.c.fact i e)
  exact ⟨T.glo j e2, h1, h2, h3, h4⟩
theorem xBadSigns (T : Tp K mg) : ExcOk K mg "BadSigns" := T.exc 63 59 rfl rfl
theorem xBadPlain (T : Tp K mg) : ExcOk K mg "BadPlain" := T.exc 64 60 rfl rfl
end
theorem sx_raise {X : Cx} {δ : LSt} {W : LW} {P : LEnds} {nm m : Str} {j : Nat} {p p2 p3 pos : Pos} (hc : X.calm = true) (g : GlOk X nm) (E : ExcOk X.K X.mg nm) (h : W (.ref (He.ga X.K nm)) δ) :
    LS X (.Raise (some (.Call (.Name nm p) [.Constant (.str m) j p2] [] pos)) none p3) δ W P := ls_raise hc E.q E.g E.k E.b E.t h g.g g.d
def S_checkPlain (K : PySem.W.Frag) : Spec PyData where
  pre γ xs := xs = [.d γ] ∧ fitD γ = true
  post γ r ys := isPlainD γ = true
  exc γ cls ys := isPlainD γ = false ∧ cls = .ref (He.ga K "BadPlain")
def S_checkText (K : PySem.W.Frag) : Spec (Str × PyData) where
  pre γ xs := xs = [.d (.str γ.1), .d γ.2] ∧ fitD γ.2 = true
  post γ r ys := isTextD γ.1 γ.2 = true
  exc γ cls ys := isTextD γ.1 γ.2 = false ∧ cls = .ref (He.ga K "BadSigns")
def S_ledBy : Spec (PPlain × Nat × Str) where
  pre γ xs := xs = [.d (encPlain γ.1), .d (.int (γ.2.1 : Nat)), .d (.str γ.2.2)] ∧ WfP γ.1 ∧ γ.2.1 < γ.1.sts.length ∧ Over γ.1.S γ.2.2 ∧ γ.2.2.length ≤ 1000
  post γ r ys := r = .d (encLed (walk γ.1 γ.2.1 γ.2.2.cps.toList))
def S_written : Spec (PPlain × Str) where
  pre γ xs := xs = [.d (encPlain γ.1), .d (.str γ.2)] ∧ WfP γ.1 ∧ Over γ.1.S γ.2 ∧ γ.2.length ≤ 1000
  post γ r ys := r = .d (encEnd (runP γ.1 γ.2))
section
variable {P : Program} {w : World} {K : PySem.W.Frag} {mg : Str → Option Value} {base : Heap}
-- check_text: ['signs', 'value']
theorem ok_checkText (T : Tp K mg) : Cal P w K mg base 2 "check_text" ["signs", "value"] (S_checkText K) := by
  refine cal_of (k := 1) T (N := ["signs", "value"]) 2 2 rfl rfl (fun _ _ _ _ _ _ us hl => match us, hl with | [_, _], _ => rfl) [false, false] rfl (by decide +kernel) (fun γ xs h => ?_) ?_
  · first | exact congrArg List.length (show _ = _ from h) | exact congrArg List.length (show _ ∧ _ from h).1
  intro cdv A outer s H E γ vs xs hr hl hpre
  obtain ⟨v0, v1, rfl⟩ : ∃ v0 v1, vs = [v0, v1] := by
    match vs, hl with
    | [a0, a1], _ => exact ⟨a0, a1, rfl⟩
  have hnd : (["signs", "value"] : List Str).Nodup := by decide +kernel
  obtain ⟨S, v⟩ := γ
  obtain ⟨rfl, (hf : fitD v = true)⟩ := hpre
  dsimp only
  have EV : Ev (cxOf (L2.CX P w) P w K mg base ["signs", "value"] "check_text" (defScope (Hd.topS 8)) (He.ga K "check_text") cdv A outer s H E) ["signs", "value"] [0, 1] [0, 1] ["is_text_of", "BadSigns"] := ⟨rfl, (by decide +kernel : evB (defScope (Hd.topS 8)) ["signs", "value"] [0, 1] [0, 1] ["is_text_of", "BadSigns"] = true)⟩
  refine lss_one (ls_if (lt_not (lt_val (ex_calQ (EV.g 0 (nm := "is_text_of") rfl) (ok_isText T) hr (by decide) (lqs_cons (lq_v (EV.v 0 (i := 0) (nm := "signs") rfl rfl) rfl) (lqs_cons (lq_v (EV.v 1 (i := 1) (nm := "value") rfl rfl) rfl) .nil)) (S, v) ⟨rfl, hf⟩ (fun r ys h => ?_) (fun _ _ h => h.elim)))))
  subst h
  refine ⟨_, rfl, ?_⟩
  dsimp only
  cases h : isTextD S v with
  | true =>
    rw [if_neg (by simp)]
    exact lss_nil ⟨[], h, trivial⟩
  | false =>
    rw [if_pos (show (!false) = true from rfl)]
    exact lss_one (sx_raise rfl (EV.g 1 (nm := "BadSigns") rfl) (xBadSigns T) ⟨[], ⟨h, rfl⟩, trivial⟩)
-- check_plain: ['value']
theorem ok_checkPlain (T : Tp K mg) : Cal P w K mg base 5 "check_plain" ["value"] (S_checkPlain K) := by
  refine cal_of (k := 4) T (N := ["value"]) 22 22 rfl rfl (fun _ _ _ _ _ _ us hl => match us, hl with | [_], _ => rfl) [false] rfl (by decide +kernel) (fun γ xs h => ?_) ?_
  · first | exact congrArg List.length (show _ = _ from h) | exact congrArg List.length (show _ ∧ _ from h).1
  intro cdv A outer s H E γ vs xs hr hl hpre
  obtain ⟨v0, rfl⟩ : ∃ v0, vs = [v0] := by
    match vs, hl with
    | [a0], _ => exact ⟨a0, rfl⟩
  have hnd : (["value"] : List Str).Nodup := by decide +kernel
  obtain ⟨rfl, (hf : fitD γ = true)⟩ := hpre
  have EV : Ev (cxOf (L2.CX P w) P w K mg base ["value"] "check_plain" (defScope (Hd.topS 33)) (He.ga K "check_plain") cdv A outer s H E) ["value"] [0] [0] ["is_plain_value", "BadPlain"] := ⟨rfl, (by decide +kernel : evB (defScope (Hd.topS 33)) ["value"] [0] [0] ["is_plain_value", "BadPlain"] = true)⟩
  refine lss_one (ls_if (lt_not (lt_val (ex_calQ (EV.g 0 (nm := "is_plain_value") rfl) (ok_isPlain T) hr (by decide) (lqs_cons (lq_v (EV.v 0 (i := 0) (nm := "value") rfl rfl) rfl) .nil) γ ⟨rfl, hf⟩ (fun r ys h => ?_) (fun _ _ h => h.elim)))))
  subst h
  refine ⟨_, rfl, ?_⟩
  cases h : isPlainD γ with
  | true =>
    rw [if_neg (by simp)]
    exact lss_nil ⟨[], h, trivial⟩
  | false =>
    rw [if_pos (show (!false) = true from rfl)]
    exact lss_one (sx_raise rfl (EV.g 1 (nm := "BadPlain") rfl) (xBadPlain T) ⟨[], ⟨h, rfl⟩, trivial⟩)
-- led_by: ['plain', 'at', 'text', 'signs', '_', 'states', 'written', 'char', 'step']
theorem ok_ledBy (T : Tp K mg) : Cal P w K mg base 1 "led_by" ["plain", "at", "text"] S_ledBy := by
  refine cal_of (k := 0) T (N := ["plain", "at", "text", "signs", "_", "states", "written", "char", "step"]) 10 10 rfl rfl (fun _ _ _ _ _ _ us hl => match us, hl with | [_, _, _], _ => rfl) [false, false, false] rfl (by decide +kernel) (fun γ xs h => ?_) ?_
  · first | exact congrArg List.length (show _ = _ from h) | exact congrArg List.length (show _ ∧ _ from h).1
  intro cdv A outer s H E γ vs xs hr hl hpre
  obtain ⟨v0, v1, v2, rfl⟩ : ∃ v0 v1 v2, vs = [v0, v1, v2] := by
    match vs, hl with
    | [a0, a1, a2], _ => exact ⟨a0, a1, a2, rfl⟩
  have hnd : (["plain", "at", "text", "signs", "_", "states", "written", "char", "step"] : List Str).Nodup := by decide +kernel
  obtain ⟨p, a, z⟩ := γ
  obtain ⟨rfl, (hw : WfP p), (ha : a < p.sts.length), (hz : Over p.S z), (hl : z.length ≤ 1000)⟩ := hpre
  dsimp only
  have EV : Ev (cxOf (L2.CX P w) P w K mg base ["plain", "at", "text", "signs", "_", "states", "written", "char", "step"] "led_by" (defScope (Hd.topS 20)) (He.ga K "led_by") cdv A outer s H E) ["plain", "at", "text", "signs", "_", "states", "written", "char", "step"] [0, 1, 2, 3, 4, 5, 6, 7, 8] [0, 1, 2, 3, 4, 5, 6, 7, 8] [] := ⟨rfl, (by decide +kernel : evB (defScope (Hd.topS 20)) ["plain", "at", "text", "signs", "_", "states", "written", "char", "step"] [0, 1, 2, 3, 4, 5, 6, 7, 8] [0, 1, 2, 3, 4, 5, 6, 7, 8] [] = true)⟩
  refine lss_cons (ls_asg (le_q (lq_v (EV.v 0 (i := 0) (nm := "plain") rfl rfl) rfl) (gx_tup3 rfl hnd (EV.l 3 (i := 3) (nm := "signs") rfl rfl) (EV.l 4 (i := 4) (nm := "_") rfl rfl) (EV.l 5 (i := 5) (nm := "states") rfl rfl) rfl rfl rfl rfl rfl rfl ?_)))
  refine lss_cons (sx_set (EV.l 6 (i := 6) (nm := "written") rfl rfl) hnd rfl (le_lst (ld_nil ⟨by simp [sizeLine], rfl, ?_⟩)))
  refine lss_cons (ls_for (passes_of rfl) rfl (li_str (le_q (lq_v (EV.v 2 (i := 2) (nm := "text") rfl rfl) rfl) ⟨z, rfl, fun i δ => ∃ l k, walk p a (z.cps.toList.take i) = some (l, k) ∧ δ = [.is (.d (encPlain p)), .is (.d (.int (k : Nat))), .is (.d (.str z)), .is (.d (.str p.S)), .is (.d (.str p.b)), .is (.d (.tuple (p.sts.map encState))), .is (.l (l.map fun t => LV.d (.str t))), .no, .no], ⟨[], a, rfl, rfl⟩, ?_, ?_⟩)))
  · rintro i d δ hd ⟨l, k, hwk, rfl⟩
    obtain ⟨c, hc, rfl⟩ : ∃ c, z.cps.toList[i]? = some c ∧ d = .str ⟨#[c]⟩ := by
      unfold signsD at hd
      rw [List.getElem?_map] at hd
      cases h : z.cps.toList[i]? with
      | none => rw [h] at hd; cases hd
      | some c => rw [h] at hd; cases hd; exact ⟨c, rfl, rfl⟩
    obtain ⟨hk, hll, hlt⟩ := walk_keep hw ha _ _ _ hwk
    have hcS : c ∈ p.S.cps.toList := hz c (List.mem_of_getElem? hc)
    obtain ⟨s, hs1, hs2, hs3⟩ := step_fact hw hk hcS
    have hlen : l.length ≤ 1000 := by
      rw [hll, List.length_take]
      have : z.cps.toList.length ≤ 1000 := by rw [Array.length_toList]; exact hl
      omega
    have f1 : ixD (.tuple (p.sts.map encState)) (k : Nat) = some (encState s) := at_map hs1
    have f2 : ixD (.tuple (s.2.map encStep)) ((placeOf c p.S.cps.toList : Nat) : Int) = some (encStep (stepAt p k c)) := at_map hs3
    have f3 : ixD (encState s) 1 = some (.tuple (s.2.map encStep)) := rfl
    refine gx_name (EV.l 7 (i := 7) (nm := "char") rfl rfl) hnd rfl rfl ?_
    refine lss_cons (sx_set (EV.l 8 (i := 8) (nm := "step") rfl rfl) hnd rfl (le_q (lq_ix (lq_ix (lq_ix (lq_v (EV.v 5 (i := 5) (nm := "states") rfl rfl) rfl) (lq_v (EV.v 1 (i := 1) (nm := "at") rfl rfl) rfl) (by walk_at "ix") (by walk_at "len")) lq_int (by walk_at "ix") (by walk_at "len")) (lq_index (lq_v (EV.v 3 (i := 3) (nm := "signs") rfl rfl) rfl) (lq_v (EV.v 7 (i := 7) (nm := "char") rfl rfl) rfl) (by walk_at "mem")) (by walk_at "ix") (by walk_at "len")) ⟨rfl, ?_⟩))
    have ht : z.cps.toList.take (i + 1) = z.cps.toList.take i ++ [c] := by rw [List.take_add_one, hc]; rfl
    have hwk2 : walk p a (z.cps.toList.take (i + 1)) = walkStep p (some (l, k)) c := by rw [ht, walk_snoc, hwk]
    cases hst : stepAt p k c with
    | none =>
      refine lss_cons (ls_ifb (p := true) (LB.cast (lb_cmp (lq_v (EV.v 8 (i := 8) (nm := "step") rfl rfl) rfl) lq_none (by walk_at "cmp")) rfl) (fun _ => ?_) (fun hc => nomatch hc))
      refine lss_one (ls_ret (le_q lq_none ⟨[], ?_, trivial⟩))
      show LV.d _ = LV.d (encLed (walk p a z.cps.toList))
      have : walk p a z.cps.toList = none := by
        rw [← List.take_append_drop (i + 1) z.cps.toList]
        apply walk_stop
        rw [hwk2]
        show (match stepAt p k c with
          | some (t, k) => some (l ++ [t], k)
          | none => none) = none
        rw [hst]
      rw [this]
      rfl
    | some q =>
      obtain ⟨t, k2⟩ := q
      refine lss_cons (ls_ifb (p := false) (LB.cast (lb_cmp (lq_v (EV.v 8 (i := 8) (nm := "step") rfl rfl) rfl) lq_none (by walk_at "cmp")) rfl) (fun hc => nomatch hc) (fun _ => lss_nil ?_))
      refine lss_cons (ls_expr (ex_append (EV.v 6 (i := 6) (nm := "written") rfl rfl) (le_q (lq_ix (lq_v (EV.v 8 (i := 8) (nm := "step") rfl rfl) rfl) lq_int (by walk_at "ix") (by walk_at "len")) ⟨_, rfl, by rw [List.length_map]; exact Nat.lt_of_le_of_lt hlen (by decide), ?_⟩) ⟨_, rfl⟩))
      refine lss_cons (sx_set (EV.l 1 (i := 1) (nm := "at") rfl rfl) hnd rfl (le_q (lq_ix (lq_v (EV.v 8 (i := 8) (nm := "step") rfl rfl) rfl) lq_int (by walk_at "ix") (by walk_at "len")) ⟨rfl, ?_⟩))
      refine lss_drop 7 (lss_drop 8 (lss_nil ⟨l ++ [t], k2, ?_, ?_⟩))
      · rw [hwk2]
        show (match stepAt p k c with
          | some (t, k) => some (l ++ [t], k)
          | none => none) = _
        rw [hst]
      · rw [List.map_append]
        rfl
  · rintro δ ⟨l, k, hwk, rfl⟩
    have e : z.cps.toList.take (signsD z).length = z.cps.toList := by
      unfold signsD
      rw [List.length_map, List.take_length]
    rw [e] at hwk
    obtain ⟨hk, hll, hlt⟩ := walk_keep hw ha _ _ _ hwk
    have hlen : l.length ≤ 1000 := by
      rw [hll, Array.length_toList]
      exact hl
    have hsum := sum_len l fun t ht => (hlt t ht).1
    refine lss_one (ls_ret (le_tup (ld_cons (le_join lq_str (le_frzAt (i := 6) (d := .list (l.map .str)) rfl ?_ (le_q (lq_v (EV.v 6 (i := 6) (nm := "written") rfl rfl) rfl) ⟨l, .d, ?_, ?_⟩))))))
    · have : (l.map fun t => LV.d (.str t)) = (l.map PyData.str).map LV.d := by rw [List.map_map]; rfl
      rw [this]
      exact fz_map
    · have : (Str.ofString "").length = 0 := by decide +kernel
      rw [this]
      omega
    · refine ⟨_, .d, ld_q (lq_v (EV.v 1 (i := 1) (nm := "at") rfl rfl) rfl) (ld_nil ⟨by simp [sizeLine], [], ?_, trivial⟩)⟩
      show LV.d _ = LV.d (encLed (walk p a z.cps.toList))
      rw [hwk]
      rfl
end
end Z
set_option maxHeartbeats 400000
namespace Z
open PySem PySem.Spec PyProof.Rows L2
local macro_rules | `(tactic| walk_at "len") => `(tactic| (intro zz hz; first | (cases hz; done) | (injection hz with hz; subst hz; first | assumption | (simp only [PySem.Str.length_append, Str.length] at *; simp [sizeLine] at *; omega))))
local macro_rules | `(tactic| walk_at "c") => `(tactic| first | rfl | assumption | decide | omega)
local macro_rules | `(tactic| walk_at "ix") => `(tactic| first | assumption | rfl)
local macro_rules | `(tactic| walk_at "mem") => `(tactic| assumption)
local macro_rules | `(tactic| walk_at "sz") => `(tactic| first | assumption | omega)
local macro_rules | `(tactic| walk_at "mul") => `(tactic| first | exact .inr ⟨by decide, by decide⟩ | exact .inl ⟨by decide, by decide⟩)
local macro_rules | `(tactic| walk_at "div") => `(tactic| first | exact ⟨by decide, by decide⟩ | exact ⟨by omega, by omega⟩)
local macro_rules | `(tactic| walk_at "cmp") => `(tactic| first | exact c_lt | exact c_le | exact c_gt | exact c_ge | exact c_eqI | exact c_neI | exact c_eqS | exact c_neS | exact c_eqB | exact c_isN | exact c_notN | exact c_inS | exact c_notInS)
def S_runBad (K : PySem.W.Frag) : Spec (PyData × PyData) where
  pre γ xs := xs = [.d γ.1, .d γ.2] ∧ fitD γ.1 = true ∧ isPlainD γ.1 = false
  post γ r ys := False
  exc γ cls ys := cls = .ref (He.ga K "BadPlain")
def S_runStrange (K : PySem.W.Frag) : Spec (PPlain × Str) where
  pre γ xs := xs = [.d (encPlain γ.1), .d (.str γ.2)] ∧ WfP γ.1 ∧ γ.2.length ≤ 1000 ∧ isTextD γ.1.S (.str γ.2) = false
  post γ r ys := False
  exc γ cls ys := cls = .ref (He.ga K "BadSigns")
def S_bad1 (K : PySem.W.Frag) : Spec PyData where
  pre γ xs := xs = [.d γ] ∧ fitD γ = true ∧ isPlainD γ = false
  post γ r ys := False
  exc γ cls ys := cls = .ref (He.ga K "BadPlain")
def S_bad2 (K : PySem.W.Frag) : Spec (PyData × PyData) where
  pre γ xs := xs = [.d γ.1, .d γ.2] ∧ fitD γ.1 = true ∧ fitD γ.2 = true ∧ (isPlainD γ.1 = false ∨ isPlainD γ.2 = false)
  post γ r ys := False
  exc γ cls ys := cls = .ref (He.ga K "BadPlain")
section
variable {P : Program} {w : World} {K : PySem.W.Frag} {mg : Str → Option Value} {base : Heap}
-- written_by: ['plain', 'text', 'signs', 'begin', 'states', 'ends_at']
theorem ok_written (T : Tp K mg) : Cal P w K mg base 2 "written_by" ["plain", "text"] S_written := by
  refine cal_of (k := 1) T (N := ["plain", "text", "signs", "begin", "states", "ends_at"]) 9 9 rfl rfl (fun _ _ _ _ _ _ us hl => match us, hl with | [_, _], _ => rfl) [false, false] rfl (by decide +kernel) (fun γ xs h => ?_) ?_
  · first | exact congrArg List.length (show _ = _ from h) | exact congrArg List.length (show _ ∧ _ from h).1
  intro cdv A outer s H E γ vs xs hr hl hpre
  obtain ⟨v0, v1, rfl⟩ : ∃ v0 v1, vs = [v0, v1] := by
    match vs, hl with
    | [a0, a1], _ => exact ⟨a0, a1, rfl⟩
  have hnd : (["plain", "text", "signs", "begin", "states", "ends_at"] : List Str).Nodup := by decide +kernel
  obtain ⟨p, z⟩ := γ
  obtain ⟨rfl, (hw : WfP p), (hz : Over p.S z), (hl : z.length ≤ 1000)⟩ := hpre
  dsimp only
  have EV : Ev (cxOf (L2.CX P w) P w K mg base ["plain", "text", "signs", "begin", "states", "ends_at"] "written_by" (defScope (Hd.topS 19)) (He.ga K "written_by") cdv A outer s H E) ["plain", "text", "signs", "begin", "states", "ends_at"] [0, 1, 2, 3, 4, 5] [0, 1, 2, 3, 4, 5] ["len", "led_by"] := ⟨rfl, (by decide +kernel : evB (defScope (Hd.topS 19)) ["plain", "text", "signs", "begin", "states", "ends_at"] [0, 1, 2, 3, 4, 5] [0, 1, 2, 3, 4, 5] ["len", "led_by"] = true)⟩
  refine lss_cons (ls_asg (le_q (lq_v (EV.v 0 (i := 0) (nm := "plain") rfl rfl) rfl) (gx_tup3 rfl hnd (EV.l 2 (i := 2) (nm := "signs") rfl rfl) (EV.l 3 (i := 3) (nm := "begin") rfl rfl) (EV.l 4 (i := 4) (nm := "states") rfl rfl) rfl rfl rfl rfl rfl rfl ?_)))
  have e0 : ((p.sts.map encState).length : Int) = (p.sts.length : Int) := by rw [List.length_map]
  by_cases h0 : p.sts.length = 0
  · refine lss_cons (ls_ifb (p := true) (LB.cast (lb_cmp (lq_len (fr_len T) (lq_v (EV.v 4 (i := 4) (nm := "states") rfl rfl) rfl) (by walk_at "ix") (by walk_at "len") (EV.g 0 (nm := "len") rfl).g) lq_int (by walk_at "cmp")) (decide_eq_true (by omega))) (fun hc => ?_) (fun hc => nomatch hc))
    refine lss_one (ls_ret (le_q lq_none ⟨[], ?_, trivial⟩))
    show LV.d _ = LV.d (encEnd (runP p z))
    unfold runP
    rw [if_pos h0]
    rfl
  refine lss_cons (ls_ifb (p := false) (LB.cast (lb_cmp (lq_len (fr_len T) (lq_v (EV.v 4 (i := 4) (nm := "states") rfl rfl) rfl) (by walk_at "ix") (by walk_at "len") (EV.g 0 (nm := "len") rfl).g) lq_int (by walk_at "cmp")) (decide_eq_false (by omega))) (fun hc => nomatch hc) (fun hc => lss_nil ?_))
  have h0' : 0 < p.sts.length := by omega
  refine lss_cons (sx_set (EV.l 5 (i := 5) (nm := "ends_at") rfl rfl) hnd rfl (ex_calQ (EV.g 1 (nm := "led_by") rfl) (ok_ledBy T) hr (by decide) (lqs_cons (lq_v (EV.v 0 (i := 0) (nm := "plain") rfl rfl) rfl) (lqs_cons lq_int (lqs_cons (lq_v (EV.v 1 (i := 1) (nm := "text") rfl rfl) rfl) .nil))) (p, 0, z) ⟨rfl, hw, h0', hz, hl⟩ (fun r ys h => ?_) (fun _ _ h => h.elim)))
  subst h
  refine ⟨rfl, ?_⟩
  dsimp only
  have hrun : runP p z = (match walk p 0 z.cps.toList with
    | some (l, i) => (match endAt p i with
      | some e => some (p.b ++ Str.join (Str.ofString "") l ++ e)
      | none => none)
    | none => none) := by
    unfold runP
    rw [if_neg h0]
    all_goals rfl
  cases hwk : walk p 0 z.cps.toList with
  | none =>
    refine lss_cons (ls_ifb (p := true) (lb_or_t (LB.cast (lb_cmp (lq_v (EV.v 5 (i := 5) (nm := "ends_at") rfl rfl) rfl) lq_none (by walk_at "cmp")) rfl)) (fun _ => ?_) (fun hc => nomatch hc))
    refine lss_one (ls_ret (le_q lq_none ⟨[], ?_, trivial⟩))
    show LV.d _ = LV.d (encEnd (runP p z))
    rw [hrun, hwk]
    rfl
  | some q =>
    obtain ⟨l, i⟩ := q
    obtain ⟨hi, hll, hlt⟩ := walk_keep hw h0' _ _ _ hwk
    have f1 : ixD (.tuple (p.sts.map encState)) (i : Nat) = some (encState p.sts[i]) := at_map (List.getElem?_eq_getElem hi)
    have f2 : ixD (encState p.sts[i]) 0 = some (encEnd p.sts[i].1) := rfl
    have hend : endAt p i = p.sts[i].1 := by
      unfold endAt
      rw [List.getElem?_eq_getElem hi]
    have wS := hw.st _ (List.getElem_mem hi)
    cases he : p.sts[i].1 with
    | none =>
      rw [he] at f2
      refine lss_cons (ls_ifb (p := true) (LB.cast (LBw.lb (lbw_or (lb_cmp (lq_v (EV.v 5 (i := 5) (nm := "ends_at") rfl rfl) rfl) lq_none (by walk_at "cmp")) fun hb => (lbw_or1 (lb_cmp (lq_ix (lq_ix (lq_v (EV.v 4 (i := 4) (nm := "states") rfl rfl) rfl) (lq_ix (lq_v (EV.v 5 (i := 5) (nm := "ends_at") rfl rfl) rfl) lq_int (by walk_at "ix") (by walk_at "len")) (by walk_at "ix") (by walk_at "len")) lq_int (by walk_at "ix") (by walk_at "len")) lq_none (by walk_at "cmp"))))) rfl) (fun _ => ?_) (fun hc => nomatch hc))
      refine lss_one (ls_ret (le_q lq_none ⟨[], ?_, trivial⟩))
      show LV.d _ = LV.d (encEnd (runP p z))
      rw [hrun, hwk]
      show _ = LV.d (encEnd (match endAt p i with
        | some e => some (p.b ++ Str.join (Str.ofString "") l ++ e)
        | none => none))
      rw [hend, he]
      rfl
    | some e =>
      rw [he] at f2
      have hj := join_len l fun t ht => (hlt t ht).1
      have h1 : l.length ≤ 1000 := by rw [hll, Array.length_toList]; exact hl
      have h2 := (wS.e e he).2
      have h3 := hw.b.2
      have g1 : (p.b ++ Str.join (Str.ofString "") l).length ≤ sizeLine := by
        rw [Str.length_append]
        simp [sizeLine]
        omega
      have g2 : (p.b ++ Str.join (Str.ofString "") l ++ e).length ≤ sizeLine := by
        rw [Str.length_append, Str.length_append]
        simp [sizeLine]
        omega
      refine lss_cons (ls_ifb (p := false) (LB.cast (LBw.lb (lbw_or (lb_cmp (lq_v (EV.v 5 (i := 5) (nm := "ends_at") rfl rfl) rfl) lq_none (by walk_at "cmp")) fun hb => (lbw_or1 (lb_cmp (lq_ix (lq_ix (lq_v (EV.v 4 (i := 4) (nm := "states") rfl rfl) rfl) (lq_ix (lq_v (EV.v 5 (i := 5) (nm := "ends_at") rfl rfl) rfl) lq_int (by walk_at "ix") (by walk_at "len")) (by walk_at "ix") (by walk_at "len")) lq_int (by walk_at "ix") (by walk_at "len")) lq_none (by walk_at "cmp"))))) rfl) (fun hc => nomatch hc) (fun _ => lss_nil ?_))
      refine lss_one (ls_ret (le_q (x := .str (p.b ++ Str.join (Str.ofString "") l ++ e)) (lq_plus (lq_plus (lq_v (EV.v 3 (i := 3) (nm := "begin") rfl rfl) rfl) (lq_ix (lq_v (EV.v 5 (i := 5) (nm := "ends_at") rfl rfl) rfl) lq_int (by walk_at "ix") (by walk_at "len")) (by walk_at "c") (by walk_at "len")) (lq_ix (lq_ix (lq_v (EV.v 4 (i := 4) (nm := "states") rfl rfl) rfl) (lq_ix (lq_v (EV.v 5 (i := 5) (nm := "ends_at") rfl rfl) rfl) lq_int (by walk_at "ix") (by walk_at "len")) (by walk_at "ix") (by walk_at "len")) lq_int (by walk_at "ix") (by walk_at "len")) (by walk_at "c") (by walk_at "len")) ⟨[], ?_, trivial⟩))
      show LV.d _ = LV.d (encEnd (runP p z))
      rw [hrun, hwk]
      show _ = LV.d (encEnd (match endAt p i with
        | some e => some (p.b ++ Str.join (Str.ofString "") l ++ e)
        | none => none))
      rw [hend, he]
      rfl
-- run_plain: ['plain', 'text']
theorem ok_run (T : Tp K mg) : Cal P w K mg base 6 "run_plain" ["plain", "text"] S_written := by
  refine cal_of (k := 5) T (N := ["plain", "text"]) 35 35 rfl rfl (fun _ _ _ _ _ _ us hl => match us, hl with | [_, _], _ => rfl) [false, false] rfl (by decide +kernel) (fun γ xs h => ?_) ?_
  · first | exact congrArg List.length (show _ = _ from h) | exact congrArg List.length (show _ ∧ _ from h).1
  intro cdv A outer s H E γ vs xs hr hl hpre
  obtain ⟨v0, v1, rfl⟩ : ∃ v0 v1, vs = [v0, v1] := by
    match vs, hl with
    | [a0, a1], _ => exact ⟨a0, a1, rfl⟩
  have hnd : (["plain", "text"] : List Str).Nodup := by decide +kernel
  obtain ⟨p, z⟩ := γ
  obtain ⟨rfl, (hw : WfP p), (hz : Over p.S z), (hl : z.length ≤ 1000)⟩ := hpre
  dsimp only
  have EV : Ev (cxOf (L2.CX P w) P w K mg base ["plain", "text"] "run_plain" (defScope (Hd.topS 52)) (He.ga K "run_plain") cdv A outer s H E) ["plain", "text"] [0, 1] [0, 1] ["check_plain", "check_text", "written_by"] := ⟨rfl, (by decide +kernel : evB (defScope (Hd.topS 52)) ["plain", "text"] [0, 1] [0, 1] ["check_plain", "check_text", "written_by"] = true)⟩
  refine lss_cons (ls_expr (ex_calQ (EV.g 0 (nm := "check_plain") rfl) (ok_checkPlain T) hr (by decide) (lqs_cons (lq_v (EV.v 0 (i := 0) (nm := "plain") rfl rfl) rfl) .nil) (encPlain p) ⟨rfl, fit_plain hw⟩ (fun r ys h => ?_) (fun cls ys h => nomatch ((wf_plain hw).symm.trans h.1))))
  refine lss_cons (ls_expr (ex_calQ (EV.g 1 (nm := "check_text") rfl) (ok_checkText T) hr (by decide) (lqs_cons (lq_ix (lq_v (EV.v 0 (i := 0) (nm := "plain") rfl rfl) rfl) lq_int (by walk_at "ix") (by walk_at "len")) (lqs_cons (lq_v (EV.v 1 (i := 1) (nm := "text") rfl rfl) rfl) .nil)) (p.S, .str z) ⟨rfl, decide_eq_true hl⟩ (fun r ys h => ?_) (fun cls ys h => nomatch ((over_text hz).symm.trans h.1))))
  exact lss_one (ls_ret (ex_calQ (EV.g 2 (nm := "written_by") rfl) (ok_written T) hr (by decide) (lqs_cons (lq_v (EV.v 0 (i := 0) (nm := "plain") rfl rfl) rfl) (lqs_cons (lq_v (EV.v 1 (i := 1) (nm := "text") rfl rfl) rfl) .nil)) (p, z) ⟨rfl, hw, hz, hl⟩ (fun r ys h => ⟨[], h, trivial⟩) (fun cls ys h => h.elim)))
theorem ok_runBad (T : Tp K mg) : Cal P w K mg base 6 "run_plain" ["plain", "text"] (S_runBad K) := by
  refine cal_of (k := 5) T (N := ["plain", "text"]) 35 35 rfl rfl (fun _ _ _ _ _ _ us hl => match us, hl with | [_, _], _ => rfl) [false, false] rfl (by decide +kernel) (fun γ xs h => ?_) ?_
  · first | exact congrArg List.length (show _ = _ from h) | exact congrArg List.length (show _ ∧ _ from h).1
  intro cdv A outer s H E γ vs xs hr hl hpre
  obtain ⟨v0, v1, rfl⟩ : ∃ v0 v1, vs = [v0, v1] := by
    match vs, hl with
    | [a0, a1], _ => exact ⟨a0, a1, rfl⟩
  have hnd : (["plain", "text"] : List Str).Nodup := by decide +kernel
  obtain ⟨v, z⟩ := γ
  obtain ⟨rfl, (hf : fitD v = true), (hb : isPlainD v = false)⟩ := hpre
  dsimp only
  have EV : Ev (cxOf (L2.CX P w) P w K mg base ["plain", "text"] "run_plain" (defScope (Hd.topS 52)) (He.ga K "run_plain") cdv A outer s H E) ["plain", "text"] [0, 1] [0, 1] ["check_plain", "check_text", "written_by"] := ⟨rfl, (by decide +kernel : evB (defScope (Hd.topS 52)) ["plain", "text"] [0, 1] [0, 1] ["check_plain", "check_text", "written_by"] = true)⟩
  refine lss_cons (ls_expr (ex_calQ (EV.g 0 (nm := "check_plain") rfl) (ok_checkPlain T) hr (by decide) (lqs_cons (lq_v (EV.v 0 (i := 0) (nm := "plain") rfl rfl) rfl) .nil) v ⟨rfl, hf⟩ (fun r ys h => ?_) (fun cls ys h => ⟨[], h.2, trivial⟩)))
  exact absurd (show isPlainD v = true from h) (by rw [hb]; exact Bool.false_ne_true)
theorem ok_runStrange (T : Tp K mg) : Cal P w K mg base 6 "run_plain" ["plain", "text"] (S_runStrange K) := by
  refine cal_of (k := 5) T (N := ["plain", "text"]) 35 35 rfl rfl (fun _ _ _ _ _ _ us hl => match us, hl with | [_, _], _ => rfl) [false, false] rfl (by decide +kernel) (fun γ xs h => ?_) ?_
  · first | exact congrArg List.length (show _ = _ from h) | exact congrArg List.length (show _ ∧ _ from h).1
  intro cdv A outer s H E γ vs xs hr hl hpre
  obtain ⟨v0, v1, rfl⟩ : ∃ v0 v1, vs = [v0, v1] := by
    match vs, hl with
    | [a0, a1], _ => exact ⟨a0, a1, rfl⟩
  have hnd : (["plain", "text"] : List Str).Nodup := by decide +kernel
  obtain ⟨p, z⟩ := γ
  obtain ⟨rfl, (hw : WfP p), (hl : z.length ≤ 1000), (ht : isTextD p.S (.str z) = false)⟩ := hpre
  dsimp only
  have EV : Ev (cxOf (L2.CX P w) P w K mg base ["plain", "text"] "run_plain" (defScope (Hd.topS 52)) (He.ga K "run_plain") cdv A outer s H E) ["plain", "text"] [0, 1] [0, 1] ["check_plain", "check_text", "written_by"] := ⟨rfl, (by decide +kernel : evB (defScope (Hd.topS 52)) ["plain", "text"] [0, 1] [0, 1] ["check_plain", "check_text", "written_by"] = true)⟩
  refine lss_cons (ls_expr (ex_calQ (EV.g 0 (nm := "check_plain") rfl) (ok_checkPlain T) hr (by decide) (lqs_cons (lq_v (EV.v 0 (i := 0) (nm := "plain") rfl rfl) rfl) .nil) (encPlain p) ⟨rfl, fit_plain hw⟩ (fun r ys h => ?_) (fun cls ys h => nomatch ((wf_plain hw).symm.trans h.1))))
  refine lss_cons (ls_expr (ex_calQ (EV.g 1 (nm := "check_text") rfl) (ok_checkText T) hr (by decide) (lqs_cons (lq_ix (lq_v (EV.v 0 (i := 0) (nm := "plain") rfl rfl) rfl) lq_int (by walk_at "ix") (by walk_at "len")) (lqs_cons (lq_v (EV.v 1 (i := 1) (nm := "text") rfl rfl) rfl) .nil)) (p.S, .str z) ⟨rfl, decide_eq_true hl⟩ (fun r ys h => ?_) (fun cls ys h => ⟨[], h.2, trivial⟩)))
  exact absurd (show isTextD p.S (.str z) = true from h) (by rw [ht]; exact Bool.false_ne_true)
-- least_plain: ['plain']
theorem ok_leastBad (T : Tp K mg) : Cal P w K mg base 6 "least_plain" ["plain"] (S_bad1 K) := by
  refine cal_of (k := 5) T (N := ["plain"]) 36 36 rfl rfl (fun _ _ _ _ _ _ us hl => match us, hl with | [_], _ => rfl) [false] rfl (by decide +kernel) (fun γ xs h => ?_) ?_
  · first | exact congrArg List.length (show _ = _ from h) | exact congrArg List.length (show _ ∧ _ from h).1
  intro cdv A outer s H E γ vs xs hr hl hpre
  obtain ⟨v0, rfl⟩ : ∃ v0, vs = [v0] := by
    match vs, hl with
    | [a0], _ => exact ⟨a0, rfl⟩
  have hnd : (["plain"] : List Str).Nodup := by decide +kernel
  obtain ⟨rfl, (hf : fitD γ = true), (hb : isPlainD γ = false)⟩ := hpre
  have EV : Ev (cxOf (L2.CX P w) P w K mg base ["plain"] "least_plain" (defScope (Hd.topS 53)) (He.ga K "least_plain") cdv A outer s H E) ["plain"] [0] [0] ["check_plain", "least_form"] := ⟨rfl, (by decide +kernel : evB (defScope (Hd.topS 53)) ["plain"] [0] [0] ["check_plain", "least_form"] = true)⟩
  refine lss_cons (ls_expr (ex_calQ (EV.g 0 (nm := "check_plain") rfl) (ok_checkPlain T) hr (by decide) (lqs_cons (lq_v (EV.v 0 (i := 0) (nm := "plain") rfl rfl) rfl) .nil) γ ⟨rfl, hf⟩ (fun r ys h => ?_) (fun cls ys h => ⟨[], h.2, trivial⟩)))
  exact absurd (show isPlainD γ = true from h) (by rw [hb]; exact Bool.false_ne_true)
-- growth: ['plain']
theorem ok_growthBad (T : Tp K mg) : Cal P w K mg base 6 "growth" ["plain"] (S_bad1 K) := by
  refine cal_of (k := 5) T (N := ["plain"]) 38 38 rfl rfl (fun _ _ _ _ _ _ us hl => match us, hl with | [_], _ => rfl) [false] rfl (by decide +kernel) (fun γ xs h => ?_) ?_
  · first | exact congrArg List.length (show _ = _ from h) | exact congrArg List.length (show _ ∧ _ from h).1
  intro cdv A outer s H E γ vs xs hr hl hpre
  obtain ⟨v0, rfl⟩ : ∃ v0, vs = [v0] := by
    match vs, hl with
    | [a0], _ => exact ⟨a0, rfl⟩
  have hnd : (["plain"] : List Str).Nodup := by decide +kernel
  obtain ⟨rfl, (hf : fitD γ = true), (hb : isPlainD γ = false)⟩ := hpre
  have EV : Ev (cxOf (L2.CX P w) P w K mg base ["plain"] "growth" (defScope (Hd.topS 55)) (He.ga K "growth") cdv A outer s H E) ["plain"] [0] [0] ["check_plain", "growth_of"] := ⟨rfl, (by decide +kernel : evB (defScope (Hd.topS 55)) ["plain"] [0] [0] ["check_plain", "growth_of"] = true)⟩
  refine lss_cons (ls_expr (ex_calQ (EV.g 0 (nm := "check_plain") rfl) (ok_checkPlain T) hr (by decide) (lqs_cons (lq_v (EV.v 0 (i := 0) (nm := "plain") rfl rfl) rfl) .nil) γ ⟨rfl, hf⟩ (fun r ys h => ?_) (fun cls ys h => ⟨[], h.2, trivial⟩)))
  exact absurd (show isPlainD γ = true from h) (by rw [hb]; exact Bool.false_ne_true)
-- check_two_plains: ['one', 'other']
theorem ok_twoBad (T : Tp K mg) : Cal P w K mg base 6 "check_two_plains" ["one", "other"] (S_bad2 K) := by
  refine cal_of (k := 5) T (N := ["one", "other"]) 23 23 rfl rfl (fun _ _ _ _ _ _ us hl => match us, hl with | [_, _], _ => rfl) [false, false] rfl (by decide +kernel) (fun γ xs h => ?_) ?_
  · first | exact congrArg List.length (show _ = _ from h) | exact congrArg List.length (show _ ∧ _ from h).1
  intro cdv A outer s H E γ vs xs hr hl hpre
  obtain ⟨v0, v1, rfl⟩ : ∃ v0 v1, vs = [v0, v1] := by
    match vs, hl with
    | [a0, a1], _ => exact ⟨a0, a1, rfl⟩
  have hnd : (["one", "other"] : List Str).Nodup := by decide +kernel
  obtain ⟨v, u⟩ := γ
  obtain ⟨rfl, (hf : fitD v = true), (hf2 : fitD u = true), (hb : isPlainD v = false ∨ isPlainD u = false)⟩ := hpre
  dsimp only
  have EV : Ev (cxOf (L2.CX P w) P w K mg base ["one", "other"] "check_two_plains" (defScope (Hd.topS 34)) (He.ga K "check_two_plains") cdv A outer s H E) ["one", "other"] [0, 1] [0, 1] ["check_plain", "check_same_signs"] := ⟨rfl, (by decide +kernel : evB (defScope (Hd.topS 34)) ["one", "other"] [0, 1] [0, 1] ["check_plain", "check_same_signs"] = true)⟩
  refine lss_cons (ls_expr (ex_calQ (EV.g 0 (nm := "check_plain") rfl) (ok_checkPlain T) hr (by decide) (lqs_cons (lq_v (EV.v 0 (i := 0) (nm := "one") rfl rfl) rfl) .nil) v ⟨rfl, hf⟩ (fun r ys h => ?_) (fun cls ys h => ⟨[], h.2, trivial⟩)))
  refine lss_cons (ls_expr (ex_calQ (EV.g 0 (nm := "check_plain") rfl) (ok_checkPlain T) hr (by decide) (lqs_cons (lq_v (EV.v 1 (i := 1) (nm := "other") rfl rfl) rfl) .nil) u ⟨rfl, hf2⟩ (fun r ys h2 => ?_) (fun cls ys h => ⟨[], h.2, trivial⟩)))
  have h' : isPlainD v = true := h
  have h2' : isPlainD u = true := h2
  rw [h', h2'] at hb
  simp at hb
-- same_plain: ['one', 'other']
theorem ok_sameBad (T : Tp K mg) : Cal P w K mg base 7 "same_plain" ["one", "other"] (S_bad2 K) := by
  refine cal_of (k := 6) T (N := ["one", "other"]) 37 37 rfl rfl (fun _ _ _ _ _ _ us hl => match us, hl with | [_, _], _ => rfl) [false, false] rfl (by decide +kernel) (fun γ xs h => ?_) ?_
  · first | exact congrArg List.length (show _ = _ from h) | exact congrArg List.length (show _ ∧ _ from h).1
  intro cdv A outer s H E γ vs xs hr hl hpre
  obtain ⟨v0, v1, rfl⟩ : ∃ v0 v1, vs = [v0, v1] := by
    match vs, hl with
    | [a0, a1], _ => exact ⟨a0, a1, rfl⟩
  have hnd : (["one", "other"] : List Str).Nodup := by decide +kernel
  obtain ⟨v, u⟩ := γ
  obtain ⟨rfl, (hf : fitD v = true), (hf2 : fitD u = true), (hb : isPlainD v = false ∨ isPlainD u = false)⟩ := hpre
  dsimp only
  have EV : Ev (cxOf (L2.CX P w) P w K mg base ["one", "other"] "same_plain" (defScope (Hd.topS 54)) (He.ga K "same_plain") cdv A outer s H E) ["one", "other"] [0, 1] [0, 1] ["check_two_plains", "first_difference"] := ⟨rfl, (by decide +kernel : evB (defScope (Hd.topS 54)) ["one", "other"] [0, 1] [0, 1] ["check_two_plains", "first_difference"] = true)⟩
  exact lss_cons (ls_expr (ex_calQ (EV.g 0 (nm := "check_two_plains") rfl) (ok_twoBad T) hr (by decide) (lqs_cons (lq_v (EV.v 0 (i := 0) (nm := "one") rfl rfl) rfl) (lqs_cons (lq_v (EV.v 1 (i := 1) (nm := "other") rfl rfl) rfl) .nil)) (v, u) ⟨rfl, hf, hf2, hb⟩ (fun r ys h => h.elim) (fun cls ys h => ⟨[], h, trivial⟩)))
-- is_plain: ['value']
theorem ok_isPl (T : Tp K mg) : Cal P w K mg base 5 "is_plain" ["value"] S_isPlain := by
  refine cal_of (k := 4) T (N := ["value"]) 34 34 rfl rfl (fun _ _ _ _ _ _ us hl => match us, hl with | [_], _ => rfl) [false] rfl (by decide +kernel) (fun γ xs h => ?_) ?_
  · first | exact congrArg List.length (show _ = _ from h) | exact congrArg List.length (show _ ∧ _ from h).1
  intro cdv A outer s H E γ vs xs hr hl hpre
  obtain ⟨v0, rfl⟩ : ∃ v0, vs = [v0] := by
    match vs, hl with
    | [a0], _ => exact ⟨a0, rfl⟩
  have hnd : (["value"] : List Str).Nodup := by decide +kernel
  obtain ⟨rfl, (hf : fitD γ = true)⟩ := hpre
  have EV : Ev (cxOf (L2.CX P w) P w K mg base ["value"] "is_plain" (defScope (Hd.topS 51)) (He.ga K "is_plain") cdv A outer s H E) ["value"] [0] [0] ["is_plain_value"] := ⟨rfl, (by decide +kernel : evB (defScope (Hd.topS 51)) ["value"] [0] [0] ["is_plain_value"] = true)⟩
  exact lss_one (ls_ret (ex_calQ (EV.g 0 (nm := "is_plain_value") rfl) (ok_isPlain T) hr (by decide) (lqs_cons (lq_v (EV.v 0 (i := 0) (nm := "value") rfl rfl) rfl) .nil) γ ⟨rfl, hf⟩ (fun r ys h => ⟨[], h, trivial⟩) (fun cls ys h => h.elim)))
end
end Z
set_option maxHeartbeats 400000
namespace Z
open PySem PySem.Spec PyProof.Rows L2
local macro_rules | `(tactic| walk_at "len") => `(tactic| (intro zz hz; first | (cases hz; done) | (injection hz with hz; subst hz; first | assumption | (simp only [PySem.Str.length_append, Str.length] at *; simp [sizeLine] at *; omega))))
local macro_rules | `(tactic| walk_at "c") => `(tactic| first | rfl | assumption | decide | omega)
local macro_rules | `(tactic| walk_at "ix") => `(tactic| first | assumption | rfl)
local macro_rules | `(tactic| walk_at "mem") => `(tactic| assumption)
local macro_rules | `(tactic| walk_at "sz") => `(tactic| first | assumption | omega)
local macro_rules | `(tactic| walk_at "mul") => `(tactic| first | exact .inr ⟨by decide, by decide⟩ | exact .inl ⟨by decide, by decide⟩)
local macro_rules | `(tactic| walk_at "div") => `(tactic| first | exact ⟨by decide, by decide⟩ | exact ⟨by omega, by omega⟩)
local macro_rules | `(tactic| walk_at "cmp") => `(tactic| first | exact c_lt | exact c_le | exact c_gt | exact c_ge | exact c_eqI | exact c_neI | exact c_eqS | exact c_neS | exact c_eqB | exact c_isN | exact c_notN | exact c_inS | exact c_notInS)
section
variable {X : Cx} {e e2 : Expr} {δ : LSt} {W : LW} {Q : LV → LSt → Prop} {pos p p2 : Pos} {pn : Str} {i : Nat}
/-- a drawn word -/
theorem ex_word {m k : Nat} {pv : LV} {S : Str} {mx : Nat} (g : GlOk X "_law_word") (C : Cal X.prog X.w X.K X.mg X.base k "_law_word" ["pool", "signs", "longest"] S_word) (hr : Room m X.A) (hkm : k ≤ m) (v : VisOk X i pn) (hp : valAt δ i = some pv) (hpv : PoolV pv) (ha : LQs X δ [e, e2] [.str S, .int (mx : Nat)]) (h0 : 0 < S.length) (h1 : S.length ≤ 1000) (h2 : mx ≤ 1000)
    (q : ∀ z pv', z.length ≤ mx → Over S z → PoolV pv' → Q (.d (.str z)) (upAt δ i pv'))
    (he2 : starEach [Expr.Name pn p2, e, e2] X.env = (false, eval (Expr.Name pn p2) X.env) :: starEach [e, e2] X.env := by rfl) (hpl : (backTo pos (starEach [e, e2] X.env)).any (·.1) = false := by rfl) : LE X (.Call (.Name "_law_word" p) [.Name pn p2, e, e2] [] pos) δ W Q :=
  ex_calP g C hr hkm v hp ha (pv, S, mx) ⟨rfl, hpv, h0, h1, h2⟩ (fun r ys ⟨z, pv', e1, h1, h2, h3, e2⟩ => ⟨pv', by rw [e2]; rfl, by rw [e1]; exact q z pv' h1 h2 h3⟩) (fun _ _ h => h) he2 hpl
end
structure SmS (s : PState) : Prop where
  e : ∀ e, s.1 = some e → e.length ≤ 2
  r : ∀ t k, some (t, k) ∈ s.2 → t.length ≤ 2
structure SmP (p : PPlain) : Prop where
  b : p.b.length ≤ 2
  st : ∀ s ∈ p.sts, SmS s
def S_same : Spec (Option Str × Option Str) where
  pre γ xs := xs = [.d (encEnd γ.1), .d (encEnd γ.2)]
  post γ r ys := r = .d (.bool (decide (γ.1 = γ.2)))
def S_plain : Spec (LV × Str × Nat × Nat) where
  pre γ xs := xs = [γ.1, .d (.str γ.2.1), .d (.int (γ.2.2.1 : Nat)), .d (.int (γ.2.2.2 : Nat))] ∧ PoolV γ.1 ∧ areSigns γ.2.1 = true ∧ (0 < γ.2.2.1 ∧ γ.2.2.1 ≤ 100) ∧ γ.2.2.2 ≤ 2
  post γ r ys := ∃ p pv, r = .d (encPlain p) ∧ WfP p ∧ SmP p ∧ p.S = γ.2.1 ∧ 0 < p.sts.length ∧ p.sts.length ≤ γ.2.2.1 ∧ PoolV pv ∧ ys = [some pv, none, none, none]
def S_strange : Spec Str where
  pre γ xs := xs = [.d (.str γ)] ∧ γ.length ≤ 6
  post γ r ys := ∃ c : Nat, r = .d (.str ⟨#[c]⟩) ∧ c ∉ γ.cps.toList
def S_common : Spec (Str × Str) where
  pre γ xs := xs = [.d (.str γ.1), .d (.str γ.2)] ∧ γ.1.length ≤ 1000 ∧ γ.2.length ≤ 1000
  post γ r ys := ∃ c : Str, r = .d (.str c) ∧ c.cps.toList <+: γ.1.cps.toList
theorem nodup_len {α : Type} [DecidableEq α] : ∀ {l m : List α}, l.Nodup → (∀ x ∈ l, x ∈ m) → l.length ≤ m.length
  | [], _, _, _ => Nat.zero_le _
  | a :: l, m, hn, hs => by
    have ha := hs a (by simp)
    have h2 := List.nodup_cons.mp hn
    have := nodup_len (l := l) (m := m.erase a) h2.2 fun x hx => (List.mem_erase_of_ne (fun (e : x = a) => h2.1 (e ▸ hx))).mpr (hs x (List.mem_cons_of_mem _ hx))
    rw [List.length_erase_of_mem ha] at this
    have h3 : 0 < m.length := List.length_pos_of_mem ha
    show l.length + 1 ≤ m.length
    omega
section
variable {P : Program} {w : World} {K : PySem.W.Frag} {mg : Str → Option Value} {base : Heap}
-- _law_same: ['got', 'due', 'k']
theorem ok_same (T : Tp K mg) : Cal P w K mg base 1 "_law_same" ["got", "due"] S_same := by
  refine cal_of (k := 0) T (N := ["got", "due", "k"]) 44 44 rfl rfl (fun _ _ _ _ _ _ us hl => match us, hl with | [_, _], _ => rfl) [false, false] rfl (by decide +kernel) (fun γ xs h => ?_) ?_
  · first | exact congrArg List.length (show _ = _ from h) | exact congrArg List.length (show _ ∧ _ from h).1
  intro cdv A outer s H E γ vs xs hr hl hpre
  obtain ⟨v0, v1, rfl⟩ : ∃ v0 v1, vs = [v0, v1] := by
    match vs, hl with
    | [a0, a1], _ => exact ⟨a0, a1, rfl⟩
  have hnd : (["got", "due", "k"] : List Str).Nodup := by decide +kernel
  obtain ⟨a, b⟩ := γ
  obtain rfl := hpre
  dsimp only
  have EV : Ev (cxOf (L2.CX P w) P w K mg base ["got", "due", "k"] "_law_same" (defScope (Hd.topS 62)) (He.ga K "_law_same") cdv A outer s H E) ["got", "due", "k"] [0, 1, 2] [0, 1, 2] ["isinstance", "tuple", "len", "range", "_law_same", "str", "bool", "int"] := ⟨rfl, (by decide +kernel : evB (defScope (Hd.topS 62)) ["got", "due", "k"] [0, 1, 2] [0, 1, 2] ["isinstance", "tuple", "len", "range", "_law_same", "str", "bool", "int"] = true)⟩
  cases b with
  | none =>
    refine lss_cons (ls_ifb (p := true) (LB.cast (lb_cmp (lq_v (EV.v 1 (i := 1) (nm := "due") rfl rfl) rfl) lq_none (by walk_at "cmp")) rfl) (fun _ => ?_) (fun hc => nomatch hc))
    refine lss_one (ls_ret (le_q (lq_cmp (lq_v (EV.v 0 (i := 0) (nm := "got") rfl rfl) rfl) lq_none (by walk_at "cmp")) ⟨[], ?_, trivial⟩))
    cases a with
    | none => rfl
    | some a => rfl
  | some b =>
    refine lss_cons (ls_ifb (p := false) (LB.cast (lb_cmp (lq_v (EV.v 1 (i := 1) (nm := "due") rfl rfl) rfl) lq_none (by walk_at "cmp")) rfl) (fun hc => nomatch hc) (fun _ => lss_nil ?_))
    refine lss_cons (ls_ifb (p := false) (LB.cast (lb_val (lq_isi (Tn := "tuple") (fr_isinstance T) (fr_tuple T) (by kernel_rfl) (lq_v (EV.v 1 (i := 1) (nm := "due") rfl rfl) rfl) (by decide +kernel) (EV.g 0 (nm := "isinstance") rfl).g (EV.g 1 (nm := "tuple") rfl).g)) (by rw [isTy_tuple]; rfl)) (fun hc => nomatch hc) (fun _ => lss_nil ?_))
    refine lss_cons (ls_ifb (p := true) (LB.cast (lb_val (lq_isi (Tn := "str") (fr_isinstance T) (fr_str T) (by kernel_rfl) (lq_v (EV.v 1 (i := 1) (nm := "due") rfl rfl) rfl) (by decide +kernel) (EV.g 0 (nm := "isinstance") rfl).g (EV.g 5 (nm := "str") rfl).g)) (by rw [isTy_str]; rfl)) (fun _ => ?_) (fun hc => nomatch hc))
    cases a with
    | none =>
      refine lss_one (ls_ret (le_q (lq_and (q := true) (lq_cast (lq_isi (Tn := "str") (fr_isinstance T) (fr_str T) (by kernel_rfl) (lq_v (EV.v 0 (i := 0) (nm := "got") rfl rfl) rfl) (by decide +kernel) (EV.g 0 (nm := "isinstance") rfl).g (EV.g 5 (nm := "str") rfl).g) (y := .bool false) (by rw [isTy_str]; rfl)) (fun hb => nomatch hb)) ⟨[], rfl, trivial⟩))
    | some a =>
      refine lss_one (ls_ret (le_q (lq_and (lq_cast (lq_isi (Tn := "str") (fr_isinstance T) (fr_str T) (by kernel_rfl) (lq_v (EV.v 0 (i := 0) (nm := "got") rfl rfl) rfl) (by decide +kernel) (EV.g 0 (nm := "isinstance") rfl).g (EV.g 5 (nm := "str") rfl).g) (y := .bool true) (by rw [isTy_str]; rfl)) (fun hb => lq_one (lq_cmp (lq_v (EV.v 0 (i := 0) (nm := "got") rfl rfl) rfl) (lq_v (EV.v 1 (i := 1) (nm := "due") rfl rfl) rfl) c_eqS))) ⟨[], ?_, trivial⟩))
      show LV.d (.bool (true && decide (a = b))) = LV.d (.bool (decide (some a = some b)))
      simp
-- _law_strange: ['signs', 'sign']
theorem ok_strange (T : Tp K mg) : Cal P w K mg base 1 "_law_strange" ["signs"] S_strange := by
  refine cal_of (k := 0) T (N := ["signs", "sign"]) 53 53 rfl rfl (fun _ _ _ _ _ _ us hl => match us, hl with | [_], _ => rfl) [false] rfl (by decide +kernel) (fun γ xs h => ?_) ?_
  · first | exact congrArg List.length (show _ = _ from h) | exact congrArg List.length (show _ ∧ _ from h).1
  intro cdv A outer s H E γ vs xs hr hl hpre
  obtain ⟨v0, rfl⟩ : ∃ v0, vs = [v0] := by
    match vs, hl with
    | [a0], _ => exact ⟨a0, rfl⟩
  have hnd : (["signs", "sign"] : List Str).Nodup := by decide +kernel
  obtain ⟨rfl, (hS : γ.length ≤ 6)⟩ := hpre
  have EV : Ev (cxOf (L2.CX P w) P w K mg base ["signs", "sign"] "_law_strange" (defScope (Hd.topS 71)) (He.ga K "_law_strange") cdv A outer s H E) ["signs", "sign"] [0] [0] [] := ⟨rfl, (by decide +kernel : evB (defScope (Hd.topS 71)) ["signs", "sign"] [0] [0] [] = true)⟩
  refine lss_one (ls_ret (le_ix ?_))
  refine cx_mapIf (N := ["signs", "sign"]) (vs := [1, 0]) (ls := [1]) (gs := []) hnd rfl (show BlkOk ["signs", "sign"] (defScope (Hd.topS 71)) _ [("sign", 1)] from blkOk_by (by decide +kernel)) rfl (show evB (relS _ (defScope (Hd.topS 71))) _ _ _ _ = true by decide +kernel) 0 rfl rfl (show ownB _ (defScope (Hd.topS 71)) _ = true by decide +kernel) (fun d => match d with | .str z => (match z.cps.toList with | [c] => !decide (c ∈ γ.cps.toList) | _ => false) | _ => false) id (li_str (le_q lq_str ⟨_, rfl, by decide +kernel, rfl, ?_, ?_, ?_⟩))
  · intro d hd s H C cl fp EB
    obtain ⟨c, hc, rfl⟩ := List.mem_map.mp hd
    exact LB.go (lb_cmp (lq_v (EB.v 0 (i := 1) (nm := "sign") rfl rfl) rfl) (lq_v (EB.v 1 (i := 0) (nm := "signs") rfl rfl) rfl) (by walk_at "cmp")) ⟨rfl, rfl⟩
  · intro d hd ht s H C cl fp EB
    exact le_q (lq_v (EB.v 0 (i := 1) (nm := "sign") rfl rfl) rfl) ⟨rfl, rfl⟩
  · refine ⟨_, fz_map, ?_⟩
    rw [List.map_id]
    have hex : ∃ c ∈ (Str.ofString "abcdefg").cps.toList, c ∉ γ.cps.toList := by
      apply Classical.byContradiction
      intro hne
      have hall : ∀ c ∈ (Str.ofString "abcdefg").cps.toList, c ∈ γ.cps.toList := fun c hc => Classical.byContradiction fun hn => hne ⟨c, hc, hn⟩
      have := nodup_len (by decide +kernel) hall
      have h7 : (Str.ofString "abcdefg").cps.toList.length = 7 := by decide +kernel
      rw [h7, Array.length_toList] at this
      have h6 : γ.cps.size ≤ 6 := hS
      omega
    obtain ⟨c0, hc0, hn0⟩ := hex
    generalize hL : List.filter _ (signsD _) = L
    cases L with
    | nil =>
      have := List.filter_eq_nil_iff.mp hL (.str ⟨#[c0]⟩) (List.mem_map.mpr ⟨c0, hc0, rfl⟩)
      exact absurd (show (!decide (c0 ∈ γ.cps.toList)) = true by simp [hn0]) this
    | cons d r =>
      have hm : d ∈ d :: r := List.mem_cons_self ..
      rw [← hL, List.mem_filter] at hm
      obtain ⟨h1, h2⟩ := hm
      obtain ⟨c, hc, rfl⟩ := List.mem_map.mp h1
      refine le_q lq_int ⟨0, _, rfl, .inr (.inl ⟨_, rfl, at_nat (i := 0) rfl⟩), [], ⟨c, rfl, ?_⟩, trivial⟩
      have h3 : (!decide (c ∈ γ.cps.toList)) = true := h2
      simpa using h3
-- _law_run: ['plain', 'word', 'signs', 'begin', 'states', 'told', 'at', 'sign', 'step']
theorem ok_lawRun (T : Tp K mg) : Cal P w K mg base 1 "_law_run" ["plain", "word"] S_written := by
  refine cal_of (k := 0) T (N := ["plain", "word", "signs", "begin", "states", "told", "at", "sign", "step"]) 47 47 rfl rfl (fun _ _ _ _ _ _ us hl => match us, hl with | [_, _], _ => rfl) [false, false] rfl (by decide +kernel) (fun γ xs h => ?_) ?_
  · first | exact congrArg List.length (show _ = _ from h) | exact congrArg List.length (show _ ∧ _ from h).1
  intro cdv A outer s H E γ vs xs hr hl hpre
  obtain ⟨v0, v1, rfl⟩ : ∃ v0 v1, vs = [v0, v1] := by
    match vs, hl with
    | [a0, a1], _ => exact ⟨a0, a1, rfl⟩
  have hnd : (["plain", "word", "signs", "begin", "states", "told", "at", "sign", "step"] : List Str).Nodup := by decide +kernel
  obtain ⟨p, z⟩ := γ
  obtain ⟨rfl, (hw : WfP p), (hz : Over p.S z), (hl : z.length ≤ 1000)⟩ := hpre
  dsimp only
  have EV : Ev (cxOf (L2.CX P w) P w K mg base ["plain", "word", "signs", "begin", "states", "told", "at", "sign", "step"] "_law_run" (defScope (Hd.topS 65)) (He.ga K "_law_run") cdv A outer s H E) ["plain", "word", "signs", "begin", "states", "told", "at", "sign", "step"] [0, 1, 2, 3, 4, 5, 6, 7, 8] [0, 1, 2, 3, 4, 5, 6, 7, 8] [] := ⟨rfl, (by decide +kernel : evB (defScope (Hd.topS 65)) ["plain", "word", "signs", "begin", "states", "told", "at", "sign", "step"] [0, 1, 2, 3, 4, 5, 6, 7, 8] [0, 1, 2, 3, 4, 5, 6, 7, 8] [] = true)⟩
  refine lss_cons (ls_asg (le_q (lq_v (EV.v 0 (i := 0) (nm := "plain") rfl rfl) rfl) (gx_tup3 rfl hnd (EV.l 2 (i := 2) (nm := "signs") rfl rfl) (EV.l 3 (i := 3) (nm := "begin") rfl rfl) (EV.l 4 (i := 4) (nm := "states") rfl rfl) rfl rfl rfl rfl rfl rfl ?_)))
  by_cases h0 : p.sts.length = 0
  · refine lss_cons (ls_ifb (p := true) (LB.cast (lb_not (lb_truth (lq_v (EV.v 4 (i := 4) (nm := "states") rfl rfl) rfl) rfl (by walk_at "len"))) (by cases h : p.sts with | nil => rfl | cons a r => rw [h] at h0; cases h0)) (fun hc => ?_) (fun hc => nomatch hc))
    refine lss_one (ls_ret (le_q lq_none ⟨[], ?_, trivial⟩))
    show LV.d _ = LV.d (encEnd (runP p z))
    unfold runP
    rw [if_pos h0]
    rfl
  refine lss_cons (ls_ifb (p := false) (LB.cast (lb_not (lb_truth (lq_v (EV.v 4 (i := 4) (nm := "states") rfl rfl) rfl) rfl (by walk_at "len"))) (by cases h : p.sts with | nil => rw [h] at h0; exact absurd rfl h0 | cons a r => rfl)) (fun hc => nomatch hc) (fun hc => lss_nil ?_))
  have h0' : 0 < p.sts.length := by omega
  refine lss_cons (sx_set (EV.l 5 (i := 5) (nm := "told") rfl rfl) hnd rfl (le_q (lq_v (EV.v 3 (i := 3) (nm := "begin") rfl rfl) rfl) ⟨rfl, ?_⟩))
  refine lss_cons (sx_set (EV.l 6 (i := 6) (nm := "at") rfl rfl) hnd rfl (le_q lq_int ⟨rfl, ?_⟩))
  have hrun : runP p z = (match walk p 0 z.cps.toList with
    | some (l, i) => (match endAt p i with
      | some e => some (p.b ++ Str.join (Str.ofString "") l ++ e)
      | none => none)
    | none => none) := by
    unfold runP
    rw [if_neg h0]
    all_goals rfl
  refine lss_cons (ls_for (passes_of rfl) rfl (li_str (le_q (lq_v (EV.v 1 (i := 1) (nm := "word") rfl rfl) rfl) ⟨z, rfl, fun i δ => ∃ l k, walk p 0 (z.cps.toList.take i) = some (l, k) ∧ δ = [.is (.d (encPlain p)), .is (.d (.str z)), .is (.d (.str p.S)), .is (.d (.str p.b)), .is (.d (.tuple (p.sts.map encState))), .is (.d (.str (p.b ++ Str.join (Str.ofString "") l))), .is (.d (.int (k : Nat))), .no, .no], ⟨[], 0, rfl, ?_⟩, ?_, ?_⟩)))
  · have : p.b ++ Str.join (Str.ofString "") [] = p.b := by
      show p.b ++ Str.empty = p.b
      exact PySem.Str.append_empty p.b
    rw [this]
    rfl
  · rintro i d δ hd ⟨l, k, hwk, rfl⟩
    obtain ⟨c, hc, rfl⟩ : ∃ c, z.cps.toList[i]? = some c ∧ d = .str ⟨#[c]⟩ := by
      unfold signsD at hd
      rw [List.getElem?_map] at hd
      cases h : z.cps.toList[i]? with
      | none => rw [h] at hd; cases hd
      | some c => rw [h] at hd; cases hd; exact ⟨c, rfl, rfl⟩
    obtain ⟨hk, hll, hlt⟩ := walk_keep hw h0' _ _ _ hwk
    have hcS : c ∈ p.S.cps.toList := hz c (List.mem_of_getElem? hc)
    obtain ⟨s, hs1, hs2, hs3⟩ := step_fact hw hk hcS
    have hlen : l.length ≤ 1000 := by
      rw [hll, List.length_take]
      have : z.cps.toList.length ≤ 1000 := by rw [Array.length_toList]; exact hl
      omega
    have hj := join_len l fun t ht => (hlt t ht).1
    have hb := hw.b.2
    have f1 : ixD (.tuple (p.sts.map encState)) (k : Nat) = some (encState s) := at_map hs1
    have f2 : ixD (.tuple (s.2.map encStep)) ((placeOf c p.S.cps.toList : Nat) : Int) = some (encStep (stepAt p k c)) := at_map hs3
    have f3 : ixD (encState s) 1 = some (.tuple (s.2.map encStep)) := rfl
    refine gx_name (EV.l 7 (i := 7) (nm := "sign") rfl rfl) hnd rfl rfl ?_
    refine lss_cons (sx_set (EV.l 8 (i := 8) (nm := "step") rfl rfl) hnd rfl (le_q (lq_ix (lq_ix (lq_ix (lq_v (EV.v 4 (i := 4) (nm := "states") rfl rfl) rfl) (lq_v (EV.v 6 (i := 6) (nm := "at") rfl rfl) rfl) (by walk_at "ix") (by walk_at "len")) lq_int (by walk_at "ix") (by walk_at "len")) (lq_index (lq_v (EV.v 2 (i := 2) (nm := "signs") rfl rfl) rfl) (lq_v (EV.v 7 (i := 7) (nm := "sign") rfl rfl) rfl) (by walk_at "mem")) (by walk_at "ix") (by walk_at "len")) ⟨rfl, ?_⟩))
    have ht : z.cps.toList.take (i + 1) = z.cps.toList.take i ++ [c] := by rw [List.take_add_one, hc]; rfl
    have hwk2 : walk p 0 (z.cps.toList.take (i + 1)) = walkStep p (some (l, k)) c := by rw [ht, walk_snoc, hwk]
    cases hst : stepAt p k c with
    | none =>
      refine lss_cons (ls_ifb (p := true) (LB.cast (lb_cmp (lq_v (EV.v 8 (i := 8) (nm := "step") rfl rfl) rfl) lq_none (by walk_at "cmp")) rfl) (fun _ => ?_) (fun hc => nomatch hc))
      refine lss_one (ls_ret (le_q lq_none ⟨[], ?_, trivial⟩))
      show LV.d _ = LV.d (encEnd (runP p z))
      have : walk p 0 z.cps.toList = none := by
        rw [← List.take_append_drop (i + 1) z.cps.toList]
        apply walk_stop
        rw [hwk2]
        show (match stepAt p k c with
          | some (t, k) => some (l ++ [t], k)
          | none => none) = none
        rw [hst]
      rw [hrun, this]
      rfl
    | some q =>
      obtain ⟨t, k2⟩ := q
      have hwk3 : walk p 0 (z.cps.toList.take (i + 1)) = some (l ++ [t], k2) := by
        rw [hwk2]
        show (match stepAt p k c with
          | some (t, k) => some (l ++ [t], k)
          | none => none) = _
        rw [hst]
      have ht2 := ((walk_keep hw h0' _ _ _ hwk3).2.2 t (by simp)).1
      have g1 : (p.b ++ Str.join (Str.ofString "") l ++ t).length ≤ sizeLine := by
        rw [Str.length_append, Str.length_append]
        simp [sizeLine]
        omega
      refine lss_cons (ls_ifb (p := false) (LB.cast (lb_cmp (lq_v (EV.v 8 (i := 8) (nm := "step") rfl rfl) rfl) lq_none (by walk_at "cmp")) rfl) (fun hc => nomatch hc) (fun _ => lss_nil ?_))
      refine lss_cons (sx_set (EV.l 5 (i := 5) (nm := "told") rfl rfl) hnd rfl (le_q (x := .str (p.b ++ Str.join (Str.ofString "") l ++ t)) (lq_plus (lq_v (EV.v 5 (i := 5) (nm := "told") rfl rfl) rfl) (lq_ix (lq_v (EV.v 8 (i := 8) (nm := "step") rfl rfl) rfl) lq_int (by walk_at "ix") (by walk_at "len")) (by walk_at "c") (by walk_at "len")) ⟨rfl, ?_⟩))
      refine lss_cons (sx_set (EV.l 6 (i := 6) (nm := "at") rfl rfl) hnd rfl (le_q (lq_ix (lq_v (EV.v 8 (i := 8) (nm := "step") rfl rfl) rfl) lq_int (by walk_at "ix") (by walk_at "len")) ⟨rfl, ?_⟩))
      refine lss_drop 7 (lss_drop 8 (lss_nil ⟨l ++ [t], k2, hwk3, ?_⟩))
      rw [join_snoc, ← PySem.Str.append_assoc]
      rfl
  · rintro δ ⟨l, k, hwk, rfl⟩
    have e : z.cps.toList.take (signsD z).length = z.cps.toList := by
      unfold signsD
      rw [List.length_map, List.take_length]
    rw [e] at hwk
    obtain ⟨hk, hll, hlt⟩ := walk_keep hw h0' _ _ _ hwk
    have hlen : l.length ≤ 1000 := by
      rw [hll, Array.length_toList]
      exact hl
    have hj := join_len l fun t ht => (hlt t ht).1
    have hb := hw.b.2
    have f1 : ixD (.tuple (p.sts.map encState)) (k : Nat) = some (encState p.sts[k]) := at_map (List.getElem?_eq_getElem hk)
    have f2 : ixD (encState p.sts[k]) 0 = some (encEnd p.sts[k].1) := rfl
    have hend : endAt p k = p.sts[k].1 := by
      unfold endAt
      rw [List.getElem?_eq_getElem hk]
    have hres : runP p z = (match endAt p k with
        | some e => some (p.b ++ Str.join (Str.ofString "") l ++ e)
        | none => none) := by
      rw [hrun, hwk]
    cases he : p.sts[k].1 with
    | none =>
      rw [he] at f2
      refine lss_cons (ls_ifb (p := true) (LB.cast (lb_cmp (lq_ix (lq_ix (lq_v (EV.v 4 (i := 4) (nm := "states") rfl rfl) rfl) (lq_v (EV.v 6 (i := 6) (nm := "at") rfl rfl) rfl) (by walk_at "ix") (by walk_at "len")) lq_int (by walk_at "ix") (by walk_at "len")) lq_none (by walk_at "cmp")) rfl) (fun _ => ?_) (fun hc => nomatch hc))
      refine lss_one (ls_ret (le_q lq_none ⟨[], ?_, trivial⟩))
      show LV.d _ = LV.d (encEnd (runP p z))
      rw [hres, hend, he]
      rfl
    | some e =>
      rw [he] at f2
      have h2 := ((hw.st _ (List.getElem_mem hk)).e e he).2
      have g2 : (p.b ++ Str.join (Str.ofString "") l ++ e).length ≤ sizeLine := by
        rw [Str.length_append, Str.length_append]
        simp [sizeLine]
        omega
      refine lss_cons (ls_ifb (p := false) (LB.cast (lb_cmp (lq_ix (lq_ix (lq_v (EV.v 4 (i := 4) (nm := "states") rfl rfl) rfl) (lq_v (EV.v 6 (i := 6) (nm := "at") rfl rfl) rfl) (by walk_at "ix") (by walk_at "len")) lq_int (by walk_at "ix") (by walk_at "len")) lq_none (by walk_at "cmp")) rfl) (fun hc => nomatch hc) (fun _ => lss_nil ?_))
      refine lss_one (ls_ret (le_q (x := .str (p.b ++ Str.join (Str.ofString "") l ++ e)) (lq_plus (lq_v (EV.v 5 (i := 5) (nm := "told") rfl rfl) rfl) (lq_ix (lq_ix (lq_v (EV.v 4 (i := 4) (nm := "states") rfl rfl) rfl) (lq_v (EV.v 6 (i := 6) (nm := "at") rfl rfl) rfl) (by walk_at "ix") (by walk_at "len")) lq_int (by walk_at "ix") (by walk_at "len")) (by walk_at "c") (by walk_at "len")) ⟨[], ?_, trivial⟩))
      show LV.d _ = LV.d (encEnd (runP p z))
      rw [hres, hend, he]
      rfl
end
end Z
set_option maxHeartbeats 400000
namespace Z
open PySem PySem.Spec PyProof.Rows L2
local macro_rules | `(tactic| walk_at "len") => `(tactic| (intro zz hz; first | (cases hz; done) | (injection hz with hz; subst hz; first | assumption | (simp only [PySem.Str.length_append, Str.length] at *; simp [sizeLine] at *; omega))))
local macro_rules | `(tactic| walk_at "c") => `(tactic| first | rfl | assumption | decide | omega)
local macro_rules | `(tactic| walk_at "ix") => `(tactic| first | assumption | rfl)
local macro_rules | `(tactic| walk_at "mem") => `(tactic| assumption)
local macro_rules | `(tactic| walk_at "sz") => `(tactic| first | assumption | omega)
local macro_rules | `(tactic| walk_at "mul") => `(tactic| first | exact .inr ⟨by decide, by decide⟩ | exact .inl ⟨by decide, by decide⟩)
local macro_rules | `(tactic| walk_at "div") => `(tactic| first | exact ⟨by decide, by decide⟩ | exact ⟨by omega, by omega⟩)
local macro_rules | `(tactic| walk_at "cmp") => `(tactic| first | exact c_lt | exact c_le | exact c_gt | exact c_ge | exact c_eqI | exact c_neI | exact c_eqS | exact c_neS | exact c_eqB | exact c_isN | exact c_notN | exact c_inS | exact c_notInS)
def S_refused : Spec (PyData × PPlain × PyData) where
  pre γ xs := xs = [.d γ.1, .d (encPlain γ.2.1), .d γ.2.2] ∧ fitD γ.1 = true ∧ isPlainD γ.1 = false ∧ WfP γ.2.1
  post γ r ys := r = .d (.bool true)
def S_strangeT : Spec (PPlain × Str) where
  pre γ xs := xs = [.d (encPlain γ.1), .d (.str γ.2)] ∧ WfP γ.1 ∧ γ.2.length ≤ 1000 ∧ isTextD γ.1.S (.str γ.2) = false
  post γ r ys := r = .d (.bool true)
theorem Tp.exm {K : PySem.W.Frag} {mg : Str → Option Value} (T : Tp K mg) {x y : Str} {b : Bool} (i : Nat) (e : Hd.fa[i]? = some (.exm x y b)) : PySem.W.exmOne K (.ref (He.ga K x)) (.ref (He.ga K y)) = some b := He.exm_ok (T.c.fact i e)
theorem Ev.tr {X : Cx} {N : List Str} {vs ls : List Nat} {gs : List Str} (E : Ev X N vs ls gs) {pn xe} : Ev (X.tr pn xe) N vs ls gs := ⟨E.hN, E.ok⟩
theorem Ev.suite {X : Cx} {N : List Str} {vs ls : List Nat} {gs : List Str} (E : Ev X N vs ls gs) {a pn} : Ev (X.suite a pn) N vs ls gs := ⟨E.hN, E.ok⟩
section
variable {P : Program} {w : World} {K : PySem.W.Frag} {mg : Str → Option Value} {base : Heap}
-- _law_refused: ['bad', 'good', 'word']
theorem ok_refused (T : Tp K mg) : Cal P w K mg base 8 "_law_refused" ["bad", "good", "word"] S_refused := by
  refine cal_of (k := 7) T (N := ["bad", "good", "word"]) 55 55 rfl rfl (fun _ _ _ _ _ _ us hl => match us, hl with | [_, _, _], _ => rfl) [false, false, false] rfl (by decide +kernel) (fun γ xs h => ?_) ?_
  · first | exact congrArg List.length (show _ = _ from h) | exact congrArg List.length (show _ ∧ _ from h).1
  intro cdv A outer s H E γ vs xs hr hl hpre
  obtain ⟨v0, v1, v2, rfl⟩ : ∃ v0 v1 v2, vs = [v0, v1, v2] := by
    match vs, hl with
    | [a0, a1, a2], _ => exact ⟨a0, a1, a2, rfl⟩
  have hnd : (["bad", "good", "word"] : List Str).Nodup := by decide +kernel
  obtain ⟨v, p, z⟩ := γ
  obtain ⟨rfl, (hf : fitD v = true), (hb : isPlainD v = false), (hw : WfP p)⟩ := hpre
  dsimp only
  have EV : Ev (cxOf (L2.CX P w) P w K mg base ["bad", "good", "word"] "_law_refused" (defScope (Hd.topS 73)) (He.ga K "_law_refused") cdv A outer s H E) ["bad", "good", "word"] [0, 1, 2] [0, 1, 2] ["run_plain", "BadPlain", "least_plain", "growth", "same_plain"] := ⟨rfl, (by decide +kernel : evB (defScope (Hd.topS 73)) ["bad", "good", "word"] [0, 1, 2] [0, 1, 2] ["run_plain", "BadPlain", "least_plain", "growth", "same_plain"] = true)⟩
  have nB : Names (cxOf (L2.CX P w) P w K mg base ["bad", "good", "word"] "_law_refused" (defScope (Hd.topS 73)) (He.ga K "_law_refused") cdv A outer s H E) "BadPlain" (.ref (He.ga K "BadPlain")) := ⟨(EV.g 1 (nm := "BadPlain") rfl).g, (EV.g 1 (nm := "BadPlain") rfl).d, .inl (xBadPlain T).g⟩
  have ex := T.exm (x := "BadPlain") (y := "BadPlain") 73 rfl
  refine lss_cons (ls_try rfl rfl (.cons nB .nil) fun pn xe hp => ?_)
  · have EV := EV.tr (pn := pn) (xe := xe)
    refine lss_cons (ls_expr (ex_calQ (EV.g 0 (nm := "run_plain") rfl) (ok_runBad T) hr (by decide) (lqs_cons (lq_v (EV.v 0 (i := 0) (nm := "bad") rfl rfl) rfl) (lqs_cons (lq_v (EV.v 2 (i := 2) (nm := "word") rfl rfl) rfl) .nil)) (v, z) ⟨rfl, hf, hb⟩ (fun r ys h => h.elim) (fun cls ys h => ?_)))
    subst h
    refine ⟨true, ex, fun _ a oe pn => lss_one (ls_pass ?_), fun h => nomatch h⟩
    refine lss_cons (ls_try rfl rfl (.cons nB .nil) fun pn xe hp => ?_)
    have EV := EV.tr (pn := pn) (xe := xe)
    refine lss_cons (ls_expr (ex_calQ (EV.g 2 (nm := "least_plain") rfl) (ok_leastBad T) hr (by decide) (lqs_cons (lq_v (EV.v 0 (i := 0) (nm := "bad") rfl rfl) rfl) .nil) v ⟨rfl, hf, hb⟩ (fun r ys h => h.elim) (fun cls ys h => ?_)))
    subst h
    refine ⟨true, ex, fun _ a oe pn => lss_one (ls_pass ?_), fun h => nomatch h⟩
    refine lss_cons (ls_try rfl rfl (.cons nB .nil) fun pn xe hp => ?_)
    have EV := EV.tr (pn := pn) (xe := xe)
    refine lss_cons (ls_expr (ex_calQ (EV.g 3 (nm := "growth") rfl) (ok_growthBad T) hr (by decide) (lqs_cons (lq_v (EV.v 0 (i := 0) (nm := "bad") rfl rfl) rfl) .nil) v ⟨rfl, hf, hb⟩ (fun r ys h => h.elim) (fun cls ys h => ?_)))
    subst h
    refine ⟨true, ex, fun _ a oe pn => lss_one (ls_pass ?_), fun h => nomatch h⟩
    refine lss_cons (ls_try rfl rfl (.cons nB .nil) fun pn xe hp => ?_)
    have EV := EV.tr (pn := pn) (xe := xe)
    refine lss_cons (ls_expr (ex_calQ (EV.g 4 (nm := "same_plain") rfl) (ok_sameBad T) hr (by decide) (lqs_cons (lq_v (EV.v 1 (i := 1) (nm := "good") rfl rfl) rfl) (lqs_cons (lq_v (EV.v 0 (i := 0) (nm := "bad") rfl rfl) rfl) .nil)) (encPlain p, v) ⟨rfl, fit_plain hw, hf, .inr hb⟩ (fun r ys h => h.elim) (fun cls ys h => ?_)))
    subst h
    refine ⟨true, ex, fun _ a oe pn => lss_one (ls_pass ?_), fun h => nomatch h⟩
    refine lss_one (ls_try rfl rfl (.cons nB .nil) fun pn xe hp => ?_)
    have EV := EV.tr (pn := pn) (xe := xe)
    refine lss_cons (ls_expr (ex_calQ (EV.g 4 (nm := "same_plain") rfl) (ok_sameBad T) hr (by decide) (lqs_cons (lq_v (EV.v 0 (i := 0) (nm := "bad") rfl rfl) rfl) (lqs_cons (lq_v (EV.v 1 (i := 1) (nm := "good") rfl rfl) rfl) .nil)) (v, encPlain p) ⟨rfl, hf, fit_plain hw, .inl hb⟩ (fun r ys h => h.elim) (fun cls ys h => ?_)))
    subst h
    refine ⟨true, ex, fun _ a oe pn => lss_one (ls_ret (le_q lq_bool ⟨[], rfl, trivial⟩)), fun h => nomatch h⟩
-- _law_strange_text: ['plain', 'word']
theorem ok_strangeT (T : Tp K mg) : Cal P w K mg base 7 "_law_strange_text" ["plain", "word"] S_strangeT := by
  refine cal_of (k := 6) T (N := ["plain", "word"]) 56 56 rfl rfl (fun _ _ _ _ _ _ us hl => match us, hl with | [_, _], _ => rfl) [false, false] rfl (by decide +kernel) (fun γ xs h => ?_) ?_
  · first | exact congrArg List.length (show _ = _ from h) | exact congrArg List.length (show _ ∧ _ from h).1
  intro cdv A outer s H E γ vs xs hr hl hpre
  obtain ⟨v0, v1, rfl⟩ : ∃ v0 v1, vs = [v0, v1] := by
    match vs, hl with
    | [a0, a1], _ => exact ⟨a0, a1, rfl⟩
  have hnd : (["plain", "word"] : List Str).Nodup := by decide +kernel
  obtain ⟨p, z⟩ := γ
  obtain ⟨rfl, (hw : WfP p), (hl : z.length ≤ 1000), (ht : isTextD p.S (.str z) = false)⟩ := hpre
  dsimp only
  have EV : Ev (cxOf (L2.CX P w) P w K mg base ["plain", "word"] "_law_strange_text" (defScope (Hd.topS 74)) (He.ga K "_law_strange_text") cdv A outer s H E) ["plain", "word"] [0, 1] [0, 1] ["run_plain", "BadSigns"] := ⟨rfl, (by decide +kernel : evB (defScope (Hd.topS 74)) ["plain", "word"] [0, 1] [0, 1] ["run_plain", "BadSigns"] = true)⟩
  have nB : Names (cxOf (L2.CX P w) P w K mg base ["plain", "word"] "_law_strange_text" (defScope (Hd.topS 74)) (He.ga K "_law_strange_text") cdv A outer s H E) "BadSigns" (.ref (He.ga K "BadSigns")) := ⟨(EV.g 1 (nm := "BadSigns") rfl).g, (EV.g 1 (nm := "BadSigns") rfl).d, .inl (xBadSigns T).g⟩
  have ex := T.exm (x := "BadSigns") (y := "BadSigns") 69 rfl
  refine lss_one (ls_try rfl rfl (.cons nB .nil) fun pn xe hp => ?_)
  have EV := EV.tr (pn := pn) (xe := xe)
  refine lss_cons (ls_expr (ex_calQ (EV.g 0 (nm := "run_plain") rfl) (ok_runStrange T) hr (by decide) (lqs_cons (lq_v (EV.v 0 (i := 0) (nm := "plain") rfl rfl) rfl) (lqs_cons (lq_v (EV.v 1 (i := 1) (nm := "word") rfl rfl) rfl) .nil)) (p, z) ⟨rfl, hw, hl, ht⟩ (fun r ys h => h.elim) (fun cls ys h => ?_)))
  subst h
  refine ⟨true, ex, fun _ a oe pn => lss_one (ls_ret (le_q lq_bool ⟨[], rfl, trivial⟩)), fun h => nomatch h⟩
-- _law_common: ['one', 'two', 'k']
theorem ok_common (T : Tp K mg) : Cal P w K mg base 1 "_law_common" ["one", "two"] S_common := by
  refine cal_of (k := 0) T (N := ["one", "two", "k"]) 45 45 rfl rfl (fun _ _ _ _ _ _ us hl => match us, hl with | [_, _], _ => rfl) [false, false] rfl (by decide +kernel) (fun γ xs h => ?_) ?_
  · first | exact congrArg List.length (show _ = _ from h) | exact congrArg List.length (show _ ∧ _ from h).1
  intro cdv A outer s H E γ vs xs hr hl hpre
  obtain ⟨v0, v1, rfl⟩ : ∃ v0 v1, vs = [v0, v1] := by
    match vs, hl with
    | [a0, a1], _ => exact ⟨a0, a1, rfl⟩
  have hnd : (["one", "two", "k"] : List Str).Nodup := by decide +kernel
  obtain ⟨a, b⟩ := γ
  obtain ⟨rfl, (ha : a.length ≤ 1000), (hb : b.length ≤ 1000)⟩ := hpre
  dsimp only
  have EV : Ev (cxOf (L2.CX P w) P w K mg base ["one", "two", "k"] "_law_common" (defScope (Hd.topS 63)) (He.ga K "_law_common") cdv A outer s H E) ["one", "two", "k"] [0, 1, 2] [0, 1, 2] ["len"] := ⟨rfl, (by decide +kernel : evB (defScope (Hd.topS 63)) ["one", "two", "k"] [0, 1, 2] [0, 1, 2] ["len"] = true)⟩
  have ha' : a.length ≤ sizeLine := Nat.le_trans ha (by decide)
  have hb' : b.length ≤ sizeLine := Nat.le_trans hb (by decide)
  refine lss_cons (sx_set (EV.l 2 (i := 2) (nm := "k") rfl rfl) hnd rfl (le_q lq_int ⟨rfl, ?_⟩))
  refine lss_cons (ls_while (passes_of rfl) (fun m δ => ∃ k : Nat, k ≤ a.length ∧ m = a.length - k ∧ δ = [.is (.d (.str a)), .is (.d (.str b)), .is (.d (.int (k : Nat)))]) a.length ⟨0, Nat.zero_le _, rfl, rfl⟩ ?_)
  rintro m δ ⟨k, hk, rfl, rfl⟩
  have done : ∀ k : Nat, k ≤ a.length → LSs (cxOf (L2.CX P w) P w K mg base ["one", "two", "k"] "_law_common" (defScope (Hd.topS 63)) (He.ga K "_law_common") cdv A outer s H E) ((defBody (Hd.topS 63)).drop 2)
      [.is (.d (.str a)), .is (.d (.str b)), .is (.d (.int (k : Nat)))] (wOf S_common (a, b) [v0, v1]) (endsOf S_common (a, b) [v0, v1]) := by
    intro k hk
    refine lss_one (ls_ret (le_q (lq_sliceS (lq_v (EV.v 0 (i := 0) (nm := "one") rfl rfl) rfl) lo_none (lo_some (lq_v (EV.v 2 (i := 2) (nm := "k") rfl rfl) rfl)) (by walk_at "sz")) ⟨[], ⟨_, rfl, ?_⟩, trivial⟩))
    show (cutS a none (some (k : Nat))).cps.toList <+: a.cps.toList
    unfold cutS
    show ((a.cps.toList.drop (HT.sIx a.length 0 none)).take _) <+: _
    rw [show HT.sIx a.length 0 none = 0 from rfl, List.drop_zero]
    exact List.take_prefix _ _
  by_cases h1 : k < a.length
  rotate_left
  · refine (lb_and_f (LB.cast (lb_cmp (lq_v (EV.v 2 (i := 2) (nm := "k") rfl rfl) rfl) (lq_len (fr_len T) (lq_v (EV.v 0 (i := 0) (nm := "one") rfl rfl) rfl) (by walk_at "ix") (by walk_at "len") (EV.g 0 (nm := "len") rfl).g) (by walk_at "cmp")) (decide_eq_false (by omega)))).go ?_
    rw [if_neg Bool.false_ne_true]
    exact done k hk
  by_cases h2 : k < b.length
  rotate_left
  · refine LB.go (LBw.lb (LBw.cast (q := false) (lbw_and (lb_cmp (lq_v (EV.v 2 (i := 2) (nm := "k") rfl rfl) rfl) (lq_len (fr_len T) (lq_v (EV.v 0 (i := 0) (nm := "one") rfl rfl) rfl) (by walk_at "ix") (by walk_at "len") (EV.g 0 (nm := "len") rfl).g) (by walk_at "cmp")) fun _ => lbw_and (q := true) (LB.cast (q := false) (lb_cmp (lq_v (EV.v 2 (i := 2) (nm := "k") rfl rfl) rfl) (lq_len (fr_len T) (lq_v (EV.v 1 (i := 1) (nm := "two") rfl rfl) rfl) (by walk_at "ix") (by walk_at "len") (EV.g 0 (nm := "len") rfl).g) (by walk_at "cmp")) (decide_eq_false (by omega))) fun h => nomatch h) (by simp))) ?_
    rw [if_neg Bool.false_ne_true]
    exact done k hk
  have f1 : ixD (.str a) (k : Nat) = some (.str ⟨#[a.cps.toList[k]'(by rw [Array.length_toList]; exact h1)]⟩) := by
    show (atI a.cps.toList (k : Nat)).map _ = _
    rw [at_nat (List.getElem?_eq_getElem (by rw [Array.length_toList]; exact h1))]
    rfl
  have f2 : ixD (.str b) (k : Nat) = some (.str ⟨#[b.cps.toList[k]'(by rw [Array.length_toList]; exact h2)]⟩) := by
    show (atI b.cps.toList (k : Nat)).map _ = _
    rw [at_nat (List.getElem?_eq_getElem (by rw [Array.length_toList]; exact h2))]
    rfl
  refine LB.go (LBw.lb (lbw_and (lb_cmp (lq_v (EV.v 2 (i := 2) (nm := "k") rfl rfl) rfl) (lq_len (fr_len T) (lq_v (EV.v 0 (i := 0) (nm := "one") rfl rfl) rfl) (by walk_at "ix") (by walk_at "len") (EV.g 0 (nm := "len") rfl).g) (by walk_at "cmp")) fun hb => (lbw_and (lb_cmp (lq_v (EV.v 2 (i := 2) (nm := "k") rfl rfl) rfl) (lq_len (fr_len T) (lq_v (EV.v 1 (i := 1) (nm := "two") rfl rfl) rfl) (by walk_at "ix") (by walk_at "len") (EV.g 0 (nm := "len") rfl).g) (by walk_at "cmp")) fun hb => (lbw_and1 (lb_cmp (lq_ix (lq_v (EV.v 0 (i := 0) (nm := "one") rfl rfl) rfl) (lq_v (EV.v 2 (i := 2) (nm := "k") rfl rfl) rfl) (by walk_at "ix") (by walk_at "len")) (lq_ix (lq_v (EV.v 1 (i := 1) (nm := "two") rfl rfl) rfl) (lq_v (EV.v 2 (i := 2) (nm := "k") rfl rfl) rfl) (by walk_at "ix") (by walk_at "len")) (by walk_at "cmp")))))) ?_
  split
  · refine lss_one (sx_set (EV.l 2 (i := 2) (nm := "k") rfl rfl) hnd rfl (le_q (lq_plus (lq_v (EV.v 2 (i := 2) (nm := "k") rfl rfl) rfl) lq_int (by walk_at "c") (by walk_at "len")) ⟨rfl, a.length - (k + 1), by omega, k + 1, h1, rfl, rfl⟩))
  · exact done k hk
end
end Z
set_option maxHeartbeats 400000
namespace Z
open PySem PySem.Spec PyProof.Rows L2
local macro_rules | `(tactic| walk_at "len") => `(tactic| (intro zz hz; first | (cases hz; done) | (injection hz with hz; subst hz; first | assumption | (simp only [PySem.Str.length_append, Str.length] at *; simp [sizeLine] at *; omega))))
local macro_rules | `(tactic| walk_at "c") => `(tactic| first | rfl | assumption | decide | omega)
local macro_rules | `(tactic| walk_at "ix") => `(tactic| first | assumption | rfl)
local macro_rules | `(tactic| walk_at "mem") => `(tactic| assumption)
local macro_rules | `(tactic| walk_at "sz") => `(tactic| first | assumption | omega)
local macro_rules | `(tactic| walk_at "mul") => `(tactic| first | exact .inr ⟨by decide, by decide⟩ | exact .inl ⟨by decide, by decide⟩)
local macro_rules | `(tactic| walk_at "div") => `(tactic| first | exact ⟨by decide, by decide⟩ | exact ⟨by omega, by omega⟩)
local macro_rules | `(tactic| walk_at "cmp") => `(tactic| first | exact c_lt | exact c_le | exact c_gt | exact c_ge | exact c_eqI | exact c_neI | exact c_eqS | exact c_neS | exact c_eqB | exact c_isN | exact c_notN | exact c_inS | exact c_notInS)
section
variable {X : Cx} {a b : Expr} {δ : LSt} {W : LW} {T : Bool → LSt → Prop} {pos : Pos} {op : CmpOp}
theorem ls_imp {st : Stmt} {P P' : LEnds} (h : LS X st δ W P) (h1 : ∀ δ, P.nx δ → P'.nx δ) (h2 : ∀ x δ, P.rt x δ → P'.rt x δ) (h3 : ∀ δ, P.bk δ → P'.bk δ) (h4 : ∀ δ, P.ct δ → P'.ct δ) : LS X st δ W P' :=
  .mk fun pins s σ H F G f I S T => thn (h.run pins s σ H F G f I S T) fun fl s' q => (Cov.self.imp h1 h2 h3 h4).sp q
theorem lt_imp {e : Expr} {T' : Bool → LSt → Prop} (h : LT X e δ W T) (k : ∀ p δ1, T p δ1 → T' p δ1) : LT X e δ W T' :=
  .mk fun pins s σ H F G f I S Tk => thn (h.run pins s σ H F G f I S Tk) fun b s' ⟨H', I', δ', a, q⟩ => ⟨H', I', δ', a, k b δ' q⟩
/-- what holds between a statement and the rest -/
theorem lss_mid {st : Stmt} {rest : List Stmt} {P : LEnds} (J : LSt → Prop) (h : LS X st δ W ⟨J, P.rt, P.bk, P.ct⟩) (k : ∀ δ1, J δ1 → LSs X rest δ1 W P) : LSs X (st :: rest) δ W P :=
  lss_cons (ls_imp h k (fun _ _ h => h) (fun _ h => h) (fun _ h => h))
theorem lt_cmpI {g : Int → Int → Bool} (ho : OpR X (compareOp op) (rI0 fun i j => .bl (g i j))) (h : LE X a δ W fun x δ1 => ∃ i j, x = .d (.int i) ∧ LQ X b δ1 (.int j) ∧ T (g i j) δ1) (hm : behindInMarks op b = false := by first | exact nomark _ | rfl) : LT X (.Compare a [op] [b] pos) δ W T :=
  lt_cmp1 ho (h.imp fun x δ1 ⟨i, j, e, hb, t⟩ => ⟨.int i, by rw [e]; exact .d, le_q hb ⟨.int j, .d, g i j, fun F H v u s dv du R k => ⟨i, j, dp_int dv, dp_int du, k⟩, t⟩⟩) hm
theorem lt_eqI (h : LE X a δ W fun x δ1 => ∃ i j, x = .d (.int i) ∧ LQ X b δ1 (.int j) ∧ T (decide (i = j)) δ1) (hm : behindInMarks .Eq b = false := by first | exact nomark _ | rfl) : LT X (.Compare a [.Eq] [b] pos) δ W T :=
  lt_cmp1 op_eq (h.imp fun x δ1 ⟨i, j, e, hb, t⟩ => ⟨.int i, by rw [e]; exact .d, le_q hb ⟨.int j, .d, decide (i = j), fun F H v u s dv du R k => by
    rw [dp_int dv, dp_int du]
    exact ⟨rfl, by rw [dec_int]; exact k⟩, t⟩⟩) hm
end
section
variable {P : Program} {w : World} {K : PySem.W.Frag} {mg : Str → Option Value} {base : Heap}
-- _law_plain: ['pool', 'signs', 'most', 'longest', 'total', 'holes', 'states', 'k', 'end', 'row', 'sign']
theorem ok_plain (T : Tp K mg) : Cal P w K mg base 4 "_law_plain" ["pool", "signs", "most", "longest"] S_plain := by
  refine cal_of (k := 3) T (N := ["pool", "signs", "most", "longest", "total", "holes", "states", "k", "end", "row", "sign"]) 46 46 rfl rfl (fun _ _ _ _ _ _ us hl => match us, hl with | [_, _, _, _], _ => rfl) [true, false, false, false] rfl (by decide +kernel) (fun γ xs h => ?_) ?_
  · first | exact congrArg List.length (show _ = _ from h) | exact congrArg List.length (show _ ∧ _ from h).1
  intro cdv A outer s H E γ vs xs hr hl hpre
  obtain ⟨v0, v1, v2, v3, rfl⟩ : ∃ v0 v1 v2 v3, vs = [v0, v1, v2, v3] := by
    match vs, hl with
    | [a0, a1, a2, a3], _ => exact ⟨a0, a1, a2, a3, rfl⟩
  have hnd : (["pool", "signs", "most", "longest", "total", "holes", "states", "k", "end", "row", "sign"] : List Str).Nodup := by decide +kernel
  obtain ⟨pv, S, most, mx⟩ := γ
  obtain ⟨rfl, hpv, (hS : areSigns S = true), (hm : 0 < most ∧ most ≤ 100), (hx : mx ≤ 2)⟩ := hpre
  dsimp only
  have EV : Ev (cxOf (L2.CX P w) P w K mg base ["pool", "signs", "most", "longest", "total", "holes", "states", "k", "end", "row", "sign"] "_law_plain" (defScope (Hd.topS 64)) (He.ga K "_law_plain") cdv A outer s H E) ["pool", "signs", "most", "longest", "total", "holes", "states", "k", "end", "row", "sign"] [0, 1, 2, 3, 4, 5, 6, 7, 8, 9, 10] [0, 1, 2, 3, 4, 5, 6, 7, 8, 9, 10] ["_law_draw", "range", "_law_word", "tuple"] := ⟨rfl, (by decide +kernel : evB (defScope (Hd.topS 64)) ["pool", "signs", "most", "longest", "total", "holes", "states", "k", "end", "row", "sign"] [0, 1, 2, 3, 4, 5, 6, 7, 8, 9, 10] [0, 1, 2, 3, 4, 5, 6, 7, 8, 9, 10] ["_law_draw", "range", "_law_word", "tuple"] = true)⟩
  obtain ⟨hS1, hS5⟩ := signs5 hS
  refine lss_cons (sx_set (EV.l 4 (i := 4) (nm := "total") rfl rfl) hnd rfl (le_i2 (rI0_I op_add) (le_q lq_int ⟨1, rfl, ex_draw (EV.g 0 (nm := "_law_draw") rfl) (ok_draw T) hr (by decide) (EV.v 0 (i := 0) (nm := "pool") rfl rfl) rfl hpv (lq_v (EV.v 2 (i := 2) (nm := "most") rfl rfl) rfl) (by omega) (by omega) fun n pv hn0 hn1 hpv => ⟨n, rfl, trivial, rfl, ?_⟩⟩)))
  obtain ⟨tot, rfl⟩ : ∃ tot : Nat, n = (tot : Int) := ⟨n.toNat, by omega⟩
  have et : (1 : Int) + (tot : Int) = ((tot + 1 : Nat) : Int) := by omega
  rw [et]
  refine lss_cons (sx_set (EV.l 5 (i := 5) (nm := "holes") rfl rfl) hnd rfl (ex_draw (EV.g 0 (nm := "_law_draw") rfl) (ok_draw T) hr (by decide) (EV.v 0 (i := 0) (nm := "pool") rfl rfl) rfl hpv lq_int (by omega) (by omega) fun ho pv _ _ hpv => ⟨rfl, ?_⟩))
  refine lss_cons (sx_set (EV.l 6 (i := 6) (nm := "states") rfl rfl) hnd rfl (le_lst (ld_nil ⟨by simp [sizeLine], rfl, ?_⟩)))
  refine lss_cons (ls_for (passes_of rfl) rfl (li_range1 (fr_range T) (ld_q (lq_v (EV.v 4 (i := 4) (nm := "total") rfl rfl) rfl) (ld_nil ⟨_, rfl, by omega, by omega, fun i δ => ∃ pv, ∃ sts : List PState, δ = [.lk v0 pv, .is (.d (.str S)), .is (.d (.int (most : Nat))), .is (.d (.int (mx : Nat))), .is (.d (.int ((tot + 1 : Nat) : Int))), .is (.d (.int ho)), .is (.l (sts.map fun s => LV.d (encState s))), .no, .no, .no, .no] ∧ PoolV pv ∧ sts.length = i ∧ ∀ s ∈ sts, WfS S (tot + 1) s ∧ SmS s, ⟨pv, [], rfl, hpv, rfl, by simp⟩, ?_, ?_⟩)) (EV.g 1 (nm := "range") rfl).g))
  · rintro i d δ hd ⟨pv, sts, rfl, hpv, hi, hst⟩
    obtain ⟨hi2, rfl⟩ := intsD_get hd
    refine gx_name (EV.l 7 (i := 7) (nm := "k") rfl rfl) hnd rfl rfl ?_
    refine lss_cons (sx_set (EV.l 8 (i := 8) (nm := "end") rfl rfl) hnd rfl (le_q lq_none ⟨rfl, ?_⟩))
    refine lss_mid (fun δ => ∃ pv, ∃ en : Option Str, PoolV pv ∧ (∀ e, en = some e → Over S e ∧ e.length ≤ 2) ∧ δ = [.lk v0 pv, .is (.d (.str S)), .is (.d (.int (most : Nat))), .is (.d (.int (mx : Nat))), .is (.d (.int ((tot + 1 : Nat) : Int))), .is (.d (.int ho)), .is (.l (sts.map fun s => LV.d (encState s))), .is (.d (.int (0 + (i : Int)))), .is (.d (encEnd en)), .no, .no]) ?_ ?_
    · refine ls_if (lt_cmpI op_gt (ex_draw (EV.g 0 (nm := "_law_draw") rfl) (ok_draw T) hr (by decide) (EV.v 0 (i := 0) (nm := "pool") rfl rfl) rfl hpv lq_int (by omega) (by omega) fun n pv _ _ hpv => ⟨n, 0, rfl, lq_int, ?_⟩))
      split
      · exact lss_one (sx_set (EV.l 8 (i := 8) (nm := "end") rfl rfl) hnd rfl (ex_word (EV.g 2 (nm := "_law_word") rfl) (ok_word T) hr (by decide) (EV.v 0 (i := 0) (nm := "pool") rfl rfl) rfl hpv (lqs_cons (lq_v (EV.v 1 (i := 1) (nm := "signs") rfl rfl) rfl) (lqs_cons (lq_v (EV.v 3 (i := 3) (nm := "longest") rfl rfl) rfl) .nil)) (by omega) (by omega) (by omega) fun z pv hz ov hpv => ⟨rfl, pv, some z, hpv, fun e h => by cases h; exact ⟨ov, by omega⟩, rfl⟩))
      · exact lss_nil ⟨pv, none, hpv, fun e h => (nomatch h), rfl⟩
    rintro δ ⟨pv, en, hpv, hen, rfl⟩
    refine lss_cons (sx_set (EV.l 9 (i := 9) (nm := "row") rfl rfl) hnd rfl (le_lst (ld_nil ⟨by simp [sizeLine], rfl, ?_⟩)))
    refine lss_cons (ls_for (passes_of rfl) rfl (li_str (le_q (lq_v (EV.v 1 (i := 1) (nm := "signs") rfl rfl) rfl) ⟨S, rfl, fun j δ => ∃ pv, ∃ row : List PStep, δ = [.lk v0 pv, .is (.d (.str S)), .is (.d (.int (most : Nat))), .is (.d (.int (mx : Nat))), .is (.d (.int ((tot + 1 : Nat) : Int))), .is (.d (.int ho)), .is (.l (sts.map fun s => LV.d (encState s))), .is (.d (.int (0 + (i : Int)))), .is (.d (encEnd en)), .is (.l (row.map fun s => LV.d (encStep s))), .no] ∧ PoolV pv ∧ row.length = j ∧ ∀ t k, some (t, k) ∈ row → Over S t ∧ t.length ≤ 2 ∧ k < tot + 1, ⟨pv, [], rfl, hpv, rfl, by simp⟩, ?_, ?_⟩)))
    · rintro j d δ hd ⟨pv, row, rfl, hpv, hj, hrow⟩
      have hj' : j < S.length := by
        have := (List.getElem?_eq_some_iff.mp hd).1
        unfold signsD at this
        rw [List.length_map, Array.length_toList] at this
        exact this
      have hrl : row.length < sizeLine := by rw [hj]; exact Nat.lt_of_lt_of_le (Nat.lt_of_lt_of_le hj' hS5) (by decide)
      refine gx_name (EV.l 10 (i := 10) (nm := "sign") rfl rfl) hnd rfl rfl ?_
      refine lss_mid (fun δ => ∃ pv, ∃ row : List PStep, δ = [.lk v0 pv, .is (.d (.str S)), .is (.d (.int (most : Nat))), .is (.d (.int (mx : Nat))), .is (.d (.int ((tot + 1 : Nat) : Int))), .is (.d (.int ho)), .is (.l (sts.map fun s => LV.d (encState s))), .is (.d (.int (0 + (i : Int)))), .is (.d (encEnd en)), .is (.l (row.map fun s => LV.d (encStep s))), .is (.d d)] ∧ PoolV pv ∧ row.length = j + 1 ∧ ∀ t k, some (t, k) ∈ row → Over S t ∧ t.length ≤ 2 ∧ k < tot + 1) ?_ ?_
      · refine ls_if (lt_imp (T := fun _ δ1 => ∃ pv, PoolV pv ∧ δ1 = [.lk v0 pv, .is (.d (.str S)), .is (.d (.int (most : Nat))), .is (.d (.int (mx : Nat))), .is (.d (.int ((tot + 1 : Nat) : Int))), .is (.d (.int ho)), .is (.l (sts.map fun s => LV.d (encState s))), .is (.d (.int (0 + (i : Int)))), .is (.d (encEnd en)), .is (.l (row.map fun s => LV.d (encStep s))), .is (.d d)]) ?_ ?_)
        · refine LTw.lt (ltw_and (LB.go (lb_cmp (lq_v (EV.v 5 (i := 5) (nm := "holes") rfl rfl) rfl) lq_int (by walk_at "cmp")) ?_))
          split
          · exact ltw_and1 (lt_eqI (ex_draw (EV.g 0 (nm := "_law_draw") rfl) (ok_draw T) hr (by decide) (EV.v 0 (i := 0) (nm := "pool") rfl rfl) rfl hpv lq_int (by omega) (by omega) fun n pv _ _ hpv => ⟨n, 0, rfl, lq_int, pv, hpv, rfl⟩))
          · exact ⟨pv, hpv, rfl⟩
        rintro p δ1 ⟨pv, hpv, rfl⟩
        cases p with
        | true =>
          rw [if_pos rfl]
          refine lss_one (ls_expr (ex_append (EV.v 9 (i := 9) (nm := "row") rfl rfl) (le_q lq_none ⟨_, rfl, by rw [List.length_map]; exact hrl, pv, row ++ [none], by rw [List.map_append]; rfl, hpv, by rw [List.length_append, hj]; rfl, ?_⟩) ⟨_, rfl⟩))
          intro t k h
          rcases List.mem_append.mp h with h | h
          · exact hrow t k h
          · simp at h
        | false =>
          rw [if_neg Bool.false_ne_true]
          refine lss_one (ls_expr (ex_append (EV.v 9 (i := 9) (nm := "row") rfl rfl) (le_tup (ld_cons ?_)) ⟨_, rfl⟩))
          refine ex_word (EV.g 2 (nm := "_law_word") rfl) (ok_word T) hr (by decide) (EV.v 0 (i := 0) (nm := "pool") rfl rfl) rfl hpv (lqs_cons (lq_v (EV.v 1 (i := 1) (nm := "signs") rfl rfl) rfl) (lqs_cons (lq_v (EV.v 3 (i := 3) (nm := "longest") rfl rfl) rfl) .nil)) (by omega) (by omega) (by omega) fun z pv hz ov hpv => ?_
          refine ⟨_, .d, ld_cons ?_⟩
          refine ex_draw (EV.g 0 (nm := "_law_draw") rfl) (ok_draw T) hr (by decide) (EV.v 0 (i := 0) (nm := "pool") rfl rfl) rfl hpv (lq_v (EV.v 4 (i := 4) (nm := "total") rfl rfl) rfl) (by omega) (by omega) fun n pv hn0 hn1 hpv => ?_
          refine ⟨_, .d, ld_nil ⟨by simp [sizeLine], _, rfl, by rw [List.length_map]; exact hrl, pv, row ++ [some (z, n.toNat)], ?_, hpv, by rw [List.length_append, hj]; rfl, ?_⟩⟩
          · have e2 : encStep (some (z, n.toNat)) = .tuple [.str z, .int n] := by
              show PyData.tuple [.str z, .int (n.toNat : Nat)] = _
              rw [Int.toNat_of_nonneg hn0]
            rw [List.map_append, List.map_singleton, e2]
            rfl
          · intro t k h
            rcases List.mem_append.mp h with h | h
            · exact hrow t k h
            · rw [List.mem_singleton] at h
              cases h
              exact ⟨ov, by omega, by omega⟩
      · rintro δ ⟨pv, row, rfl, h1, h2, h3⟩
        exact lss_drop 10 (lss_nil ⟨pv, row, rfl, h1, h2, h3⟩)
    · rintro δ ⟨pv, row, rfl, hpv, hj, hrow⟩
      have hlen : row.length = S.length := by
        rw [hj]
        unfold signsD
        rw [List.length_map, Array.length_toList]
        rfl
      refine lss_cons (ls_expr (ex_append (EV.v 6 (i := 6) (nm := "states") rfl rfl) (le_tup (ld_q (lq_v (EV.v 8 (i := 8) (nm := "end") rfl rfl) rfl) (ld_cons ?_))) ⟨_, rfl⟩))
      refine le_tupleL (fr_tuple T) (le_frzAt (i := 9) (d := .list (row.map encStep)) rfl ?_ (le_q (x := .list (row.map encStep)) (lq_v (EV.v 9 (i := 9) (nm := "row") rfl rfl) rfl) ⟨_, .d, _, .d, ld_nil ⟨by simp [sizeLine], _, rfl, by rw [List.length_map, hi]; exact Nat.lt_of_lt_of_le (show i < 200 by omega) (by decide), ?_⟩⟩)) (EV.g 3 (nm := "tuple") rfl).g
      · have : (row.map fun s => LV.d (encStep s)) = (row.map encStep).map LV.d := by rw [List.map_map]; rfl
        rw [this]
        exact fz_map
      · refine lss_drop 7 (lss_drop 8 (lss_drop 9 (lss_drop 10 (lss_nil ⟨pv, sts ++ [(en, row)], by rw [List.map_append]; rfl, hpv, by rw [List.length_append, hi]; rfl, fun s hs => ?_⟩))))
        rcases List.mem_append.mp hs with hs | hs
        · exact hst s hs
        · rw [List.mem_singleton] at hs
          subst hs
          exact ⟨⟨fun e he => ⟨(hen e he).1, by have := (hen e he).2; omega⟩, hlen, fun t k h => ⟨(hrow t k h).1, by have := (hrow t k h).2.1; omega, (hrow t k h).2.2⟩⟩, ⟨fun e he => (hen e he).2, fun t k h => (hrow t k h).2.1⟩⟩
  · rintro δ ⟨pv, sts, rfl, hpv, hi, hst⟩
    have hlen : sts.length = tot + 1 := by
      rw [hi, intsD_len]
      omega
    refine lss_one (ls_ret (le_tup (ld_q (lq_v (EV.v 1 (i := 1) (nm := "signs") rfl rfl) rfl) (ld_cons ?_))))
    refine ex_word (EV.g 2 (nm := "_law_word") rfl) (ok_word T) hr (by decide) (EV.v 0 (i := 0) (nm := "pool") rfl rfl) rfl hpv (lqs_cons (lq_v (EV.v 1 (i := 1) (nm := "signs") rfl rfl) rfl) (lqs_cons (lq_v (EV.v 3 (i := 3) (nm := "longest") rfl rfl) rfl) .nil)) (by omega) (by omega) (by omega) fun z pv hz ov hpv => ?_
    refine ⟨_, .d, ld_cons (le_tupleL (fr_tuple T) (le_frzAt (i := 6) (d := .list (sts.map encState)) rfl ?_ (le_q (x := .list (sts.map encState)) (lq_v (EV.v 6 (i := 6) (nm := "states") rfl rfl) rfl) ⟨_, .d, _, .d, ld_nil ⟨by simp [sizeLine], _, ⟨⟨S, z, sts⟩, pv, rfl, ⟨hS, ⟨ov, ?_⟩, ?_, ?_, ?_⟩, ⟨?_, ?_⟩, rfl, ?_, ?_, hpv, rfl⟩, rfl, trivial⟩⟩)) (EV.g 3 (nm := "tuple") rfl).g)⟩
    · have : (sts.map fun s => LV.d (encState s)) = (sts.map encState).map LV.d := by rw [List.map_map]; rfl
      rw [this]
      exact fz_map
    · show z.length ≤ 100; omega
    · show sts.length ≤ 2000; omega
    · intro h
      have h' : sts.length = 0 := h
      omega
    · intro s hs
      show WfS S sts.length s
      rw [hlen]
      exact (hst s hs).1
    · show z.length ≤ 2; omega
    · exact fun s hs => (hst s hs).2
    · show 0 < sts.length; omega
    · show sts.length ≤ most; omega
end
end Z
set_option maxHeartbeats 2000000
namespace Z
open PySem PySem.Spec PyProof.Rows L2
local macro_rules | `(tactic| walk_at "len") => `(tactic| (intro zz hz; first | (cases hz; done) | (injection hz with hz; subst hz; first | assumption | (simp only [PySem.Str.length_append, Str.length] at *; simp [sizeLine] at *; omega))))
local macro_rules | `(tactic| walk_at "c") => `(tactic| first | rfl | assumption | decide | omega)
local macro_rules | `(tactic| walk_at "ix") => `(tactic| first | assumption | rfl)
local macro_rules | `(tactic| walk_at "mem") => `(tactic| assumption)
local macro_rules | `(tactic| walk_at "sz") => `(tactic| first | assumption | omega)
local macro_rules | `(tactic| walk_at "mul") => `(tactic| first | exact .inr ⟨by decide, by decide⟩ | exact .inl ⟨by decide, by decide⟩)
local macro_rules | `(tactic| walk_at "div") => `(tactic| first | exact ⟨by decide, by decide⟩ | exact ⟨by omega, by omega⟩)
local macro_rules | `(tactic| walk_at "cmp") => `(tactic| first | exact c_lt | exact c_le | exact c_gt | exact c_ge | exact c_eqI | exact c_neI | exact c_eqS | exact c_neS | exact c_eqB | exact c_isN | exact c_notN | exact c_inS | exact c_notInS)
theorem cutD_to {α : Type} {xs : List α} {k : Nat} (h : k ≤ xs.length) : cutD xs none (some (k : Int)) = xs.take k := by
  have e1 : HT.sIx xs.length 0 none = 0 := rfl
  have e2 : HT.sIx xs.length xs.length (some (k : Int)) = k := by
    rw [HT.sIx_nat]
    omega
  unfold cutD
  rw [e1, e2]
  simp
theorem cutD_from {α : Type} {xs : List α} {k : Nat} (h : k ≤ xs.length) : cutD xs (some (k : Int)) none = xs.drop k := by
  have e1 : HT.sIx xs.length 0 (some (k : Int)) = k := by
    rw [HT.sIx_nat]
    omega
  have e2 : HT.sIx xs.length xs.length none = xs.length := rfl
  unfold cutD
  rw [e1, e2, List.take_of_length_le]
  rw [List.length_drop]
  exact Nat.le_refl _
def S_nearly : Spec (LV × PPlain) where
  pre γ xs := xs = [γ.1, .d (encPlain γ.2)] ∧ PoolV γ.1 ∧ WfP γ.2 ∧ SmP γ.2 ∧ 0 < γ.2.sts.length
  post γ r ys := ∃ p pv, r = .d (encPlain p) ∧ WfP p ∧ p.S = γ.2.S ∧ PoolV pv ∧ ys = [some pv, none]
section
variable {P : Program} {w : World} {K : PySem.W.Frag} {mg : Str → Option Value} {base : Heap}
-- _law_nearly: ['pool', 'plain', 'signs', 'begin', 'states', 'at', 'end', 'row', 'k', 'part', 'step', 'sign']
theorem ok_nearly (T : Tp K mg) : Cal P w K mg base 4 "_law_nearly" ["pool", "plain"] S_nearly := by
  refine cal_of (k := 3) T (N := ["pool", "plain", "signs", "begin", "states", "at", "end", "row", "k", "part", "step", "sign"]) 52 52 rfl rfl (fun _ _ _ _ _ _ us hl => match us, hl with | [_, _], _ => rfl) [true, false] rfl (by decide +kernel) (fun γ xs h => ?_) ?_
  · first | exact congrArg List.length (show _ = _ from h) | exact congrArg List.length (show _ ∧ _ from h).1
  intro cdv A outer s H E γ vs xs hr hl hpre
  obtain ⟨v0, v1, rfl⟩ : ∃ v0 v1, vs = [v0, v1] := by
    match vs, hl with
    | [a0, a1], _ => exact ⟨a0, a1, rfl⟩
  have hnd : (["pool", "plain", "signs", "begin", "states", "at", "end", "row", "k", "part", "step", "sign"] : List Str).Nodup := by decide +kernel
  obtain ⟨pv, p⟩ := γ
  obtain ⟨rfl, hpv, (hw : WfP p), (hs : SmP p), (h0 : 0 < p.sts.length)⟩ := hpre
  dsimp only
  have EV : Ev (cxOf (L2.CX P w) P w K mg base ["pool", "plain", "signs", "begin", "states", "at", "end", "row", "k", "part", "step", "sign"] "_law_nearly" (defScope (Hd.topS 70)) (He.ga K "_law_nearly") cdv A outer s H E) ["pool", "plain", "signs", "begin", "states", "at", "end", "row", "k", "part", "step", "sign"] [0, 1, 2, 3, 4, 5, 6, 7, 8, 9, 10] [0, 1, 2, 3, 4, 5, 6, 7, 8, 9, 10] ["_law_word", "tuple", "_law_draw", "len"] := ⟨rfl, (by decide +kernel : evB (defScope (Hd.topS 70)) ["pool", "plain", "signs", "begin", "states", "at", "end", "row", "k", "part", "step", "sign"] [0, 1, 2, 3, 4, 5, 6, 7, 8, 9, 10] [0, 1, 2, 3, 4, 5, 6, 7, 8, 9, 10] ["_law_word", "tuple", "_law_draw", "len"] = true)⟩
  obtain ⟨hS1, hS5⟩ := signs5 hw.s
  have hn := hw.n
  refine lss_cons (ls_asg (le_q (lq_v (EV.v 1 (i := 1) (nm := "plain") rfl rfl) rfl) (gx_tup3 rfl hnd (EV.l 2 (i := 2) (nm := "signs") rfl rfl) (EV.l 3 (i := 3) (nm := "begin") rfl rfl) (EV.l 4 (i := 4) (nm := "states") rfl rfl) rfl rfl rfl rfl rfl rfl ?_)))
  refine lss_cons (ls_ifb (p := false) (LB.cast (lb_not (lb_truth (lq_v (EV.v 4 (i := 4) (nm := "states") rfl rfl) rfl) rfl (by walk_at "len"))) (by cases h : p.sts with | nil => rw [h] at h0; exact absurd h0 (Nat.lt_irrefl _) | cons a r => rfl)) (fun hc => nomatch hc) (fun hc => lss_nil ?_))
  refine lss_cons (sx_set (EV.l 5 (i := 5) (nm := "at") rfl rfl) hnd rfl (ex_draw (EV.g 2 (nm := "_law_draw") rfl) (ok_draw T) hr (by decide) (EV.v 0 (i := 0) (nm := "pool") rfl rfl) rfl hpv (lim := (p.sts.length : Nat)) (lq_cast (lq_len (fr_len T) (lq_v (EV.v 4 (i := 4) (nm := "states") rfl rfl) rfl) (by walk_at "ix") (by walk_at "len") (EV.g 3 (nm := "len") rfl).g) (by rw [List.length_map])) (by omega) (by omega) fun n pv hn0 hn1 hpv => ⟨rfl, ?_⟩))
  obtain ⟨a, rfl⟩ : ∃ a : Nat, n = (a : Int) := ⟨n.toNat, by omega⟩
  have ha : a < p.sts.length := by omega
  have f1 : ixD (.tuple (p.sts.map encState)) (a : Nat) = some (encState p.sts[a]) := at_map (List.getElem?_eq_getElem ha)
  have wS := hw.st _ (List.getElem_mem ha)
  have mS := hs.st _ (List.getElem_mem ha)
  generalize hst : p.sts[a] = st at *
  obtain ⟨en, row⟩ := st
  refine lss_cons (ls_asg (le_q (x := .tuple [encEnd en, .tuple (row.map encStep)]) (lq_ix (lq_v (EV.v 4 (i := 4) (nm := "states") rfl rfl) rfl) (lq_v (EV.v 5 (i := 5) (nm := "at") rfl rfl) rfl) (by walk_at "ix") (by walk_at "len")) (gx_tup2 rfl hnd (EV.l 6 (i := 6) (nm := "end") rfl rfl) (EV.l 7 (i := 7) (nm := "row") rfl rfl) rfl rfl rfl rfl ?_)))
  refine lss_cons (sx_set (EV.l 8 (i := 8) (nm := "k") rfl rfl) hnd rfl (ex_draw (EV.g 2 (nm := "_law_draw") rfl) (ok_draw T) hr (by decide) (EV.v 0 (i := 0) (nm := "pool") rfl rfl) rfl hpv (lim := (p.S.length : Nat)) (lq_len (fr_len T) (lq_v (EV.v 2 (i := 2) (nm := "signs") rfl rfl) rfl) (by walk_at "ix") (by walk_at "len") (EV.g 3 (nm := "len") rfl).g) (by omega) (by omega) fun n pv hn0 hn1 hpv => ⟨rfl, ?_⟩))
  obtain ⟨k, rfl⟩ : ∃ k : Nat, n = (k : Int) := ⟨n.toNat, by omega⟩
  have hk : k < row.length := by
    have := wS.l
    dsimp only at this
    omega
  refine lss_cons (sx_set (EV.l 9 (i := 9) (nm := "part") rfl rfl) hnd rfl (ex_draw (EV.g 2 (nm := "_law_draw") rfl) (ok_draw T) hr (by decide) (EV.v 0 (i := 0) (nm := "pool") rfl rfl) rfl hpv lq_int (by omega) (by omega) fun part pv _ _ hpv => ⟨rfl, ?_⟩))
  have f2 : ixD (.tuple (row.map encStep)) (k : Nat) = some (encStep row[k]) := at_map (List.getElem?_eq_getElem hk)
  have stOk : ∀ t j, row[k] = some (t, j) → Over p.S t ∧ t.length ≤ 2 ∧ j < p.sts.length := fun t j h => by
    have m : some (t, j) ∈ row := h ▸ List.getElem_mem hk
    exact ⟨(wS.r t j m).1, mS.r t j m, (wS.r t j m).2.2⟩
  have enOk : ∀ e, en = some e → Over p.S e ∧ e.length ≤ 100 := wS.e
  generalize hrk : row[k] = st at *
  refine lss_cons (sx_set (EV.l 10 (i := 10) (nm := "step") rfl rfl) hnd rfl (le_q (x := encStep st) (lq_ix (lq_v (EV.v 7 (i := 7) (nm := "row") rfl rfl) rfl) (lq_v (EV.v 8 (i := 8) (nm := "k") rfl rfl) rfl) (by walk_at "ix") (by walk_at "len")) ⟨rfl, ?_⟩))
  refine lss_as (δ' := [.lk v0 pv, .is (.d (encPlain p)), .is (.d (.str p.S)), .is (.d (.str p.b)), .is (.d (.tuple (p.sts.map encState))), .is (.d (.int (a : Nat))), .is (.d (encEnd en)), .is (.d (.tuple (row.map encStep))), .is (.d (.int (k : Nat))), .is (.d (.int part)), .is (.d (encStep st)), .no]) rfl ?_
  refine lss_mid (fun δ => ∃ pv, ∃ en : Option Str, ∃ st : PStep, PoolV pv ∧ (∀ e, en = some e → Over p.S e ∧ e.length ≤ 100) ∧ (∀ t j, st = some (t, j) → Over p.S t ∧ t.length ≤ 100 ∧ j < p.sts.length) ∧
    δ = [.lk v0 pv, .is (.d (encPlain p)), .is (.d (.str p.S)), .is (.d (.str p.b)), .is (.d (.tuple (p.sts.map encState))), .is (.d (.int (a : Nat))), .is (.d (encEnd en)), .is (.d (.tuple (row.map encStep))), .is (.d (.int (k : Nat))), .is (.d (.int part)), .is (.d (encStep st)), .no]) ?_ ?_
  · have stOk' : ∀ t j, st = some (t, j) → Over p.S t ∧ t.length ≤ 100 ∧ j < p.sts.length := fun t j h => ⟨(stOk t j h).1, by have := (stOk t j h).2.1; omega, (stOk t j h).2.2⟩
    refine ls_ifb (lb_cmp (lq_v (EV.v 9 (i := 9) (nm := "part") rfl rfl) rfl) lq_int (by walk_at "cmp")) (fun _ => ?_) (fun _ => ?_)
    · exact lss_one (sx_set (EV.l 6 (i := 6) (nm := "end") rfl rfl) hnd rfl (ex_word (EV.g 0 (nm := "_law_word") rfl) (ok_word T) hr (by decide) (EV.v 0 (i := 0) (nm := "pool") rfl rfl) rfl hpv (lqs_cons (lq_v (EV.v 2 (i := 2) (nm := "signs") rfl rfl) rfl) (lqs_cons lq_int .nil)) (by omega) (by omega) (mx := 2) (by omega) fun z pv hz ov hpv => ⟨rfl, pv, some z, st, hpv, fun e h => by cases h; exact ⟨ov, by omega⟩, stOk', rfl⟩))
    refine lss_one (ls_ifb (lb_cmp (lq_v (EV.v 9 (i := 9) (nm := "part") rfl rfl) rfl) lq_int (by walk_at "cmp")) (fun _ => ?_) (fun _ => ?_))
    · refine lss_one (sx_set (EV.l 6 (i := 6) (nm := "end") rfl rfl) hnd rfl (le_if (LB.go (lb_cmp (lq_v (EV.v 6 (i := 6) (nm := "end") rfl rfl) rfl) lq_none (by walk_at "cmp")) ?_)))
      split
      · exact le_q lq_str ⟨rfl, pv, some (Str.ofString ""), st, hpv, fun e h => by cases h; exact ⟨Over.empty, by decide +kernel⟩, stOk', rfl⟩
      · exact le_q lq_none ⟨rfl, pv, none, st, hpv, fun e h => (nomatch h), stOk', rfl⟩
    refine lss_one (ls_ifb (LBw.lb (lbw_or (lb_cmp (lq_v (EV.v 9 (i := 9) (nm := "part") rfl rfl) rfl) lq_int (by walk_at "cmp")) fun hb => (lbw_or1 (lb_cmp (lq_v (EV.v 10 (i := 10) (nm := "step") rfl rfl) rfl) lq_none (by walk_at "cmp"))))) (fun _ => ?_) (fun hc => ?_))
    · refine lss_one (sx_set (EV.l 10 (i := 10) (nm := "step") rfl rfl) hnd rfl (le_tup (ld_cons ?_)))
      refine ex_word (EV.g 0 (nm := "_law_word") rfl) (ok_word T) hr (by decide) (EV.v 0 (i := 0) (nm := "pool") rfl rfl) rfl hpv (lqs_cons (lq_v (EV.v 2 (i := 2) (nm := "signs") rfl rfl) rfl) (lqs_cons lq_int .nil)) (by omega) (by omega) (mx := 2) (by omega) fun z pv hz ov hpv => ?_
      refine ⟨_, .d, ld_cons ?_⟩
      refine ex_draw (EV.g 2 (nm := "_law_draw") rfl) (ok_draw T) hr (by decide) (EV.v 0 (i := 0) (nm := "pool") rfl rfl) rfl hpv (lim := (p.sts.length : Nat)) (lq_cast (lq_len (fr_len T) (lq_v (EV.v 4 (i := 4) (nm := "states") rfl rfl) rfl) (by walk_at "ix") (by walk_at "len") (EV.g 3 (nm := "len") rfl).g) (by rw [List.length_map])) (by omega) (by omega) fun n pv hn0 hn1 hpv => ?_
      refine ⟨_, .d, ld_nil ⟨by simp [sizeLine], rfl, pv, en, some (z, n.toNat), hpv, enOk, fun t j h => by cases h; exact ⟨ov, by omega, by omega⟩, ?_⟩⟩
      have e2 : encStep (some (z, n.toNat)) = .tuple [.str z, .int n] := by
        show PyData.tuple [.str z, .int (n.toNat : Nat)] = _
        rw [Int.toNat_of_nonneg hn0]
      rw [e2]
      rfl
    cases st with
    | none => simp [isNone, encStep] at hc
    | some q =>
    obtain ⟨t, j⟩ := q
    obtain ⟨ht1, ht2, ht3⟩ := stOk t j rfl
    refine lss_one (ls_ifb (lb_cmp (lq_v (EV.v 9 (i := 9) (nm := "part") rfl rfl) rfl) lq_int (by walk_at "cmp")) (fun _ => ?_) (fun _ => ?_))
    · refine lss_one (sx_set (EV.l 10 (i := 10) (nm := "step") rfl rfl) hnd rfl (le_tup (ld_cons (le_cat (le_q (x := .str t) (lq_ix (lq_v (EV.v 10 (i := 10) (nm := "step") rfl rfl) rfl) lq_int (by walk_at "ix") (by walk_at "len")) ⟨_, rfl, le_ix (le_q (lq_v (EV.v 2 (i := 2) (nm := "signs") rfl rfl) rfl) ⟨_, .d, ?_⟩)⟩)))))
      refine ex_draw (EV.g 2 (nm := "_law_draw") rfl) (ok_draw T) hr (by decide) (EV.v 0 (i := 0) (nm := "pool") rfl rfl) rfl hpv (lim := (p.S.length : Nat)) (lq_len (fr_len T) (lq_v (EV.v 2 (i := 2) (nm := "signs") rfl rfl) rfl) (by walk_at "ix") (by walk_at "len") (EV.g 3 (nm := "len") rfl).g) (by omega) (by omega) fun n2 pv h2 h3 hpv => ?_
      have hn : n2.toNat < p.S.cps.toList.length := by rw [Array.length_toList]; show _ < p.S.length; omega
      refine ⟨n2, .str ⟨#[p.S.cps.toList[n2.toNat]]⟩, rfl, .inr (.inr ⟨p.S, p.S.cps.toList[n2.toNat], rfl, by simp [sizeLine]; omega, ?_, rfl⟩), _, rfl, ?_, _, .d, ?_⟩
      · have := at_nat (List.getElem?_eq_getElem hn)
        rwa [Int.toNat_of_nonneg h2] at this
      · show t.length + 1 ≤ sizeLine
        simp [sizeLine]; omega
      · refine ld_q (x := .int (j : Nat)) (lq_ix (lq_v (EV.v 10 (i := 10) (nm := "step") rfl rfl) rfl) lq_int (by walk_at "ix") (by walk_at "len")) (ld_nil ⟨by simp [sizeLine], rfl, pv, en, some (t ++ ⟨#[p.S.cps.toList[n2.toNat]]⟩, j), hpv, enOk, fun t' j' h => ?_, rfl⟩)
        cases h
        exact ⟨ht1.cat (.one (List.getElem_mem hn)), by rw [Str.length_append]; show t.length + 1 ≤ 100; omega, ht3⟩
    · exact lss_one (sx_set (EV.l 10 (i := 10) (nm := "step") rfl rfl) hnd rfl (le_q lq_none ⟨rfl, pv, en, none, hpv, enOk, fun t j h => (nomatch h), rfl⟩))
  rintro δ ⟨pv, en', st', hpv, hen', hst', rfl⟩
  have hrl : row.length = p.S.length := wS.l
  refine lss_cons (sx_set (EV.l 7 (i := 7) (nm := "row") rfl rfl) hnd rfl (le_catT (le_catT (le_sliceT (i := none) (j := some (k : Nat)) (le_q (lq_v (EV.v 7 (i := 7) (nm := "row") rfl rfl) rfl) ⟨_, rfl, lo_none, lo_some (lq_v (EV.v 8 (i := 8) (nm := "k") rfl rfl) rfl), _, rfl, ?_⟩)))))
  rw [cutD_to (by rw [List.length_map]; omega)]
  refine le_tup (ld_q (lq_v (EV.v 10 (i := 10) (nm := "step") rfl rfl) rfl) (ld_nil ⟨by simp [sizeLine], _, rfl, ?_, _, rfl, ?_⟩))
  · rw [List.length_take, List.length_map]
    simp [sizeLine]
    omega
  refine le_sliceT (i := some ((k + 1 : Nat) : Int)) (j := none) (le_q (lq_v (EV.v 7 (i := 7) (nm := "row") rfl rfl) rfl) ⟨_, rfl, lo_some (lq_cast (lq_plus (lq_v (EV.v 8 (i := 8) (nm := "k") rfl rfl) rfl) lq_int (by walk_at "c") (by walk_at "len")) rfl), lo_none, _, rfl, ?_, rfl, ?_⟩)
  · rw [cutD_from (by rw [List.length_map]; omega), List.length_append, List.length_take, List.length_drop, List.length_map]
    simp [sizeLine]
    omega
  rw [cutD_from (by rw [List.length_map]; omega)]
  have erow : (row.map encStep).take k ++ [encStep st'] ++ (row.map encStep).drop (k + 1) = (row.take k ++ [st'] ++ row.drop (k + 1)).map encStep := by
    rw [List.map_append, List.map_append, List.map_take, List.map_drop]
    rfl
  rw [erow]
  generalize hrow2 : row.take k ++ [st'] ++ row.drop (k + 1) = row2
  have hl2 : row2.length = row.length := by
    rw [← hrow2]
    simp
    omega
  have hm2 : ∀ t j, some (t, j) ∈ row2 → Over p.S t ∧ t.length ≤ 100 ∧ j < p.sts.length := by
    intro t j h
    rw [← hrow2] at h
    rcases List.mem_append.mp h with h | h
    · rcases List.mem_append.mp h with h | h
      · exact wS.r t j (List.mem_of_mem_take h)
      · rw [List.mem_singleton] at h
        exact hst' t j h.symm
    · exact wS.r t j (List.mem_of_mem_drop h)
  refine lss_one (ls_ret (le_tup (ld_q (lq_v (EV.v 2 (i := 2) (nm := "signs") rfl rfl) rfl) (ld_q (lq_v (EV.v 3 (i := 3) (nm := "begin") rfl rfl) rfl) (ld_cons (le_catT (le_catT (le_sliceT (i := none) (j := some (a : Nat)) (le_q (lq_v (EV.v 4 (i := 4) (nm := "states") rfl rfl) rfl) ⟨_, rfl, lo_none, lo_some (lq_v (EV.v 5 (i := 5) (nm := "at") rfl rfl) rfl), _, rfl, ?_⟩)))))))))
  rw [cutD_to (by rw [List.length_map]; omega)]
  refine le_tup (ld_cons (le_tup (ld_q (lq_v (EV.v 6 (i := 6) (nm := "end") rfl rfl) rfl) (ld_q (x := .tuple (row2.map encStep)) (lq_v (EV.v 7 (i := 7) (nm := "row") rfl rfl) rfl) (ld_nil ⟨by simp [sizeLine], _, .d, ld_nil ⟨by simp [sizeLine], _, rfl, ?_, _, rfl, ?_⟩⟩)))))
  · rw [List.length_take, List.length_map]
    simp [sizeLine]
    omega
  refine le_sliceT (i := some ((a + 1 : Nat) : Int)) (j := none) (le_q (lq_v (EV.v 4 (i := 4) (nm := "states") rfl rfl) rfl) ⟨_, rfl, lo_some (lq_cast (lq_plus (lq_v (EV.v 5 (i := 5) (nm := "at") rfl rfl) rfl) lq_int (by walk_at "c") (by walk_at "len")) rfl), lo_none, _, rfl, ?_, _, .d, ld_nil ⟨by simp [sizeLine], ?_⟩⟩)
  · rw [cutD_from (by rw [List.length_map]; omega), List.length_append, List.length_take, List.length_drop, List.length_map]
    simp [sizeLine]
    omega
  rw [cutD_from (by rw [List.length_map]; omega)]
  have ests : (p.sts.map encState).take a ++ [PyData.tuple [encEnd en', .tuple (row2.map encStep)]] ++ (p.sts.map encState).drop (a + 1) = (p.sts.take a ++ [(en', row2)] ++ p.sts.drop (a + 1)).map encState := by
    rw [List.map_append, List.map_append, List.map_take, List.map_drop]
    rfl
  rw [ests]
  generalize hs2 : p.sts.take a ++ [(en', row2)] ++ p.sts.drop (a + 1) = sts2
  have hl3 : sts2.length = p.sts.length := by
    rw [← hs2]
    simp
    omega
  refine ⟨_, ⟨⟨p.S, p.b, sts2⟩, pv, rfl, ⟨hw.s, hw.b, by rw [hl3]; exact hw.n, fun h => ?_, fun s h => ?_⟩, rfl, hpv, rfl⟩, rfl, trivial⟩
  · have h' : sts2.length = 0 := h
    omega
  · show WfS p.S sts2.length s
    rw [hl3]
    rw [← hs2] at h
    rcases List.mem_append.mp h with h | h
    · rcases List.mem_append.mp h with h | h
      · exact hw.st s (List.mem_of_mem_take h)
      · rw [List.mem_singleton] at h
        subst h
        exact ⟨hen', hl2.trans hrl, hm2⟩
    · exact hw.st s (List.mem_of_mem_drop h)
end
end Z
set_option maxHeartbeats 2000000
namespace Z
open PySem PySem.Spec PyProof.Rows L2
local macro_rules | `(tactic| walk_at "len") => `(tactic| (intro zz hz; first | (cases hz; done) | (injection hz with hz; subst hz; first | assumption | (simp only [PySem.Str.length_append, Str.length] at *; simp [sizeLine] at *; omega))))
local macro_rules | `(tactic| walk_at "c") => `(tactic| first | rfl | assumption | decide | omega)
local macro_rules | `(tactic| walk_at "ix") => `(tactic| first | assumption | rfl)
local macro_rules | `(tactic| walk_at "mem") => `(tactic| assumption)
local macro_rules | `(tactic| walk_at "sz") => `(tactic| first | assumption | omega)
local macro_rules | `(tactic| walk_at "mul") => `(tactic| first | exact .inr ⟨by decide, by decide⟩ | exact .inl ⟨by decide, by decide⟩)
local macro_rules | `(tactic| walk_at "div") => `(tactic| first | exact ⟨by decide, by decide⟩ | exact ⟨by omega, by omega⟩)
local macro_rules | `(tactic| walk_at "cmp") => `(tactic| first | exact c_lt | exact c_le | exact c_gt | exact c_ge | exact c_eqI | exact c_neI | exact c_eqS | exact c_neS | exact c_eqB | exact c_isN | exact c_notN | exact c_inS | exact c_notInS)
def S_spoilt : Spec (LV × PPlain) where
  pre γ xs := xs = [γ.1, .d (encPlain γ.2)] ∧ PoolV γ.1 ∧ WfP γ.2 ∧ 0 < γ.2.sts.length ∧ γ.2.S.length ≤ 4
  post γ r ys := ∃ rows : List PyData, ∃ pv, r = .l (rows.map LV.d) ∧ 0 < rows.length ∧ rows.length ≤ 1000 ∧ (∀ d ∈ rows, fitD d = true ∧ isPlainD d = false) ∧ PoolV pv ∧ ys = [some pv, none]
structure BadS (S : Str) (n : Int) (v : PyData) : Prop where
  f : fitD v = true
  b : isStateD S n v = false
structure BadP (v : PyData) : Prop where
  f : fitD v = true
  b : isPlainD v = false
theorem fit_tup {xs : List PyData} (h : ∀ x ∈ xs, fitD x = true) : fitD (.tuple xs) = true := fitAll_iff.mpr h
theorem fit_list {xs : List PyData} (h : ∀ x ∈ xs, fitD x = true) : fitD (.list xs) = true := fitAll_iff.mpr h
theorem fits_of {xs : List PyData} (h : fitD (.tuple xs) = true) : ∀ x ∈ xs, fitD x = true := fitAll_iff.mp h
theorem fit_one (c : Nat) : fitD (.str ⟨#[c]⟩) = true := by
  show decide ((⟨#[c]⟩ : Str).length ≤ 1000) = true
  exact decide_eq_true (by show 1 ≤ 1000; decide)
theorem fit1 {a : PyData} (h1 : fitD a = true) : fitD (.tuple [a]) = true := fit_tup (by simp [h1])
theorem fit2 {a b : PyData} (h1 : fitD a = true) (h2 : fitD b = true) : fitD (.tuple [a, b]) = true := fit_tup (by simp [h1, h2])
theorem fit3 {a b c : PyData} (h1 : fitD a = true) (h2 : fitD b = true) (h3 : fitD c = true) : fitD (.tuple [a, b, c]) = true := fit_tup (by simp [h1, h2, h3])
theorem fitL2 {a b : PyData} (h1 : fitD a = true) (h2 : fitD b = true) : fitD (.list [a, b]) = true := fit_list (by simp [h1, h2])
theorem fitL3 {a b c : PyData} (h1 : fitD a = true) (h2 : fitD b = true) (h3 : fitD c = true) : fitD (.list [a, b, c]) = true := fit_list (by simp [h1, h2, h3])
theorem step_num {S : Str} {n : Int} {a b : PyData} (h : isNumD n b = false) : isStepD S n (.tuple [a, b]) = false := by
  show (isTextD S a && isNumD n b) = false
  rw [h, Bool.and_false]
theorem step_text {S : Str} {n : Int} {a b : PyData} (h : isTextD S a = false) : isStepD S n (.tuple [a, b]) = false := by
  show (isTextD S a && isNumD n b) = false
  rw [h, Bool.false_and]
theorem num_big {n : Nat} : isNumD (n : Int) (.int (n : Int)) = false := by
  show (decide (0 ≤ (n : Int)) && decide ((n : Int) < n)) = false
  simp
theorem num_neg {n : Nat} : isNumD (n : Int) (.int (-1)) = false := by
  show (decide (0 ≤ (-1 : Int)) && decide ((-1 : Int) < n)) = false
  simp
theorem odd_no {S : Str} {c : Nat} (h : c ∉ S.cps.toList) : isTextD S (.str ⟨#[c]⟩) = false := by
  cases e : isTextD S (.str ⟨#[c]⟩) with
  | false => rfl
  | true => exact absurd (text_over e c (by simp)) h
theorem state_text {S : Str} {n : Int} {a b : PyData} (h1 : isNone a = false) (h2 : isTextD S a = false) : isStateD S n (.tuple [a, b]) = false := by
  unfold isStateD
  split
  · rename_i h
    cases h
    rw [h1, h2]
    rfl
  · rfl
theorem state_len {S : Str} {n : Int} {a : PyData} {row : List PyData} (h : row.length ≠ S.length) : isStateD S n (.tuple [a, .tuple row]) = false := by
  show ((isNone a || isTextD S a) && (decide (row.length = S.length) && row.all (isStepD S n))) = false
  rw [decide_eq_false h]
  simp
theorem state_step {S : Str} {n : Int} {a d : PyData} {row : List PyData} (h : d ∈ row) (hd : isStepD S n d = false) : isStateD S n (.tuple [a, .tuple row]) = false := by
  show ((isNone a || isTextD S a) && (decide (row.length = S.length) && row.all (isStepD S n))) = false
  have : row.all (isStepD S n) = false := by
    cases e : row.all (isStepD S n) with
    | false => rfl
    | true => rw [List.all_eq_true.mp e d h] at hd; cases hd
  rw [this]
  simp
theorem plain_state {S : Str} {b d : PyData} {sts : List PyData} (h : d ∈ sts) (hd : isStateD S sts.length d = false) : isPlainD (.tuple [.str S, b, .tuple sts]) = false := by
  show (areSigns S && (isTextD S b && (decide (sts.length ≤ 2000) && (if sts.length = 0 then noText b else sts.all (isStateD S sts.length))))) = false
  have h0 : sts.length ≠ 0 := fun e => by
    rw [List.length_eq_zero_iff] at e
    rw [e] at h
    cases h
  have : sts.all (isStateD S sts.length) = false := by
    cases e : sts.all (isStateD S sts.length) with
    | false => rfl
    | true => rw [List.all_eq_true.mp e d h] at hd; cases hd
  rw [if_neg h0, this]
  simp
theorem plain_begin {S : Str} {b : PyData} {sts : List PyData} (h : isTextD S b = false) : isPlainD (.tuple [.str S, b, .tuple sts]) = false := by
  show (areSigns S && (isTextD S b && _)) = false
  rw [h]
  simp
section
variable {P : Program} {w : World} {K : PySem.W.Frag} {mg : Str → Option Value} {base : Heap}
-- _law_spoilt: ['pool', 'plain', 'signs', 'begin', 'states', 'at', 'n', 'end', 'row', 'odd', 'bad', 'step', 'rows', 'state']
theorem ok_spoilt (T : Tp K mg) : Cal P w K mg base 4 "_law_spoilt" ["pool", "plain"] S_spoilt := by
  refine cal_of (k := 3) T (N := ["pool", "plain", "signs", "begin", "states", "at", "n", "end", "row", "odd", "bad", "step", "rows", "state"]) 54 54 rfl rfl (fun _ _ _ _ _ _ us hl => match us, hl with | [_, _], _ => rfl) [true, false] rfl (by decide +kernel) (fun γ xs h => ?_) ?_
  · first | exact congrArg List.length (show _ = _ from h) | exact congrArg List.length (show _ ∧ _ from h).1
  intro cdv A outer s H E γ vs xs hr hl hpre
  obtain ⟨v0, v1, rfl⟩ : ∃ v0 v1, vs = [v0, v1] := by
    match vs, hl with
    | [a0, a1], _ => exact ⟨a0, a1, rfl⟩
  have hnd : (["pool", "plain", "signs", "begin", "states", "at", "n", "end", "row", "odd", "bad", "step", "rows", "state"] : List Str).Nodup := by decide +kernel
  obtain ⟨pv, p⟩ := γ
  obtain ⟨rfl, hpv, (hw : WfP p), (h0 : 0 < p.sts.length), (hS4 : p.S.length ≤ 4)⟩ := hpre
  dsimp only
  have EV : Ev (cxOf (L2.CX P w) P w K mg base ["pool", "plain", "signs", "begin", "states", "at", "n", "end", "row", "odd", "bad", "step", "rows", "state"] "_law_spoilt" (defScope (Hd.topS 72)) (He.ga K "_law_spoilt") cdv A outer s H E) ["pool", "plain", "signs", "begin", "states", "at", "n", "end", "row", "odd", "bad", "step", "rows", "state"] [0, 1, 2, 3, 4, 5, 6, 7, 8, 9, 10, 11, 12] [0, 1, 2, 3, 4, 5, 6, 7, 8, 9, 10, 11, 12] ["_law_draw", "len", "_law_strange", "list"] := ⟨rfl, (by decide +kernel : evB (defScope (Hd.topS 72)) ["pool", "plain", "signs", "begin", "states", "at", "n", "end", "row", "odd", "bad", "step", "rows", "state"] [0, 1, 2, 3, 4, 5, 6, 7, 8, 9, 10, 11, 12] [0, 1, 2, 3, 4, 5, 6, 7, 8, 9, 10, 11, 12] ["_law_draw", "len", "_law_strange", "list"] = true)⟩
  obtain ⟨hS1, hS5⟩ := signs5 hw.s
  have hn := hw.n
  refine lss_cons (ls_asg (le_q (lq_v (EV.v 1 (i := 1) (nm := "plain") rfl rfl) rfl) (gx_tup3 rfl hnd (EV.l 2 (i := 2) (nm := "signs") rfl rfl) (EV.l 3 (i := 3) (nm := "begin") rfl rfl) (EV.l 4 (i := 4) (nm := "states") rfl rfl) rfl rfl rfl rfl rfl rfl ?_)))
  refine lss_cons (sx_set (EV.l 5 (i := 5) (nm := "at") rfl rfl) hnd rfl (ex_draw (EV.g 0 (nm := "_law_draw") rfl) (ok_draw T) hr (by decide) (EV.v 0 (i := 0) (nm := "pool") rfl rfl) rfl hpv (lim := (p.sts.length : Nat)) (lq_cast (lq_len (fr_len T) (lq_v (EV.v 4 (i := 4) (nm := "states") rfl rfl) rfl) (by walk_at "ix") (by walk_at "len") (EV.g 1 (nm := "len") rfl).g) (by rw [List.length_map])) (by omega) (by omega) fun n pv hn0 hn1 hpv => ⟨rfl, ?_⟩))
  obtain ⟨a, rfl⟩ : ∃ a : Nat, n = (a : Int) := ⟨n.toNat, by omega⟩
  have ha : a < p.sts.length := by omega
  refine lss_cons (sx_set (EV.l 6 (i := 6) (nm := "n") rfl rfl) hnd rfl (ex_draw (EV.g 0 (nm := "_law_draw") rfl) (ok_draw T) hr (by decide) (EV.v 0 (i := 0) (nm := "pool") rfl rfl) rfl hpv (lim := (p.S.length : Nat)) (lq_len (fr_len T) (lq_v (EV.v 2 (i := 2) (nm := "signs") rfl rfl) rfl) (by walk_at "ix") (by walk_at "len") (EV.g 1 (nm := "len") rfl).g) (by omega) (by omega) fun n pv hn0 hn1 hpv => ⟨rfl, ?_⟩))
  obtain ⟨k, rfl⟩ : ∃ k : Nat, n = (k : Int) := ⟨n.toNat, by omega⟩
  have f1 : ixD (.tuple (p.sts.map encState)) (a : Nat) = some (encState p.sts[a]) := at_map (List.getElem?_eq_getElem ha)
  have wS := hw.st _ (List.getElem_mem ha)
  have fitS := fit_state wS
  have wfS := wf_state wS
  generalize hst : p.sts[a] = st at *
  obtain ⟨en, row⟩ := st
  have hrl : row.length = p.S.length := wS.l
  have hk : k < row.length := by omega
  refine lss_cons (ls_asg (le_q (x := .tuple [encEnd en, .tuple (row.map encStep)]) (lq_ix (lq_v (EV.v 4 (i := 4) (nm := "states") rfl rfl) rfl) (lq_v (EV.v 5 (i := 5) (nm := "at") rfl rfl) rfl) (by walk_at "ix") (by walk_at "len")) (gx_tup2 rfl hnd (EV.l 7 (i := 7) (nm := "end") rfl rfl) (EV.l 8 (i := 8) (nm := "row") rfl rfl) rfl rfl rfl rfl ?_)))
  have fE : fitD (encEnd en) = true := fits_of fitS _ (by simp)
  have fR : fitD (.tuple (row.map encStep)) = true := fits_of fitS _ (by simp)
  have fR2 : ∀ x ∈ row.map encStep, fitD x = true := fits_of fR
  have fP := fit_plain hw
  have fB : fitD (.str p.b) = true := fits_of fP _ (by simp)
  have fSg : fitD (.str p.S) = true := fits_of fP _ (by simp)
  have fSt : fitD (.tuple (p.sts.map encState)) = true := fits_of fP _ (by simp)
  have fSt2 : ∀ x ∈ p.sts.map encState, fitD x = true := fits_of fSt
  refine lss_as (δ' := [.lk v0 pv, .is (.d (encPlain p)), .is (.d (.str p.S)), .is (.d (.str p.b)), .is (.d (.tuple (p.sts.map encState))), .is (.d (.int (a : Nat))), .is (.d (.int (k : Nat))), .is (.d (encEnd en)), .is (.d (.tuple (row.map encStep))), .no, .no, .no, .no, .no]) rfl ?_
  refine lss_cons (sx_set (EV.l 9 (i := 9) (nm := "odd") rfl rfl) hnd rfl (ex_calQ (EV.g 2 (nm := "_law_strange") rfl) (ok_strange T) hr (by decide) (lqs_cons (lq_v (EV.v 2 (i := 2) (nm := "signs") rfl rfl) rfl) .nil) p.S ⟨rfl, by omega⟩ (fun r ys h => ?_) (fun _ _ h => h.elim)))
  obtain ⟨c, rfl, hc⟩ := h
  refine ⟨rfl, ?_⟩
  have oddN := odd_no hc
  have fO : fitD (.str ⟨#[c]⟩) = true := fit_one c
  have f3 : ixD (.str p.S) 0 = some (.str ⟨#[p.S.cps.toList[0]'(by rw [Array.length_toList]; exact hS1)]⟩) := by
    show (atI p.S.cps.toList ((0 : Nat) : Int)).map _ = _
    rw [at_nat (List.getElem?_eq_getElem (by rw [Array.length_toList]; exact hS1))]
    rfl
  generalize p.S.cps.toList[0]'(by rw [Array.length_toList]; exact hS1) = c0 at f3
  have hsz : p.S.length ≤ sizeLine := Nat.le_trans hS5 (by decide)
  refine lss_cons (sx_set (EV.l 10 (i := 10) (nm := "bad") rfl rfl) hnd rfl (le_lst (ld_nil ⟨by simp [sizeLine], rfl, ?_⟩)))
  have fC0 : fitD (.str ⟨#[c0]⟩) = true := fit_one c0
  have f00 : fitD (.str (Str.ofString "")) = true := by decide +kernel
  refine lss_cons (ls_for (passes_of rfl) rfl (li_list (le_lst ?_)))
  refine ld_cons (le_tup (ld_q lq_str (ld_q (x := .int (p.sts.length : Nat)) (lq_cast (lq_len (fr_len T) (lq_v (EV.v 4 (i := 4) (nm := "states") rfl rfl) rfl) (by walk_at "ix") (by walk_at "len") (EV.g 1 (nm := "len") rfl).g) (by rw [List.length_map])) (ld_nil ⟨by simp [sizeLine], _, .d, ?_⟩))))
  refine ld_cons (le_tup (ld_q lq_str (ld_q (x := .int (-1)) (lq_neg lq_int) (ld_nil ⟨by simp [sizeLine], _, .d, ?_⟩))))
  refine ld_cons (le_tup (ld_q lq_str (ld_q lq_bool (ld_nil ⟨by simp [sizeLine], _, .d, ?_⟩))))
  refine ld_cons (le_tup (ld_q (lq_v (EV.v 9 (i := 9) (nm := "odd") rfl rfl) rfl) (ld_q lq_int (ld_nil ⟨by simp [sizeLine], _, .d, ?_⟩))))
  refine ld_cons (le_lst (ld_q (x := .str ⟨#[c0]⟩) (lq_ix (lq_v (EV.v 2 (i := 2) (nm := "signs") rfl rfl) rfl) lq_int (by walk_at "ix") (by walk_at "len")) (ld_q lq_int (ld_nil ⟨by simp [sizeLine], _, fz_map, ?_⟩))))
  refine ld_cons (le_tup (ld_q lq_str (ld_q lq_int (ld_q lq_int (ld_nil ⟨by simp [sizeLine], _, .d, ?_⟩)))))
  refine ld_cons (le_tup (ld_q lq_str (ld_nil ⟨by simp [sizeLine], _, .d, ?_⟩)))
  refine ld_cons (le_tup (ld_q lq_int (ld_q lq_int (ld_nil ⟨by simp [sizeLine], _, .d, ?_⟩))))
  refine ld_q lq_int (ld_nil ⟨by simp [sizeLine], _, fz_map, ?_⟩)
  refine ⟨fun i δ => ∃ bs : List PyData, bs.length = i ∧ (∀ b ∈ bs, BadS p.S p.sts.length b) ∧ δ = [.lk v0 pv, .is (.d (encPlain p)), .is (.d (.str p.S)), .is (.d (.str p.b)), .is (.d (.tuple (p.sts.map encState))), .is (.d (.int (a : Nat))), .is (.d (.int (k : Nat))), .is (.d (encEnd en)), .is (.d (.tuple (row.map encStep))), .is (.d (.str ⟨#[c]⟩)), .is (.l (bs.map LV.d)), .no, .no, .no], ⟨[], rfl, by simp, rfl⟩, ?_, ?_⟩
  · rintro i d δ hd ⟨bs, hbl, hbs, rfl⟩
    have hi : i < 9 := (List.getElem?_eq_some_iff.mp hd).1
    have hdf : fitD d = true ∧ isStepD p.S p.sts.length d = false := by
      have hm := List.mem_of_getElem? hd
      simp only [List.mem_cons, List.not_mem_nil, or_false] at hm
      rcases hm with rfl | rfl | rfl | rfl | rfl | rfl | rfl | rfl | rfl
      · exact ⟨fit2 f00 rfl, step_num num_big⟩
      · exact ⟨fit2 f00 rfl, step_num num_neg⟩
      · exact ⟨fit2 f00 rfl, step_num rfl⟩
      · exact ⟨fit2 fO rfl, step_text oddN⟩
      · exact ⟨fitL2 fC0 rfl, rfl⟩
      · exact ⟨fit3 f00 rfl rfl, rfl⟩
      · exact ⟨fit1 f00, rfl⟩
      · exact ⟨fit2 rfl rfl, step_text rfl⟩
      · exact ⟨rfl, rfl⟩
    refine gx_name (EV.l 11 (i := 11) (nm := "step") rfl rfl) hnd rfl rfl ?_
    refine lss_cons (ls_expr (ex_append (EV.v 10 (i := 10) (nm := "bad") rfl rfl) (le_tup (ld_q (lq_v (EV.v 7 (i := 7) (nm := "end") rfl rfl) rfl) (ld_cons (le_catT (le_catT (le_sliceT (i := none) (j := some (k : Nat)) (le_q (lq_v (EV.v 8 (i := 8) (nm := "row") rfl rfl) rfl) ⟨_, rfl, lo_none, lo_some (lq_v (EV.v 6 (i := 6) (nm := "n") rfl rfl) rfl), _, rfl, ?_⟩))))))) ⟨_, rfl⟩))
    rw [cutD_to (by rw [List.length_map]; omega)]
    refine le_tup (ld_q (lq_v (EV.v 11 (i := 11) (nm := "step") rfl rfl) rfl) (ld_nil ⟨by simp [sizeLine], _, rfl, ?_, _, rfl, ?_⟩))
    · rw [List.length_take, List.length_map]
      simp [sizeLine]
      omega
    refine le_sliceT (i := some ((k + 1 : Nat) : Int)) (j := none) (le_q (lq_v (EV.v 8 (i := 8) (nm := "row") rfl rfl) rfl) ⟨_, rfl, lo_some (lq_cast (lq_plus (lq_v (EV.v 6 (i := 6) (nm := "n") rfl rfl) rfl) lq_int (by walk_at "c") (by walk_at "len")) rfl), lo_none, _, rfl, ?_, _, .d, ld_nil ⟨by simp [sizeLine], _, rfl, ?_, ?_⟩⟩)
    · rw [cutD_from (by rw [List.length_map]; omega), List.length_append, List.length_take, List.length_drop, List.length_map]
      simp [sizeLine]
      omega
    · rw [List.length_map, hbl]
      exact Nat.lt_trans hi (by decide)
    rw [cutD_from (by rw [List.length_map]; omega)]
    generalize hrow2 : (row.map encStep).take k ++ [d] ++ (row.map encStep).drop (k + 1) = row2
    refine lss_drop 11 (lss_nil ⟨bs ++ [.tuple [encEnd en, .tuple row2]], by rw [List.length_append, hbl]; rfl, ?_, by rw [List.map_append]; rfl⟩)
    intro b hb
    rcases List.mem_append.mp hb with hb | hb
    · exact hbs b hb
    · rw [List.mem_singleton] at hb
      subst hb
      refine ⟨fit_tup ?_, state_step (d := d) (by rw [← hrow2]; simp) hdf.2⟩
      intro x hx
      simp only [List.mem_cons, List.not_mem_nil, or_false] at hx
      rcases hx with rfl | rfl
      · exact fE
      · refine fit_tup fun x hx => ?_
        rw [← hrow2] at hx
        rcases List.mem_append.mp hx with hx | hx
        · rcases List.mem_append.mp hx with hx | hx
          · exact fR2 x (List.mem_of_mem_take hx)
          · rw [List.mem_singleton] at hx
            rw [hx]
            exact hdf.1
        · exact fR2 x (List.mem_of_mem_drop hx)
  · rintro δ ⟨bs, hbl, hbs, rfl⟩
    have hbl' : bs.length = 9 := hbl
    have hR1 : (row.map encStep).length ≤ 5 := by rw [List.length_map]; omega
    have hbig : (9000 : Nat) ≤ sizeLine := by simp [sizeLine]
    refine lss_cons (sx_set (EV.l 10 (i := 10) (nm := "bad") rfl rfl) hnd rfl (le_frzAt (i := 10) (d := .list bs) rfl fz_map (le_catL (le_q (x := .list bs) (lq_v (EV.v 10 (i := 10) (nm := "bad") rfl rfl) rfl) ⟨_, .d, le_lst ?_⟩))))
    refine ld_cons (le_tup (ld_q (lq_v (EV.v 7 (i := 7) (nm := "end") rfl rfl) rfl) (ld_cons (le_catT (le_sliceT (i := none) (j := some (k : Nat)) (le_q (lq_v (EV.v 8 (i := 8) (nm := "row") rfl rfl) rfl) ⟨_, rfl, lo_none, lo_some (lq_v (EV.v 6 (i := 6) (nm := "n") rfl rfl) rfl), _, rfl, ?_⟩))))))
    rw [cutD_to (by rw [List.length_map]; omega)]
    refine le_sliceT (i := some ((k + 1 : Nat) : Int)) (j := none) (le_q (lq_v (EV.v 8 (i := 8) (nm := "row") rfl rfl) rfl) ⟨_, rfl, lo_some (lq_cast (lq_plus (lq_v (EV.v 6 (i := 6) (nm := "n") rfl rfl) rfl) lq_int (by walk_at "c") (by walk_at "len")) rfl), lo_none, _, rfl, ?_, _, .d, ld_nil ⟨by simp [sizeLine], _, .d, ?_⟩⟩)
    · rw [cutD_from (by rw [List.length_map]; omega), List.length_take, List.length_drop]
      omega
    rw [cutD_from (by rw [List.length_map]; omega)]
    refine ld_cons (le_tup (ld_q (lq_v (EV.v 7 (i := 7) (nm := "end") rfl rfl) rfl) (ld_cons (le_catT (le_q (lq_v (EV.v 8 (i := 8) (nm := "row") rfl rfl) rfl) ⟨_, rfl, le_tup (ld_q lq_none (ld_nil ⟨by simp [sizeLine], _, rfl, ?_, _, .d, ld_nil ⟨by simp [sizeLine], _, .d, ?_⟩⟩))⟩)))))
    · show _ + 1 ≤ sizeLine
      omega
    refine ld_cons (le_tup (ld_q (lq_v (EV.v 7 (i := 7) (nm := "end") rfl rfl) rfl) (ld_cons (le_listD (fr_list T) (le_q (lq_v (EV.v 8 (i := 8) (nm := "row") rfl rfl) rfl) ⟨_, .inr .d, _, fz_map, ld_nil ⟨by simp [sizeLine], _, .d, ?_⟩⟩) (EV.g 3 (nm := "list") rfl).g))))
    refine ld_cons (le_tup (ld_q (lq_v (EV.v 9 (i := 9) (nm := "odd") rfl rfl) rfl) (ld_q (lq_v (EV.v 8 (i := 8) (nm := "row") rfl rfl) rfl) (ld_nil ⟨by simp [sizeLine], _, .d, ?_⟩))))
    refine ld_cons (le_tup (ld_q lq_int (ld_q (lq_v (EV.v 8 (i := 8) (nm := "row") rfl rfl) rfl) (ld_nil ⟨by simp [sizeLine], _, .d, ld_nil ⟨by simp [sizeLine], _, fz_map, ?_, rfl, ?_⟩⟩))))
    · rw [hbl']
      show 9 + 5 ≤ sizeLine
      omega
    generalize hx1 : [PyData.tuple [encEnd en, .tuple ((row.map encStep).take k ++ (row.map encStep).drop (k + 1))], _, _, _, _] = xs1
    have hxs1 : xs1.length = 5 ∧ ∀ b ∈ xs1, BadS p.S p.sts.length b := by
      rw [← hx1]
      refine ⟨rfl, fun b hb => ?_⟩
      simp only [List.mem_cons, List.not_mem_nil, or_false] at hb
      rcases hb with rfl | rfl | rfl | rfl | rfl
      · refine ⟨fit_tup ?_, state_len ?_⟩
        · intro x hx
          simp only [List.mem_cons, List.not_mem_nil, or_false] at hx
          rcases hx with rfl | rfl
          · exact fE
          · exact fit_tup fun x hx => (List.mem_append.mp hx).elim (fun h => fR2 x (List.mem_of_mem_take h)) fun h => fR2 x (List.mem_of_mem_drop h)
        · rw [List.length_append, List.length_take, List.length_drop, List.length_map]
          omega
      · refine ⟨fit_tup ?_, state_len ?_⟩
        · intro x hx
          simp only [List.mem_cons, List.not_mem_nil, or_false] at hx
          rcases hx with rfl | rfl
          · exact fE
          · refine fit_tup fun x hx => (List.mem_append.mp hx).elim (fun h => fR2 x h) fun h => ?_
            rw [List.mem_singleton] at h
            rw [h]
            rfl
        · rw [List.length_append, List.length_map]
          show _ + 1 ≠ _
          omega
      · refine ⟨fit_tup ?_, state_no ?_⟩
        · intro x hx
          simp only [List.mem_cons, List.not_mem_nil, or_false] at hx
          rcases hx with rfl | rfl
          · exact fE
          · exact fit_list fR2
        · intro a b e
          cases e
      · refine ⟨fit_tup ?_, state_text rfl oddN⟩
        intro x hx
        simp only [List.mem_cons, List.not_mem_nil, or_false] at hx
        rcases hx with rfl | rfl
        · exact fO
        · exact fR
      · refine ⟨fit_tup ?_, state_text rfl rfl⟩
        intro x hx
        simp only [List.mem_cons, List.not_mem_nil, or_false] at hx
        rcases hx with rfl | rfl
        · rfl
        · exact fR
    clear hx1
    refine lss_as (δ' := [.lk v0 pv, .is (.d (encPlain p)), .is (.d (.str p.S)), .is (.d (.str p.b)), .is (.d (.tuple (p.sts.map encState))), .is (.d (.int (a : Nat))), .is (.d (.int (k : Nat))), .is (.d (encEnd en)), .is (.d (.tuple (row.map encStep))), .is (.d (.str ⟨#[c]⟩)), .is (.l ((bs ++ xs1).map LV.d)), .no, .no, .no]) rfl ?_
    refine lss_cons (sx_set (EV.l 10 (i := 10) (nm := "bad") rfl rfl) hnd rfl (le_frzAt (i := 10) (d := .list (bs ++ xs1)) rfl fz_map (le_catL (le_q (x := .list (bs ++ xs1)) (lq_v (EV.v 10 (i := 10) (nm := "bad") rfl rfl) rfl) ⟨_, .d, le_lst ?_⟩))))
    refine ld_cons (le_tup (ld_q lq_bool (ld_q (lq_v (EV.v 8 (i := 8) (nm := "row") rfl rfl) rfl) (ld_nil ⟨by simp [sizeLine], _, .d, ?_⟩))))
    refine ld_cons (le_tup (ld_q (lq_v (EV.v 7 (i := 7) (nm := "end") rfl rfl) rfl) (ld_nil ⟨by simp [sizeLine], _, .d, ?_⟩)))
    refine ld_cons (le_tup (ld_q (lq_v (EV.v 7 (i := 7) (nm := "end") rfl rfl) rfl) (ld_q (lq_v (EV.v 8 (i := 8) (nm := "row") rfl rfl) rfl) (ld_q (lq_v (EV.v 8 (i := 8) (nm := "row") rfl rfl) rfl) (ld_nil ⟨by simp [sizeLine], _, .d, ?_⟩)))))
    refine ld_cons (le_lst (ld_q (lq_v (EV.v 7 (i := 7) (nm := "end") rfl rfl) rfl) (ld_q (lq_v (EV.v 8 (i := 8) (nm := "row") rfl rfl) rfl) (ld_nil ⟨by simp [sizeLine], _, fz_map, ld_nil ⟨by simp [sizeLine], _, fz_map, ?_, rfl, ?_⟩⟩))))
    · rw [List.length_append, hbl', hxs1.1]
      show 14 + 4 ≤ sizeLine
      omega
    have hxs2 : ∀ b ∈ [PyData.tuple [.bool false, .tuple (row.map encStep)], .tuple [encEnd en], .tuple [encEnd en, .tuple (row.map encStep), .tuple (row.map encStep)], .list [encEnd en, .tuple (row.map encStep)]], BadS p.S p.sts.length b := by
      intro b hb
      simp only [List.mem_cons, List.not_mem_nil, or_false] at hb
      rcases hb with rfl | rfl | rfl | rfl
      · refine ⟨fit_tup ?_, state_text rfl rfl⟩
        intro x hx
        simp only [List.mem_cons, List.not_mem_nil, or_false] at hx
        rcases hx with rfl | rfl
        · rfl
        · exact fR
      · refine ⟨fit_tup ?_, state_no fun a b e => by cases e⟩
        intro x hx
        simp only [List.mem_cons, List.not_mem_nil, or_false] at hx
        rw [hx]
        exact fE
      · refine ⟨fit_tup ?_, state_no fun a b e => by cases e⟩
        intro x hx
        simp only [List.mem_cons, List.not_mem_nil, or_false] at hx
        rcases hx with rfl | rfl | rfl
        · exact fE
        · exact fR
        · exact fR
      · refine ⟨fit_list ?_, rfl⟩
        intro x hx
        simp only [List.mem_cons, List.not_mem_nil, or_false] at hx
        rcases hx with rfl | rfl
        · exact fE
        · exact fR
    have hall : ∀ b ∈ bs ++ xs1 ++ [PyData.tuple [.bool false, .tuple (row.map encStep)], .tuple [encEnd en], .tuple [encEnd en, .tuple (row.map encStep), .tuple (row.map encStep)], .list [encEnd en, .tuple (row.map encStep)]], BadS p.S p.sts.length b := fun b hb => (List.mem_append.mp hb).elim (fun h => (List.mem_append.mp h).elim (hbs b) (hxs1.2 b)) (hxs2 b)
    have hlen : (bs ++ xs1 ++ [PyData.tuple [.bool false, .tuple (row.map encStep)], .tuple [encEnd en], .tuple [encEnd en, .tuple (row.map encStep), .tuple (row.map encStep)], .list [encEnd en, .tuple (row.map encStep)]]).length = 18 := by
      rw [List.length_append, List.length_append, hbl', hxs1.1]
      rfl
    refine lss_as (δ' := [.lk v0 pv, .is (.d (encPlain p)), .is (.d (.str p.S)), .is (.d (.str p.b)), .is (.d (.tuple (p.sts.map encState))), .is (.d (.int (a : Nat))), .is (.d (.int (k : Nat))), .is (.d (encEnd en)), .is (.d (.tuple (row.map encStep))), .is (.d (.str ⟨#[c]⟩)), .is (.l ((bs ++ xs1 ++ [PyData.tuple [.bool false, .tuple (row.map encStep)], .tuple [encEnd en], .tuple [encEnd en, .tuple (row.map encStep), .tuple (row.map encStep)], .list [encEnd en, .tuple (row.map encStep)]]).map LV.d)), .no, .no, .no]) rfl ?_
    generalize bs ++ xs1 ++ [PyData.tuple [.bool false, .tuple (row.map encStep)], .tuple [encEnd en], .tuple [encEnd en, .tuple (row.map encStep), .tuple (row.map encStep)], .list [encEnd en, .tuple (row.map encStep)]] = bads at hall hlen ⊢
    refine lss_cons (sx_map (N := ["pool", "plain", "signs", "begin", "states", "at", "n", "end", "row", "odd", "bad", "step", "rows", "state"]) (vs := [2, 3, 4, 5, 13]) (ls := [13]) (gs := []) hnd rfl (show BlkOk ["pool", "plain", "signs", "begin", "states", "at", "n", "end", "row", "odd", "bad", "step", "rows", "state"] (defScope (Hd.topS 72)) _ [("state", 13)] from blkOk_by (by decide +kernel)) rfl (show evB (relS _ (defScope (Hd.topS 72))) _ _ _ _ = true by decide +kernel) 0 rfl rfl (show ownB _ (defScope (Hd.topS 72)) _ = true by decide +kernel) (i := 12) (y := "rows") rfl (show swB _ (defScope (Hd.topS 72)) _ = true by decide +kernel) (fun b => .tuple [.str p.S, .str p.b, .tuple ((p.sts.map encState).take a ++ [b] ++ (p.sts.map encState).drop (a + 1))]) (li_list (le_frzAt (i := 10) (d := .list bads) rfl fz_map (le_q (x := .list bads) (lq_v (EV.v 10 (i := 10) (nm := "bad") rfl rfl) rfl) ⟨_, .d, by rw [hlen]; simp [sizeLine], rfl, ?_, rfl, ?_⟩))))
    · intro d hd s H C cl fp EB
      refine le_tup (ld_q (lq_v (EB.v 0 (i := 2) (nm := "signs") rfl rfl) rfl) (ld_q (lq_v (EB.v 1 (i := 3) (nm := "begin") rfl rfl) rfl) (ld_cons (le_catT (le_catT (le_sliceT (i := none) (j := some (a : Nat)) (le_q (lq_v (EB.v 2 (i := 4) (nm := "states") rfl rfl) rfl) ⟨_, rfl, lo_none, lo_some (lq_v (EB.v 3 (i := 5) (nm := "at") rfl rfl) rfl), _, rfl, ?_⟩)))))))
      rw [cutD_to (by rw [List.length_map]; omega)]
      refine le_tup (ld_q (lq_v (EB.v 4 (i := 13) (nm := "state") rfl rfl) rfl) (ld_nil ⟨by simp [sizeLine], _, rfl, ?_, _, rfl, ?_⟩))
      · rw [List.length_take, List.length_map]
        simp [sizeLine]
        omega
      refine le_sliceT (i := some ((a + 1 : Nat) : Int)) (j := none) (le_q (lq_v (EB.v 2 (i := 4) (nm := "states") rfl rfl) rfl) ⟨_, rfl, lo_some (lq_cast (lq_plus (lq_v (EB.v 3 (i := 5) (nm := "at") rfl rfl) rfl) lq_int (by walk_at "c") (by walk_at "len")) rfl), lo_none, _, rfl, ?_, _, .d, ld_nil ⟨by simp [sizeLine], ?_, rfl⟩⟩)
      · rw [cutD_from (by rw [List.length_map]; omega), List.length_append, List.length_take, List.length_drop, List.length_map]
        simp [sizeLine]
        omega
      rw [cutD_from (by rw [List.length_map]; omega)]
    generalize hg : (bads.map fun b => PyData.tuple [.str p.S, .str p.b, .tuple ((p.sts.map encState).take a ++ [b] ++ (p.sts.map encState).drop (a + 1))]) = rows1
    have hr1 : rows1.length = 18 ∧ ∀ d ∈ rows1, BadP d := by
      rw [← hg]
      refine ⟨by rw [List.length_map]; exact hlen, fun d hd => ?_⟩
      obtain ⟨b, hb, rfl⟩ := List.mem_map.mp hd
      have hbb := hall b hb
      have hsl : ((p.sts.map encState).take a ++ [b] ++ (p.sts.map encState).drop (a + 1)).length = p.sts.length := by
        rw [List.length_append, List.length_append, List.length_take, List.length_drop, List.length_map]
        show min a _ + 1 + _ = _
        omega
      refine ⟨fit3 fSg fB (fit_tup fun x hx => ?_), plain_state (d := b) (by simp) (by rw [hsl]; exact hbb.b)⟩
      rcases List.mem_append.mp hx with hx | hx
      · rcases List.mem_append.mp hx with hx | hx
        · exact fSt2 x (List.mem_of_mem_take hx)
        · rw [List.mem_singleton] at hx
          rw [hx]
          exact hbb.f
      · exact fSt2 x (List.mem_of_mem_drop hx)
    have hst0 : (p.sts.map encState).length ≠ 0 := by rw [List.length_map]; omega
    refine lss_as (δ' := [.lk v0 pv, .is (.d (encPlain p)), .is (.d (.str p.S)), .is (.d (.str p.b)), .is (.d (.tuple (p.sts.map encState))), .is (.d (.int (a : Nat))), .is (.d (.int (k : Nat))), .is (.d (encEnd en)), .is (.d (.tuple (row.map encStep))), .is (.d (.str ⟨#[c]⟩)), .is (.d (.list bads)), .no, .is (.l (rows1.map LV.d)), .no]) rfl ?_
    refine lss_cons (sx_set (EV.l 12 (i := 12) (nm := "rows") rfl rfl) hnd rfl (le_frzAt (i := 12) (d := .list rows1) rfl fz_map (le_catL (le_q (x := .list rows1) (lq_v (EV.v 12 (i := 12) (nm := "rows") rfl rfl) rfl) ⟨_, .d, le_lst ?_⟩))))
    refine ld_cons (le_tup (ld_q (lq_v (EV.v 2 (i := 2) (nm := "signs") rfl rfl) rfl) (ld_q (lq_v (EV.v 9 (i := 9) (nm := "odd") rfl rfl) rfl) (ld_q (lq_v (EV.v 4 (i := 4) (nm := "states") rfl rfl) rfl) (ld_nil ⟨by simp [sizeLine], _, .d, ?_⟩)))))
    refine ld_cons (le_tup (ld_q (lq_v (EV.v 2 (i := 2) (nm := "signs") rfl rfl) rfl) (ld_q lq_none (ld_q (lq_v (EV.v 4 (i := 4) (nm := "states") rfl rfl) rfl) (ld_nil ⟨by simp [sizeLine], _, .d, ?_⟩)))))
    refine ld_cons (le_tup (ld_q (lq_v (EV.v 2 (i := 2) (nm := "signs") rfl rfl) rfl) (ld_q (lq_v (EV.v 3 (i := 3) (nm := "begin") rfl rfl) rfl) (ld_cons (le_listD (fr_list T) (le_q (lq_v (EV.v 4 (i := 4) (nm := "states") rfl rfl) rfl) ⟨_, .inr .d, _, fz_map, ld_nil ⟨by simp [sizeLine], _, .d, ?_⟩⟩) (EV.g 3 (nm := "list") rfl).g)))))
    refine ld_cons (le_tup (ld_q (lq_v (EV.v 2 (i := 2) (nm := "signs") rfl rfl) rfl) (ld_q (x := .str ⟨#[c0]⟩) (lq_ix (lq_v (EV.v 2 (i := 2) (nm := "signs") rfl rfl) rfl) lq_int (by walk_at "ix") (by walk_at "len")) (ld_cons (le_tup (ld_nil ⟨by simp [sizeLine], _, .d, ld_nil ⟨by simp [sizeLine], _, .d, ld_nil ⟨by simp [sizeLine], _, fz_map, ?_, rfl, ?_⟩⟩⟩))))))
    · rw [hr1.1]
      show 18 + 4 ≤ sizeLine
      omega
    have hx2 : ∀ d ∈ [PyData.tuple [.str p.S, .str ⟨#[c]⟩, .tuple (p.sts.map encState)], .tuple [.str p.S, .none, .tuple (p.sts.map encState)], .tuple [.str p.S, .str p.b, .list (p.sts.map encState)], .tuple [.str p.S, .str ⟨#[c0]⟩, .tuple []]], BadP d := by
      intro d hd
      simp only [List.mem_cons, List.not_mem_nil, or_false] at hd
      rcases hd with rfl | rfl | rfl | rfl
      · exact ⟨fit3 fSg fO fSt, plain_begin oddN⟩
      · exact ⟨fit3 fSg rfl fSt, plain_begin rfl⟩
      · exact ⟨fit3 fSg fB (fit_list fSt2), plain_no fun S b sts e => by cases e⟩
      · refine ⟨fit3 fSg fC0 rfl, ?_⟩
        show (areSigns p.S && (isTextD p.S (.str ⟨#[c0]⟩) && (true && noText (.str ⟨#[c0]⟩)))) = false
        have : noText (.str ⟨#[c0]⟩) = false := by
          show decide ((⟨#[c0]⟩ : Str) = Str.ofString "") = false
          refine decide_eq_false fun e => ?_
          have h1 := congrArg Str.length e
          rw [show (Str.ofString "").length = 0 by decide +kernel] at h1
          exact absurd (show (1 : Nat) = 0 from h1) (by decide)
        rw [this]
        simp
    generalize hy2 : rows1 ++ [PyData.tuple [.str p.S, .str ⟨#[c]⟩, .tuple (p.sts.map encState)], .tuple [.str p.S, .none, .tuple (p.sts.map encState)], .tuple [.str p.S, .str p.b, .list (p.sts.map encState)], .tuple [.str p.S, .str ⟨#[c0]⟩, .tuple []]] = rows2
    have hr2 : rows2.length = 22 ∧ ∀ d ∈ rows2, BadP d := by
      rw [← hy2]
      exact ⟨by rw [List.length_append, hr1.1]; rfl, fun d hd => (List.mem_append.mp hd).elim (hr1.2 d) (hx2 d)⟩
    refine lss_as (δ' := [.lk v0 pv, .is (.d (encPlain p)), .is (.d (.str p.S)), .is (.d (.str p.b)), .is (.d (.tuple (p.sts.map encState))), .is (.d (.int (a : Nat))), .is (.d (.int (k : Nat))), .is (.d (encEnd en)), .is (.d (.tuple (row.map encStep))), .is (.d (.str ⟨#[c]⟩)), .is (.d (.list bads)), .no, .is (.l (rows2.map LV.d)), .no]) rfl ?_
    refine lss_cons (sx_set (EV.l 12 (i := 12) (nm := "rows") rfl rfl) hnd rfl (le_frzAt (i := 12) (d := .list rows2) rfl fz_map (le_catL (le_q (x := .list rows2) (lq_v (EV.v 12 (i := 12) (nm := "rows") rfl rfl) rfl) ⟨_, .d, le_lst ?_⟩))))
    refine ld_cons (le_tup (ld_q (lq_v (EV.v 2 (i := 2) (nm := "signs") rfl rfl) rfl) (ld_q (lq_v (EV.v 3 (i := 3) (nm := "begin") rfl rfl) rfl) (ld_nil ⟨by simp [sizeLine], _, .d, ?_⟩))))
    refine ld_cons (le_tup (ld_q (lq_v (EV.v 2 (i := 2) (nm := "signs") rfl rfl) rfl) (ld_q (lq_v (EV.v 3 (i := 3) (nm := "begin") rfl rfl) rfl) (ld_q (lq_v (EV.v 4 (i := 4) (nm := "states") rfl rfl) rfl) (ld_cons (le_tup (ld_nil ⟨by simp [sizeLine], _, .d, ld_nil ⟨by simp [sizeLine], _, .d, ?_⟩⟩)))))))
    refine ld_cons (le_lst (ld_q (lq_v (EV.v 2 (i := 2) (nm := "signs") rfl rfl) rfl) (ld_q (lq_v (EV.v 3 (i := 3) (nm := "begin") rfl rfl) rfl) (ld_q (lq_v (EV.v 4 (i := 4) (nm := "states") rfl rfl) rfl) (ld_nil ⟨by simp [sizeLine], _, fz_map, ?_⟩)))))
    refine ld_q lq_none (ld_cons (le_tup (ld_nil ⟨by simp [sizeLine], _, .d, ld_q lq_str (ld_q lq_int (ld_nil ⟨by simp [sizeLine], _, fz_map, ?_, rfl, ?_⟩))⟩)))
    · rw [hr2.1]
      show 22 + 7 ≤ sizeLine
      omega
    have hx3 : ∀ d ∈ [PyData.tuple [.str p.S, .str p.b], .tuple [.str p.S, .str p.b, .tuple (p.sts.map encState), .tuple []], .list [.str p.S, .str p.b, .tuple (p.sts.map encState)], .none, .tuple [], .str (Str.ofString "a"), .int 5], BadP d := by
      intro d hd
      simp only [List.mem_cons, List.not_mem_nil, or_false] at hd
      rcases hd with rfl | rfl | rfl | rfl | rfl | rfl | rfl
      · exact ⟨fit2 fSg fB, plain_no fun S b sts e => by cases e⟩
      · refine ⟨fit_tup ?_, plain_no fun S b sts e => by cases e⟩
        intro x hx
        simp only [List.mem_cons, List.not_mem_nil, or_false] at hx
        rcases hx with rfl | rfl | rfl | rfl
        · exact fSg
        · exact fB
        · exact fSt
        · rfl
      · exact ⟨fitL3 fSg fB fSt, rfl⟩
      · exact ⟨rfl, rfl⟩
      · exact ⟨rfl, rfl⟩
      · exact ⟨by decide +kernel, rfl⟩
      · exact ⟨rfl, rfl⟩
    generalize hy3 : rows2 ++ [PyData.tuple [.str p.S, .str p.b], .tuple [.str p.S, .str p.b, .tuple (p.sts.map encState), .tuple []], .list [.str p.S, .str p.b, .tuple (p.sts.map encState)], .none, .tuple [], .str (Str.ofString "a"), .int 5] = rows3
    have hr3 : rows3.length = 29 ∧ ∀ d ∈ rows3, BadP d := by
      rw [← hy3]
      exact ⟨by rw [List.length_append, hr2.1]; rfl, fun d hd => (List.mem_append.mp hd).elim (hr2.2 d) (hx3 d)⟩
    refine lss_as (δ' := [.lk v0 pv, .is (.d (encPlain p)), .is (.d (.str p.S)), .is (.d (.str p.b)), .is (.d (.tuple (p.sts.map encState))), .is (.d (.int (a : Nat))), .is (.d (.int (k : Nat))), .is (.d (encEnd en)), .is (.d (.tuple (row.map encStep))), .is (.d (.str ⟨#[c]⟩)), .is (.d (.list bads)), .no, .is (.l (rows3.map LV.d)), .no]) rfl ?_
    refine lss_one (ls_ret (le_frzAt (i := 12) (d := .list rows3) rfl fz_map (le_catL (le_q (x := .list rows3) (lq_v (EV.v 12 (i := 12) (nm := "rows") rfl rfl) rfl) ⟨_, .d, le_lst ?_⟩))))
    have hcat : (p.S ++ ⟨#[c]⟩ : Str).length ≤ sizeLine := by
      rw [Str.length_append]
      show p.S.length + 1 ≤ sizeLine
      omega
    refine ld_cons (le_tup (ld_q (x := .str (p.S ++ ⟨#[c]⟩)) (lq_plus (lq_v (EV.v 2 (i := 2) (nm := "signs") rfl rfl) rfl) (lq_v (EV.v 9 (i := 9) (nm := "odd") rfl rfl) rfl) (by walk_at "c") (by walk_at "len")) (ld_q (lq_v (EV.v 3 (i := 3) (nm := "begin") rfl rfl) rfl) (ld_q (lq_v (EV.v 4 (i := 4) (nm := "states") rfl rfl) rfl) (ld_nil ⟨by simp [sizeLine], _, .d, ld_nil ⟨by simp [sizeLine], _, fz_map, ?_, _, ⟨_, pv, rfl, ?_, ?_, ?_, hpv, rfl⟩, rfl, trivial⟩⟩)))))
    · rw [hr3.1]
      show 29 + 1 ≤ sizeLine
      omega
    · rw [List.length_append]
      exact Nat.lt_of_lt_of_le (by rw [hr3.1]; decide) (Nat.le_add_right _ _)
    · rw [List.length_append, hr3.1]
      show 29 + 1 ≤ 1000
      decide
    · intro d hd
      rcases List.mem_append.mp hd with hd | hd
      · exact ⟨(hr3.2 d hd).f, (hr3.2 d hd).b⟩
      · rw [List.mem_singleton] at hd
        rw [hd]
        have hl : (p.S ++ ⟨#[c]⟩ : Str).length = p.S.length + 1 := Str.length_append _ _
        have hf : fitD (.str (p.S ++ ⟨#[c]⟩)) = true := by
          show decide (_ ≤ 1000) = true
          exact decide_eq_true (by rw [hl]; omega)
        refine ⟨fit3 hf fB fSt, plain_state (d := encState (en, row)) ?_ ?_⟩
        · rw [← hst]
          exact List.mem_map.mpr ⟨_, List.getElem_mem ha, rfl⟩
        · exact state_len (by rw [List.length_map, hl, hrl]; exact Nat.ne_of_lt (Nat.lt_succ_self _))
end
end Z
set_option maxHeartbeats 2000000
namespace Z
open PySem PySem.Spec PyProof.Rows L2
local macro_rules | `(tactic| walk_at "len") => `(tactic| (intro zz hz; first | (cases hz; done) | (injection hz with hz; subst hz; first | assumption | (simp only [PySem.Str.length_append, Str.length] at *; simp [sizeLine] at *; omega))))
local macro_rules | `(tactic| walk_at "c") => `(tactic| first | rfl | assumption | decide | omega)
local macro_rules | `(tactic| walk_at "ix") => `(tactic| first | assumption | rfl)
local macro_rules | `(tactic| walk_at "mem") => `(tactic| assumption)
local macro_rules | `(tactic| walk_at "sz") => `(tactic| first | assumption | omega)
local macro_rules | `(tactic| walk_at "mul") => `(tactic| first | exact .inr ⟨by decide, by decide⟩ | exact .inl ⟨by decide, by decide⟩)
local macro_rules | `(tactic| walk_at "div") => `(tactic| first | exact ⟨by decide, by decide⟩ | exact ⟨by omega, by omega⟩)
local macro_rules | `(tactic| walk_at "cmp") => `(tactic| first | exact c_lt | exact c_le | exact c_gt | exact c_ge | exact c_eqI | exact c_neI | exact c_eqS | exact c_neS | exact c_eqB | exact c_isN | exact c_notN | exact c_inS | exact c_notInS)
section
variable {X : Cx} {e : Expr} {δ : LSt} {W : LW} {T : Bool → LSt → Prop}
theorem lt_truthL (h : LE X e δ W fun x δ1 => ∃ ds, Fz x (.list ds) ∧ T (!ds.isEmpty) δ1) (he : ∀ whole, isTrue e X.env whole = (do let v ← whole; standAt e.pos; holding [v] (truthy v)) := by intro _; rfl) : LT X e δ W T :=
  lt_of (pt_truth pe_tE he) fun F G σ H f S Tk => ⟨F, G, δ, f, W, _, S, Tk, h, fun v H1 x δ1 res ⟨ds, zz, t⟩ => by
    obtain ⟨F1, f1, g1, fx1, S1, r1, d1, o1⟩ := res.frz zz
    cases r1 with
    | d hx =>
    obtain ⟨a, vs, e, hl, dd⟩ := dp_lst hx
    subst e
    exact ⟨!ds.isEmpty, .inl ⟨_, sql_mono S1.fh hl, by rw [dpAll_empty dd]⟩, δ1, ⟨F1, f1, fx1, S1⟩, t⟩⟩
end
def natsL (ks : List Nat) : List LV := ks.map fun (k : Nat) => LV.d (.int (k : Int))
theorem natsL_fz (ks : List Nat) : Fz (.l (natsL ks)) (.list (ks.map fun (k : Nat) => PyData.int (k : Int))) := by
  have : natsL ks = (ks.map fun (k : Nat) => PyData.int (k : Int)).map LV.d := by
    unfold natsL
    rw [List.map_map]
    rfl
  rw [this]
  exact fz_map
theorem rpAll_nats {c : Ct} {F H : Hp} : ∀ {vs : List V} {ks : List Nat} {f : Fp}, RpAll c F H vs (natsL ks) f → vs = ks.map fun (k : Nat) => V.int (k : Int)
  | _, [], _, h => by cases h; rfl
  | _, k :: ks, _, h => by
    cases h with
    | cons h t _ =>
      cases h with
      | d h => rw [dp_int h, rpAll_nats t]; rfl
theorem inV_nats (ks : List Nat) (j : Nat) : inV (.int (j : Int)) (ks.map fun (k : Nat) => V.int (k : Int)) = decide (j ∈ ks) := by
  unfold inV
  rw [List.any_map]
  induction ks with
  | nil => rfl
  | cons k ks ih =>
    rw [List.any_cons, ih]
    have : (((fun y => eqV y (V.int (j : Int))) ∘ fun (k : Nat) => V.int (k : Int)) k) = decide (j = k) := by
      show eqV (V.int (k : Int)) (V.int (j : Int)) = _
      simp only [eqV]
      by_cases h : j = k
      · subst h; simp
      · have h2 : ¬ (k : Int) = (j : Int) := fun e => h (by omega)
        simp [h, h2]
    rw [this]
    simp
section
variable {X : Cx} {k : Expr} {δ : LSt} {pos p : Pos} {nm : Str} {i j : Nat} {ks : List Nat}
theorem lb_notinL (v : VisOk X i nm) (h0 : valAt δ i = some (.l (natsL ks))) (hk : LQ X k δ (.int (j : Nat))) (hm : behindInMarks .NotIn (Expr.Name nm p) = false := by rfl) : LB X (.Compare k [.NotIn] [.Name nm p] pos) δ (!decide (j ∈ ks)) := fun W T t =>
  lt_of (pt_cmpR op_notIn_seq pe_tQ (pe_var v.n v.v v.d v.c) hm) fun F G σ H f S _ => ⟨F, G, δ, f, _, S, hk, fun u du => by
    obtain ⟨l, vs, g, e1, hl, rA, _⟩ := sto_slotL S h0
    have ev := rpAll_nats rA
    refine ⟨_, e1, l, vs, rfl, .inl (SqL.of hl), by rw [dp_int du]; rfl, ?_, ?_⟩
    · rw [ev, List.all_map]
      exact List.all_eq_true.mpr fun _ _ => rfl
    · rw [dp_int du, ev, inV_nats]
      exact ⟨_, rfl, δ, S.aft, t⟩⟩
theorem nats_at {ks : List Nat} {i q : Nat} (h : ks[i]? = some q) : atI (natsL ks) (i : Int) = some (.d (.int (q : Int))) := at_nat (by unfold natsL; rw [List.getElem?_map, h]; rfl)
end
theorem intsD0_get {n i : Nat} {d : PyData} (h : (intsD 0 n)[i]? = some d) : i < n ∧ d = .int (i : Int) := by
  obtain ⟨h1, h2⟩ := intsD_get h
  exact ⟨h1, by rw [h2, Int.zero_add]⟩
/-- keys that were laid one after the other: each has an end, or a step to one that is there -/
inductive Built (p : PPlain) : List Nat → Prop
  | nil : Built p []
  | snoc {ks : List Nat} {k : Nat} : Built p ks → k < p.sts.length → k ∉ ks → ((∃ e, endAt p k = some e) ∨ ∃ s t j, p.sts[k]? = some s ∧ some (t, j) ∈ s.2 ∧ j ∈ ks) → Built p (ks ++ [k])
theorem Built.lt {p : PPlain} {ks : List Nat} (h : Built p ks) : ∀ k ∈ ks, k < p.sts.length := by
  induction h with
  | nil => intro k hk; cases hk
  | snoc _ hk _ _ ih =>
    intro j hj
    rcases List.mem_append.mp hj with hj | hj
    · exact ih j hj
    · rw [List.mem_singleton] at hj
      rw [hj]
      exact hk
theorem Built.nodup {p : PPlain} {ks : List Nat} (h : Built p ks) : ks.Nodup := by
  induction h with
  | nil => exact .nil
  | snoc _ _ hn _ ih =>
    rw [List.nodup_append]
    exact ⟨ih, by simp, fun a ha b hb e => hn (by rw [List.mem_singleton] at hb; rw [← hb, ← e]; exact ha)⟩
theorem Built.len {p : PPlain} {ks : List Nat} (h : Built p ks) : ks.length ≤ p.sts.length := by
  have := nodup_len (m := List.range p.sts.length) h.nodup fun k hk => List.mem_range.mpr (h.lt k hk)
  rwa [List.length_range] at this
def liveD (ks : List Nat) : List (Int × PyData) := ks.map fun (k : Nat) => ((k : Int), PyData.bool true)
theorem liveD_get (ks : List Nat) (j : Nat) : (getM (liveD ks) (j : Int)).isSome = decide (j ∈ ks) := by
  induction ks with
  | nil => rfl
  | cons k ks ih =>
    show (getM (((k : Int), PyData.bool true) :: liveD ks) j).isSome = _
    rw [getM_cons]
    by_cases h : (k : Int) = (j : Int)
    · rw [if_pos h]
      have : k = j := by omega
      simp [this]
    · rw [if_neg h, ih]
      have : ¬ j = k := fun e => h (by omega)
      simp [this]
theorem liveD_put (ks : List Nat) (j : Nat) : putM (liveD ks) (j : Int) (.bool true) = liveD (if j ∈ ks then ks else ks ++ [j]) := by
  unfold putM
  rw [any_getM, liveD_get]
  by_cases h : j ∈ ks
  · rw [if_pos (decide_eq_true h), if_pos h]
    unfold liveD
    rw [List.map_map]
    apply List.map_congr_left
    intro k hk
    simp only [Function.comp]
    split <;> rfl
  · rw [if_neg (by simp [h]), if_neg h]
    unfold liveD
    rw [List.map_append]
    rfl
def S_live : Spec PPlain where
  pre γ xs := xs = [.d (encPlain γ)] ∧ WfP γ
  post γ r ys := ∃ live keys : List Nat, r = .l (natsL live) ∧ live.Nodup ∧ (∀ k ∈ live, k ∈ keys) ∧ Built γ keys ∧ (∀ k ∈ live, ∀ s t j, γ.sts[k]? = some s → some (t, j) ∈ s.2 → j ∈ keys → j ∈ live) ∧ (live ≠ [] → live[0]? = some 0)
section
variable {P : Program} {w : World} {K : PySem.W.Frag} {mg : Str → Option Value} {base : Heap}
-- _law_live: ['plain', 'states', 'good', 'turn', 'before', 'k', 'queue', 'step']
theorem ok_live (T : Tp K mg) : Cal P w K mg base 1 "_law_live" ["plain"] S_live := by
  refine cal_of (k := 0) T (N := ["plain", "states", "good", "turn", "before", "k", "queue", "step"]) 48 48 rfl rfl (fun _ _ _ _ _ _ us hl => match us, hl with | [_], _ => rfl) [false] rfl (by decide +kernel) (fun γ xs h => ?_) ?_
  · first | exact congrArg List.length (show _ = _ from h) | exact congrArg List.length (show _ ∧ _ from h).1
  intro cdv A outer s H E γ vs xs hr hl hpre
  obtain ⟨v0, rfl⟩ : ∃ v0, vs = [v0] := by
    match vs, hl with
    | [a0], _ => exact ⟨a0, rfl⟩
  have hnd : (["plain", "states", "good", "turn", "before", "k", "queue", "step"] : List Str).Nodup := by decide +kernel
  obtain ⟨rfl, (hw : WfP γ)⟩ := hpre
  have EV : Ev (cxOf (L2.CX P w) P w K mg base ["plain", "states", "good", "turn", "before", "k", "queue", "step"] "_law_live" (defScope (Hd.topS 66)) (He.ga K "_law_live") cdv A outer s H E) ["plain", "states", "good", "turn", "before", "k", "queue", "step"] [0, 1, 2, 3, 4, 5, 6, 7] [0, 1, 2, 3, 4, 5, 6, 7] ["range", "len"] := ⟨rfl, (by decide +kernel : evB (defScope (Hd.topS 66)) ["plain", "states", "good", "turn", "before", "k", "queue", "step"] [0, 1, 2, 3, 4, 5, 6, 7] [0, 1, 2, 3, 4, 5, 6, 7] ["range", "len"] = true)⟩
  have hn := hw.n
  have hu := hr.units
  have f0 : ixD (encPlain γ) 2 = some (.tuple (γ.sts.map encState)) := rfl
  have eN : ((γ.sts.map encState).length : Int) = (γ.sts.length : Int) := by rw [List.length_map]
  have hun : (0 : Nat) ≤ sizeLine := Nat.zero_le _
  refine lss_cons (sx_set (EV.l 1 (i := 1) (nm := "states") rfl rfl) hnd rfl (le_q (lq_ix (lq_v (EV.v 0 (i := 0) (nm := "plain") rfl rfl) rfl) lq_int (by walk_at "ix") (by walk_at "len")) ⟨rfl, ?_⟩))
  refine lss_cons (sx_set (EV.l 2 (i := 2) (nm := "good") rfl rfl) hnd rfl (le_dnew ⟨rfl, ?_⟩))
  -- the good ones
  refine lss_mid (fun δ => ∃ ks, Built γ ks ∧ δ = [.is (.d (encPlain γ)), .is (.d (.tuple (γ.sts.map encState))), .is (.m (liveD ks)), .no, .no, .no, .no, .no]) ?_ ?_
  · refine ls_for (passes_of rfl) rfl (li_range1 (fr_range T) (ld_q (x := .int (γ.sts.length : Nat)) (lq_cast (lq_len (fr_len T) (lq_v (EV.v 1 (i := 1) (nm := "states") rfl rfl) rfl) (by walk_at "ix") (by walk_at "len") (EV.g 1 (nm := "len") rfl).g) (by rw [List.length_map])) (ld_nil ⟨_, rfl, by omega, by omega, fun i δ => ∃ ks, Built γ ks ∧ δ = [.is (.d (encPlain γ)), .is (.d (.tuple (γ.sts.map encState))), .is (.m (liveD ks)), .no, .no, .no, .no, .no], ⟨[], .nil, rfl⟩, ?_, fun δ h => h⟩)) (EV.g 0 (nm := "range") rfl).g)
    rintro i d δ hd ⟨ks, hks, rfl⟩
    obtain ⟨hi, rfl⟩ := intsD0_get hd
    refine gx_name (EV.l 3 (i := 3) (nm := "turn") rfl rfl) hnd rfl rfl ?_
    refine lss_cons (sx_set (EV.l 4 (i := 4) (nm := "before") rfl rfl) hnd rfl (le_q (lx_dlen (EV.v 2 (i := 2) (nm := "good") rfl rfl) (EV.g 1 (nm := "len") rfl) (fr_len T) rfl) ⟨rfl, ?_⟩))
    generalize hbf : ((liveD ks).length : Int) = bf
    refine lss_mid (fun δ => ∃ ks, Built γ ks ∧ δ = [.is (.d (encPlain γ)), .is (.d (.tuple (γ.sts.map encState))), .is (.m (liveD ks)), .is (.d (.int (i : Nat))), .is (.d (.int bf)), .no, .no, .no]) ?_ ?_
    · refine ls_for (passes_of rfl) rfl (li_range1 (fr_range T) (ld_q (x := .int (γ.sts.length : Nat)) (lq_cast (lq_len (fr_len T) (lq_v (EV.v 1 (i := 1) (nm := "states") rfl rfl) rfl) (by walk_at "ix") (by walk_at "len") (EV.g 1 (nm := "len") rfl).g) (by rw [List.length_map])) (ld_nil ⟨_, rfl, by omega, by omega, fun _ δ => ∃ ks, Built γ ks ∧ δ = [.is (.d (encPlain γ)), .is (.d (.tuple (γ.sts.map encState))), .is (.m (liveD ks)), .is (.d (.int (i : Nat))), .is (.d (.int bf)), .no, .no, .no], ⟨ks, hks, rfl⟩, ?_, fun δ h => h⟩)) (EV.g 0 (nm := "range") rfl).g)
      rintro k d δ hd ⟨ks, hks, rfl⟩
      obtain ⟨hk, rfl⟩ := intsD0_get hd
      have hk' : k < γ.sts.length := by omega
      have f1 : ixD (.tuple (γ.sts.map encState)) (k : Nat) = some (encState γ.sts[k]) := at_map (List.getElem?_eq_getElem hk')
      have hend : endAt γ k = γ.sts[k].1 := by
        unfold endAt
        rw [List.getElem?_eq_getElem hk']
      have wS := hw.st _ (List.getElem_mem hk')
      have hks2 := hks.len
      have hget : γ.sts[k]? = some γ.sts[k] := List.getElem?_eq_getElem hk'
      generalize γ.sts[k] = st at *
      obtain ⟨en, row⟩ := st
      have f2 : ixD (encState (en, row)) 0 = some (encEnd en) := rfl
      have f3 : ixD (encState (en, row)) 1 = some (.tuple (row.map encStep)) := rfl
      refine gx_name (EV.l 5 (i := 5) (nm := "k") rfl rfl) hnd rfl rfl ?_
      refine lss_as (δ' := [.is (.d (encPlain γ)), .is (.d (.tuple (γ.sts.map encState))), .is (.m (liveD ks)), .is (.d (.int (i : Nat))), .is (.d (.int bf)), .is (.d (.int (k : Nat))), .no, .no]) rfl ?_
      refine lss_cons (ls_if (lt_imp (T := fun b δ1 => δ1 = [.is (.d (encPlain γ)), .is (.d (.tuple (γ.sts.map encState))), .is (.m (liveD ks)), .is (.d (.int (i : Nat))), .is (.d (.int bf)), .is (.d (.int (k : Nat))), .no, .no] ∧ (b = true → (∃ e, endAt γ k = some e) ∨ ∃ s t j, γ.sts[k]? = some s ∧ some (t, j) ∈ s.2 ∧ j ∈ ks)) ?_ ?_))
      · refine LTw.lt (ltw_or (LB.go (lb_cmp (lq_ix (lq_ix (lq_v (EV.v 1 (i := 1) (nm := "states") rfl rfl) rfl) (lq_v (EV.v 5 (i := 5) (nm := "k") rfl rfl) rfl) (by walk_at "ix") (by walk_at "len")) lq_int (by walk_at "ix") (by walk_at "len")) lq_none (by walk_at "cmp")) ?_))
        split
        · rename_i hne
          refine ⟨rfl, fun _ => .inl ?_⟩
          rw [hend]
          cases en with
          | none => simp [encEnd, isNone] at hne
          | some e => exact ⟨e, rfl⟩
        · refine ltw_or1 (lt_truthL (cx_mapIf (N := ["plain", "states", "good", "turn", "before", "k", "queue", "step"]) (vs := [7, 2]) (ls := [7]) (gs := []) hnd rfl (show BlkOk ["plain", "states", "good", "turn", "before", "k", "queue", "step"] (defScope (Hd.topS 66)) _ [("step", 7)] from blkOk_by (by decide +kernel)) rfl (show evB (relS _ (defScope (Hd.topS 66))) _ _ _ _ = true by decide +kernel) 0 rfl rfl (show ownB _ (defScope (Hd.topS 66)) _ = true by decide +kernel) (fun d => match d with | .tuple [_, .int j] => (getM (liveD ks) j).isSome | _ => false) id (li_tup (le_q (x := .tuple (row.map encStep)) (lq_ix (lq_ix (lq_v (EV.v 1 (i := 1) (nm := "states") rfl rfl) rfl) (lq_v (EV.v 5 (i := 5) (nm := "k") rfl rfl) rfl) (by walk_at "ix") (by walk_at "len")) lq_int (by walk_at "ix") (by walk_at "len")) ⟨_, rfl, ?_, rfl, ?_, ?_, ?_⟩))))
          · rw [List.length_map]
            have := (signs5 hw.s).2
            have h2 : row.length = γ.S.length := wS.l
            exact Nat.le_trans (show row.length ≤ 5 by omega) (by decide)
          · intro d hd s H C cl fp EB
            obtain ⟨st, hst, rfl⟩ := List.mem_map.mp hd
            cases st with
            | none => exact (lb_and_f (LB.cast (lb_truth (lq_v (EB.v 0 (i := 7) (nm := "step") rfl rfl) rfl) rfl (by walk_at "len")) rfl)).go ⟨rfl, rfl⟩
            | some q =>
              obtain ⟨t, j⟩ := q
              exact LB.go (LBw.lb (lbw_and (p := true) (LB.cast (lb_truth (lq_v (EB.v 0 (i := 7) (nm := "step") rfl rfl) rfl) rfl (by walk_at "len")) rfl) fun _ => lbw_and1 (lb_din hu (EB.v 1 (i := 2) (nm := "good") rfl rfl) rfl (j := (j : Nat)) (lq_ix (lq_v (EB.v 0 (i := 7) (nm := "step") rfl rfl) rfl) lq_int (by walk_at "ix") (by walk_at "len"))))) ⟨by rw [Bool.true_and]; rfl, rfl⟩
          · intro d hd ht s H C cl fp EB
            exact le_q (lq_v (EB.v 0 (i := 7) (nm := "step") rfl rfl) rfl) ⟨rfl, rfl⟩
          · refine ⟨_, fz_map, rfl, fun hb => .inr ?_⟩
            generalize hL : List.filter _ (row.map encStep) = L at hb
            cases L with
            | nil => simp at hb
            | cons d r =>
              have hm : d ∈ d :: r := List.mem_cons_self ..
              rw [← hL, List.mem_filter] at hm
              obtain ⟨h1, h2⟩ := hm
              obtain ⟨st, hst, rfl⟩ := List.mem_map.mp h1
              cases st with
              | none => simp [encStep] at h2
              | some q =>
                obtain ⟨t, j⟩ := q
                have h3 : (getM (liveD ks) (j : Nat)).isSome = true := h2
                rw [liveD_get] at h3
                exact ⟨_, t, j, hget, hst, of_decide_eq_true h3⟩
      · rintro b δ1 ⟨rfl, hb⟩
        cases b with
        | false =>
          rw [if_neg Bool.false_ne_true]
          exact lss_nil (lss_drop 5 (lss_nil ⟨ks, hks, rfl⟩))
        | true =>
          rw [if_pos rfl]
          refine lss_one (sx_dput hu (EV.v 2 (i := 2) (nm := "good") rfl rfl) (le_q lq_bool ⟨_, (k : Nat), liveD ks, .d, rfl, ?_, (lq_v (EV.v 5 (i := 5) (nm := "k") rfl rfl) rfl), ?_⟩))
          · unfold liveD
            rw [List.length_map]
            exact Nat.lt_of_le_of_lt (show ks.length ≤ 2000 by omega) (by decide)
          · rw [liveD_put]
            refine lss_drop 5 (lss_nil ⟨_, ?_, rfl⟩)
            split
            · exact hks
            · rename_i hn
              exact .snoc hks hk' hn (hb rfl)
    · rintro δ ⟨ks, hks, rfl⟩
      refine lss_cons (ls_ifb (lb_cmp (lx_dlen (EV.v 2 (i := 2) (nm := "good") rfl rfl) (EV.g 1 (nm := "len") rfl) (fr_len T) rfl) (lq_v (EV.v 4 (i := 4) (nm := "before") rfl rfl) rfl) c_eqI) (fun _ => ?_) (fun _ => ?_))
      · exact lss_drop 3 (lss_drop 4 (lss_one (ls_break ⟨ks, hks, rfl⟩)))
      · exact lss_nil (lss_drop 3 (lss_drop 4 (lss_nil ⟨ks, hks, rfl⟩)))
  rintro δ ⟨ks, hks, rfl⟩
  have hksl := hks.len
  refine lss_cons (sx_set (EV.l 6 (i := 6) (nm := "queue") rfl rfl) hnd rfl (le_lst (ld_nil ⟨by simp [sizeLine], rfl, ?_⟩)))
  refine lss_mid (fun δ => ∃ qs : List Nat, (qs = [] ∨ (qs = [0] ∧ 0 ∈ ks)) ∧ δ = [.is (.d (encPlain γ)), .is (.d (.tuple (γ.sts.map encState))), .is (.m (liveD ks)), .no, .no, .no, .is (.l (natsL qs)), .no]) ?_ ?_
  · refine ls_ifb (p := decide (0 ∈ ks)) (LB.cast (lb_din hu (EV.v 2 (i := 2) (nm := "good") rfl rfl) rfl lq_int) (liveD_get ks 0)) (fun h => ?_) (fun _ => ?_)
    · exact lss_one (ls_expr (ex_append (EV.v 6 (i := 6) (nm := "queue") rfl rfl) (le_q lq_int ⟨_, rfl, by simp [sizeLine], [0], .inr ⟨rfl, of_decide_eq_true h⟩, rfl⟩) ⟨_, rfl⟩))
    · exact lss_nil ⟨[], .inl rfl, rfl⟩
  rintro δ ⟨qs, hqs, rfl⟩
  refine lss_cons (sx_set (EV.l 5 (i := 5) (nm := "k") rfl rfl) hnd rfl (le_q lq_int ⟨rfl, ?_⟩))
  have qlen : ∀ {qs : List Nat}, qs.Nodup → (∀ q ∈ qs, q ∈ ks) → qs.length ≤ γ.sts.length := fun h1 h2 => Nat.le_trans (nodup_len h1 h2) hksl
  refine lss_cons (ls_while (passes_of rfl) (fun m δ => ∃ (qs : List Nat) (k : Nat), k ≤ qs.length ∧ m = γ.sts.length - k ∧ qs.Nodup ∧ (∀ q ∈ qs, q ∈ ks) ∧ (qs ≠ [] → qs[0]? = some 0) ∧ (∀ i q, i < k → qs[i]? = some q → ∀ s t j, γ.sts[q]? = some s → some (t, j) ∈ s.2 → j ∈ ks → j ∈ qs) ∧
    δ = [.is (.d (encPlain γ)), .is (.d (.tuple (γ.sts.map encState))), .is (.m (liveD ks)), .no, .no, .is (.d (.int (k : Nat))), .is (.l (natsL qs)), .no]) γ.sts.length ⟨qs, 0, Nat.zero_le _, rfl, ?_, ?_, ?_, fun i q h => absurd h (Nat.not_lt_zero _), rfl⟩ ?_)
  · rcases hqs with rfl | ⟨rfl, _⟩ <;> simp
  · rcases hqs with rfl | ⟨rfl, h⟩
    · simp
    · intro q hq
      rw [List.mem_singleton] at hq
      rw [hq]
      exact h
  · rcases hqs with rfl | ⟨rfl, h⟩
    · exact fun h => absurd rfl h
    · exact fun _ => rfl
  rintro m δ ⟨qs, k, hk, rfl, hqn, hqk, hq0, hcl, rfl⟩
  have hql := qlen hqn hqk
  have nl : ((natsL qs).length : Int) = (qs.length : Int) := by unfold natsL; rw [List.length_map]
  refine (LB.cast (q := decide (k < qs.length)) (lb_cmp (lq_v (EV.v 5 (i := 5) (nm := "k") rfl rfl) rfl) (lx_lenSlot (EV.v 6 (i := 6) (nm := "queue") rfl rfl) (EV.g 1 (nm := "len") rfl) (fr_len T) rfl) (by walk_at "cmp")) (by rw [nl]; simp)).go ?_
  by_cases hlt : k < qs.length
  rotate_left
  · rw [if_neg (by simp [hlt])]
    have hkk : k = qs.length := by omega
    refine lss_one (ls_ret (le_move (EV.v 6 (i := 6) (nm := "queue") rfl rfl) rfl ⟨[], ⟨qs, ks, rfl, hqn, hqk, hks, fun q hq => ?_, hq0⟩, trivial⟩))
    obtain ⟨i, hi, e⟩ := List.mem_iff_getElem.mp hq
    exact hcl i q (by omega) (by rw [List.getElem?_eq_getElem hi, e])
  rw [if_pos (decide_eq_true hlt)]
  have hqe : qs[k]? = some qs[k] := List.getElem?_eq_getElem hlt
  have hqm : qs[k] ∈ qs := List.getElem_mem hlt
  have hqs2 : qs[k] < γ.sts.length := hks.lt _ (hqk _ hqm)
  generalize hqv : qs[k] = q at *
  have f0' := nats_at hqe
  have f1 : ixD (.tuple (γ.sts.map encState)) (q : Nat) = some (encState γ.sts[q]) := at_map (List.getElem?_eq_getElem hqs2)
  have wS := hw.st _ (List.getElem_mem hqs2)
  have hget : γ.sts[q]? = some γ.sts[q] := List.getElem?_eq_getElem hqs2
  generalize γ.sts[q] = st at *
  obtain ⟨en, row⟩ := st
  have f3 : ixD (encState (en, row)) 1 = some (.tuple (row.map encStep)) := rfl
  refine lss_cons (ls_for (passes_of rfl) rfl (li_tup (le_q (x := .tuple (row.map encStep)) (lq_ix (lq_ix (lq_v (EV.v 1 (i := 1) (nm := "states") rfl rfl) rfl) (lx_slot (EV.v 6 (i := 6) (nm := "queue") rfl rfl) rfl (lq_v (EV.v 5 (i := 5) (nm := "k") rfl rfl) rfl) (by walk_at "ix")) (by walk_at "ix") (by walk_at "len")) lq_int (by walk_at "ix") (by walk_at "len")) ⟨_, rfl, fun i δ => ∃ qs2 : List Nat, (∃ r, qs2 = qs ++ r) ∧ qs2.Nodup ∧ (∀ q ∈ qs2, q ∈ ks) ∧ (∀ i' t j, i' < i → row[i']? = some (some (t, j)) → j ∈ ks → j ∈ qs2) ∧
    δ = [.is (.d (encPlain γ)), .is (.d (.tuple (γ.sts.map encState))), .is (.m (liveD ks)), .no, .no, .is (.d (.int (k : Nat))), .is (.l (natsL qs2)), .no], ⟨qs, ⟨[], (List.append_nil _).symm⟩, hqn, hqk, fun i' t j h => absurd h (Nat.not_lt_zero _), rfl⟩, ?_, ?_⟩)))
  · rintro i d δ hd ⟨qs2, ⟨r, hr2⟩, hn2, hk2, hdone, rfl⟩
    obtain ⟨st, hst, rfl⟩ : ∃ st, row[i]? = some st ∧ d = encStep st := by
      rw [List.getElem?_map] at hd
      cases h : row[i]? with
      | none => rw [h] at hd; cases hd
      | some st => rw [h] at hd; cases hd; exact ⟨st, rfl, rfl⟩
    have hq2l := qlen hn2 hk2
    refine gx_name (EV.l 7 (i := 7) (nm := "step") rfl rfl) hnd rfl rfl ?_
    cases st with
    | none =>
      refine lss_cons (ls_ifb (p := false) (lb_and_f (LB.cast (lb_cmp (lq_v (EV.v 7 (i := 7) (nm := "step") rfl rfl) rfl) lq_none (by walk_at "cmp")) rfl)) (fun h => nomatch h) (fun _ => lss_nil (lss_drop 7 (lss_nil ⟨qs2, ⟨r, hr2⟩, hn2, hk2, fun i' t j h1 h2 h3 => ?_, rfl⟩))))
      rcases Nat.lt_succ_iff_lt_or_eq.mp h1 with h | h
      · exact hdone i' t j h h2 h3
      · rw [h, hst] at h2
        cases h2
    | some qq =>
      obtain ⟨t, j⟩ := qq
      refine lss_cons (ls_ifb (p := (decide (j ∈ ks) && !decide (j ∈ qs2))) (LB.cast (LBw.lb (lbw_and (p := true) (LB.cast (lb_cmp (lq_v (EV.v 7 (i := 7) (nm := "step") rfl rfl) rfl) lq_none (by walk_at "cmp")) rfl) fun _ => lbw_and (lb_din hu (EV.v 2 (i := 2) (nm := "good") rfl rfl) rfl (j := (j : Nat)) (lq_ix (lq_v (EV.v 7 (i := 7) (nm := "step") rfl rfl) rfl) lq_int (by walk_at "ix") (by walk_at "len"))) fun _ => lbw_and1 (lb_notinL (EV.v 6 (i := 6) (nm := "queue") rfl rfl) rfl (j := j) (lq_ix (lq_v (EV.v 7 (i := 7) (nm := "step") rfl rfl) rfl) lq_int (by walk_at "ix") (by walk_at "len"))))) (by rw [Bool.true_and, liveD_get])) (fun h => ?_) (fun h => ?_))
      · simp only [Bool.and_eq_true, decide_eq_true_eq, Bool.not_eq_true', decide_eq_false_iff_not] at h
        refine lss_one (ls_expr (ex_append (EV.v 6 (i := 6) (nm := "queue") rfl rfl) (le_q (lq_ix (lq_v (EV.v 7 (i := 7) (nm := "step") rfl rfl) rfl) lq_int (by walk_at "ix") (by walk_at "len")) ⟨_, rfl, ?_, ?_⟩) ⟨_, rfl⟩))
        · unfold natsL
          rw [List.length_map]
          exact Nat.lt_of_le_of_lt (show qs2.length ≤ 2000 by omega) (by decide)
        · refine lss_drop 7 (lss_nil ⟨qs2 ++ [j], ⟨r ++ [j], by rw [hr2, List.append_assoc]⟩, ?_, ?_, ?_, ?_⟩)
          · rw [List.nodup_append]
            exact ⟨hn2, by simp, fun a ha b hb e => h.2 (by rw [List.mem_singleton] at hb; rw [← hb, ← e]; exact ha)⟩
          · intro q hq
            rcases List.mem_append.mp hq with hq | hq
            · exact hk2 q hq
            · rw [List.mem_singleton] at hq
              rw [hq]
              exact h.1
          · intro i' t' j' h1 h2 h3
            rcases Nat.lt_succ_iff_lt_or_eq.mp h1 with h' | h'
            · exact List.mem_append_left _ (hdone i' t' j' h' h2 h3)
            · rw [h', hst] at h2
              cases h2
              exact List.mem_append_right _ (by simp)
          · unfold natsL
            rw [List.map_append]
            rfl
      · refine lss_nil (lss_drop 7 (lss_nil ⟨qs2, ⟨r, hr2⟩, hn2, hk2, fun i' t' j' h1 h2 h3 => ?_, rfl⟩))
        rcases Nat.lt_succ_iff_lt_or_eq.mp h1 with h' | h'
        · exact hdone i' t' j' h' h2 h3
        · rw [h', hst] at h2
          cases h2
          have h4 : decide (j ∈ ks) = true := decide_eq_true h3
          rw [h4, Bool.true_and] at h
          have h5 : decide (j ∈ qs2) = true := by
            cases e : decide (j ∈ qs2) with
            | true => rfl
            | false => rw [e] at h; cases h
          exact of_decide_eq_true h5
  · rintro δ ⟨qs2, ⟨r, hr2⟩, hn2, hk2, hdone, rfl⟩
    have hq2l := qlen hn2 hk2
    have hle : qs.length ≤ qs2.length := by rw [hr2, List.length_append]; omega
    refine lss_one (sx_set (EV.l 5 (i := 5) (nm := "k") rfl rfl) hnd rfl (le_q (x := .int ((k + 1 : Nat) : Int)) (lq_plus (lq_v (EV.v 5 (i := 5) (nm := "k") rfl rfl) rfl) lq_int (by walk_at "c") (by walk_at "len")) ⟨rfl, γ.sts.length - (k + 1), by omega, qs2, k + 1, by omega, rfl, hn2, hk2, ?_, ?_, rfl⟩))
    · intro _
      have h0 : qs[0]? = some 0 := hq0 (fun e => by rw [e] at hlt; exact absurd hlt (Nat.not_lt_zero _))
      rw [hr2, List.getElem?_append_left (by omega)]
      exact h0
    · intro i' q' h1 h2 s t j h3 h4 h5
      rcases Nat.lt_succ_iff_lt_or_eq.mp h1 with h' | h'
      · have h6 : qs[i']? = some q' := by
          rw [hr2, List.getElem?_append_left (by omega)] at h2
          exact h2
        rw [hr2]
        exact List.mem_append_left _ (hcl i' q' h' h6 s t j h3 h4 h5)
      · rw [h', hr2, List.getElem?_append_left (by omega), hqe] at h2
        cases h2
        rw [hget] at h3
        cases h3
        obtain ⟨i2, hi2, e2⟩ := List.mem_iff_getElem.mp h4
        exact hdone i2 t j (by rw [List.length_map]; exact hi2) (by rw [List.getElem?_eq_getElem hi2, e2]) h5
end
end Z
set_option maxHeartbeats 2000000
namespace Z
open PySem PySem.Spec PyProof.Rows L2
local macro_rules | `(tactic| walk_at "len") => `(tactic| (intro zz hz; first | (cases hz; done) | (injection hz with hz; subst hz; first | assumption | (simp only [PySem.Str.length_append, Str.length] at *; simp [sizeLine] at *; omega))))
local macro_rules | `(tactic| walk_at "c") => `(tactic| first | rfl | assumption | decide | omega)
local macro_rules | `(tactic| walk_at "ix") => `(tactic| first | assumption | rfl)
local macro_rules | `(tactic| walk_at "mem") => `(tactic| assumption)
local macro_rules | `(tactic| walk_at "sz") => `(tactic| first | assumption | omega)
local macro_rules | `(tactic| walk_at "mul") => `(tactic| first | exact .inr ⟨by decide, by decide⟩ | exact .inl ⟨by decide, by decide⟩)
local macro_rules | `(tactic| walk_at "div") => `(tactic| first | exact ⟨by decide, by decide⟩ | exact ⟨by omega, by omega⟩)
local macro_rules | `(tactic| walk_at "cmp") => `(tactic| first | exact c_lt | exact c_le | exact c_gt | exact c_ge | exact c_eqI | exact c_neI | exact c_eqS | exact c_neS | exact c_eqB | exact c_isN | exact c_notN | exact c_inS | exact c_notInS)
/-! ### the texts ahead -/
structure AOk (p : PPlain) (live : List Nat) (ds : List (Int × PyData)) : Prop where
  n : (ds.map (·.1)).Nodup
  a : ∀ j d, getM ds j = some d → ∃ (k : Nat) (z : Str), j = (k : Int) ∧ d = .str z ∧ k ∈ live ∧ Over p.S z ∧ z.length ≤ 2 * ds.length
theorem getM_mem {ds : List (Int × PyData)} {j : Int} (h : j ∈ ds.map (·.1)) : ∃ d, getM ds j = some d := by
  have : (ds.any fun q => decide (q.1 = j)) = true := by
    obtain ⟨q, hq, e⟩ := List.mem_map.mp h
    exact List.any_eq_true.mpr ⟨q, hq, decide_eq_true e⟩
  rw [any_getM] at this
  exact Option.isSome_iff_exists.mp this
theorem AOk.len {p : PPlain} {live : List Nat} {ds : List (Int × PyData)} (h : AOk p live ds) : ds.length ≤ live.length := by
  have := nodup_len (m := live.map fun (k : Nat) => (k : Int)) h.n fun j hj => by
    obtain ⟨d, hd⟩ := getM_mem hj
    obtain ⟨k, z, rfl, _, hk, _⟩ := h.a j d hd
    exact List.mem_map.mpr ⟨k, hk, rfl⟩
  rwa [List.length_map, List.length_map] at this
theorem AOk.put {p : PPlain} {live : List Nat} {ds : List (Int × PyData)} (h : AOk p live ds) {k : Nat} {z : Str} (hk : k ∈ live) (ho : Over p.S z) (hz : z.length ≤ 2 * (putM ds k (.str z)).length) : AOk p live (putM ds k (.str z)) := by
  have hl : ds.length ≤ (putM ds k (.str z)).length := by
    rw [putM_len]
    split <;> omega
  refine ⟨?_, fun j d hj => ?_⟩
  · rw [putM_keys]
    split
    · exact h.n
    · rename_i hn
      rw [List.nodup_append]
      refine ⟨h.n, by simp, fun a ha b hb e => ?_⟩
      rw [List.mem_singleton] at hb
      rw [e, hb] at ha
      obtain ⟨d, hd⟩ := getM_mem ha
      rw [hd] at hn
      exact hn rfl
  · rw [getM_put] at hj
    by_cases e : j = (k : Int)
    · rw [if_pos e] at hj
      cases hj
      exact ⟨k, z, e, rfl, hk, ho, hz⟩
    · rw [if_neg e] at hj
      obtain ⟨k', z', h1, h2, h3, h4, h5⟩ := h.a j d hj
      exact ⟨k', z', h1, h2, h3, h4, by omega⟩
theorem getM_put_some {ds : List (Int × PyData)} {k j : Int} {d : PyData} (h : (getM ds j).isSome = true) : (getM (putM ds k d) j).isSome = true := by
  rw [getM_put]
  split
  · rfl
  · exact h
theorem getM_put_self {ds : List (Int × PyData)} {k : Int} {d : PyData} : getM (putM ds k d) k = some d := by rw [getM_put, if_pos rfl]
/-- a state that can be told of in the next turn -/
def Near (p : PPlain) (ds : List (Int × PyData)) (k : Nat) : Prop := (∃ e, endAt p k = some e) ∨ ∃ s t j, p.sts[k]? = some s ∧ some (t, j) ∈ s.2 ∧ (getM ds (j : Nat)).isSome = true
theorem first_missing {p : PPlain} {live : List Nat} {ds : List (Int × PyData)} {ks : List Nat} (h : Built p ks) : (∃ k ∈ ks, k ∈ live ∧ (getM ds (k : Nat)).isSome = false) →
    ∃ k ∈ live, (getM ds (k : Nat)).isSome = false ∧ ((∃ e, endAt p k = some e) ∨ ∃ s t j, p.sts[k]? = some s ∧ some (t, j) ∈ s.2 ∧ j ∈ ks ∧ (j ∈ live → (getM ds (j : Nat)).isSome = true)) := by
  induction h with
  | nil => rintro ⟨k, hk, _⟩; cases hk
  | @snoc ks k hb hk hn hc ih =>
    intro hex
    by_cases h0 : ∃ k ∈ ks, k ∈ live ∧ (getM ds (k : Nat)).isSome = false
    · obtain ⟨k', h1, h2, h3⟩ := ih h0
      refine ⟨k', h1, h2, ?_⟩
      rcases h3 with h3 | ⟨s, t, j, e1, e2, e3, e4⟩
      · exact .inl h3
      · exact .inr ⟨s, t, j, e1, e2, List.mem_append_left _ e3, e4⟩
    · obtain ⟨k', h1, h2, h3⟩ := hex
      rcases List.mem_append.mp h1 with h1 | h1
      · exact absurd ⟨k', h1, h2, h3⟩ h0
      · rw [List.mem_singleton] at h1
        subst h1
        refine ⟨k', h2, h3, ?_⟩
        rcases hc with hc | ⟨s, t, j, e1, e2, e3⟩
        · exact .inl hc
        · refine .inr ⟨s, t, j, e1, e2, List.mem_append_left _ e3, fun hj => ?_⟩
          cases e : (getM ds (j : Nat)).isSome with
          | true => rfl
          | false => exact absurd ⟨j, e3, hj, e⟩ h0
theorem filter_lt {α : Type} {P Q : α → Bool} : ∀ {l : List α}, (∀ x ∈ l, P x = true → Q x = true) → (∃ x ∈ l, P x = false ∧ Q x = true) → (l.filter P).length < (l.filter Q).length
  | [], _, ⟨x, hx, _⟩ => by cases hx
  | a :: l, h, ⟨x, hx, h1, h2⟩ => by
    have mono : ∀ {l : List α}, (∀ x ∈ l, P x = true → Q x = true) → (l.filter P).length ≤ (l.filter Q).length := by
      intro l hl
      induction l with
      | nil => exact Nat.le_refl _
      | cons a l ih =>
        have ih' := ih fun x hx => hl x (List.mem_cons_of_mem _ hx)
        rw [List.filter_cons, List.filter_cons]
        cases ea : P a with
        | true =>
          rw [hl a (List.mem_cons_self ..) ea]
          simp only [if_true, List.length_cons]
          omega
        | false =>
          cases Q a with
          | true => simp only [if_true, Bool.false_eq_true, if_false, List.length_cons]; omega
          | false => simpa using ih'
    rw [List.filter_cons, List.filter_cons]
    rcases List.mem_cons.mp hx with rfl | hx
    · rw [h1, h2]
      have := mono fun x hx => h x (List.mem_cons_of_mem _ hx)
      simp only [if_true, Bool.false_eq_true, if_false, List.length_cons]
      omega
    · have ih := filter_lt (P := P) (Q := Q) (l := l) (fun x hx => h x (List.mem_cons_of_mem _ hx)) ⟨x, hx, h1, h2⟩
      cases ea : P a with
      | true =>
        rw [h a (List.mem_cons_self ..) ea]
        simp only [if_true, List.length_cons]
        omega
      | false =>
        cases Q a with
        | true => simp only [if_true, Bool.false_eq_true, if_false, List.length_cons]; omega
        | false => simpa using ih
def lenAt (ds : List (Int × PyData)) (k : Nat) : Nat := match getM ds (k : Nat) with
  | some (.str z) => z.length
  | _ => 0
def total (live : List Nat) (ds : List (Int × PyData)) : Nat := (live.map (lenAt ds)).sum
theorem sum_lt {α : Type} {f g : α → Nat} : ∀ {l : List α}, (∀ x ∈ l, g x ≤ f x) → (l.map g).sum ≤ (l.map f).sum ∧ ((∃ x ∈ l, g x < f x) → (l.map g).sum < (l.map f).sum)
  | [], _ => ⟨Nat.le_refl _, fun ⟨x, hx, _⟩ => by cases hx⟩
  | a :: l, h => by
    obtain ⟨h1, h2⟩ := sum_lt (f := f) (g := g) (l := l) fun x hx => h x (List.mem_cons_of_mem _ hx)
    have h3 := h a (List.mem_cons_self ..)
    simp only [List.map_cons, List.sum_cons]
    refine ⟨by omega, ?_⟩
    rintro ⟨x, hx, hl⟩
    rcases List.mem_cons.mp hx with rfl | hx
    · omega
    · have := h2 ⟨x, hx, hl⟩
      omega
theorem total_put {live : List Nat} {ds : List (Int × PyData)} {k : Nat} {z y : Str} (hk : k ∈ live) (hy : getM ds (k : Nat) = some (.str y)) (hl : z.length < y.length) : total live (putM ds k (.str z)) < total live ds := by
  refine (sum_lt fun x hx => ?_).2 ⟨k, hk, ?_⟩
  · unfold lenAt
    rw [getM_put]
    by_cases e : (x : Int) = (k : Int)
    · rw [if_pos e]
      have : x = k := by omega
      subst this
      rw [hy]
      exact Nat.le_of_lt hl
    · rw [if_neg e]
      exact Nat.le_refl _
  · unfold lenAt
    rw [getM_put_self, hy]
    exact hl
structure LiveOk (p : PPlain) (live keys : List Nat) : Prop where
  n : live.Nodup
  k : ∀ k ∈ live, k ∈ keys
  b : Built p keys
  c : ∀ k ∈ live, ∀ s t j, p.sts[k]? = some s → some (t, j) ∈ s.2 → j ∈ keys → j ∈ live
  l : live.length ≤ 100
theorem LiveOk.near {p : PPlain} {live keys : List Nat} (h : LiveOk p live keys) {ds : List (Int × PyData)} (hex : ∃ k ∈ live, (getM ds (k : Nat)).isSome = false) : ∃ k ∈ live, (getM ds (k : Nat)).isSome = false ∧ Near p ds k := by
  obtain ⟨k0, hk0, hn0⟩ := hex
  obtain ⟨k, h1, h2, h3⟩ := first_missing (live := live) (ds := ds) h.b ⟨k0, h.k k0 hk0, hk0, hn0⟩
  refine ⟨k, h1, h2, ?_⟩
  rcases h3 with h3 | ⟨s, t, j, e1, e2, e3, e4⟩
  · exact .inl h3
  · exact .inr ⟨s, t, j, e1, e2, e4 (h.c k h1 s t j e1 e2 e3)⟩
def S_ahead : Spec (PPlain × List Nat × List Nat) where
  pre γ xs := xs = [.d (.tuple (γ.1.sts.map encState)), .d (.list (γ.2.1.map fun (k : Nat) => PyData.int (k : Int)))] ∧ WfP γ.1 ∧ SmP γ.1 ∧ LiveOk γ.1 γ.2.1 γ.2.2
  post γ r ys := ∃ ds, r = .m ds ∧ AOk γ.1 γ.2.1 ds ∧ ∀ k ∈ γ.2.1, (getM ds (k : Nat)).isSome = true
end Z
set_option maxHeartbeats 4000000
namespace Z
open PySem PySem.Spec PyProof.Rows L2
local macro_rules | `(tactic| walk_at "len") => `(tactic| (intro zz hz; first | (cases hz; done) | (injection hz with hz; subst hz; first | assumption | (simp only [PySem.Str.length_append, Str.length] at *; simp [sizeLine] at *; omega))))
local macro_rules | `(tactic| walk_at "c") => `(tactic| first | rfl | assumption | decide | omega)
local macro_rules | `(tactic| walk_at "ix") => `(tactic| first | assumption | rfl)
local macro_rules | `(tactic| walk_at "mem") => `(tactic| assumption)
local macro_rules | `(tactic| walk_at "sz") => `(tactic| first | assumption | omega)
local macro_rules | `(tactic| walk_at "mul") => `(tactic| first | exact .inr ⟨by decide, by decide⟩ | exact .inl ⟨by decide, by decide⟩)
local macro_rules | `(tactic| walk_at "div") => `(tactic| first | exact ⟨by decide, by decide⟩ | exact ⟨by omega, by omega⟩)
local macro_rules | `(tactic| walk_at "cmp") => `(tactic| first | exact c_lt | exact c_le | exact c_gt | exact c_ge | exact c_eqI | exact c_neI | exact c_eqS | exact c_neS | exact c_eqB | exact c_isN | exact c_notN | exact c_inS | exact c_notInS)
section
variable {P : Program} {w : World} {K : PySem.W.Frag} {mg : Str → Option Value} {base : Heap}
-- _law_ahead: ['states', 'live', 'ahead', 'turn', 'k', 'step', 'moved', 'word']
theorem ok_ahead (T : Tp K mg) : Cal P w K mg base 2 "_law_ahead" ["states", "live"] S_ahead := by
  refine cal_of (k := 1) T (N := ["states", "live", "ahead", "turn", "k", "step", "moved", "word"]) 49 49 rfl rfl (fun _ _ _ _ _ _ us hl => match us, hl with | [_, _], _ => rfl) [false, false] rfl (by decide +kernel) (fun γ xs h => ?_) ?_
  · first | exact congrArg List.length (show _ = _ from h) | exact congrArg List.length (show _ ∧ _ from h).1
  intro cdv A outer s H E γ vs xs hr hl hpre
  obtain ⟨v0, v1, rfl⟩ : ∃ v0 v1, vs = [v0, v1] := by
    match vs, hl with
    | [a0, a1], _ => exact ⟨a0, a1, rfl⟩
  have hnd : (["states", "live", "ahead", "turn", "k", "step", "moved", "word"] : List Str).Nodup := by decide +kernel
  obtain ⟨p, live, keys⟩ := γ
  obtain ⟨rfl, (hw : WfP p), (hs : SmP p), (hv : LiveOk p live keys)⟩ := hpre
  dsimp only
  have EV : Ev (cxOf (L2.CX P w) P w K mg base ["states", "live", "ahead", "turn", "k", "step", "moved", "word"] "_law_ahead" (defScope (Hd.topS 67)) (He.ga K "_law_ahead") cdv A outer s H E) ["states", "live", "ahead", "turn", "k", "step", "moved", "word"] [0, 1, 2, 3, 4, 5, 6, 7] [0, 1, 2, 3, 4, 5, 6, 7] ["range", "len", "_law_common"] := ⟨rfl, (by decide +kernel : evB (defScope (Hd.topS 67)) ["states", "live", "ahead", "turn", "k", "step", "moved", "word"] [0, 1, 2, 3, 4, 5, 6, 7] [0, 1, 2, 3, 4, 5, 6, 7] ["range", "len", "_law_common"] = true)⟩
  have hn := hw.n
  have hll := hv.l
  have hu := hr.units
  have big : (3000 : Nat) ≤ sizeLine := by simp [sizeLine]
  have small : ∀ {ds}, AOk p live ds → ds.length < sizeLine := fun h => by have := h.len; omega
  have liveAt : ∀ {i : Nat} {d : PyData}, (live.map fun (k : Nat) => PyData.int (k : Int))[i]? = some d → ∃ k, live[i]? = some k ∧ d = .int (k : Nat) := fun {i d} h => by
    rw [List.getElem?_map] at h
    cases e : live[i]? with
    | none => rw [e] at h; cases h
    | some k => rw [e] at h; cases h; exact ⟨k, rfl, rfl⟩
  refine lss_cons (sx_set (EV.l 2 (i := 2) (nm := "ahead") rfl rfl) hnd rfl (le_dnew ⟨rfl, ?_⟩))
  refine lss_mid (fun δ => ∃ ds, AOk p live ds ∧ (∀ k ∈ live, (getM ds (k : Nat)).isSome = true) ∧ δ = [.is (.d (.tuple (p.sts.map encState))), .is (.d (.list (live.map fun (k : Nat) => PyData.int (k : Int)))), .is (.m ds), .no, .no, .no, .no, .no]) ?_ ?_
  · refine ls_for (passes_of rfl) rfl (li_range1 (fr_range T) (ld_q (x := .int (live.length : Nat)) (lq_cast (lq_len (fr_len T) (lq_v (EV.v 1 (i := 1) (nm := "live") rfl rfl) rfl) (by walk_at "ix") (by walk_at "len") (EV.g 1 (nm := "len") rfl).g) (by rw [List.length_map])) (ld_nil ⟨_, rfl, by omega, by omega, fun i δ => ∃ ds, AOk p live ds ∧ ((∀ k ∈ live, (getM ds (k : Nat)).isSome = true) ∨ i ≤ (live.filter fun (k : Nat) => (getM ds (k : Nat)).isSome).length) ∧ δ = [.is (.d (.tuple (p.sts.map encState))), .is (.d (.list (live.map fun (k : Nat) => PyData.int (k : Int)))), .is (.m ds), .no, .no, .no, .no, .no], ⟨[], ⟨.nil, fun j d h => by cases h⟩, .inr (Nat.zero_le _), rfl⟩, ?_, ?_⟩)) (EV.g 0 (nm := "range") rfl).g)
    · rintro i d δ hd ⟨ds0, hA0, hc0, rfl⟩
      obtain ⟨hi, rfl⟩ := intsD0_get hd
      refine gx_name (EV.l 3 (i := 3) (nm := "turn") rfl rfl) hnd rfl rfl ?_
      refine lss_mid (fun δ => ∃ ds, AOk p live ds ∧ (∀ j, (getM ds0 j).isSome = true → (getM ds j).isSome = true) ∧ (∀ k ∈ live, Near p ds0 k → (getM ds (k : Nat)).isSome = true) ∧ δ = [.is (.d (.tuple (p.sts.map encState))), .is (.d (.list (live.map fun (k : Nat) => PyData.int (k : Int)))), .is (.m ds), .is (.d (.int (i : Nat))), .no, .no, .no, .no]) ?_ ?_
      · refine ls_for (passes_of rfl) rfl (li_list (le_q (lq_v (EV.v 1 (i := 1) (nm := "live") rfl rfl) rfl) ⟨_, .d, fun i2 δ => ∃ ds, AOk p live ds ∧ (∀ j, (getM ds0 j).isSome = true → (getM ds j).isSome = true) ∧ (∀ i' k, i' < i2 → live[i']? = some k → Near p ds0 k → (getM ds (k : Nat)).isSome = true) ∧ δ = [.is (.d (.tuple (p.sts.map encState))), .is (.d (.list (live.map fun (k : Nat) => PyData.int (k : Int)))), .is (.m ds), .is (.d (.int (i : Nat))), .no, .no, .no, .no], ⟨ds0, hA0, fun j h => h, fun i' k h => absurd h (Nat.not_lt_zero _), rfl⟩, ?_, ?_⟩))
        · rintro i2 d δ hd ⟨ds, hA, hmono, hdone, rfl⟩
          obtain ⟨k, hk, rfl⟩ := liveAt hd
          have hkl : k ∈ live := List.mem_of_getElem? hk
          have hk' : k < p.sts.length := hv.b.lt _ (hv.k _ hkl)
          have f1 : ixD (.tuple (p.sts.map encState)) (k : Nat) = some (encState p.sts[k]) := at_map (List.getElem?_eq_getElem hk')
          have hend : endAt p k = p.sts[k].1 := by
            unfold endAt
            rw [List.getElem?_eq_getElem hk']
          have wS := hw.st _ (List.getElem_mem hk')
          have mS := hs.st _ (List.getElem_mem hk')
          have hget : p.sts[k]? = some p.sts[k] := List.getElem?_eq_getElem hk'
          generalize p.sts[k] = st at *
          obtain ⟨en, row⟩ := st
          have f2 : ixD (encState (en, row)) 0 = some (encEnd en) := rfl
          have f3 : ixD (encState (en, row)) 1 = some (.tuple (row.map encStep)) := rfl
          refine gx_name (EV.l 4 (i := 4) (nm := "k") rfl rfl) hnd rfl rfl ?_
          refine lss_mid (fun δ => ∃ ds, AOk p live ds ∧ (∀ j, (getM ds0 j).isSome = true → (getM ds j).isSome = true) ∧ (∀ i' k, i' < i2 → live[i']? = some k → Near p ds0 k → (getM ds (k : Nat)).isSome = true) ∧ ((∃ e, endAt p k = some e) → (getM ds (k : Nat)).isSome = true) ∧ δ = [.is (.d (.tuple (p.sts.map encState))), .is (.d (.list (live.map fun (k : Nat) => PyData.int (k : Int)))), .is (.m ds), .is (.d (.int (i : Nat))), .is (.d (.int (k : Nat))), .no, .no, .no]) ?_ ?_
          · refine ls_ifb (p := (!(getM ds (k : Nat)).isSome && !isNone (encEnd en))) (LBw.lb (lbw_and (lb_dnotin hu (EV.v 2 (i := 2) (nm := "ahead") rfl rfl) rfl (lq_v (EV.v 4 (i := 4) (nm := "k") rfl rfl) rfl)) fun _ => lbw_and1 (lb_cmp (lq_ix (lq_ix (lq_v (EV.v 0 (i := 0) (nm := "states") rfl rfl) rfl) (lq_v (EV.v 4 (i := 4) (nm := "k") rfl rfl) rfl) (by walk_at "ix") (by walk_at "len")) lq_int (by walk_at "ix") (by walk_at "len")) lq_none (by walk_at "cmp")))) (fun hc => ?_) (fun hc => ?_)
            · simp only [Bool.and_eq_true, Bool.not_eq_true'] at hc
              obtain ⟨hc1, hc2⟩ := hc
              cases en with
              | none => simp [encEnd, isNone] at hc2
              | some e =>
                have hA2 : AOk p live (putM ds (k : Nat) (.str e)) := hA.put hkl (wS.e e rfl).1 (by
                  rw [putM_len, if_neg (by rw [hc1]; exact Bool.false_ne_true)]
                  have := mS.e e rfl
                  omega)
                exact lss_one (sx_dput hu (EV.v 2 (i := 2) (nm := "ahead") rfl rfl) (le_q (x := .str e) (lq_ix (lq_ix (lq_v (EV.v 0 (i := 0) (nm := "states") rfl rfl) rfl) (lq_v (EV.v 4 (i := 4) (nm := "k") rfl rfl) rfl) (by walk_at "ix") (by walk_at "len")) lq_int (by walk_at "ix") (by walk_at "len")) ⟨_, (k : Nat), ds, .d, rfl, small hA, (lq_v (EV.v 4 (i := 4) (nm := "k") rfl rfl) rfl), _, hA2, fun j h => getM_put_some (hmono j h), fun i' k' h1 h2 h3 => getM_put_some (hdone i' k' h1 h2 h3), fun _ => by rw [getM_put_self]; rfl, rfl⟩))
            · refine lss_nil ⟨ds, hA, hmono, hdone, fun he => ?_, rfl⟩
              obtain ⟨e, he⟩ := he
              rw [hend] at he
              have he' : en = some e := he
              subst he'
              cases hg : (getM ds (k : Nat)).isSome with
              | true => rfl
              | false => rw [hg] at hc; exact absurd hc (by simp [encEnd, isNone])
          rintro δ ⟨ds, hA, hmono, hdone, hE, rfl⟩
          refine lss_mid (fun δ => ∃ ds, AOk p live ds ∧ (∀ j, (getM ds0 j).isSome = true → (getM ds j).isSome = true) ∧ (∀ i' k, i' < i2 → live[i']? = some k → Near p ds0 k → (getM ds (k : Nat)).isSome = true) ∧ ((∃ e, endAt p k = some e) → (getM ds (k : Nat)).isSome = true) ∧ (∀ t j, some (t, j) ∈ row → (getM ds0 (j : Nat)).isSome = true → (getM ds (k : Nat)).isSome = true) ∧ δ = [.is (.d (.tuple (p.sts.map encState))), .is (.d (.list (live.map fun (k : Nat) => PyData.int (k : Int)))), .is (.m ds), .is (.d (.int (i : Nat))), .is (.d (.int (k : Nat))), .no, .no, .no]) ?_ ?_
          · refine ls_for (passes_of rfl) rfl (li_tup (le_q (x := .tuple (row.map encStep)) (lq_ix (lq_ix (lq_v (EV.v 0 (i := 0) (nm := "states") rfl rfl) rfl) (lq_v (EV.v 4 (i := 4) (nm := "k") rfl rfl) rfl) (by walk_at "ix") (by walk_at "len")) lq_int (by walk_at "ix") (by walk_at "len")) ⟨_, rfl, fun i3 δ => ∃ ds, AOk p live ds ∧ (∀ j, (getM ds0 j).isSome = true → (getM ds j).isSome = true) ∧ (∀ i' k, i' < i2 → live[i']? = some k → Near p ds0 k → (getM ds (k : Nat)).isSome = true) ∧ ((∃ e, endAt p k = some e) → (getM ds (k : Nat)).isSome = true) ∧ (∀ i' t j, i' < i3 → row[i']? = some (some (t, j)) → (getM ds0 (j : Nat)).isSome = true → (getM ds (k : Nat)).isSome = true) ∧ δ = [.is (.d (.tuple (p.sts.map encState))), .is (.d (.list (live.map fun (k : Nat) => PyData.int (k : Int)))), .is (.m ds), .is (.d (.int (i : Nat))), .is (.d (.int (k : Nat))), .no, .no, .no], ⟨ds, hA, hmono, hdone, hE, fun i' t j h => absurd h (Nat.not_lt_zero _), rfl⟩, ?_, ?_⟩))
            · rintro i3 d δ hd ⟨ds, hA, hmono, hdone, hE, hst3, rfl⟩
              obtain ⟨st, hst, rfl⟩ : ∃ st, row[i3]? = some st ∧ d = encStep st := by
                rw [List.getElem?_map] at hd
                cases h : row[i3]? with
                | none => rw [h] at hd; cases hd
                | some st => rw [h] at hd; cases hd; exact ⟨st, rfl, rfl⟩
              refine gx_name (EV.l 5 (i := 5) (nm := "step") rfl rfl) hnd rfl rfl ?_
              cases st with
              | none =>
                refine lss_cons (ls_ifb (p := false) (LB.cast (LBw.lb (lbw_and (lb_dnotin hu (EV.v 2 (i := 2) (nm := "ahead") rfl rfl) rfl (lq_v (EV.v 4 (i := 4) (nm := "k") rfl rfl) rfl)) fun _ => lbw_and (q := true) (LB.cast (q := false) (lb_cmp (lq_v (EV.v 5 (i := 5) (nm := "step") rfl rfl) rfl) lq_none (by walk_at "cmp")) rfl) fun h => nomatch h)) (by simp)) (fun h => nomatch h) (fun _ => lss_nil (lss_drop 5 (lss_nil ⟨ds, hA, hmono, hdone, hE, fun i' t j h1 h2 h3 => ?_, rfl⟩))))
                rcases Nat.lt_succ_iff_lt_or_eq.mp h1 with h | h
                · exact hst3 i' t j h h2 h3
                · rw [h, hst] at h2
                  cases h2
              | some qq =>
                obtain ⟨t, j⟩ := qq
                have hmem : some (t, j) ∈ row := List.mem_of_getElem? hst
                refine lss_cons (ls_ifb (p := (!(getM ds (k : Nat)).isSome && (getM ds (j : Nat)).isSome)) (LB.cast (LBw.lb (lbw_and (lb_dnotin hu (EV.v 2 (i := 2) (nm := "ahead") rfl rfl) rfl (lq_v (EV.v 4 (i := 4) (nm := "k") rfl rfl) rfl)) fun _ => lbw_and (LB.cast (q := true) (lb_cmp (lq_v (EV.v 5 (i := 5) (nm := "step") rfl rfl) rfl) lq_none (by walk_at "cmp")) rfl) fun _ => lbw_and1 (lb_din hu (EV.v 2 (i := 2) (nm := "ahead") rfl rfl) rfl (j := (j : Nat)) (lq_ix (lq_v (EV.v 5 (i := 5) (nm := "step") rfl rfl) rfl) lq_int (by walk_at "ix") (by walk_at "len"))))) (by simp)) (fun hc => ?_) (fun hc => ?_))
                · simp only [Bool.and_eq_true, Bool.not_eq_true'] at hc
                  obtain ⟨hc1, hc2⟩ := hc
                  obtain ⟨dz, hz⟩ := Option.isSome_iff_exists.mp hc2
                  obtain ⟨_, z, _, rfl, _, hzo, hzl⟩ := hA.a _ _ hz
                  have hlen := hA.len
                  have ht2 := mS.r t j hmem
                  have hcat : (t ++ z : Str).length ≤ sizeLine := by rw [Str.length_append]; omega
                  have hA2 : AOk p live (putM ds (k : Nat) (.str (t ++ z))) := hA.put hkl ((wS.r t j hmem).1.cat hzo) (by
                    rw [putM_len, if_neg (by rw [hc1]; exact Bool.false_ne_true), Str.length_append]
                    omega)
                  refine lss_one (sx_dput hu (EV.v 2 (i := 2) (nm := "ahead") rfl rfl) (le_q (x := .str (t ++ z)) (lq_plus (x := .str t) (lq_ix (lq_v (EV.v 5 (i := 5) (nm := "step") rfl rfl) rfl) lq_int (by walk_at "ix") (by walk_at "len")) (lx_dget hu (EV.v 2 (i := 2) (nm := "ahead") rfl rfl) rfl (j := (j : Nat)) (lq_ix (lq_v (EV.v 5 (i := 5) (nm := "step") rfl rfl) rfl) lq_int (by walk_at "ix") (by walk_at "len")) hz) rfl (by walk_at "len")) ⟨_, (k : Nat), ds, .d, rfl, small hA, (lq_v (EV.v 4 (i := 4) (nm := "k") rfl rfl) rfl), ?_⟩))
                  exact lss_drop 5 (lss_nil ⟨_, hA2, fun j h => getM_put_some (hmono j h), fun i' k' h1 h2 h3 => getM_put_some (hdone i' k' h1 h2 h3), fun _ => by rw [getM_put_self]; rfl, fun _ _ _ _ _ _ => by rw [getM_put_self]; rfl, rfl⟩)
                · refine lss_nil (lss_drop 5 (lss_nil ⟨ds, hA, hmono, hdone, hE, fun i' t' j' h1 h2 h3 => ?_, rfl⟩))
                  rcases Nat.lt_succ_iff_lt_or_eq.mp h1 with h | h
                  · exact hst3 i' t' j' h h2 h3
                  · rw [h, hst] at h2
                    cases h2
                    have := hmono _ h3
                    rw [this] at hc
                    cases hg : (getM ds (k : Nat)).isSome with
                    | true => rfl
                    | false => rw [hg] at hc; exact absurd hc (by decide)
            · rintro δ ⟨ds, hA, hmono, hdone, hE, hst3, rfl⟩
              refine ⟨ds, hA, hmono, hdone, hE, fun t j hm hj => ?_, rfl⟩
              obtain ⟨i', hi', e'⟩ := List.mem_iff_getElem.mp hm
              exact hst3 i' t j (by rw [List.length_map]; exact hi') (by rw [List.getElem?_eq_getElem hi', e']) hj
          rintro δ ⟨ds, hA, hmono, hdone, hE, hst3, rfl⟩
          refine lss_drop 4 (lss_nil ⟨ds, hA, hmono, fun i' k' h1 h2 h3 => ?_, rfl⟩)
          rcases Nat.lt_succ_iff_lt_or_eq.mp h1 with h | h
          · exact hdone i' k' h h2 h3
          · rw [h, hk] at h2
            cases h2
            rcases h3 with h3 | ⟨s, t, j, e1, e2, e3⟩
            · exact hE h3
            · rw [hget] at e1
              cases e1
              exact hst3 t j e2 e3
        · rintro δ ⟨ds, hA, hmono, hdone, rfl⟩
          refine ⟨ds, hA, hmono, fun k hk hnr => ?_, rfl⟩
          obtain ⟨i', hi', e'⟩ := List.mem_iff_getElem.mp hk
          exact hdone i' k (by rw [List.length_map]; exact hi') (by rw [List.getElem?_eq_getElem hi', e']) hnr
      · rintro δ ⟨ds, hA, hmono, hnear, rfl⟩
        refine lss_drop 3 (lss_nil ⟨ds, hA, ?_, rfl⟩)
        by_cases hall : ∀ k ∈ live, (getM ds0 (k : Nat)).isSome = true
        · exact .inl fun k hk => hmono _ (hall k hk)
        · have hex : ∃ k ∈ live, (getM ds0 (k : Nat)).isSome = false := by
            apply Classical.byContradiction
            intro hne
            apply hall
            intro k hk
            cases e : (getM ds0 (k : Nat)).isSome with
            | true => rfl
            | false => exact absurd ⟨k, hk, e⟩ hne
          obtain ⟨k, h1, h2, h3⟩ := hv.near hex
          have hlt := filter_lt (P := fun (k : Nat) => (getM ds0 (k : Nat)).isSome) (Q := fun (k : Nat) => (getM ds (k : Nat)).isSome) (l := live) (fun x _ h => hmono _ h) ⟨k, h1, h2, hnear k h1 h3⟩
          rcases hc0 with hc0 | hc0
          · exact absurd hc0 hall
          · exact .inr (by omega)
    · rintro δ ⟨ds, hA, hc, rfl⟩
      refine ⟨ds, hA, ?_, rfl⟩
      rcases hc with hc | hc
      · exact hc
      · intro k hk
        cases e : (getM ds (k : Nat)).isSome with
        | true => rfl
        | false =>
          have hlt := filter_lt (P := fun (k : Nat) => (getM ds (k : Nat)).isSome) (Q := fun _ => true) (l := live) (fun _ _ _ => rfl) ⟨k, hk, e, rfl⟩
          rw [intsD_len] at hc
          rw [List.filter_eq_self.mpr (fun _ _ => rfl)] at hlt
          omega
  rintro δ ⟨ds, hA, hall, rfl⟩
  refine lss_cons (sx_set (EV.l 6 (i := 6) (nm := "moved") rfl rfl) hnd rfl (le_q lq_bool ⟨rfl, ?_⟩))
  refine lss_cons (ls_while (passes_of rfl) (fun m δ => ∃ ds, ∃ b : Bool, AOk p live ds ∧ (∀ k ∈ live, (getM ds (k : Nat)).isSome = true) ∧ m = 2 * total live ds + (if b = true then 1 else 0) ∧ δ = [.is (.d (.tuple (p.sts.map encState))), .is (.d (.list (live.map fun (k : Nat) => PyData.int (k : Int)))), .is (.m ds), .no, .no, .no, .is (.d (.bool b)), .no]) _ ⟨ds, true, hA, hall, rfl, rfl⟩ ?_)
  rintro m δ ⟨ds0, b, hA0, hall0, rfl, rfl⟩
  refine (LB.cast (q := b) (lb_truth (lq_v (EV.v 6 (i := 6) (nm := "moved") rfl rfl) rfl) rfl (by walk_at "len")) rfl).go ?_
  cases b with
  | false =>
    rw [if_neg Bool.false_ne_true]
    exact lss_one (ls_ret (le_move (EV.v 2 (i := 2) (nm := "ahead") rfl rfl) rfl ⟨[], ⟨ds0, rfl, hA0, hall0⟩, trivial⟩))
  | true =>
  rw [if_pos rfl]
  refine lss_cons (sx_set (EV.l 6 (i := 6) (nm := "moved") rfl rfl) hnd rfl (le_q lq_bool ⟨rfl, ?_⟩))
  refine lss_one (ls_for (passes_of rfl) rfl (li_list (le_q (lq_v (EV.v 1 (i := 1) (nm := "live") rfl rfl) rfl) ⟨_, .d, fun i δ => ∃ ds, ∃ b : Bool, AOk p live ds ∧ (∀ k ∈ live, (getM ds (k : Nat)).isSome = true) ∧ total live ds ≤ total live ds0 ∧ (b = true → total live ds < total live ds0) ∧ δ = [.is (.d (.tuple (p.sts.map encState))), .is (.d (.list (live.map fun (k : Nat) => PyData.int (k : Int)))), .is (.m ds), .no, .no, .no, .is (.d (.bool b)), .no], ⟨ds0, false, hA0, hall0, Nat.le_refl _, (fun h => nomatch h), rfl⟩, ?_, ?_⟩)))
  rotate_left
  · rintro δ ⟨ds, b, hA, hall, h1, h2, rfl⟩
    refine ⟨_, ?_, ds, b, hA, hall, rfl, rfl⟩
    cases b with
    | true =>
      have := h2 rfl
      simp only [if_true]
      omega
    | false =>
      simp only [if_true, Bool.false_eq_true, if_false]
      omega
  rintro i d δ hd ⟨ds, b, hA, hall, hT1, hT2, rfl⟩
  obtain ⟨k, hk, rfl⟩ := liveAt hd
  have hkl : k ∈ live := List.mem_of_getElem? hk
  have hk' : k < p.sts.length := hv.b.lt _ (hv.k _ hkl)
  have hlen := hA.len
  obtain ⟨dy, hy⟩ := Option.isSome_iff_exists.mp (hall k hkl)
  obtain ⟨_, y, _, rfl, _, hyo, hyl⟩ := hA.a _ _ hy
  have f1 : ixD (.tuple (p.sts.map encState)) (k : Nat) = some (encState p.sts[k]) := at_map (List.getElem?_eq_getElem hk')
  have wS := hw.st _ (List.getElem_mem hk')
  have mS := hs.st _ (List.getElem_mem hk')
  generalize p.sts[k] = st at *
  obtain ⟨en, row⟩ := st
  have f2 : ixD (encState (en, row)) 0 = some (encEnd en) := rfl
  have f3 : ixD (encState (en, row)) 1 = some (.tuple (row.map encStep)) := rfl
  have pre : ∀ {wd : Str}, wd.cps.toList <+: y.cps.toList → wd.length ≤ 200 ∧ Over p.S wd ∧ wd.length ≤ y.length := fun {wd} h => by
    have h1 : wd.cps.toList.length ≤ y.cps.toList.length := h.length_le
    rw [Array.length_toList, Array.length_toList] at h1
    have h2 : wd.length ≤ y.length := h1
    exact ⟨by omega, fun c hc => hyo c (h.subset hc), h2⟩
  refine gx_name (EV.l 4 (i := 4) (nm := "k") rfl rfl) hnd rfl rfl ?_
  refine lss_cons (sx_set (EV.l 7 (i := 7) (nm := "word") rfl rfl) hnd rfl (le_q (lx_dget hu (EV.v 2 (i := 2) (nm := "ahead") rfl rfl) rfl (j := (k : Nat)) (lq_v (EV.v 4 (i := 4) (nm := "k") rfl rfl) rfl) hy) ⟨rfl, ?_⟩))
  refine lss_mid (fun δ => ∃ wd : Str, wd.cps.toList <+: y.cps.toList ∧ δ = [.is (.d (.tuple (p.sts.map encState))), .is (.d (.list (live.map fun (k : Nat) => PyData.int (k : Int)))), .is (.m ds), .no, .is (.d (.int (k : Nat))), .no, .is (.d (.bool b)), .is (.d (.str wd))]) ?_ ?_
  · cases en with
    | none => exact ls_ifb (p := false) (LB.cast (lb_cmp (lq_ix (lq_ix (lq_v (EV.v 0 (i := 0) (nm := "states") rfl rfl) rfl) (lq_v (EV.v 4 (i := 4) (nm := "k") rfl rfl) rfl) (by walk_at "ix") (by walk_at "len")) lq_int (by walk_at "ix") (by walk_at "len")) lq_none (by walk_at "cmp")) rfl) (fun h => nomatch h) (fun _ => lss_nil ⟨y, List.prefix_refl _, rfl⟩)
    | some e =>
      have he := mS.e e rfl
      refine ls_ifb (p := true) (LB.cast (lb_cmp (lq_ix (lq_ix (lq_v (EV.v 0 (i := 0) (nm := "states") rfl rfl) rfl) (lq_v (EV.v 4 (i := 4) (nm := "k") rfl rfl) rfl) (by walk_at "ix") (by walk_at "len")) lq_int (by walk_at "ix") (by walk_at "len")) lq_none (by walk_at "cmp")) rfl) (fun _ => ?_) (fun h => nomatch h)
      refine lss_one (sx_set (EV.l 7 (i := 7) (nm := "word") rfl rfl) hnd rfl (ex_calQ (EV.g 2 (nm := "_law_common") rfl) (ok_common T) hr (by decide) (ds := [.str y, .str e]) (lqs_cons (lq_v (EV.v 7 (i := 7) (nm := "word") rfl rfl) rfl) (lqs_cons (lq_ix (lq_ix (lq_v (EV.v 0 (i := 0) (nm := "states") rfl rfl) rfl) (lq_v (EV.v 4 (i := 4) (nm := "k") rfl rfl) rfl) (by walk_at "ix") (by walk_at "len")) lq_int (by walk_at "ix") (by walk_at "len")) .nil)) (y, e) ⟨rfl, by show y.length ≤ 1000; omega, by show e.length ≤ 1000; omega⟩ (fun r ys h => ?_) (fun _ _ h => h.elim)))
      obtain ⟨wd, rfl, hwd⟩ := h
      exact ⟨rfl, wd, hwd, rfl⟩
  rintro δ ⟨wd, hwd, rfl⟩
  refine lss_mid (fun δ => ∃ wd : Str, wd.cps.toList <+: y.cps.toList ∧ δ = [.is (.d (.tuple (p.sts.map encState))), .is (.d (.list (live.map fun (k : Nat) => PyData.int (k : Int)))), .is (.m ds), .no, .is (.d (.int (k : Nat))), .no, .is (.d (.bool b)), .is (.d (.str wd))]) ?_ ?_
  · refine ls_for (passes_of rfl) rfl (li_tup (le_q (x := .tuple (row.map encStep)) (lq_ix (lq_ix (lq_v (EV.v 0 (i := 0) (nm := "states") rfl rfl) rfl) (lq_v (EV.v 4 (i := 4) (nm := "k") rfl rfl) rfl) (by walk_at "ix") (by walk_at "len")) lq_int (by walk_at "ix") (by walk_at "len")) ⟨_, rfl, fun _ δ => ∃ wd : Str, wd.cps.toList <+: y.cps.toList ∧ δ = [.is (.d (.tuple (p.sts.map encState))), .is (.d (.list (live.map fun (k : Nat) => PyData.int (k : Int)))), .is (.m ds), .no, .is (.d (.int (k : Nat))), .no, .is (.d (.bool b)), .is (.d (.str wd))], ⟨wd, hwd, rfl⟩, ?_, fun δ h => h⟩))
    rintro i3 d δ hd ⟨wd, hwd, rfl⟩
    obtain ⟨st, hst, rfl⟩ : ∃ st, row[i3]? = some st ∧ d = encStep st := by
      rw [List.getElem?_map] at hd
      cases h : row[i3]? with
      | none => rw [h] at hd; cases hd
      | some st => rw [h] at hd; cases hd; exact ⟨st, rfl, rfl⟩
    refine gx_name (EV.l 5 (i := 5) (nm := "step") rfl rfl) hnd rfl rfl ?_
    cases st with
    | none => exact lss_cons (ls_ifb (p := false) (lb_and_f (LB.cast (lb_cmp (lq_v (EV.v 5 (i := 5) (nm := "step") rfl rfl) rfl) lq_none (by walk_at "cmp")) rfl)) (fun h => nomatch h) (fun _ => lss_nil (lss_drop 5 (lss_nil ⟨wd, hwd, rfl⟩))))
    | some qq =>
      obtain ⟨t, j⟩ := qq
      have ht2 := mS.r t j (List.mem_of_getElem? hst)
      refine lss_cons (ls_ifb (p := (getM ds (j : Nat)).isSome) (LB.cast (LBw.lb (lbw_and (p := true) (LB.cast (lb_cmp (lq_v (EV.v 5 (i := 5) (nm := "step") rfl rfl) rfl) lq_none (by walk_at "cmp")) rfl) fun _ => lbw_and1 (lb_din hu (EV.v 2 (i := 2) (nm := "ahead") rfl rfl) rfl (j := (j : Nat)) (lq_ix (lq_v (EV.v 5 (i := 5) (nm := "step") rfl rfl) rfl) lq_int (by walk_at "ix") (by walk_at "len"))))) (by simp)) (fun hc => ?_) (fun hc => ?_))
      · obtain ⟨dz, hz⟩ := Option.isSome_iff_exists.mp hc
        obtain ⟨_, z, _, rfl, _, hzo, hzl⟩ := hA.a _ _ hz
        have hcat : (t ++ z : Str).length ≤ sizeLine := by rw [Str.length_append]; omega
        have hw200 := (pre hwd).1
        refine lss_one (sx_set (EV.l 7 (i := 7) (nm := "word") rfl rfl) hnd rfl (ex_calQ (EV.g 2 (nm := "_law_common") rfl) (ok_common T) hr (by decide) (ds := [.str wd, .str (t ++ z)]) (lqs_cons (lq_v (EV.v 7 (i := 7) (nm := "word") rfl rfl) rfl) (lqs_cons (lq_plus (x := .str t) (lq_ix (lq_v (EV.v 5 (i := 5) (nm := "step") rfl rfl) rfl) lq_int (by walk_at "ix") (by walk_at "len")) (lx_dget hu (EV.v 2 (i := 2) (nm := "ahead") rfl rfl) rfl (j := (j : Nat)) (lq_ix (lq_v (EV.v 5 (i := 5) (nm := "step") rfl rfl) rfl) lq_int (by walk_at "ix") (by walk_at "len")) hz) rfl (by walk_at "len")) .nil)) (wd, t ++ z) ⟨rfl, by show wd.length ≤ 1000; omega, by show (t ++ z : Str).length ≤ 1000; rw [Str.length_append]; omega⟩ (fun r ys h => ?_) (fun _ _ h => h.elim)))
        obtain ⟨wd2, rfl, hwd2⟩ := h
        exact ⟨rfl, lss_drop 5 (lss_nil ⟨wd2, hwd2.trans hwd, rfl⟩)⟩
      · exact lss_nil (lss_drop 5 (lss_nil ⟨wd, hwd, rfl⟩))
  rintro δ ⟨wd, hwd, rfl⟩
  refine lss_cons (ls_ifb (lb_cmp (lq_v (EV.v 7 (i := 7) (nm := "word") rfl rfl) rfl) (lx_dget hu (EV.v 2 (i := 2) (nm := "ahead") rfl rfl) rfl (j := (k : Nat)) (lq_v (EV.v 4 (i := 4) (nm := "k") rfl rfl) rfl) hy) c_neS) (fun hc => ?_) (fun hc => ?_))
  · have hne : wd ≠ y := by simpa using hc
    obtain ⟨_, hwo, hwl⟩ := pre hwd
    have hlt : wd.length < y.length := by
      rcases Nat.lt_or_ge wd.length y.length with h | h
      · exact h
      · exfalso
        apply hne
        have := hwd.eq_of_length_le (by rw [Array.length_toList, Array.length_toList]; exact h)
        cases wd
        cases y
        congr 1
        exact Array.toList_inj.mp this
    have htot := total_put hkl hy hlt
    have hsz : (putM ds (k : Nat) (.str wd)).length = ds.length := by rw [putM_len, if_pos (hall k hkl)]
    refine lss_cons (sx_dput hu (EV.v 2 (i := 2) (nm := "ahead") rfl rfl) (le_q (lq_v (EV.v 7 (i := 7) (nm := "word") rfl rfl) rfl) ⟨_, (k : Nat), ds, .d, rfl, small hA, (lq_v (EV.v 4 (i := 4) (nm := "k") rfl rfl) rfl), ?_⟩))
    refine lss_cons (sx_set (EV.l 6 (i := 6) (nm := "moved") rfl rfl) hnd rfl (le_q lq_bool ⟨rfl, ?_⟩))
    exact lss_nil (lss_drop 4 (lss_drop 7 (lss_nil ⟨putM ds (k : Nat) (.str wd), true, hA.put hkl hwo (by rw [hsz]; omega), fun j hj => getM_put_some (hall j hj), by omega, fun _ => by omega, rfl⟩)))
  · exact lss_nil (lss_drop 4 (lss_drop 7 (lss_nil ⟨ds, b, hA, hall, hT1, hT2, rfl⟩)))
end
end Z
set_option maxHeartbeats 4000000
namespace Z
open PySem PySem.Spec PyProof.Rows L2
local macro_rules | `(tactic| walk_at "len") => `(tactic| (intro zz hz; first | (cases hz; done) | (injection hz with hz; subst hz; first | assumption | (simp only [PySem.Str.length_append, Str.length] at *; simp [sizeLine] at *; omega))))
local macro_rules | `(tactic| walk_at "c") => `(tactic| first | rfl | assumption | decide | omega)
local macro_rules | `(tactic| walk_at "ix") => `(tactic| first | assumption | rfl)
local macro_rules | `(tactic| walk_at "mem") => `(tactic| assumption)
local macro_rules | `(tactic| walk_at "sz") => `(tactic| first | assumption | omega)
local macro_rules | `(tactic| walk_at "mul") => `(tactic| first | exact .inr ⟨by decide, by decide⟩ | exact .inl ⟨by decide, by decide⟩)
local macro_rules | `(tactic| walk_at "div") => `(tactic| first | exact ⟨by decide, by decide⟩ | exact ⟨by omega, by omega⟩)
local macro_rules | `(tactic| walk_at "cmp") => `(tactic| first | exact c_lt | exact c_le | exact c_gt | exact c_ge | exact c_eqI | exact c_neI | exact c_eqS | exact c_neS | exact c_eqB | exact c_isN | exact c_notN | exact c_inS | exact c_notInS)
def kEnd : Option Str → NestedKey
  | none => .none
  | some e => .text e
def kStep (kd : List (Int × PyData)) : PStep → NestedKey
  | none => .none
  | some (t, j) => .tup [.text t, .num (match getM kd (j : Nat) with | some (.int i) => i | _ => 0)]
theorem kEnd_d (e : Option Str) : nkD (kEnd e) = encEnd e := by cases e <;> rfl
theorem nkDs_map {α : Type} (f : α → NestedKey) : ∀ l : List α, nkDs (l.map f) = l.map fun x => nkD (f x)
  | [] => rfl
  | x :: l => by
    show nkD (f x) :: nkDs (l.map f) = _
    rw [nkDs_map f l]
    rfl
theorem depthAll_le {n : Nat} : ∀ {l : List NestedKey}, (∀ x ∈ l, x.depth ≤ n) → NestedKey.depthAll l ≤ n
  | [], _ => Nat.zero_le _
  | x :: l, h => by
    have h1 := h x (List.mem_cons_self ..)
    have h2 := depthAll_le (l := l) fun y hy => h y (List.mem_cons_of_mem _ hy)
    simp only [NestedKey.depthAll]
    omega
theorem kStep_depth (kd : List (Int × PyData)) (st : PStep) : (kStep kd st).depth ≤ 2 := by
  cases st with
  | none => simp [kStep, NestedKey.depth]
  | some q =>
    obtain ⟨t, j⟩ := q
    simp [kStep, NestedKey.depth, NestedKey.depthAll]
theorem key_depth (x : Int) (e : Option Str) (kd : List (Int × PyData)) (row : List PStep) : (NestedKey.tup [.num x, kEnd e, .tup (row.map (kStep kd))]).depth ≤ 8 := by
  have h := depthAll_le (n := 2) (l := row.map (kStep kd)) fun y hy => by
    obtain ⟨st, _, rfl⟩ := List.mem_map.mp hy
    exact kStep_depth kd st
  have h2 : (kEnd e).depth = 0 := by cases e <;> rfl
  simp only [NestedKey.depth, NestedKey.depthAll]
  omega
structure KinIn (live : List Nat) (es rs : List (Int × PyData)) : Prop where
  l : live.length ≤ 100
  e : ∀ k ∈ live, ∃ e : Option Str, getM es (k : Nat) = some (encEnd e)
  r : ∀ k ∈ live, ∃ row : List PStep, getM rs (k : Nat) = some (.list (row.map encStep)) ∧ row.length ≤ 5 ∧ ∀ t j, some (t, j) ∈ row → j ∈ live
def S_kin : Spec (List Nat × List (Int × PyData) × List (Int × PyData)) where
  pre γ xs := xs = [.d (.list (γ.1.map fun (k : Nat) => PyData.int (k : Int))), .m γ.2.1, .m γ.2.2] ∧ KinIn γ.1 γ.2.1 γ.2.2
  post γ r ys := ∃ ds, r = .m ds ∧ (∀ k ∈ γ.1, ∃ i : Int, getM ds (k : Nat) = some (.int i)) ∧ ys = [none, some (.m γ.2.1), some (.m γ.2.2)]
section
variable {P : Program} {w : World} {K : PySem.W.Frag} {mg : Str → Option Value} {base : Heap}
-- _law_kin: ['live', 'ends', 'rows', 'kin', 'k', 'classes', 'turn', 'marks', 'fresh', 'row', 'step']
theorem ok_kin (T : Tp K mg) : Cal P w K mg base 1 "_law_kin" ["live", "ends", "rows"] S_kin := by
  refine cal_of (k := 0) T (N := ["live", "ends", "rows", "kin", "k", "classes", "turn", "marks", "fresh", "row", "step"]) 50 50 rfl rfl (fun _ _ _ _ _ _ us hl => match us, hl with | [_, _, _], _ => rfl) [false, true, true] rfl (by decide +kernel) (fun γ xs h => ?_) ?_
  · first | exact congrArg List.length (show _ = _ from h) | exact congrArg List.length (show _ ∧ _ from h).1
  intro cdv A outer s H E γ vs xs hr hl hpre
  obtain ⟨v0, v1, v2, rfl⟩ : ∃ v0 v1 v2, vs = [v0, v1, v2] := by
    match vs, hl with
    | [a0, a1, a2], _ => exact ⟨a0, a1, a2, rfl⟩
  have hnd : (["live", "ends", "rows", "kin", "k", "classes", "turn", "marks", "fresh", "row", "step"] : List Str).Nodup := by decide +kernel
  obtain ⟨live, es, rs⟩ := γ
  obtain ⟨rfl, (hv : KinIn live es rs)⟩ := hpre
  dsimp only
  have EV : Ev (cxOf (L2.CX P w) P w K mg base ["live", "ends", "rows", "kin", "k", "classes", "turn", "marks", "fresh", "row", "step"] "_law_kin" (defScope (Hd.topS 68)) (He.ga K "_law_kin") cdv A outer s H E) ["live", "ends", "rows", "kin", "k", "classes", "turn", "marks", "fresh", "row", "step"] [0, 1, 2, 3, 4, 5, 6, 7, 8, 9] [0, 1, 2, 3, 4, 5, 6, 7, 8, 9] ["range", "len", "tuple"] := ⟨rfl, (by decide +kernel : evB (defScope (Hd.topS 68)) ["live", "ends", "rows", "kin", "k", "classes", "turn", "marks", "fresh", "row", "step"] [0, 1, 2, 3, 4, 5, 6, 7, 8, 9] [0, 1, 2, 3, 4, 5, 6, 7, 8, 9] ["range", "len", "tuple"] = true)⟩
  have hll := hv.l
  have hu := hr.units
  have big : (3000 : Nat) ≤ sizeLine := by simp [sizeLine]
  have liveAt : ∀ {i : Nat} {d : PyData}, (live.map fun (k : Nat) => PyData.int (k : Int))[i]? = some d → ∃ k, live[i]? = some k ∧ d = .int (k : Nat) := fun {i d} h => by
    rw [List.getElem?_map] at h
    cases e : live[i]? with
    | none => rw [e] at h; cases h
    | some k => rw [e] at h; cases h; exact ⟨k, rfl, rfl⟩
  have pass : ∀ {i k : Nat} {ds : List (Int × PyData)} {x : Int}, live[i]? = some k → (∀ i' k, i' < i → live[i']? = some k → ∃ x : Int, getM ds (k : Nat) = some (.int x)) → ∀ i' k', i' < i + 1 → live[i']? = some k' → ∃ y : Int, getM (putM ds (k : Nat) (.int x)) (k' : Nat) = some (.int y) := fun {i k ds x} hk h i' k' h1 h2 => by
    rw [getM_put]
    by_cases e : (k' : Int) = (k : Int)
    · rw [if_pos e]
      exact ⟨x, rfl⟩
    · rw [if_neg e]
      rcases Nat.lt_succ_iff_lt_or_eq.mp h1 with h' | h'
      · exact h i' k' h' h2
      · rw [h', hk] at h2
        cases h2
        exact absurd rfl e
  have all : ∀ {n : Nat} {ds : List (Int × PyData)}, n = (live.map fun (k : Nat) => PyData.int (k : Int)).length → (∀ i' k, i' < n → live[i']? = some k → ∃ x : Int, getM ds (k : Nat) = some (.int x)) → ∀ k ∈ live, ∃ x : Int, getM ds (k : Nat) = some (.int x) := fun {n ds} hn h k hk => by
    obtain ⟨i', hi', e'⟩ := List.mem_iff_getElem.mp hk
    exact h i' k (by rw [hn, List.length_map]; exact hi') (by rw [List.getElem?_eq_getElem hi', e'])
  have plen : ∀ {ds : List (Int × PyData)} {k : Int} {d : PyData} {n : Nat}, ds.length ≤ n → (putM ds k d).length ≤ n + 1 := fun {ds k d n} h => by
    rw [putM_len]
    split <;> omega
  refine lss_cons (sx_set (EV.l 3 (i := 3) (nm := "kin") rfl rfl) hnd rfl (le_dnew ⟨rfl, ?_⟩))
  refine lss_mid (fun δ => ∃ ds : List (Int × PyData), (∀ k ∈ live, ∃ x : Int, getM ds (k : Nat) = some (.int x)) ∧ δ = [.is (.d (.list (live.map fun (k : Nat) => PyData.int (k : Int)))), .lk v1 (.m es), .lk v2 (.m rs), .is (.m ds), .no, .no, .no, .no, .no, .no, .no]) ?_ ?_
  · refine ls_for (passes_of rfl) rfl (li_list (le_q (lq_v (EV.v 0 (i := 0) (nm := "live") rfl rfl) rfl) ⟨_, .d, fun i δ => ∃ ds : List (Int × PyData), ds.length ≤ i ∧ (∀ i' k, i' < i → live[i']? = some k → ∃ x : Int, getM ds (k : Nat) = some (.int x)) ∧ δ = [.is (.d (.list (live.map fun (k : Nat) => PyData.int (k : Int)))), .lk v1 (.m es), .lk v2 (.m rs), .is (.m ds), .no, .no, .no, .no, .no, .no, .no], ⟨[], Nat.le_refl _, fun i' k h => absurd h (Nat.not_lt_zero _), rfl⟩, ?_, ?_⟩))
    · rintro i d δ hd ⟨ds, hl, hdone, rfl⟩
      obtain ⟨k, hk, rfl⟩ := liveAt hd
      have hi : i < 100 := Nat.lt_of_lt_of_le (List.getElem?_eq_some_iff.mp hk).1 hll
      refine gx_name (EV.l 4 (i := 4) (nm := "k") rfl rfl) hnd rfl rfl ?_
      refine lss_cons (sx_dput hu (EV.v 3 (i := 3) (nm := "kin") rfl rfl) (le_q lq_int ⟨_, (k : Nat), ds, .d, rfl, by omega, (lq_v (EV.v 4 (i := 4) (nm := "k") rfl rfl) rfl), ?_⟩))
      exact lss_drop 4 (lss_nil ⟨_, plen hl, pass hk hdone, rfl⟩)
    · rintro δ ⟨ds, hl, hdone, rfl⟩
      exact ⟨ds, all rfl hdone, rfl⟩
  rintro δ ⟨ds, hds, rfl⟩
  refine lss_cons (sx_set (EV.l 5 (i := 5) (nm := "classes") rfl rfl) hnd rfl (le_q lq_int ⟨rfl, ?_⟩))
  refine lss_mid (fun δ => ∃ (ds : List (Int × PyData)) (cl : Int), (∀ k ∈ live, ∃ x : Int, getM ds (k : Nat) = some (.int x)) ∧ δ = [.is (.d (.list (live.map fun (k : Nat) => PyData.int (k : Int)))), .lk v1 (.m es), .lk v2 (.m rs), .is (.m ds), .no, .is (.d (.int cl)), .no, .no, .no, .no, .no]) ?_ ?_
  · refine ls_for (passes_of rfl) rfl (li_range1 (fr_range T) (ld_q (x := .int (live.length : Nat)) (lq_cast (lq_len (fr_len T) (lq_v (EV.v 0 (i := 0) (nm := "live") rfl rfl) rfl) (by walk_at "ix") (by walk_at "len") (EV.g 1 (nm := "len") rfl).g) (by rw [List.length_map])) (ld_nil ⟨_, rfl, by omega, by omega, fun i δ => ∃ (ds : List (Int × PyData)) (cl : Int), (∀ k ∈ live, ∃ x : Int, getM ds (k : Nat) = some (.int x)) ∧ δ = [.is (.d (.list (live.map fun (k : Nat) => PyData.int (k : Int)))), .lk v1 (.m es), .lk v2 (.m rs), .is (.m ds), .no, .is (.d (.int cl)), .no, .no, .no, .no, .no], ⟨ds, 0, hds, rfl⟩, ?_, ?_⟩)) (EV.g 0 (nm := "range") rfl).g)
    rotate_left
    · exact fun δ h => h
    rintro i d δ hd ⟨ds, cl, hds, rfl⟩
    obtain ⟨hi, rfl⟩ := intsD0_get hd
    refine gx_name (EV.l 6 (i := 6) (nm := "turn") rfl rfl) hnd rfl rfl ?_
    refine lss_cons (sx_set (EV.l 7 (i := 7) (nm := "marks") rfl rfl) hnd rfl (le_dnewN ⟨rfl, ?_⟩))
    refine lss_cons (sx_set (EV.l 8 (i := 8) (nm := "fresh") rfl rfl) hnd rfl (le_dnew ⟨rfl, ?_⟩))
    refine lss_mid (fun δ => ∃ (fs : List (Int × PyData)) (ns : List (NestedKey × Int)), (∀ k ∈ live, ∃ x : Int, getM fs (k : Nat) = some (.int x)) ∧ ns.length ≤ 100 ∧ δ = [.is (.d (.list (live.map fun (k : Nat) => PyData.int (k : Int)))), .lk v1 (.m es), .lk v2 (.m rs), .is (.m ds), .no, .is (.d (.int cl)), .is (.d (.int (i : Nat))), .is (.n ns), .is (.m fs), .no, .no]) ?_ ?_
    · refine ls_for (passes_of rfl) rfl (li_list (le_q (lq_v (EV.v 0 (i := 0) (nm := "live") rfl rfl) rfl) ⟨_, .d, fun i2 δ => ∃ (fs : List (Int × PyData)) (ns : List (NestedKey × Int)), fs.length ≤ i2 ∧ ns.length ≤ i2 ∧ (∀ i' k, i' < i2 → live[i']? = some k → ∃ x : Int, getM fs (k : Nat) = some (.int x)) ∧ δ = [.is (.d (.list (live.map fun (k : Nat) => PyData.int (k : Int)))), .lk v1 (.m es), .lk v2 (.m rs), .is (.m ds), .no, .is (.d (.int cl)), .is (.d (.int (i : Nat))), .is (.n ns), .is (.m fs), .no, .no], ⟨[], [], Nat.le_refl _, Nat.le_refl _, fun i' k h => absurd h (Nat.not_lt_zero _), rfl⟩, ?_, ?_⟩))
      · rintro i2 d δ hd ⟨fs, ns, hl1, hl2, hdone, rfl⟩
        obtain ⟨k, hk, rfl⟩ := liveAt hd
        have hi2 : i2 < 100 := Nat.lt_of_lt_of_le (List.getElem?_eq_some_iff.mp hk).1 hll
        have hkl : k ∈ live := List.mem_of_getElem? hk
        obtain ⟨x, hx⟩ := hds k hkl
        obtain ⟨e, he⟩ := hv.e k hkl
        obtain ⟨row, hrow, hrl, hrj⟩ := hv.r k hkl
        refine gx_name (EV.l 4 (i := 4) (nm := "k") rfl rfl) hnd rfl rfl ?_
        refine lss_as (δ' := [.is (.d (.list (live.map fun (k : Nat) => PyData.int (k : Int)))), .lk v1 (.m es), .lk v2 (.m rs), .is (.m ds), .is (.d (.int (k : Nat))), .is (.d (.int cl)), .is (.d (.int (i : Nat))), .is (.n ns), .is (.m fs), .no, .no]) rfl ?_
        refine lss_cons (sx_set (EV.l 9 (i := 9) (nm := "row") rfl rfl) hnd rfl (le_tupleL (fr_tuple T) (cx_map (N := ["live", "ends", "rows", "kin", "k", "classes", "turn", "marks", "fresh", "row", "step"]) (vs := [10, 3]) (ls := [10]) (gs := []) hnd rfl (show BlkOk ["live", "ends", "rows", "kin", "k", "classes", "turn", "marks", "fresh", "row", "step"] (defScope (Hd.topS 68)) _ [("step", 10)] from blkOk_by (by decide +kernel)) rfl (show evB (relS _ (defScope (Hd.topS 68))) _ _ _ _ = true by decide +kernel) 0 rfl rfl (show ownB _ (defScope (Hd.topS 68)) _ = true by decide +kernel) (fun d => match d with | .tuple [t, .int j] => .tuple [t, .int (match getM ds j with | some (.int i) => i | _ => 0)] | _ => .none) (li_list (le_q (x := .list (row.map encStep)) (lx_dget hu (EV.v 2 (i := 2) (nm := "rows") rfl rfl) rfl (j := (k : Nat)) (lq_v (EV.v 4 (i := 4) (nm := "k") rfl rfl) rfl) hrow) ⟨_, .d, by rw [List.length_map]; omega, rfl, ?_, ?_⟩))) (EV.g 2 (nm := "tuple") rfl).g))
        · intro d hd s H C cl' fp EB
          obtain ⟨st, hst, rfl⟩ := List.mem_map.mp hd
          cases st with
          | none =>
            refine le_if ((LB.cast (q := true) (lb_cmp (lq_v (EB.v 0 (i := 10) (nm := "step") rfl rfl) rfl) lq_none (by walk_at "cmp")) rfl).go ?_)
            rw [if_pos rfl]
            exact le_q lq_none ⟨rfl, rfl⟩
          | some q =>
            obtain ⟨t, j⟩ := q
            obtain ⟨y, hy⟩ := hds j (hrj t j hst)
            refine le_if ((LB.cast (q := false) (lb_cmp (lq_v (EB.v 0 (i := 10) (nm := "step") rfl rfl) rfl) lq_none (by walk_at "cmp")) rfl).go ?_)
            rw [if_neg Bool.false_ne_true]
            refine le_tup (ld_q (x := .str t) (lq_ix (lq_v (EB.v 0 (i := 10) (nm := "step") rfl rfl) rfl) lq_int (by walk_at "ix") (by walk_at "len")) (ld_q (x := .int y) (lx_dget hu (EB.v 1 (i := 3) (nm := "kin") rfl rfl) rfl (j := (j : Nat)) (lq_ix (lq_v (EB.v 0 (i := 10) (nm := "step") rfl rfl) rfl) lq_int (by walk_at "ix") (by walk_at "len")) hy) (ld_nil ⟨by simp [sizeLine], ?_, rfl⟩)))
            show LV.d _ = LV.d (.tuple [.str t, .int (match getM ds (j : Nat) with | some (.int i) => i | _ => 0)])
            rw [hy]
        · refine ⟨_, fz_map, rfl, ?_⟩
          have erow : (row.map encStep).map (fun d => match d with | .tuple [t, .int j] => PyData.tuple [t, .int (match getM ds j with | some (.int i) => i | _ => 0)] | _ => .none) = nkDs (row.map (kStep ds)) := by
            rw [nkDs_map, List.map_map]
            apply List.map_congr_left
            intro st _
            cases st with
            | none => rfl
            | some q => rfl
          rw [erow]
          refine lss_cons (sx_dput hu (EV.v 8 (i := 8) (nm := "fresh") rfl rfl) (ex_setdef hu (EV.v 7 (i := 7) (nm := "marks") rfl rfl) rfl (le_tup (ld_q (x := .int x) (lx_dget hu (EV.v 3 (i := 3) (nm := "kin") rfl rfl) rfl (j := (k : Nat)) (lq_v (EV.v 4 (i := 4) (nm := "k") rfl rfl) rfl) hx) (ld_q (x := encEnd e) (lx_dget hu (EV.v 1 (i := 1) (nm := "ends") rfl rfl) rfl (j := (k : Nat)) (lq_v (EV.v 4 (i := 4) (nm := "k") rfl rfl) rfl) he) (ld_q (lq_v (EV.v 9 (i := 9) (nm := "row") rfl rfl) rfl) (ld_nil ⟨by simp [sizeLine], [.num x, kEnd e, .tup (row.map (kStep ds))], _, ns, ?_, key_depth x e ds row, lx_nlen (EV.v 7 (i := 7) (nm := "marks") rfl rfl) (EV.g 1 (nm := "len") rfl) (fr_len T) rfl (by omega), rfl, by omega, fun r ns' hns => ?_⟩)))))))
          · show LV.d (.tuple [.int x, encEnd e, .tuple (nkDs (row.map (kStep ds)))]) = LV.d (.tuple [.int x, nkD (kEnd e), .tuple (nkDs (row.map (kStep ds)))])
            rw [kEnd_d]
          · refine ⟨_, (k : Nat), fs, .d, rfl, by omega, (lq_v (EV.v 4 (i := 4) (nm := "k") rfl rfl) rfl), ?_⟩
            exact lss_drop 4 (lss_drop 9 (lss_nil ⟨_, ns', plen hl1, by omega, pass hk hdone, rfl⟩))
      · rintro δ ⟨fs, ns, hl1, hl2, hdone, rfl⟩
        rw [List.length_map] at hl2
        exact ⟨fs, ns, all rfl hdone, by omega, rfl⟩
    rintro δ ⟨fs, ns, hfs, hns, rfl⟩
    refine lss_cons (sx_set (EV.l 3 (i := 3) (nm := "kin") rfl rfl) hnd rfl (le_move (EV.v 8 (i := 8) (nm := "fresh") rfl rfl) rfl ⟨rfl, ?_⟩))
    refine lss_cons (ls_ifb (lb_cmp (lx_nlen (EV.v 7 (i := 7) (nm := "marks") rfl rfl) (EV.g 1 (nm := "len") rfl) (fr_len T) rfl (by omega)) (lq_v (EV.v 5 (i := 5) (nm := "classes") rfl rfl) rfl) c_eqI) (fun _ => ?_) (fun _ => ?_))
    · exact lss_drop 6 (lss_drop 7 (lss_one (ls_break ⟨fs, cl, hfs, rfl⟩)))
    · refine lss_nil ?_
      refine lss_cons (sx_set (EV.l 5 (i := 5) (nm := "classes") rfl rfl) hnd rfl (le_q (lx_nlen (EV.v 7 (i := 7) (nm := "marks") rfl rfl) (EV.g 1 (nm := "len") rfl) (fr_len T) rfl (by omega)) ⟨rfl, ?_⟩))
      exact lss_drop 6 (lss_drop 7 (lss_nil ⟨fs, _, hfs, rfl⟩))
  rintro δ ⟨ds, cl, hds, rfl⟩
  exact lss_one (ls_ret (le_move (EV.v 3 (i := 3) (nm := "kin") rfl rfl) rfl ⟨[none, some (.m es), some (.m rs)], ⟨ds, rfl, hds, rfl⟩, ⟨rfl, rfl, trivial⟩⟩))
end
end Z
set_option maxHeartbeats 4000000
namespace Z
open PySem PySem.Spec PyProof.Rows L2
local macro_rules | `(tactic| walk_at "len") => `(tactic| (intro zz hz; first | (cases hz; done) | (injection hz with hz; subst hz; first | assumption | (simp only [PySem.Str.length_append, Str.length] at *; simp [sizeLine] at *; omega))))
local macro_rules | `(tactic| walk_at "c") => `(tactic| first | rfl | assumption | decide | omega)
local macro_rules | `(tactic| walk_at "ix") => `(tactic| first | assumption | rfl)
local macro_rules | `(tactic| walk_at "mem") => `(tactic| assumption)
local macro_rules | `(tactic| walk_at "sz") => `(tactic| first | assumption | omega)
local macro_rules | `(tactic| walk_at "mul") => `(tactic| first | exact .inr ⟨by decide, by decide⟩ | exact .inl ⟨by decide, by decide⟩)
local macro_rules | `(tactic| walk_at "div") => `(tactic| first | exact ⟨by decide, by decide⟩ | exact ⟨by omega, by omega⟩)
local macro_rules | `(tactic| walk_at "cmp") => `(tactic| first | exact c_lt | exact c_le | exact c_gt | exact c_ge | exact c_eqI | exact c_neI | exact c_eqS | exact c_neS | exact c_eqB | exact c_isN | exact c_notN | exact c_inS | exact c_notInS)
section
variable {X : Cx} {k v : Expr} {δ : LSt} {W : LW} {Q : LV → LSt → Prop} {pos : Pos} {i : Int} {d : PyData}
/-- {k: v} -/
theorem le_disp1 (hk : LQ X k δ (.int i)) (hv : LQ X v δ d) (q : Q (.m [(i, d)]) δ) : LE X (.Dict [some k] [v] pos) δ W Q :=
  le_of (pe_disp (pps_cons pe_tQ pe_tQ pps_nil) rfl rfl (by simp) (by simp)) fun F G σ H f S T p hp => by
    have nF := fresh_of S.fh hp
    have nG := fresh_of S.gh hp
    have S' : Sto (cx X) F G (upd H p (.dK [])) σ δ f := ⟨same_upd2 S.fh nF, same_upd2 S.gh nG, rpS_frame (Same.refl F) S.rp (fun a h => upd_ne fun e => by
      obtain ⟨o, eo⟩ := S.there a h
      rw [e, hp] at eo
      cases eo), S.off⟩
    refine ⟨F, G, δ, f, _, S', hk, fun u du => ⟨F, G, δ, f, _, S', hv, fun w dw => ⟨upd_same, [(.inl i, w)], by rw [dp_int du]; rfl, by simp, .m [(i, d)], δ, ?_, q⟩⟩⟩
    rw [upd_upd]
    exact S.new ⟨F, _, Same.refl F, fun _ _ h => .inl h, same_upd2 S.fh nF, same_new hp, .m (kvs := mergeK [] [(.inl i, w)]) upd_same (.cons dw .nil), fun b hb => hb ▸ ⟨hp, nF⟩⟩
end
theorem over_cut {S z : Str} (h : Over S z) (i j : Option Int) : Over S (cutS z i j) := fun c hc => by
  unfold cutS at hc
  exact h c (List.mem_of_mem_drop (List.mem_of_mem_take (by simpa using hc)))
structure EndOk (S : Str) (es : List (Int × PyData)) (k : Nat) : Prop where
  h : ∃ e : Option Str, getM es (k : Nat) = some (encEnd e) ∧ ∀ z, e = some z → Over S z ∧ z.length ≤ 100
structure RowOk (S : Str) (live : List Nat) (rs : List (Int × PyData)) (k : Nat) : Prop where
  h : ∃ row : List PStep, getM rs (k : Nat) = some (.list (row.map encStep)) ∧ row.length = S.length ∧ ∀ t j, some (t, j) ∈ row → Over S t ∧ t.length ≤ 100 ∧ j ∈ live
def S_least : Spec PPlain where
  pre γ xs := xs = [.d (encPlain γ)] ∧ WfP γ ∧ SmP γ ∧ γ.sts.length ≤ 20
  post γ r ys := ∃ p, r = .d (encPlain p) ∧ WfP p ∧ p.S = γ.S
section
variable {P : Program} {w : World} {K : PySem.W.Frag} {mg : Str → Option Value} {base : Heap}
-- _law_least: ['plain', 'signs', 'begin', 'states', 'live', 'ahead', 'ends', 'rows', 'k', 'cut', 'row', 'step', 'kin', 'heads', 'spots', 'made', 'head']
theorem ok_least (T : Tp K mg) : Cal P w K mg base 3 "_law_least" ["plain"] S_least := by
  refine cal_of (k := 2) T (N := ["plain", "signs", "begin", "states", "live", "ahead", "ends", "rows", "k", "cut", "row", "step", "kin", "heads", "spots", "made", "head"]) 51 51 rfl rfl (fun _ _ _ _ _ _ us hl => match us, hl with | [_], _ => rfl) [false] rfl (by decide +kernel) (fun γ xs h => ?_) ?_
  · first | exact congrArg List.length (show _ = _ from h) | exact congrArg List.length (show _ ∧ _ from h).1
  intro cdv A outer s H E γ vs xs hr hl hpre
  obtain ⟨v0, rfl⟩ : ∃ v0, vs = [v0] := by
    match vs, hl with
    | [a0], _ => exact ⟨a0, rfl⟩
  have hnd : (["plain", "signs", "begin", "states", "live", "ahead", "ends", "rows", "k", "cut", "row", "step", "kin", "heads", "spots", "made", "head"] : List Str).Nodup := by decide +kernel
  obtain ⟨rfl, (hw : WfP γ), (hs : SmP γ), (hn20 : γ.sts.length ≤ 20)⟩ := hpre
  have EV : Ev (cxOf (L2.CX P w) P w K mg base ["plain", "signs", "begin", "states", "live", "ahead", "ends", "rows", "k", "cut", "row", "step", "kin", "heads", "spots", "made", "head"] "_law_least" (defScope (Hd.topS 69)) (He.ga K "_law_least") cdv A outer s H E) ["plain", "signs", "begin", "states", "live", "ahead", "ends", "rows", "k", "cut", "row", "step", "kin", "heads", "spots", "made", "head"] [0, 1, 2, 3, 4, 5, 6, 7, 8, 9, 10, 11, 12, 13, 14, 15, 16] [0, 1, 2, 3, 4, 5, 6, 7, 8, 9, 10, 11, 12, 13, 14, 15, 16] ["_law_live", "_law_ahead", "len", "_law_kin", "tuple"] := ⟨rfl, (by decide +kernel : evB (defScope (Hd.topS 69)) ["plain", "signs", "begin", "states", "live", "ahead", "ends", "rows", "k", "cut", "row", "step", "kin", "heads", "spots", "made", "head"] [0, 1, 2, 3, 4, 5, 6, 7, 8, 9, 10, 11, 12, 13, 14, 15, 16] [0, 1, 2, 3, 4, 5, 6, 7, 8, 9, 10, 11, 12, 13, 14, 15, 16] ["_law_live", "_law_ahead", "len", "_law_kin", "tuple"] = true)⟩
  have hu := hr.units
  have big : (3000 : Nat) ≤ sizeLine := by simp [sizeLine]
  refine lss_cons (ls_asg (le_q (lq_v (EV.v 0 (i := 0) (nm := "plain") rfl rfl) rfl) (gx_tup3 rfl hnd (EV.l 1 (i := 1) (nm := "signs") rfl rfl) (EV.l 2 (i := 2) (nm := "begin") rfl rfl) (EV.l 3 (i := 3) (nm := "states") rfl rfl) rfl rfl rfl rfl rfl rfl ?_)))
  refine lss_cons (sx_set (EV.l 4 (i := 4) (nm := "live") rfl rfl) hnd rfl (le_frz (ex_calQ (EV.g 0 (nm := "_law_live") rfl) (ok_live T) hr (by decide) (lqs_cons (lq_v (EV.v 0 (i := 0) (nm := "plain") rfl rfl) rfl) .nil) γ ⟨rfl, hw⟩ (fun r ys h => ?_) (fun _ _ h => h.elim))))
  obtain ⟨live, keys, rfl, hvn, hvk, hvb, hvc, hv0⟩ := h
  refine ⟨_, natsL_fz live, rfl, ?_⟩
  have hlk : live.length ≤ keys.length := nodup_len hvn hvk
  have hkn := hvb.len
  have hlive : live.length ≤ 20 := by omega
  cases hl0 : live with
  | nil =>
    refine lss_cons (ls_ifb (p := true) (LB.cast (lb_not (lb_truth (lq_v (EV.v 4 (i := 4) (nm := "live") rfl rfl) rfl) rfl (by walk_at "len"))) rfl) (fun _ => ?_) (fun h => nomatch h))
    refine lss_one (ls_ret (le_tup (ld_q (lq_v (EV.v 1 (i := 1) (nm := "signs") rfl rfl) rfl) (ld_q lq_str (ld_cons (le_tup (ld_nil ⟨by simp [sizeLine], _, .d, ld_nil ⟨by simp [sizeLine], [], ⟨⟨γ.S, Str.ofString "", []⟩, rfl, ⟨hw.s, ⟨Over.empty, by show (Str.ofString "").length ≤ 100; decide +kernel⟩, by simp, fun _ => rfl, fun s h => (by cases h)⟩, rfl⟩, trivial⟩⟩)))))))
  | cons l0 lr =>
  rw [← hl0]
  have h0l : 0 ∈ live := List.mem_of_getElem? (hv0 (by rw [hl0]; simp))
  refine lss_cons (ls_ifb (p := false) (LB.cast (lb_not (lb_truth (lq_v (EV.v 4 (i := 4) (nm := "live") rfl rfl) rfl) rfl (by walk_at "len"))) (by rw [hl0]; rfl)) (fun h => nomatch h) (fun _ => lss_nil ?_))
  have hvl : LiveOk γ live keys := ⟨hvn, hvk, hvb, hvc, by omega⟩
  refine lss_cons (sx_set (EV.l 5 (i := 5) (nm := "ahead") rfl rfl) hnd rfl (ex_calQ (EV.g 1 (nm := "_law_ahead") rfl) (ok_ahead T) hr (by decide) (lqs_cons (lq_v (EV.v 3 (i := 3) (nm := "states") rfl rfl) rfl) (lqs_cons (lq_v (EV.v 4 (i := 4) (nm := "live") rfl rfl) rfl) .nil)) (γ, live, keys) ⟨rfl, hw, hs, hvl⟩ (fun r ys h => ?_) (fun _ _ h => h.elim)))
  obtain ⟨ds, rfl, hA, hall⟩ := h
  refine ⟨rfl, ?_⟩
  have hA : AOk γ live ds := hA
  have hall : ∀ k ∈ live, (getM ds (k : Nat)).isSome = true := hall
  have hAl := hA.len
  have txt : ∀ k ∈ live, ∃ z, getM ds (k : Nat) = some (.str z) ∧ Over γ.S z ∧ z.length ≤ 40 := fun k hk => by
    obtain ⟨d, hd⟩ := Option.isSome_iff_exists.mp (hall k hk)
    obtain ⟨_, z, _, rfl, _, ho, hz⟩ := hA.a _ _ hd
    exact ⟨z, hd, ho, by omega⟩
  refine lss_cons (sx_set (EV.l 6 (i := 6) (nm := "ends") rfl rfl) hnd rfl (le_dnew ⟨rfl, ?_⟩))
  refine lss_cons (sx_set (EV.l 7 (i := 7) (nm := "rows") rfl rfl) hnd rfl (le_dnew ⟨rfl, ?_⟩))
  have liveAt : ∀ {i : Nat} {d : PyData}, (live.map fun (k : Nat) => PyData.int (k : Int))[i]? = some d → ∃ k, live[i]? = some k ∧ d = .int (k : Nat) := fun {i d} h => by
    rw [List.getElem?_map] at h
    cases e : live[i]? with
    | none => rw [e] at h; cases h
    | some k => rw [e] at h; cases h; exact ⟨k, rfl, rfl⟩
  refine lss_as (δ' := [.is (.d (encPlain γ)), .is (.d (.str γ.S)), .is (.d (.str γ.b)), .is (.d (.tuple (γ.sts.map encState))), .is (.d (.list (live.map fun (k : Nat) => PyData.int (k : Int)))), .is (.m ds), .is (.m []), .is (.m []), .no, .no, .no, .no, .no, .no, .no, .no, .no]) rfl ?_
  refine lss_mid (fun δ => ∃ es rs : List (Int × PyData), (∀ k ∈ live, EndOk γ.S es k ∧ RowOk γ.S live rs k) ∧ δ = [.is (.d (encPlain γ)), .is (.d (.str γ.S)), .is (.d (.str γ.b)), .is (.d (.tuple (γ.sts.map encState))), .is (.d (.list (live.map fun (k : Nat) => PyData.int (k : Int)))), .is (.m ds), .is (.m es), .is (.m rs), .no, .no, .no, .no, .no, .no, .no, .no, .no]) ?_ ?_
  · refine ls_for (passes_of rfl) rfl (li_list (le_q (lq_v (EV.v 4 (i := 4) (nm := "live") rfl rfl) rfl) ⟨_, .d, fun i δ => ∃ es rs : List (Int × PyData), es.length ≤ i ∧ rs.length ≤ i ∧ (∀ i' k, i' < i → live[i']? = some k → EndOk γ.S es k ∧ RowOk γ.S live rs k) ∧ δ = [.is (.d (encPlain γ)), .is (.d (.str γ.S)), .is (.d (.str γ.b)), .is (.d (.tuple (γ.sts.map encState))), .is (.d (.list (live.map fun (k : Nat) => PyData.int (k : Int)))), .is (.m ds), .is (.m es), .is (.m rs), .no, .no, .no, .no, .no, .no, .no, .no, .no], ⟨[], [], Nat.le_refl _, Nat.le_refl _, fun i' k h => absurd h (Nat.not_lt_zero _), rfl⟩, ?_, ?_⟩))
    rotate_left
    · rintro δ ⟨es, rs, hl1, hl2, hdone, rfl⟩
      refine ⟨es, rs, fun k hk => ?_, rfl⟩
      obtain ⟨i', hi', e'⟩ := List.mem_iff_getElem.mp hk
      exact hdone i' k (by rw [List.length_map]; exact hi') (by rw [List.getElem?_eq_getElem hi', e'])
    rintro i d δ hd ⟨es, rs, hl1, hl2, hdone, rfl⟩
    obtain ⟨k, hk, rfl⟩ := liveAt hd
    have hi : i < 20 := Nat.lt_of_lt_of_le (List.getElem?_eq_some_iff.mp hk).1 hlive
    have hkl : k ∈ live := List.mem_of_getElem? hk
    have hk' : k < γ.sts.length := hvb.lt _ (hvk _ hkl)
    have f1 : ixD (.tuple (γ.sts.map encState)) (k : Nat) = some (encState γ.sts[k]) := at_map (List.getElem?_eq_getElem hk')
    have wS := hw.st _ (List.getElem_mem hk')
    have mS := hs.st _ (List.getElem_mem hk')
    generalize γ.sts[k] = st at *
    obtain ⟨en, row0⟩ := st
    have f2 : ixD (encState (en, row0)) 0 = some (encEnd en) := rfl
    have f3 : ixD (encState (en, row0)) 1 = some (.tuple (row0.map encStep)) := rfl
    obtain ⟨z, hz, hzo, hzl⟩ := txt k hkl
    have hzs : z.length ≤ sizeLine := by omega
    have hrl0 : row0.length = γ.S.length := wS.l
    have hS5 := (signs5 hw.s).2
    refine gx_name (EV.l 8 (i := 8) (nm := "k") rfl rfl) hnd rfl rfl ?_
    refine lss_cons (sx_set (EV.l 9 (i := 9) (nm := "cut") rfl rfl) hnd rfl (le_q (lq_len (fr_len T) (lx_dget hu (EV.v 5 (i := 5) (nm := "ahead") rfl rfl) rfl (j := (k : Nat)) (lq_v (EV.v 8 (i := 8) (nm := "k") rfl rfl) rfl) hz) rfl (by walk_at "len") (EV.g 2 (nm := "len") rfl).g) ⟨rfl, ?_⟩))
    generalize z.length = ct
    refine lss_as (δ' := [.is (.d (encPlain γ)), .is (.d (.str γ.S)), .is (.d (.str γ.b)), .is (.d (.tuple (γ.sts.map encState))), .is (.d (.list (live.map fun (k : Nat) => PyData.int (k : Int)))), .is (.m ds), .is (.m es), .is (.m rs), .is (.d (.int (k : Nat))), .is (.d (.int (ct : Nat))), .no, .no, .no, .no, .no, .no, .no]) rfl ?_
    refine lss_cons (sx_dput hu (EV.v 6 (i := 6) (nm := "ends") rfl rfl) (LE.imp (Q := fun x δ1 => ∃ e : Option Str, x = .d (encEnd e) ∧ (∀ z, e = some z → Over γ.S z ∧ z.length ≤ 100) ∧ δ1 = [.is (.d (encPlain γ)), .is (.d (.str γ.S)), .is (.d (.str γ.b)), .is (.d (.tuple (γ.sts.map encState))), .is (.d (.list (live.map fun (k : Nat) => PyData.int (k : Int)))), .is (.m ds), .is (.m es), .is (.m rs), .is (.d (.int (k : Nat))), .is (.d (.int (ct : Nat))), .no, .no, .no, .no, .no, .no, .no]) ?_ ?_))
    · cases en with
      | none =>
        refine le_if ((LB.cast (q := true) (lb_cmp (lq_ix (lq_ix (lq_v (EV.v 3 (i := 3) (nm := "states") rfl rfl) rfl) (lq_v (EV.v 8 (i := 8) (nm := "k") rfl rfl) rfl) (by walk_at "ix") (by walk_at "len")) lq_int (by walk_at "ix") (by walk_at "len")) lq_none (by walk_at "cmp")) rfl).go ?_)
        rw [if_pos rfl]
        exact le_q lq_none ⟨none, rfl, fun z h => (nomatch h), rfl⟩
      | some e =>
        have he := mS.e e rfl
        have hes : e.length ≤ sizeLine := by omega
        refine le_if ((LB.cast (q := false) (lb_cmp (lq_ix (lq_ix (lq_v (EV.v 3 (i := 3) (nm := "states") rfl rfl) rfl) (lq_v (EV.v 8 (i := 8) (nm := "k") rfl rfl) rfl) (by walk_at "ix") (by walk_at "len")) lq_int (by walk_at "ix") (by walk_at "len")) lq_none (by walk_at "cmp")) rfl).go ?_)
        rw [if_neg Bool.false_ne_true]
        refine le_q (lq_sliceS (z := e) (lq_ix (lq_ix (lq_v (EV.v 3 (i := 3) (nm := "states") rfl rfl) rfl) (lq_v (EV.v 8 (i := 8) (nm := "k") rfl rfl) rfl) (by walk_at "ix") (by walk_at "len")) lq_int (by walk_at "ix") (by walk_at "len")) (lo_some (lq_v (EV.v 9 (i := 9) (nm := "cut") rfl rfl) rfl)) lo_none hes) ⟨some _, rfl, fun z h => ?_, rfl⟩
        cases h
        have := cutS_length e (some (ct : Nat)) none
        exact ⟨over_cut (wS.e e rfl).1 _ _, by omega⟩
    rintro x δ1 ⟨e, rfl, heok, rfl⟩
    refine ⟨_, (k : Nat), es, .d, rfl, by omega, (lq_v (EV.v 8 (i := 8) (nm := "k") rfl rfl) rfl), ?_⟩
    have hes2 : (putM es (k : Nat) (encEnd e)).length ≤ i + 1 := by
      rw [putM_len]
      split <;> omega
    have hE2 : ∀ i' k', i' < i + 1 → live[i']? = some k' → EndOk γ.S (putM es (k : Nat) (encEnd e)) k' := fun i' k' h1 h2 => by
      refine ⟨?_⟩
      rw [getM_put]
      by_cases e1 : (k' : Int) = (k : Int)
      · rw [if_pos e1]
        exact ⟨e, rfl, heok⟩
      · rw [if_neg e1]
        rcases Nat.lt_succ_iff_lt_or_eq.mp h1 with h' | h'
        · exact (hdone i' k' h' h2).1.h
        · rw [h', hk] at h2
          cases h2
          exact absurd rfl e1
    generalize putM es (k : Nat) (encEnd e) = es2 at hes2 hE2
    refine lss_cons (sx_set (EV.l 10 (i := 10) (nm := "row") rfl rfl) hnd rfl (le_lst (ld_nil ⟨by simp [sizeLine], rfl, ?_⟩)))
    refine lss_mid (fun δ => ∃ row : List PStep, row.length = γ.S.length ∧ (∀ t j, some (t, j) ∈ row → Over γ.S t ∧ t.length ≤ 100 ∧ j ∈ live) ∧ δ = [.is (.d (encPlain γ)), .is (.d (.str γ.S)), .is (.d (.str γ.b)), .is (.d (.tuple (γ.sts.map encState))), .is (.d (.list (live.map fun (k : Nat) => PyData.int (k : Int)))), .is (.m ds), .is (.m es2), .is (.m rs), .is (.d (.int (k : Nat))), .is (.d (.int (ct : Nat))), .is (.l (row.map fun s => LV.d (encStep s))), .no, .no, .no, .no, .no, .no]) ?_ ?_
    · refine ls_for (passes_of rfl) rfl (li_tup (le_q (x := .tuple (row0.map encStep)) (lq_ix (lq_ix (lq_v (EV.v 3 (i := 3) (nm := "states") rfl rfl) rfl) (lq_v (EV.v 8 (i := 8) (nm := "k") rfl rfl) rfl) (by walk_at "ix") (by walk_at "len")) lq_int (by walk_at "ix") (by walk_at "len")) ⟨_, rfl, fun i3 δ => ∃ row : List PStep, row.length = i3 ∧ (∀ t j, some (t, j) ∈ row → Over γ.S t ∧ t.length ≤ 100 ∧ j ∈ live) ∧ δ = [.is (.d (encPlain γ)), .is (.d (.str γ.S)), .is (.d (.str γ.b)), .is (.d (.tuple (γ.sts.map encState))), .is (.d (.list (live.map fun (k : Nat) => PyData.int (k : Int)))), .is (.m ds), .is (.m es2), .is (.m rs), .is (.d (.int (k : Nat))), .is (.d (.int (ct : Nat))), .is (.l (row.map fun s => LV.d (encStep s))), .no, .no, .no, .no, .no, .no], ⟨[], rfl, fun t j h => (by cases h), rfl⟩, ?_, ?_⟩))
      · rintro i3 d δ hd ⟨row, hrl, hrow, rfl⟩
        obtain ⟨st, hst, rfl⟩ : ∃ st, row0[i3]? = some st ∧ d = encStep st := by
          rw [List.getElem?_map] at hd
          cases h : row0[i3]? with
          | none => rw [h] at hd; cases hd
          | some st => rw [h] at hd; cases hd; exact ⟨st, rfl, rfl⟩
        have hi3 : i3 < 5 := Nat.lt_of_lt_of_le (List.getElem?_eq_some_iff.mp hst).1 (by omega)
        have hrz : (row.map fun s => LV.d (encStep s)).length < sizeLine := by rw [List.length_map]; omega
        have none_ok : ∀ t j, some (t, j) ∈ row ++ [none] → Over γ.S t ∧ t.length ≤ 100 ∧ j ∈ live := fun t j h => by
          rcases List.mem_append.mp h with h | h
          · exact hrow t j h
          · simp at h
        refine gx_name (EV.l 11 (i := 11) (nm := "step") rfl rfl) hnd rfl rfl ?_
        cases st with
        | none =>
          refine lss_cons (ls_ifb (p := true) (lb_or_t (LB.cast (lb_cmp (lq_v (EV.v 11 (i := 11) (nm := "step") rfl rfl) rfl) lq_none (by walk_at "cmp")) rfl)) (fun _ => ?_) (fun h => nomatch h))
          exact lss_one (ls_expr (ex_append (EV.v 10 (i := 10) (nm := "row") rfl rfl) (le_q lq_none ⟨_, rfl, hrz, lss_drop 11 (lss_nil ⟨row ++ [none], by rw [List.length_append, hrl]; rfl, none_ok, by rw [List.map_append]; rfl⟩)⟩) ⟨_, rfl⟩))
        | some qq =>
          obtain ⟨t, j⟩ := qq
          have hmem : some (t, j) ∈ row0 := List.mem_of_getElem? hst
          have ht2 := mS.r t j hmem
          refine lss_cons (ls_ifb (p := !(getM ds (j : Nat)).isSome) (LB.cast (LBw.lb (lbw_or (p := false) (LB.cast (lb_cmp (lq_v (EV.v 11 (i := 11) (nm := "step") rfl rfl) rfl) lq_none (by walk_at "cmp")) rfl) fun _ => lbw_or1 (lb_dnotin hu (EV.v 5 (i := 5) (nm := "ahead") rfl rfl) rfl (j := (j : Nat)) (lq_ix (lq_v (EV.v 11 (i := 11) (nm := "step") rfl rfl) rfl) lq_int (by walk_at "ix") (by walk_at "len"))))) (by simp)) (fun _ => ?_) (fun hc => ?_))
          · exact lss_one (ls_expr (ex_append (EV.v 10 (i := 10) (nm := "row") rfl rfl) (le_q lq_none ⟨_, rfl, hrz, lss_drop 11 (lss_nil ⟨row ++ [none], by rw [List.length_append, hrl]; rfl, none_ok, by rw [List.map_append]; rfl⟩)⟩) ⟨_, rfl⟩))
          · have hc' : (getM ds (j : Nat)).isSome = true := by simpa using hc
            obtain ⟨dz, hdz⟩ := Option.isSome_iff_exists.mp hc'
            obtain ⟨j', y, ej, rfl, hjl, hyo, hyl⟩ := hA.a _ _ hdz
            have ej' : j' = j := by omega
            subst ej'
            have hcat : (t ++ y : Str).length ≤ sizeLine := by rw [Str.length_append]; omega
            have hcl := cutS_length (t ++ y) (some (ct : Nat)) none
            rw [Str.length_append] at hcl
            refine lss_one (ls_expr (ex_append (EV.v 10 (i := 10) (nm := "row") rfl rfl) (le_tup (ld_q (lq_sliceS (z := t ++ y) (lq_plus (x := .str t) (lq_ix (lq_v (EV.v 11 (i := 11) (nm := "step") rfl rfl) rfl) lq_int (by walk_at "ix") (by walk_at "len")) (lx_dget hu (EV.v 5 (i := 5) (nm := "ahead") rfl rfl) rfl (j := (j' : Nat)) (lq_ix (lq_v (EV.v 11 (i := 11) (nm := "step") rfl rfl) rfl) lq_int (by walk_at "ix") (by walk_at "len")) hdz) rfl (by walk_at "len")) (lo_some (lq_v (EV.v 9 (i := 9) (nm := "cut") rfl rfl) rfl)) lo_none hcat) (ld_q (x := .int (j' : Nat)) (lq_ix (lq_v (EV.v 11 (i := 11) (nm := "step") rfl rfl) rfl) lq_int (by walk_at "ix") (by walk_at "len")) (ld_nil ⟨by simp [sizeLine], _, rfl, hrz, lss_drop 11 (lss_nil ⟨row ++ [some (cutS (t ++ y) (some (ct : Nat)) none, j')], by rw [List.length_append, hrl]; rfl, fun t2 j2 h => ?_, by rw [List.map_append]; rfl⟩)⟩)))) ⟨_, rfl⟩))
            rcases List.mem_append.mp h with h | h
            · exact hrow t2 j2 h
            · rw [List.mem_singleton] at h
              cases h
              exact ⟨over_cut ((wS.r t j' hmem).1.cat hyo) _ _, by omega, hjl⟩
      · rintro δ ⟨row, hrl, hrow, rfl⟩
        rw [List.length_map, hrl0] at hrl
        exact ⟨row, hrl, hrow, rfl⟩
    rintro δ ⟨row, hrl, hrow, rfl⟩
    have fzr : Fz (.l (row.map fun s => LV.d (encStep s))) (.list (row.map encStep)) := by
      have : (row.map fun s => LV.d (encStep s)) = (row.map encStep).map LV.d := by rw [List.map_map]; rfl
      rw [this]
      exact fz_map
    refine lss_cons (sx_dput hu (EV.v 7 (i := 7) (nm := "rows") rfl rfl) (le_frzAt (i := 10) (d := .list (row.map encStep)) rfl fzr (le_q (x := .list (row.map encStep)) (lq_v (EV.v 10 (i := 10) (nm := "row") rfl rfl) rfl) ⟨_, (k : Nat), rs, .d, rfl, by omega, (lq_v (EV.v 8 (i := 8) (nm := "k") rfl rfl) rfl), ?_⟩)))
    refine lss_drop 8 (lss_drop 9 (lss_drop 10 (lss_nil ⟨es2, _, hes2, ?_, fun i' k' h1 h2 => ⟨hE2 i' k' h1 h2, ⟨?_⟩⟩, rfl⟩)))
    · rw [putM_len]
      split <;> omega
    · rw [getM_put]
      by_cases e1 : (k' : Int) = (k : Int)
      · rw [if_pos e1]
        exact ⟨row, rfl, hrl, hrow⟩
      · rw [if_neg e1]
        rcases Nat.lt_succ_iff_lt_or_eq.mp h1 with h' | h'
        · exact (hdone i' k' h' h2).2.h
        · rw [h', hk] at h2
          cases h2
          exact absurd rfl e1
  rintro δ ⟨es, rs, hER, rfl⟩
  have hKI : KinIn live es rs := ⟨by omega, fun k hk => let ⟨e, h, _⟩ := (hER k hk).1.h; ⟨e, h⟩, fun k hk => let ⟨row, h1, h2, h3⟩ := (hER k hk).2.h; ⟨row, h1, by have := (signs5 hw.s).2; omega, fun t j h => (h3 t j h).2.2⟩⟩
  refine lss_cons (sx_set (EV.l 12 (i := 12) (nm := "kin") rfl rfl) hnd rfl (ex_cal (EV.g 3 (nm := "_law_kin") rfl) (ok_kin T) hr (by decide) (la_q (lq_v (EV.v 4 (i := 4) (nm := "live") rfl rfl) rfl) (ax_bor (EV.v 6 (i := 6) (nm := "ends") rfl rfl) rfl (ax_bor (EV.v 7 (i := 7) (nm := "rows") rfl rfl) rfl (la_nil ⟨(live, es, rs), _, rfl, ⟨rfl, hKI⟩, fun r ys h => ?_, fun _ _ h => h.elim⟩))))))
  obtain ⟨kd, rfl, hkd, rfl⟩ := h
  refine ⟨rfl, ?_⟩
  have hkd : ∀ k ∈ live, ∃ i : Int, getM kd (k : Nat) = some (.int i) := hkd
  obtain ⟨kv, hkv⟩ : ∃ kv : Nat → Int, ∀ k ∈ live, getM kd (k : Nat) = some (.int (kv k)) := by
    refine ⟨fun k => match getM kd (k : Nat) with | some (.int i) => i | _ => 0, fun k hk => ?_⟩
    obtain ⟨i, hi⟩ := hkd k hk
    dsimp only
    rw [hi]
  obtain ⟨R, hR⟩ : ∃ R : Nat → List PStep, ∀ k ∈ live, getM rs (k : Nat) = some (.list ((R k).map encStep)) ∧ (R k).length = γ.S.length ∧ ∀ t j, some (t, j) ∈ R k → Over γ.S t ∧ t.length ≤ 100 ∧ j ∈ live := by
    classical
    refine ⟨fun k => if h : k ∈ live then Classical.choose (hER k h).2.h else [], fun k hk => ?_⟩
    dsimp only
    rw [dif_pos hk]
    exact Classical.choose_spec (hER k hk).2.h
  refine lss_as (δ' := [.is (.d (encPlain γ)), .is (.d (.str γ.S)), .is (.d (.str γ.b)), .is (.d (.tuple (γ.sts.map encState))), .is (.d (.list (live.map fun (k : Nat) => PyData.int (k : Int)))), .is (.m ds), .is (.m es), .is (.m rs), .no, .no, .no, .no, .is (.m kd), .no, .no, .no, .no]) rfl ?_
  refine lss_cons (sx_set (EV.l 13 (i := 13) (nm := "heads") rfl rfl) hnd rfl (le_lst (ld_q lq_int (ld_nil ⟨by simp [sizeLine], rfl, ?_⟩))))
  refine lss_cons (sx_set (EV.l 14 (i := 14) (nm := "spots") rfl rfl) hnd rfl (le_disp1 (lx_dget hu (EV.v 12 (i := 12) (nm := "kin") rfl rfl) rfl (j := ((0 : Nat) : Int)) lq_int (hkv 0 h0l)) lq_int ⟨rfl, ?_⟩))
  refine lss_cons (sx_set (EV.l 8 (i := 8) (nm := "k") rfl rfl) hnd rfl (le_q lq_int ⟨rfl, ?_⟩))
  have splen : ∀ {sp : List (Int × PyData)}, (sp.map (·.1)).Nodup → (∀ j d, getM sp j = some d → ∃ q ∈ live, j = kv q) → sp.length ≤ 20 := fun {sp} h1 h2 => by
    have := nodup_len (m := live.map kv) h1 fun j hj => by
      obtain ⟨d, hd⟩ := getM_mem hj
      obtain ⟨q, hq, e⟩ := h2 j d hd
      exact List.mem_map.mpr ⟨q, hq, e.symm⟩
    rw [List.length_map, List.length_map] at this
    omega
  refine lss_mid (fun δ => ∃ (hd : List Nat) (sp : List (Int × PyData)), hd.length ≤ 20 ∧ hd[0]? = some 0 ∧ (∀ q ∈ hd, q ∈ live) ∧ (∀ j d, getM sp j = some d → ∃ n : Nat, d = .int (n : Nat) ∧ n < hd.length) ∧ (∀ q ∈ hd, ∀ t j, some (t, j) ∈ R q → (getM sp (kv j)).isSome = true) ∧ ∃ k : Nat, δ = [.is (.d (encPlain γ)), .is (.d (.str γ.S)), .is (.d (.str γ.b)), .is (.d (.tuple (γ.sts.map encState))), .is (.d (.list (live.map fun (k : Nat) => PyData.int (k : Int)))), .is (.m ds), .is (.m es), .is (.m rs), .is (.d (.int (k : Nat))), .no, .no, .no, .is (.m kd), .is (.l (natsL hd)), .is (.m sp), .no, .no]) ?_ ?_
  · refine ls_while (passes_of rfl) (fun m δ => ∃ (hd : List Nat) (sp : List (Int × PyData)) (k : Nat), k ≤ hd.length ∧ m = 20 - k ∧ hd.length = sp.length ∧ hd[0]? = some 0 ∧ (∀ q ∈ hd, q ∈ live) ∧ (sp.map (·.1)).Nodup ∧ (∀ j d, getM sp j = some d → (∃ q ∈ live, j = kv q) ∧ ∃ n : Nat, d = .int (n : Nat) ∧ n < hd.length) ∧ (∀ i q, i < k → hd[i]? = some q → ∀ t j, some (t, j) ∈ R q → (getM sp (kv j)).isSome = true) ∧ δ = [.is (.d (encPlain γ)), .is (.d (.str γ.S)), .is (.d (.str γ.b)), .is (.d (.tuple (γ.sts.map encState))), .is (.d (.list (live.map fun (k : Nat) => PyData.int (k : Int)))), .is (.m ds), .is (.m es), .is (.m rs), .is (.d (.int (k : Nat))), .no, .no, .no, .is (.m kd), .is (.l (natsL hd)), .is (.m sp), .no, .no]) 20 ⟨[0], [(kv 0, .int (0 : Nat))], 0, by simp, rfl, rfl, rfl, ?_, by simp, ?_, fun i q h => absurd h (Nat.not_lt_zero _), rfl⟩ ?_
    · intro q hq
      rw [List.mem_singleton] at hq
      rw [hq]
      exact h0l
    · intro j d hj
      rw [getM_cons] at hj
      by_cases e : kv 0 = j
      · rw [if_pos e] at hj
        cases hj
        exact ⟨⟨0, h0l, e.symm⟩, 0, rfl, by simp⟩
      · rw [if_neg e] at hj
        cases hj
    rintro m δ ⟨hd, sp, k, hk, rfl, hsl, hd0, hdv, hspn, hsp, hcl, rfl⟩
    have hs20 := splen hspn fun j d h => (hsp j d h).1
    have nl : ((natsL hd).length : Int) = (hd.length : Int) := by unfold natsL; rw [List.length_map]
    refine (LB.cast (q := decide (k < hd.length)) (lb_cmp (lq_v (EV.v 8 (i := 8) (nm := "k") rfl rfl) rfl) (lx_lenSlot (EV.v 13 (i := 13) (nm := "heads") rfl rfl) (EV.g 2 (nm := "len") rfl) (fr_len T) rfl) (by walk_at "cmp")) (by rw [nl]; simp)).go ?_
    by_cases hlt : k < hd.length
    rotate_left
    · rw [if_neg (by simp [hlt])]
      have hkk : k = hd.length := by omega
      refine ⟨hd, sp, by omega, hd0, hdv, fun j d h => (hsp j d h).2, fun q hq t j h => ?_, k, rfl⟩
      obtain ⟨i, hi, e⟩ := List.mem_iff_getElem.mp hq
      exact hcl i q (by omega) (by rw [List.getElem?_eq_getElem hi, e]) t j h
    rw [if_pos (decide_eq_true hlt)]
    have hqe : hd[k]? = some hd[k] := List.getElem?_eq_getElem hlt
    have hql : hd[k] ∈ live := hdv _ (List.getElem_mem hlt)
    generalize hd[k] = q at *
    obtain ⟨hR1, hR2, hR3⟩ := hR q hql
    have f0 := nats_at hqe
    refine lss_cons (ls_for (passes_of rfl) rfl (li_list (le_q (x := .list ((R q).map encStep)) (lx_dget hu (EV.v 7 (i := 7) (nm := "rows") rfl rfl) rfl (j := (q : Nat)) (lx_slot (EV.v 13 (i := 13) (nm := "heads") rfl rfl) rfl (lq_v (EV.v 8 (i := 8) (nm := "k") rfl rfl) rfl) (by walk_at "ix")) hR1) ⟨_, .d, fun i δ => ∃ (hd2 : List Nat) (sp : List (Int × PyData)), (∃ r, hd2 = hd ++ r) ∧ hd2.length = sp.length ∧ (∀ q ∈ hd2, q ∈ live) ∧ (sp.map (·.1)).Nodup ∧ (∀ j d, getM sp j = some d → (∃ q ∈ live, j = kv q) ∧ ∃ n : Nat, d = .int (n : Nat) ∧ n < hd2.length) ∧ (∀ i q, i < k → hd[i]? = some q → ∀ t j, some (t, j) ∈ R q → (getM sp (kv j)).isSome = true) ∧ (∀ i' t j, i' < i → (R q)[i']? = some (some (t, j)) → (getM sp (kv j)).isSome = true) ∧ δ = [.is (.d (encPlain γ)), .is (.d (.str γ.S)), .is (.d (.str γ.b)), .is (.d (.tuple (γ.sts.map encState))), .is (.d (.list (live.map fun (k : Nat) => PyData.int (k : Int)))), .is (.m ds), .is (.m es), .is (.m rs), .is (.d (.int (k : Nat))), .no, .no, .no, .is (.m kd), .is (.l (natsL hd2)), .is (.m sp), .no, .no], ⟨hd, sp, ⟨[], (List.append_nil _).symm⟩, hsl, hdv, hspn, hsp, hcl, fun i' t j h => absurd h (Nat.not_lt_zero _), rfl⟩, ?_, ?_⟩)))
    · rintro i d δ hdd ⟨hd2, sp, ⟨r, hr2⟩, hsl, hdv, hspn, hsp, hcl, hdone, rfl⟩
      obtain ⟨st, hst, rfl⟩ : ∃ st, (R q)[i]? = some st ∧ d = encStep st := by
        rw [List.getElem?_map] at hdd
        cases h : (R q)[i]? with
        | none => rw [h] at hdd; cases hdd
        | some st => rw [h] at hdd; cases hdd; exact ⟨st, rfl, rfl⟩
      have hs20 := splen hspn fun j d h => (hsp j d h).1
      refine gx_name (EV.l 11 (i := 11) (nm := "step") rfl rfl) hnd rfl rfl ?_
      cases st with
      | none =>
        refine lss_cons (ls_ifb (p := false) (lb_and_f (LB.cast (lb_cmp (lq_v (EV.v 11 (i := 11) (nm := "step") rfl rfl) rfl) lq_none (by walk_at "cmp")) rfl)) (fun h => nomatch h) (fun _ => lss_nil (lss_drop 11 (lss_nil ⟨hd2, sp, ⟨r, hr2⟩, hsl, hdv, hspn, hsp, hcl, fun i' t j h1 h2 => ?_, rfl⟩))))
        rcases Nat.lt_succ_iff_lt_or_eq.mp h1 with h | h
        · exact hdone i' t j h h2
        · rw [h, hst] at h2
          cases h2
      | some qq =>
        obtain ⟨t, j⟩ := qq
        have hjl : j ∈ live := (hR3 t j (List.mem_of_getElem? hst)).2.2
        refine lss_cons (ls_ifb (p := !(getM sp (kv j)).isSome) (LB.cast (LBw.lb (lbw_and (p := true) (LB.cast (lb_cmp (lq_v (EV.v 11 (i := 11) (nm := "step") rfl rfl) rfl) lq_none (by walk_at "cmp")) rfl) fun _ => lbw_and1 (lb_dnotin hu (EV.v 14 (i := 14) (nm := "spots") rfl rfl) rfl (j := kv j) (lx_dget hu (EV.v 12 (i := 12) (nm := "kin") rfl rfl) rfl (j := (j : Nat)) (lq_ix (lq_v (EV.v 11 (i := 11) (nm := "step") rfl rfl) rfl) lq_int (by walk_at "ix") (by walk_at "len")) (hkv j hjl))))) (by simp)) (fun hc => ?_) (fun hc => ?_))
        · have hn : (getM sp (kv j)).isSome = false := by simpa using hc
          refine lss_cons (sx_dput hu (EV.v 14 (i := 14) (nm := "spots") rfl rfl) (le_q (x := .int (hd2.length : Nat)) (lq_cast (lx_lenSlot (EV.v 13 (i := 13) (nm := "heads") rfl rfl) (EV.g 2 (nm := "len") rfl) (fr_len T) rfl) (by unfold natsL; rw [List.length_map])) ⟨_, kv j, sp, .d, rfl, by omega, lx_dget hu (EV.v 12 (i := 12) (nm := "kin") rfl rfl) rfl (j := (j : Nat)) (lq_ix (lq_v (EV.v 11 (i := 11) (nm := "step") rfl rfl) rfl) lq_int (by walk_at "ix") (by walk_at "len")) (hkv j hjl), ?_⟩))
          refine lss_cons (ls_expr (ex_append (EV.v 13 (i := 13) (nm := "heads") rfl rfl) (le_q (x := .int (j : Nat)) (lq_ix (lq_v (EV.v 11 (i := 11) (nm := "step") rfl rfl) rfl) lq_int (by walk_at "ix") (by walk_at "len")) ⟨_, rfl, by unfold natsL; rw [List.length_map]; omega, ?_⟩) ⟨_, rfl⟩))
          refine lss_nil (lss_drop 11 (lss_nil ⟨hd2 ++ [j], putM sp (kv j) (.int (hd2.length : Nat)), ⟨r ++ [j], by rw [hr2, List.append_assoc]⟩, ?_, ?_, ?_, ?_, ?_, ?_, by unfold natsL; rw [List.map_append]; rfl⟩))
          · rw [putM_len, if_neg (by rw [hn]; exact Bool.false_ne_true), List.length_append, hsl]
            rfl
          · intro q' hq'
            rcases List.mem_append.mp hq' with h | h
            · exact hdv q' h
            · rw [List.mem_singleton] at h
              rw [h]
              exact hjl
          · rw [putM_keys, if_neg (by rw [hn]; exact Bool.false_ne_true), List.nodup_append]
            refine ⟨hspn, by simp, fun a ha b hb e => ?_⟩
            rw [List.mem_singleton] at hb
            rw [e, hb] at ha
            obtain ⟨d, hd⟩ := getM_mem ha
            rw [hd] at hn
            cases hn
          · intro j' d hj'
            rw [getM_put] at hj'
            rw [List.length_append]
            by_cases e : j' = kv j
            · rw [if_pos e] at hj'
              cases hj'
              exact ⟨⟨j, hjl, e⟩, hd2.length, rfl, by simp⟩
            · rw [if_neg e] at hj'
              obtain ⟨h1, n, h2, h3⟩ := hsp j' d hj'
              exact ⟨h1, n, h2, by omega⟩
          · exact fun i q h1 h2 t j h => getM_put_some (hcl i q h1 h2 t j h)
          · intro i' t' j' h1 h2
            rcases Nat.lt_succ_iff_lt_or_eq.mp h1 with h | h
            · exact getM_put_some (hdone i' t' j' h h2)
            · rw [h, hst] at h2
              cases h2
              rw [getM_put_self]
              rfl
        · have hn : (getM sp (kv j)).isSome = true := by simpa using hc
          refine lss_nil (lss_drop 11 (lss_nil ⟨hd2, sp, ⟨r, hr2⟩, hsl, hdv, hspn, hsp, hcl, fun i' t' j' h1 h2 => ?_, rfl⟩))
          rcases Nat.lt_succ_iff_lt_or_eq.mp h1 with h | h
          · exact hdone i' t' j' h h2
          · rw [h, hst] at h2
            cases h2
            exact hn
    · rintro δ ⟨hd2, sp, ⟨r, hr2⟩, hsl, hdv, hspn, hsp, hcl, hdone, rfl⟩
      have hle : hd.length ≤ hd2.length := by rw [hr2, List.length_append]; omega
      have hs20 := splen hspn fun j d h => (hsp j d h).1
      refine lss_one (sx_set (EV.l 8 (i := 8) (nm := "k") rfl rfl) hnd rfl (le_q (x := .int ((k + 1 : Nat) : Int)) (lq_plus (lq_v (EV.v 8 (i := 8) (nm := "k") rfl rfl) rfl) lq_int (by walk_at "c") (by walk_at "len")) ⟨rfl, 20 - (k + 1), by omega, hd2, sp, k + 1, by omega, rfl, hsl, ?_, hdv, hspn, hsp, ?_, rfl⟩))
      · rw [hr2, List.getElem?_append_left (by omega)]
        exact hd0
      · intro i' q' h1 h2 t j h3
        rw [hr2, List.getElem?_append_left (by omega)] at h2
        rcases Nat.lt_succ_iff_lt_or_eq.mp h1 with h' | h'
        · exact hcl i' q' h' h2 t j h3
        · rw [h', hqe] at h2
          cases h2
          obtain ⟨i2, hi2, e2⟩ := List.mem_iff_getElem.mp h3
          exact hdone i2 t j (by rw [List.length_map]; exact hi2) (by rw [List.getElem?_eq_getElem hi2, e2])
  rintro δ ⟨hd, sp, hdl, hd0, hdv, hsp, hcl, k, rfl⟩
  obtain ⟨nv, hnv⟩ : ∃ nv : Nat → Nat, ∀ q ∈ hd, ∀ t j, some (t, j) ∈ R q → getM sp (kv j) = some (.int (nv j : Nat)) ∧ nv j < hd.length := by
    refine ⟨fun j => match getM sp (kv j) with | some (.int n) => n.toNat | _ => 0, fun q hq t j h => ?_⟩
    obtain ⟨d, hd'⟩ := Option.isSome_iff_exists.mp (hcl q hq t j h)
    obtain ⟨n, rfl, hn⟩ := hsp _ d hd'
    dsimp only
    rw [hd']
    exact ⟨by simp, by simpa using hn⟩
  refine lss_cons (sx_set (EV.l 15 (i := 15) (nm := "made") rfl rfl) hnd rfl (le_lst (ld_nil ⟨by simp [sizeLine], rfl, ?_⟩)))
  refine lss_cons (ls_for (passes_of rfl) rfl (li_list (le_frzAt (i := 13) (d := .list (hd.map fun (k : Nat) => PyData.int (k : Int))) rfl (natsL_fz hd) (le_q (x := .list (hd.map fun (k : Nat) => PyData.int (k : Int))) (lq_v (EV.v 13 (i := 13) (nm := "heads") rfl rfl) rfl) ⟨_, .d, fun i δ => ∃ ms : List PState, ms.length = i ∧ (∀ s ∈ ms, WfS γ.S hd.length s) ∧ δ = [.is (.d (encPlain γ)), .is (.d (.str γ.S)), .is (.d (.str γ.b)), .is (.d (.tuple (γ.sts.map encState))), .is (.d (.list (live.map fun (k : Nat) => PyData.int (k : Int)))), .is (.m ds), .is (.m es), .is (.m rs), .is (.d (.int (k : Nat))), .no, .no, .no, .is (.m kd), .is (.d (.list (hd.map fun (k : Nat) => PyData.int (k : Int)))), .is (.m sp), .is (.l (ms.map fun s => LV.d (encState s))), .no], ⟨[], rfl, by simp, rfl⟩, ?_, ?_⟩))))
  · rintro i d δ hdd ⟨ms, hml, hms, rfl⟩
    obtain ⟨q, hq, rfl⟩ : ∃ q, hd[i]? = some q ∧ d = .int (q : Nat) := by
      rw [List.getElem?_map] at hdd
      cases e : hd[i]? with
      | none => rw [e] at hdd; cases hdd
      | some k => rw [e] at hdd; cases hdd; exact ⟨k, rfl, rfl⟩
    have hi : i < 20 := Nat.lt_of_lt_of_le (List.getElem?_eq_some_iff.mp hq).1 hdl
    have hqh : q ∈ hd := List.mem_of_getElem? hq
    have hql := hdv q hqh
    obtain ⟨hR1, hR2, hR3⟩ := hR q hql
    obtain ⟨e, he, heok⟩ := (hER q hql).1.h
    have hS5 := (signs5 hw.s).2
    refine gx_name (EV.l 16 (i := 16) (nm := "head") rfl rfl) hnd rfl rfl ?_
    refine lss_as (δ' := [.is (.d (encPlain γ)), .is (.d (.str γ.S)), .is (.d (.str γ.b)), .is (.d (.tuple (γ.sts.map encState))), .is (.d (.list (live.map fun (k : Nat) => PyData.int (k : Int)))), .is (.m ds), .is (.m es), .is (.m rs), .is (.d (.int (k : Nat))), .no, .no, .no, .is (.m kd), .is (.d (.list (hd.map fun (k : Nat) => PyData.int (k : Int)))), .is (.m sp), .is (.l (ms.map fun s => LV.d (encState s))), .is (.d (.int (q : Nat)))]) rfl ?_
    refine lss_cons (sx_set (EV.l 10 (i := 10) (nm := "row") rfl rfl) hnd rfl (le_tupleL (fr_tuple T) (cx_map (N := ["plain", "signs", "begin", "states", "live", "ahead", "ends", "rows", "k", "cut", "row", "step", "kin", "heads", "spots", "made", "head"]) (vs := [11, 14, 12]) (ls := [11]) (gs := []) hnd rfl (show BlkOk ["plain", "signs", "begin", "states", "live", "ahead", "ends", "rows", "k", "cut", "row", "step", "kin", "heads", "spots", "made", "head"] (defScope (Hd.topS 69)) _ [("step", 11)] from blkOk_by (by decide +kernel)) rfl (show evB (relS _ (defScope (Hd.topS 69))) _ _ _ _ = true by decide +kernel) 0 rfl rfl (show ownB _ (defScope (Hd.topS 69)) _ = true by decide +kernel) (fun d => match d with | .tuple [t, .int j] => .tuple [t, .int (nv j.toNat : Nat)] | _ => .none) (li_list (le_q (x := .list ((R q).map encStep)) (lx_dget hu (EV.v 7 (i := 7) (nm := "rows") rfl rfl) rfl (j := (q : Nat)) (lq_v (EV.v 16 (i := 16) (nm := "head") rfl rfl) rfl) hR1) ⟨_, .d, by rw [List.length_map]; omega, rfl, ?_, ?_⟩))) (EV.g 4 (nm := "tuple") rfl).g))
    · intro d hdm s H C cl' fp EB
      obtain ⟨st, hst, rfl⟩ := List.mem_map.mp hdm
      cases st with
      | none =>
        refine le_if ((LB.cast (q := true) (lb_cmp (lq_v (EB.v 0 (i := 11) (nm := "step") rfl rfl) rfl) lq_none (by walk_at "cmp")) rfl).go ?_)
        rw [if_pos rfl]
        exact le_q lq_none ⟨rfl, rfl⟩
      | some qq =>
        obtain ⟨t, j⟩ := qq
        have hjl := (hR3 t j hst).2.2
        refine le_if ((LB.cast (q := false) (lb_cmp (lq_v (EB.v 0 (i := 11) (nm := "step") rfl rfl) rfl) lq_none (by walk_at "cmp")) rfl).go ?_)
        rw [if_neg Bool.false_ne_true]
        exact le_tup (ld_q (x := .str t) (lq_ix (lq_v (EB.v 0 (i := 11) (nm := "step") rfl rfl) rfl) lq_int (by walk_at "ix") (by walk_at "len")) (ld_q (x := .int (nv j : Nat)) (lx_dget hu (EB.v 1 (i := 14) (nm := "spots") rfl rfl) rfl (j := kv j) (lx_dget hu (EB.v 2 (i := 12) (nm := "kin") rfl rfl) rfl (j := (j : Nat)) (lq_ix (lq_v (EB.v 0 (i := 11) (nm := "step") rfl rfl) rfl) lq_int (by walk_at "ix") (by walk_at "len")) (hkv j hjl)) (hnv q hqh t j hst).1) (ld_nil ⟨by simp [sizeLine], rfl, rfl⟩)))
    · refine ⟨_, fz_map, rfl, ?_⟩
      have erow : ((R q).map encStep).map (fun d => match d with | .tuple [t, .int j] => PyData.tuple [t, .int (nv j.toNat : Nat)] | _ => .none) = ((R q).map fun (st : PStep) => (match st with | some (t, j) => some (t, nv j) | none => none : PStep)).map encStep := by
        rw [List.map_map, List.map_map]
        apply List.map_congr_left
        intro st _
        cases st with
        | none => rfl
        | some qq => rfl
      rw [erow]
      generalize hrow2 : ((R q).map fun (st : PStep) => (match st with | some (t, j) => some (t, nv j) | none => none : PStep)) = row2
      have hw2 : WfS γ.S hd.length (e, row2) := by
        refine ⟨heok, ?_, fun t k h => ?_⟩
        · show row2.length = _
          rw [← hrow2, List.length_map, hR2]
        · have h' : some (t, k) ∈ row2 := h
          rw [← hrow2] at h'
          obtain ⟨st, hst, e2⟩ := List.mem_map.mp h'
          cases st with
          | none => cases e2
          | some qq =>
            obtain ⟨t2, j2⟩ := qq
            cases e2
            exact ⟨(hR3 t j2 hst).1, (hR3 t j2 hst).2.1, (hnv q hqh t j2 hst).2⟩
      refine lss_cons (ls_expr (ex_append (EV.v 15 (i := 15) (nm := "made") rfl rfl) (le_tup (ld_q (x := encEnd e) (lx_dget hu (EV.v 6 (i := 6) (nm := "ends") rfl rfl) rfl (j := (q : Nat)) (lq_v (EV.v 16 (i := 16) (nm := "head") rfl rfl) rfl) he) (ld_q (x := .tuple (row2.map encStep)) (lq_v (EV.v 10 (i := 10) (nm := "row") rfl rfl) rfl) (ld_nil ⟨by simp [sizeLine], _, rfl, by rw [List.length_map, hml]; omega, ?_⟩)))) ⟨_, rfl⟩))
      refine lss_drop 10 (lss_drop 16 (lss_nil ⟨ms ++ [(e, row2)], by rw [List.length_append, hml]; rfl, fun s h => ?_, by rw [List.map_append]; rfl⟩))
      rcases List.mem_append.mp h with h | h
      · exact hms s h
      · rw [List.mem_singleton] at h
        rw [h]
        exact hw2
  · rintro δ ⟨ms, hml, hms, rfl⟩
    rw [List.length_map] at hml
    obtain ⟨z, hz, hzo, hzl⟩ := txt 0 h0l
    have hb2 := hs.b
    have hcat : (γ.b ++ z : Str).length ≤ sizeLine := by rw [Str.length_append]; omega
    have hpos : 0 < hd.length := (List.getElem?_eq_some_iff.mp hd0).1
    refine lss_one (ls_ret (le_tup (ld_q (lq_v (EV.v 1 (i := 1) (nm := "signs") rfl rfl) rfl) (ld_q (x := .str (γ.b ++ z)) (lq_plus (lq_v (EV.v 2 (i := 2) (nm := "begin") rfl rfl) rfl) (lx_dget hu (EV.v 5 (i := 5) (nm := "ahead") rfl rfl) rfl (j := ((0 : Nat) : Int)) lq_int hz) rfl (by walk_at "len")) (ld_cons (le_tupleL (fr_tuple T) (le_frzAt (i := 15) (d := .list (ms.map encState)) rfl ?_ (le_q (x := .list (ms.map encState)) (lq_v (EV.v 15 (i := 15) (nm := "made") rfl rfl) rfl) ⟨_, .d, _, .d, ld_nil ⟨by simp [sizeLine], [], ⟨⟨γ.S, γ.b ++ z, ms⟩, rfl, ⟨hw.s, ⟨hw.b.1.cat hzo, ?_⟩, ?_, ?_, ?_⟩, rfl⟩, trivial⟩⟩)) (EV.g 4 (nm := "tuple") rfl).g))))))
    · have : (ms.map fun s => LV.d (encState s)) = (ms.map encState).map LV.d := by rw [List.map_map]; rfl
      rw [this]
      exact fz_map
    · show (γ.b ++ z : Str).length ≤ 100
      rw [Str.length_append]
      omega
    · show ms.length ≤ 2000
      omega
    · intro h
      have h' : ms.length = 0 := h
      omega
    · intro s h
      show WfS γ.S ms.length s
      rw [hml]
      exact hms s h
end
end Z
set_option maxHeartbeats 4000000
namespace Z
open PySem PySem.Spec PyProof.Rows L2
local macro_rules | `(tactic| walk_at "len") => `(tactic| (intro zz hz; first | (cases hz; done) | (injection hz with hz; subst hz; first | assumption | (simp only [PySem.Str.length_append, Str.length] at *; simp [sizeLine] at *; omega))))
local macro_rules | `(tactic| walk_at "c") => `(tactic| first | rfl | assumption | decide | omega)
local macro_rules | `(tactic| walk_at "ix") => `(tactic| first | assumption | rfl)
local macro_rules | `(tactic| walk_at "mem") => `(tactic| assumption)
local macro_rules | `(tactic| walk_at "sz") => `(tactic| first | assumption | omega)
local macro_rules | `(tactic| walk_at "mul") => `(tactic| first | exact .inr ⟨by decide, by decide⟩ | exact .inl ⟨by decide, by decide⟩)
local macro_rules | `(tactic| walk_at "div") => `(tactic| first | exact ⟨by decide, by decide⟩ | exact ⟨by omega, by omega⟩)
local macro_rules | `(tactic| walk_at "cmp") => `(tactic| first | exact c_lt | exact c_le | exact c_gt | exact c_ge | exact c_eqI | exact c_neI | exact c_eqS | exact c_neS | exact c_eqB | exact c_isN | exact c_notN | exact c_inS | exact c_notInS)
/-! ### unlike signs are counted one by one -/
theorem metS_nodup {z : Str} (h : z.cps.toList.Nodup) : ∀ i, i ≤ z.cps.size → Zs.metS (Zs.sign z) i = (z.cps.toList.take i).map fun c => (⟨#[c]⟩ : Str)
  | 0, _ => rfl
  | i + 1, hi => by
    have ih := metS_nodup h i (by omega)
    have hlt : i < z.cps.toList.length := by rw [Array.length_toList]; omega
    have hs : Zs.sign z i = ⟨#[z.cps.toList[i]]⟩ := by
      unfold Zs.sign
      congr 2
      simp [Array.getD_eq_getD_getElem?, show i < z.cps.size by omega]
    have hn : Zs.sign z i ∉ Zs.metS (Zs.sign z) i := by
      rw [ih, hs]
      intro hm
      obtain ⟨c, hc, e⟩ := List.mem_map.mp hm
      have e2 : c = z.cps.toList[i] := by
        have := congrArg (fun s : Str => s.cps.toList) e
        simpa using this
      rw [e2] at hc
      obtain ⟨j, hj, ej⟩ := List.mem_iff_getElem.mp hc
      rw [List.length_take] at hj
      rw [List.getElem_take] at ej
      have := (List.getElem_inj h).mp ej
      omega
    show (if Zs.sign z i ∈ Zs.metS (Zs.sign z) i then _ else _) = _
    rw [if_neg hn, ih, hs, List.take_add_one, List.getElem?_eq_getElem hlt, List.map_append]
    rfl
theorem distinct_nodup {z : Str} (h : z.cps.toList.Nodup) : distinct z = z.length := by
  unfold distinct
  rw [metS_nodup h _ (Nat.le_refl _), List.length_map, List.length_take, Array.length_toList, Nat.min_self]
  rfl
theorem areSigns_of {z : Str} (h : z.cps.toList.Nodup) (h1 : 1 ≤ z.length) (h2 : z.length ≤ 5) : areSigns z = true := by
  unfold areSigns
  rw [distinct_nodup h, decide_eq_true h1, decide_eq_true h2]
  simp
end Z
set_option maxHeartbeats 4000000
namespace Z
open PySem PySem.Spec PyProof.Rows L2
local macro_rules | `(tactic| walk_at "len") => `(tactic| (intro zz hz; first | (cases hz; done) | (injection hz with hz; subst hz; first | assumption | (simp only [PySem.Str.length_append, Str.length] at *; simp [sizeLine] at *; omega))))
local macro_rules | `(tactic| walk_at "c") => `(tactic| first | rfl | assumption | decide | omega)
local macro_rules | `(tactic| walk_at "ix") => `(tactic| first | assumption | rfl)
local macro_rules | `(tactic| walk_at "mem") => `(tactic| assumption)
local macro_rules | `(tactic| walk_at "sz") => `(tactic| first | assumption | omega)
local macro_rules | `(tactic| walk_at "mul") => `(tactic| first | exact .inr ⟨by decide, by decide⟩ | exact .inl ⟨by decide, by decide⟩)
local macro_rules | `(tactic| walk_at "div") => `(tactic| first | exact ⟨by decide, by decide⟩ | exact ⟨by omega, by omega⟩)
local macro_rules | `(tactic| walk_at "cmp") => `(tactic| first | exact c_lt | exact c_le | exact c_gt | exact c_ge | exact c_eqI | exact c_neI | exact c_eqS | exact c_neS | exact c_eqB | exact c_isN | exact c_notN | exact c_inS | exact c_notInS)
section
variable {X : Cx}
theorem op_isnotB : OpR X (compareOp .IsNot) (fun x y H Q => ∃ a b : Bool, x = .bl a ∧ y = .bl b ∧ Q (.bl (a != b)) H) := by
  intro pins s σ H x y v u Q I rx ry h
  obtain ⟨a, b, rfl, rfl, q⟩ := h
  cases rx
  cases ry
  show wpAny _ _ ((isSame (Value.bool a) (Value.bool b)) >>= fun z => pure (Value.bool (!z))) _ _ s
  have key : ∀ a b : Bool, (Value.bool a == Value.bool b) = (a == b) := by decide +kernel
  refine wpAny_bind (wpAny_pure (wpAny_pure ⟨.bl (a != b), H, I, ?_, q⟩))
  show Value.bool (!(Value.bool a == Value.bool b)) = Value.bool (a != b)
  rw [key]
  rfl
theorem lt_isnotB {a : Expr} {δ : LSt} {W : LW} {T : Bool → LSt → Prop} {pos p2 : Pos} {b' : Bool} {j : Nat} (h : LE X a δ W fun x δ1 => ∃ a', x = .d (.bool a') ∧ T (a' != b') δ1) : LT X (.Compare a [.IsNot] [.Constant (.bool b') j p2] pos) δ W T :=
  lt_cmp1 op_isnotB (h.imp fun x δ1 ⟨a', e, t⟩ => ⟨.bool a', by rw [e]; exact .d, le_q lq_bool ⟨.bool b', .d, a' != b', fun F H v u s dv du R k => ⟨a', b', dp_bool dv, dp_bool du, k⟩, t⟩⟩)
theorem c_isnotB {a b : Bool} : CmpR X .IsNot (.bool a) (.bool b) (a != b) := ⟨_, op_isnotB, fun F H v u s dv du R k => ⟨a, b, dp_bool dv, dp_bool du, k⟩⟩
end
section
variable {P : Program} {w : World} {K : PySem.W.Frag} {mg : Str → Option Value} {base : Heap}
-- law: ['script', 'pool', 'signs', 'plain', 'odd', 'word', 'rows', 'bad', 'k', 'at', 'good']
theorem ok_law (T : Tp K mg) {fd : FuncData} (F : FunD K "law" "law" (defArgs (Hd.topS 75)) (defBody (Hd.topS 75)) (defScope (Hd.topS 75)) [] [] (He.ga K "law") fd) : FnOk P w K mg base (L2.CX P w) 9 (He.ga K "law") fd ["script"] (lift ⟨P, w, K, mg⟩ S_law) := by
  refine ok_of (N := ["script", "pool", "signs", "plain", "odd", "word", "rows", "bad", "k", "at", "good"]) F (C8.fnScope_by (by decide +kernel)) [false] rfl (fun γ xs h => ?_) ?_
  · exact congrArg List.length (show _ ∧ _ from h).2
  intro cdv A outer s H E γ vs xs hr hl hpre
  obtain ⟨v0, rfl⟩ : ∃ v0, vs = [v0] := by
    match vs, hl with
    | [a0], _ => exact ⟨a0, rfl⟩
  have hnd : (["script", "pool", "signs", "plain", "odd", "word", "rows", "bad", "k", "at", "good"] : List Str).Nodup := by decide +kernel
  obtain ⟨_, rfl⟩ := hpre
  have EV : Ev (cxOf (L2.CX P w) P w K mg base ["script", "pool", "signs", "plain", "odd", "word", "rows", "bad", "k", "at", "good"] "law" (defScope (Hd.topS 75)) (He.ga K "law") cdv A outer s H E) ["script", "pool", "signs", "plain", "odd", "word", "rows", "bad", "k", "at", "good"] [0, 1, 2, 3, 4, 5, 6, 7, 8, 9, 10] [0, 1, 2, 3, 4, 5, 6, 7, 8, 9, 10] ["_law_pool", "_law_signs", "_law_draw", "_law_plain", "_law_strange", "_law_word", "_law_spoilt", "is_plain", "range", "len", "_law_refused", "_law_strange_text", "_law_least", "_law_nearly", "_law_same", "run_plain", "_law_run"] := ⟨rfl, (by decide +kernel : evB (defScope (Hd.topS 75)) ["script", "pool", "signs", "plain", "odd", "word", "rows", "bad", "k", "at", "good"] [0, 1, 2, 3, 4, 5, 6, 7, 8, 9, 10] [0, 1, 2, 3, 4, 5, 6, 7, 8, 9, 10] ["_law_pool", "_law_signs", "_law_draw", "_law_plain", "_law_strange", "_law_word", "_law_spoilt", "is_plain", "range", "len", "_law_refused", "_law_strange_text", "_law_least", "_law_nearly", "_law_same", "run_plain", "_law_run"] = true)⟩
  have hu := hr.units
  refine lss_cons (sx_set (EV.l 1 (i := 1) (nm := "pool") rfl rfl) hnd rfl (ex_calQ (EV.g 0 (nm := "_law_pool") rfl) (ok_pool T) hr (by decide) (lqs_cons (lq_v (EV.v 0 (i := 0) (nm := "script") rfl rfl) rfl) .nil) γ rfl (fun r ys hpv => ⟨rfl, ?_⟩) (fun _ _ h => h.elim)))
  have hpv : PoolV r := hpv
  generalize r = pv at *
  refine lss_cons (sx_set (EV.l 2 (i := 2) (nm := "signs") rfl rfl) hnd rfl (ex_cal (EV.g 1 (nm := "_law_signs") rfl) (ok_signs T) hr (by decide) (ax_bor (EV.v 1 (i := 1) (nm := "pool") rfl rfl) rfl (la_tmp (le_i2 (rI0_I op_add) (le_q lq_int ⟨1, rfl, ?_⟩))))))
  refine ex_draw (EV.g 2 (nm := "_law_draw") rfl) (ok_draw T) hr (by decide) (EV.v 1 (i := 1) (nm := "pool") rfl rfl) rfl hpv (lim := 4) lq_int (by decide) (by decide) fun n pv hn0 hn1 hpv => ?_
  refine ⟨n, rfl, trivial, la_nil ⟨(pv, (1 + n).toNat), _, rfl, ⟨?_, hpv, ?_⟩, fun r ys h => ?_, fun _ _ h => h.elim⟩⟩
  · show [_, _] = [_, _]
    rw [Int.toNat_of_nonneg (by omega)]
  · show (1 + n).toNat ≤ 30
    omega
  obtain ⟨S, pv, rfl, hSl, hSn, hpv, rfl⟩ := h
  refine ⟨rfl, ?_⟩
  have hSl : S.length = (1 + n).toNat := hSl
  have hS1 : 1 ≤ S.length := by omega
  have hS4 : S.length ≤ 4 := by omega
  have hA := areSigns_of hSn hS1 (by omega)
  refine lss_as (δ' := [.is (.d (.list (γ.map .int))), .is pv, .is (.d (.str S)), .no, .no, .no, .no, .no, .no, .no, .no]) rfl ?_
  refine lss_cons (sx_set (EV.l 3 (i := 3) (nm := "plain") rfl rfl) hnd rfl (ex_calP (EV.g 3 (nm := "_law_plain") rfl) (ok_plain T) hr (by decide) (EV.v 1 (i := 1) (nm := "pool") rfl rfl) rfl (ds := [.str S, .int (4 : Nat), .int (2 : Nat)]) (lqs_cons (lq_v (EV.v 2 (i := 2) (nm := "signs") rfl rfl) rfl) (lqs_cons lq_int (lqs_cons lq_int .nil))) (pv, S, 4, 2) ⟨rfl, hpv, hA, ⟨(by show 0 < 4; decide), (by show 4 ≤ 100; decide)⟩, Nat.le_refl _⟩ (fun r ys h => ?_) (fun _ _ h => h.elim)))
  obtain ⟨p, pv, rfl, hw, hs, hpS, hp0, hp4, hpv, rfl⟩ := h
  refine ⟨pv, rfl, rfl, ?_⟩
  have hpS : p.S = S := hpS
  have hp4 : p.sts.length ≤ 4 := hp4
  subst hpS
  refine lss_cons (sx_set (EV.l 4 (i := 4) (nm := "odd") rfl rfl) hnd rfl (ex_calQ (EV.g 4 (nm := "_law_strange") rfl) (ok_strange T) hr (by decide) (lqs_cons (lq_v (EV.v 2 (i := 2) (nm := "signs") rfl rfl) rfl) .nil) p.S ⟨rfl, by omega⟩ (fun r ys h => ?_) (fun _ _ h => h.elim)))
  obtain ⟨c, rfl, hc⟩ := h
  refine ⟨rfl, ?_⟩
  refine lss_cons (sx_set (EV.l 5 (i := 5) (nm := "word") rfl rfl) hnd rfl (ex_word (EV.g 5 (nm := "_law_word") rfl) (ok_word T) hr (by decide) (EV.v 1 (i := 1) (nm := "pool") rfl rfl) rfl hpv (lqs_cons (lq_v (EV.v 2 (i := 2) (nm := "signs") rfl rfl) rfl) (lqs_cons lq_int .nil)) (by omega) (by omega) (mx := 6) (by decide) fun z pv hz ov hpv => ⟨rfl, ?_⟩))
  refine lss_cons (sx_set (EV.l 6 (i := 6) (nm := "rows") rfl rfl) hnd rfl (ex_calP (EV.g 6 (nm := "_law_spoilt") rfl) (ok_spoilt T) hr (by decide) (EV.v 1 (i := 1) (nm := "pool") rfl rfl) rfl (ds := [encPlain p]) (lqs_cons (lq_v (EV.v 3 (i := 3) (nm := "plain") rfl rfl) rfl) .nil) (pv, p) ⟨rfl, hpv, hw, hp0, hS4⟩ (fun r ys h => ?_) (fun _ _ h => h.elim)))
  obtain ⟨rows, pv, rfl, hr0, hr1, hrb, hpv, rfl⟩ := h
  refine ⟨pv, rfl, rfl, ?_⟩
  refine lss_frz (i := 6) (d := .list rows) rfl fz_map ?_
  refine lss_as (δ' := [.is (.d (.list (γ.map .int))), .is pv, .is (.d (.str p.S)), .is (.d (encPlain p)), .is (.d (.str ⟨#[c]⟩)), .is (.d (.str z)), .is (.d (.list rows)), .no, .no, .no, .no]) rfl ?_
  refine lss_mid (fun δ => δ = [.is (.d (.list (γ.map .int))), .is pv, .is (.d (.str p.S)), .is (.d (encPlain p)), .is (.d (.str ⟨#[c]⟩)), .is (.d (.str z)), .is (.d (.list rows)), .no, .no, .no, .no]) ?_ ?_
  · refine ls_for (passes_of rfl) rfl (li_list (le_q (x := .list rows) (lq_v (EV.v 6 (i := 6) (nm := "rows") rfl rfl) rfl) ⟨_, .d, fun i δ => δ = [.is (.d (.list (γ.map .int))), .is pv, .is (.d (.str p.S)), .is (.d (encPlain p)), .is (.d (.str ⟨#[c]⟩)), .is (.d (.str z)), .is (.d (.list rows)), .no, .no, .no, .no], rfl, ?_, fun δ h => h⟩))
    rintro i d δ hd rfl
    obtain ⟨hf, hb⟩ := hrb d (List.mem_of_getElem? hd)
    refine gx_name (EV.l 7 (i := 7) (nm := "bad") rfl rfl) hnd rfl rfl ?_
    refine lss_cons (ls_if (lt_isnotB (ex_calQ (EV.g 7 (nm := "is_plain") rfl) (ok_isPl T) hr (by decide) (lqs_cons (lq_v (EV.v 7 (i := 7) (nm := "bad") rfl rfl) rfl) .nil) d ⟨rfl, hf⟩ (fun r ys h => ?_) (fun _ _ h => h.elim))))
    refine ⟨false, by rw [show r = _ from h, hb], ?_⟩
    rw [if_neg (by decide)]
    exact lss_nil (lss_drop 7 (lss_nil rfl))
  rintro δ rfl
  have hz6 : z.length ≤ 6 := hz
  have hlz : (z ++ ⟨#[c]⟩ : Str).length = z.length + 1 := Str.length_append _ _
  refine lss_mid (fun δ => ∃ pv, PoolV pv ∧ δ = [.is (.d (.list (γ.map .int))), .is pv, .is (.d (.str p.S)), .is (.d (encPlain p)), .is (.d (.str ⟨#[c]⟩)), .is (.d (.str z)), .is (.d (.list rows)), .no, .no, .no, .no]) ?_ ?_
  · refine ls_for (passes_of rfl) rfl (li_range1 (fr_range T) (ld_q lq_int (ld_nil ⟨5, rfl, by decide, by decide, fun i δ => ∃ pv, PoolV pv ∧ δ = [.is (.d (.list (γ.map .int))), .is pv, .is (.d (.str p.S)), .is (.d (encPlain p)), .is (.d (.str ⟨#[c]⟩)), .is (.d (.str z)), .is (.d (.list rows)), .no, .no, .no, .no], ⟨pv, hpv, rfl⟩, ?_, fun δ h => h⟩)) (EV.g 8 (nm := "range") rfl).g)
    rintro i d δ hd ⟨pv, hpv, rfl⟩
    refine gx_name (EV.l 8 (i := 8) (nm := "k") rfl rfl) hnd rfl rfl ?_
    refine lss_cons (sx_set (EV.l 7 (i := 7) (nm := "bad") rfl rfl) hnd rfl (le_ix (le_q (x := .list rows) (lq_v (EV.v 6 (i := 6) (nm := "rows") rfl rfl) rfl) ⟨_, .d, ?_⟩)))
    refine ex_draw (EV.g 2 (nm := "_law_draw") rfl) (ok_draw T) hr (by decide) (EV.v 1 (i := 1) (nm := "pool") rfl rfl) rfl hpv (lim := (rows.length : Nat)) (lq_len (fr_len T) (lq_v (EV.v 6 (i := 6) (nm := "rows") rfl rfl) rfl) (by walk_at "ix") (by walk_at "len") (EV.g 9 (nm := "len") rfl).g) (by omega) (by omega) fun n pv hn0 hn1 hpv => ?_
    have hnl : n.toNat < rows.length := by omega
    have hat : atI rows n = some rows[n.toNat] := by
      have := at_nat (List.getElem?_eq_getElem hnl)
      rwa [Int.toNat_of_nonneg hn0] at this
    obtain ⟨hf, hb⟩ := hrb _ (List.getElem_mem hnl)
    generalize rows[n.toNat] = bd at *
    refine ⟨n, bd, rfl, .inr (.inl ⟨rows, rfl, hat⟩), rfl, ?_⟩
    have hcs : (z ++ ⟨#[c]⟩ : Str).length ≤ sizeLine := by rw [hlz]; simp [sizeLine]; omega
    refine lss_cons (ls_if (LTw.lt (ltw_or (lt_not (lt_val (ex_calQ (EV.g 10 (nm := "_law_refused") rfl) (ok_refused T) hr (by decide) (ds := [bd, encPlain p, .str z]) (lqs_cons (lq_v (EV.v 7 (i := 7) (nm := "bad") rfl rfl) rfl) (lqs_cons (lq_v (EV.v 3 (i := 3) (nm := "plain") rfl rfl) rfl) (lqs_cons (lq_v (EV.v 5 (i := 5) (nm := "word") rfl rfl) rfl) .nil))) (bd, p, .str z) ⟨rfl, hf, hb, hw⟩ (fun r ys h => ?_) (fun _ _ h => h.elim)))))))
    refine ⟨true, h, ?_⟩
    rw [if_neg (by decide)]
    refine ltw_or1 (lt_not (lt_val (ex_calQ (EV.g 10 (nm := "_law_refused") rfl) (ok_refused T) hr (by decide) (ds := [bd, encPlain p, .str (z ++ ⟨#[c]⟩)]) (lqs_cons (lq_v (EV.v 7 (i := 7) (nm := "bad") rfl rfl) rfl) (lqs_cons (lq_v (EV.v 3 (i := 3) (nm := "plain") rfl rfl) rfl) (lqs_cons (lq_plus (lq_v (EV.v 5 (i := 5) (nm := "word") rfl rfl) rfl) (lq_v (EV.v 4 (i := 4) (nm := "odd") rfl rfl) rfl) (by walk_at "c") (by walk_at "len")) .nil))) (bd, p, .str (z ++ ⟨#[c]⟩)) ⟨rfl, hf, hb, hw⟩ (fun r ys h => ?_) (fun _ _ h => h.elim))))
    refine ⟨true, h, ?_⟩
    rw [if_neg (by decide)]
    exact lss_nil (lss_drop 8 (lss_drop 7 (lss_nil ⟨pv, hpv, rfl⟩)))
  rintro δ ⟨pv, hpv, rfl⟩
  have hz' : z.length ≤ sizeLine := Nat.le_trans hz6 (by decide)
  refine lss_cons (sx_set (EV.l 9 (i := 9) (nm := "at") rfl rfl) hnd rfl (ex_draw (EV.g 2 (nm := "_law_draw") rfl) (ok_draw T) hr (by decide) (EV.v 1 (i := 1) (nm := "pool") rfl rfl) rfl hpv (lim := (z.length : Nat) + 1) (lq_plus (lq_len (fr_len T) (lq_v (EV.v 5 (i := 5) (nm := "word") rfl rfl) rfl) (by walk_at "ix") (by walk_at "len") (EV.g 9 (nm := "len") rfl).g) lq_int (by walk_at "c") (by walk_at "len")) (by omega) (by omega) fun n pv hn0 hn1 hpv => ⟨rfl, ?_⟩))
  have h1 := cutS_length z none (some n)
  have h2 := cutS_length z (some n) none
  have g1 : (cutS z none (some n) ++ ⟨#[c]⟩ : Str).length ≤ sizeLine := by rw [Str.length_append]; show _ + 1 ≤ _; simp [sizeLine]; omega
  have g2 : (cutS z none (some n) ++ ⟨#[c]⟩ ++ cutS z (some n) none : Str).length ≤ 1000 := by rw [Str.length_append, Str.length_append]; show _ + 1 + _ ≤ _; omega
  have g3 : (cutS z none (some n) ++ ⟨#[c]⟩ ++ cutS z (some n) none : Str).length ≤ sizeLine := Nat.le_trans g2 (by decide)
  have g4 : isTextD p.S (.str (cutS z none (some n) ++ ⟨#[c]⟩ ++ cutS z (some n) none)) = false := by
    cases e : isTextD p.S (.str (cutS z none (some n) ++ ⟨#[c]⟩ ++ cutS z (some n) none)) with
    | false => rfl
    | true => exact absurd (text_over e c (by rw [cps_cat, cps_cat]; simp)) hc
  refine lss_cons (ls_if (lt_not (lt_val (ex_calQ (EV.g 11 (nm := "_law_strange_text") rfl) (ok_strangeT T) hr (by decide) (ds := [encPlain p, .str (cutS z none (some n) ++ ⟨#[c]⟩ ++ cutS z (some n) none)]) (lqs_cons (lq_v (EV.v 3 (i := 3) (nm := "plain") rfl rfl) rfl) (lqs_cons (lq_plus (lq_plus (lq_sliceS (lq_v (EV.v 5 (i := 5) (nm := "word") rfl rfl) rfl) lo_none (lo_some (lq_v (EV.v 9 (i := 9) (nm := "at") rfl rfl) rfl)) (by walk_at "sz")) (lq_v (EV.v 4 (i := 4) (nm := "odd") rfl rfl) rfl) (by walk_at "c") (by walk_at "len")) (lq_sliceS (lq_v (EV.v 5 (i := 5) (nm := "word") rfl rfl) rfl) (lo_some (lq_v (EV.v 9 (i := 9) (nm := "at") rfl rfl) rfl)) lo_none (by walk_at "sz")) (by walk_at "c") (by walk_at "len")) .nil)) (p, cutS z none (some n) ++ ⟨#[c]⟩ ++ cutS z (some n) none) ⟨rfl, hw, g2, g4⟩ (fun r ys h => ?_) (fun _ _ h => h.elim)))))
  refine ⟨true, h, ?_⟩
  rw [if_neg (by decide)]
  refine lss_nil ?_
  have hwE : WfP ⟨p.S, Str.ofString "", []⟩ := ⟨hw.s, ⟨Over.empty, by show (Str.ofString "").length ≤ 100; decide +kernel⟩, by simp, fun _ => rfl, fun s h => (by cases h)⟩
  refine lss_cons (ls_for (passes_of rfl) rfl (li_tup (le_tup (ld_q (lq_v (EV.v 3 (i := 3) (nm := "plain") rfl rfl) rfl) (ld_cons (le_tup (ld_q (lq_v (EV.v 2 (i := 2) (nm := "signs") rfl rfl) rfl) (ld_q lq_str (ld_cons (le_tup (ld_nil ⟨by simp [sizeLine], _, .d, ld_nil ⟨by simp [sizeLine], _, .d, ?_⟩⟩)))))))))))
  refine ld_cons (ex_calQ (EV.g 12 (nm := "_law_least") rfl) (ok_least T) hr (by decide) (lqs_cons (lq_v (EV.v 3 (i := 3) (nm := "plain") rfl rfl) rfl) .nil) p ⟨rfl, hw, hs, by omega⟩ (fun r ys h => ?_) (fun _ _ h => h.elim))
  obtain ⟨pl, rfl, hwl, hSl2⟩ := h
  refine ⟨_, .d, ld_cons (ex_calP (EV.g 13 (nm := "_law_nearly") rfl) (ok_nearly T) hr (by decide) (EV.v 1 (i := 1) (nm := "pool") rfl rfl) rfl (ds := [encPlain p]) (lqs_cons (lq_v (EV.v 3 (i := 3) (nm := "plain") rfl rfl) rfl) .nil) (pv, p) ⟨rfl, hpv, hw, hs, hp0⟩ (fun r ys h => ?_) (fun _ _ h => h.elim))⟩
  obtain ⟨pn, pv, rfl, hwn, hSn2, hpv, rfl⟩ := h
  refine ⟨pv, rfl, _, .d, ld_nil ⟨by simp [sizeLine], _, rfl, ?_⟩⟩
  refine ⟨fun i δ => δ = [.is (.d (.list (γ.map .int))), .is pv, .is (.d (.str p.S)), .is (.d (encPlain p)), .is (.d (.str ⟨#[c]⟩)), .is (.d (.str z)), .is (.d (.list rows)), .no, .no, .is (.d (.int n)), .no], rfl, ?_, ?_⟩
  · rintro i d δ hd rfl
    obtain ⟨g, rfl, hwg, hgS⟩ : ∃ g, d = encPlain g ∧ WfP g ∧ g.S = p.S := by
      have hm := List.mem_of_getElem? hd
      simp only [List.mem_cons, List.not_mem_nil, or_false] at hm
      rcases hm with rfl | rfl | rfl | rfl
      · exact ⟨p, rfl, hw, rfl⟩
      · exact ⟨⟨p.S, Str.ofString "", []⟩, rfl, hwE, rfl⟩
      · exact ⟨pl, rfl, hwl, hSl2⟩
      · exact ⟨pn, rfl, hwn, hSn2⟩
    have ovg : Over g.S z := by rw [hgS]; exact ov
    have hz3 : z.length ≤ 1000 := by omega
    refine gx_name (EV.l 10 (i := 10) (nm := "good") rfl rfl) hnd rfl rfl ?_
    refine lss_cons (ls_if (LTw.lt (ltw_or (lt_isnotB (ex_calQ (EV.g 7 (nm := "is_plain") rfl) (ok_isPl T) hr (by decide) (ds := [encPlain g]) (lqs_cons (lq_v (EV.v 10 (i := 10) (nm := "good") rfl rfl) rfl) .nil) (encPlain g) ⟨rfl, fit_plain hwg⟩ (fun r ys h => ?_) (fun _ _ h => h.elim))))))
    refine ⟨true, by rw [show r = _ from h, wf_plain hwg], ?_⟩
    rw [if_neg (by decide)]
    refine ltw_or1 (lt_not (lt_val (ex_cal (EV.g 14 (nm := "_law_same") rfl) (ok_same T) hr (by decide) (la_tmp (ex_calQ (EV.g 15 (nm := "run_plain") rfl) (ok_run T) hr (by decide) (ds := [encPlain g, .str z]) (lqs_cons (lq_v (EV.v 10 (i := 10) (nm := "good") rfl rfl) rfl) (lqs_cons (lq_v (EV.v 5 (i := 5) (nm := "word") rfl rfl) rfl) .nil)) (g, z) ⟨rfl, hwg, ovg, hz3⟩ (fun r ys h => ?_) (fun _ _ h => h.elim))))))
    have h : r = .d (encEnd (runP g z)) := h
    subst h
    refine la_tmp (ex_calQ (EV.g 16 (nm := "_law_run") rfl) (ok_lawRun T) hr (by decide) (ds := [encPlain g, .str z]) (lqs_cons (lq_v (EV.v 10 (i := 10) (nm := "good") rfl rfl) rfl) (lqs_cons (lq_v (EV.v 5 (i := 5) (nm := "word") rfl rfl) rfl) .nil)) (g, z) ⟨rfl, hwg, ovg, hz3⟩ (fun r ys h => ?_) (fun _ _ h => h.elim))
    have h : r = .d (encEnd (runP g z)) := h
    subst h
    refine la_nil ⟨(runP g z, runP g z), _, rfl, rfl, fun r ys h => ?_, fun _ _ h => h.elim⟩
    refine ⟨true, by rw [show r = _ from h]; simp, ?_⟩
    rw [if_neg (by decide)]
    exact lss_nil (lss_drop 10 (lss_nil rfl))
  · rintro δ rfl
    exact lss_one (ls_ret (le_q lq_bool ⟨[], rfl, trivial⟩))
end
end Z
theorem PySem.Challenge.cw_signwright_k86_plain_ones_and_spoilt_one_holds : PySem.Challenge.rw_signwright_k86_plain_ones_and_spoilt_one.Holds := by
  refine Hd.holds_of 9 (by decide) Z.spLaw (fun K H a ns hn hs => ⟨a, ns, hn, rfl, hs, fun _ => rfl⟩) ?_
  intro w K h mg KX G c fa fd hmg FD base Kb Gb
  have T : Z.Tp K mg := ⟨⟨h, KX, G⟩, c⟩
  have e := hmg.symm.trans (T.glo 57 rfl)
  cases e
  exact (Z.ok_law T FD).imp fun vs H Q E hq => Z.law_imp rfl hq
