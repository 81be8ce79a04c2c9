import PyProof.Rows.All
import Wide.All
import OpenK.AllK
import Wide.FinOn
import HandS.ForMost
import HandS.Walk
import HandS.EndTab
import HandS.TupAny
import HandS.TupMul
import HandS.DictComp
import HandS.DictTup
import HandS.Flow
import HandS.Star
import HandS.SortRule
import HandS.IsInst
import HandS.Nested
import HandS.Deep
import HandS.WordsExc
import HandS.ExcOwn
import HandS.Style
import KE.GoesEnum
import KE.KDictPairs
import HandS.Conv
import HandS.Defaults
import PyProof.ReprRoads
import PyProof.Rows.RegFStrParts
import HandS.HeadHook4
import HandS.HeadWalk
import HandS.Head2
import PySem.Challenge.RW_stillorders_k30_whole_moves_behind_moves
set_option Elab.async false
set_option linter.all false
set_option maxRecDepth 100000
set_option maxHeartbeats 0
namespace Lw
open PySem PySem.Spec PyProof.Rows L2
/-! ## weakest readings: every piece of syntax has one, so the hand layer's rules become rules on goals -/
def wE (X : Cx) (e : Expr) : TE := fun σ H Q =>
  ∀ pins s, Inv X pins σ H s →
    wpAny (model X.prog X.w) X.A (eval e X.env) (EP X pins σ Q) X.xe s
def wT (X : Cx) (e : Expr) : TT := fun σ H Q =>
  ∀ pins s, Inv X pins σ H s →
    wpAny (model X.prog X.w) X.A (isTrue e X.env (eval e X.env)) (TP X pins σ Q) X.xe s
def w1 (X : Cx) (st : Stmt) : TS := fun D σ H =>
  ∀ pins s, Inv X pins σ H s →
    wpAny (model X.prog X.w) X.A (exec st X.env) (SP X pins D) X.xe s
def wS (X : Cx) (sts : List Stmt) : TS := fun D σ H =>
  ∀ pins s, Inv X pins σ H s →
    wpAny (model X.prog X.w) X.A (execs sts X.env) (SP X pins D) X.xe s
section
variable {X : Cx} {e : Expr} {st : Stmt} {sts : List Stmt} {σ : L2.St} {H : Hp}
theorem wE_pe : PE X e (wE X e) := ⟨fun pins s _ _ _ I h => h pins s I⟩
theorem wT_pt : PT X e (wT X e) := ⟨fun pins s _ _ _ I h => h pins s I⟩
theorem w1_ps : PS X st (w1 X st) := ⟨fun pins s _ _ _ I h => h pins s I⟩
theorem wS_pss : PSs X sts (wS X sts) := ⟨fun pins s _ _ _ I h => h pins s I⟩
theorem wE_of {t : TE} {Q : VK} (p : PE X e t) (q : t σ H Q) : wE X e σ H Q := fun pins s I => p.run pins s σ H Q I q
theorem wT_of {t : TT} {Q : Bool → Hp → Prop} (p : PT X e t) (q : t σ H Q) : wT X e σ H Q := fun pins s I => p.run pins s σ H Q I q
theorem w1_of {t : TS} {D : Ends} (p : PS X st t) (q : t D σ H) : w1 X st D σ H := fun pins s I => p.run pins s σ H D I q
theorem wS_of {t : TS} {D : Ends} (p : PSs X sts t) (q : t D σ H) : wS X sts D σ H := fun pins s I => p.run pins s σ H D I q
theorem EP_mono {pins : List (Addr × Obj)} {Q Q' : VK} {u : Value} {s : Shared} (h : EP X pins σ Q u s) (m : ∀ v H', Q v H' → Q' v H') : EP X pins σ Q' u s := by
  obtain ⟨v, H', a, b, c⟩ := h
  exact ⟨v, H', a, b, m v H' c⟩
theorem wE_mono {Q Q' : VK} (h : wE X e σ H Q) (m : ∀ v H', Q v H' → Q' v H') : wE X e σ H Q' := fun pins s I =>
  wpAny_mono (h pins s I) (fun _ _ q => EP_mono q m) fun _ _ q => q
theorem wT_mono {Q Q' : Bool → Hp → Prop} (h : wT X e σ H Q) (m : ∀ v H', Q v H' → Q' v H') : wT X e σ H Q' := fun pins s I =>
  wpAny_mono (h pins s I) (fun _ _ q => by obtain ⟨H', a, b⟩ := q; exact ⟨H', a, m _ _ b⟩) fun _ _ q => q
end

/-! ## data without lists: it stays as it is for ever -/
mutual
inductive Dt (H : Hp) : V → PyData → Prop
  | non : Dt H .non .none
  | bl (b : Bool) : Dt H (.bl b) (.bool b)
  | int (i : Int) : Dt H (.int i) (.int i)
  | str (x : Str) : Dt H (.str x) (.str x)
  | tup {a : Addr} {xs : List V} {ds : List PyData} : H a = some (.tup xs) → DtA H xs ds → Dt H (.ref a) (.tuple ds)
inductive DtA (H : Hp) : List V → List PyData → Prop
  | nil : DtA H [] []
  | cons {v : V} {vs : List V} {d : PyData} {ds : List PyData} : Dt H v d → DtA H vs ds → DtA H (v :: vs) (d :: ds)
end
/-- tuples and what is locked stay -/
def Im (H H' : Hp) : Prop := (∀ a xs, H a = some (.tup xs) → H' a = some (.tup xs)) ∧ (∀ a o u, H a = some (.frz o u) → H' a = some (.frz o u))
theorem Im.refl (H : Hp) : Im H H := ⟨fun _ _ h => h, fun _ _ _ h => h⟩
theorem Im.trans {H H1 H2 : Hp} (a : Im H H1) (b : Im H1 H2) : Im H H2 := ⟨fun c xs h => b.1 c xs (a.1 c xs h), fun c o u h => b.2 c o u (a.2 c o u h)⟩
theorem Im.same {H H' : Hp} (h : ∀ b o, H b = some o → H' b = some o) : Im H H' := ⟨fun a _ e => h a _ e, fun a _ _ e => h a _ e⟩
theorem Im.new {H : Hp} {p : Addr} {o : HO} (h : H p = none) : Im H (upd H p o) := Im.same fun b u e => by
  rw [upd_ne (ne_of_none e h)]
  exact e
/-- a change at a place that holds neither -/
theorem Im.mut {H : Hp} {p : Addr} {o u : HO} (h : H p = some u) (n1 : ∀ xs, u ≠ .tup xs) (n2 : ∀ o v, u ≠ .frz o v) : Im H (upd H p o) := by
  refine ⟨fun a xs e => ?_, fun a ob v e => ?_⟩
  · rw [upd_ne (fun z => by rw [z, h] at e; exact n1 xs (Option.some.inj e))]
    exact e
  · rw [upd_ne (fun z => by rw [z, h] at e; exact n2 ob v (Option.some.inj e))]
    exact e
theorem Im.lst {H : Hp} {p : Addr} {o : HO} {ys : List V} (h : H p = some (.lst ys)) : Im H (upd H p o) := Im.mut h (fun _ z => by cases z) fun _ _ z => by cases z
theorem Im.dK {H : Hp} {p : Addr} {o : HO} {ys : List (Key × V)} (h : H p = some (.dK ys)) : Im H (upd H p o) := Im.mut h (fun _ z => by cases z) fun _ _ z => by cases z
theorem Im.dT {H : Hp} {p : Addr} {o : HO} {ys : List (List Key × V)} (h : H p = some (.dT ys)) : Im H (upd H p o) := Im.mut h (fun _ z => by cases z) fun _ _ z => by cases z
section
variable {K : PySem.W.Frag} {H H' : Hp}
theorem im_t {a : Addr} {xs : List V} (m : Im H H') (h : SqT K H a xs) : SqT K H' a xs := by
  rcases h with (h | ⟨o, h⟩) | h
  · exact .inl (.inl (m.1 _ _ h))
  · exact .inl (.inr ⟨o, m.2 _ _ _ h⟩)
  · exact .inr h
mutual
theorem Dt.mono (m : Im H H') : ∀ {v : V} {d : PyData}, Dt H v d → Dt H' v d
  | _, _, .non => .non
  | _, _, .bl b => .bl b
  | _, _, .int i => .int i
  | _, _, .str x => .str x
  | _, _, .tup h a => .tup (m.1 _ _ h) (DtA.mono m a)
theorem DtA.mono (m : Im H H') : ∀ {v : List V} {d : List PyData}, DtA H v d → DtA H' v d
  | _, _, .nil => .nil
  | _, _, .cons h a => .cons (Dt.mono m h) (DtA.mono m a)
end
mutual
theorem Dt.dp : ∀ {v : V} {d : PyData}, Dt H v d → Dp K H v d
  | _, _, .non => .non
  | _, _, .bl b => .bl b
  | _, _, .int i => .int i
  | _, _, .str x => .str x
  | _, _, .tup h a => .tup (.inl (.inl h)) (DtA.dp a)
theorem DtA.dp : ∀ {v : List V} {d : List PyData}, DtA H v d → DpAll K H v d
  | _, _, .nil => .nil
  | _, _, .cons h a => .cons (Dt.dp h) (DtA.dp a)
end
theorem DtA.len : ∀ {v : List V} {d : List PyData}, DtA H v d → v.length = d.length
  | _, _, .nil => rfl
  | _, _, .cons _ a => congrArg (· + 1) (DtA.len a)
theorem DtA.get : ∀ {v : List V} {d : List PyData} {i : Nat} {x : V}, DtA H v d → v[i]? = some x → ∃ y, d[i]? = some y ∧ Dt H x y
  | _, _, _, _, .nil, e => by simp at e
  | _, _, 0, _, .cons r _, e => by
    simp at e
    subst e
    exact ⟨_, rfl, r⟩
  | _, _, i + 1, x, .cons _ t, e => by
    obtain ⟨y, h1, h2⟩ := DtA.get (i := i) (x := x) t (by simpa using e)
    exact ⟨y, by simpa using h1, h2⟩
theorem DtA.getD : ∀ {v : List V} {d : List PyData} {i : Nat} {y : PyData}, DtA H v d → d[i]? = some y → ∃ x, v[i]? = some x ∧ Dt H x y
  | _, _, _, _, .nil, e => by simp at e
  | _, _, 0, _, .cons r _, e => by
    simp at e
    subst e
    exact ⟨_, rfl, r⟩
  | _, _, i + 1, y, .cons _ t, e => by
    obtain ⟨x, h1, h2⟩ := DtA.getD (i := i) (y := y) t (by simpa using e)
    exact ⟨x, by simpa using h1, h2⟩
theorem DtA.app : ∀ {v v' : List V} {d d' : List PyData}, DtA H v d → DtA H v' d' → DtA H (v ++ v') (d ++ d')
  | _, _, _, _, .nil, b => b
  | _, _, _, _, .cons r t, b => .cons r (DtA.app t b)
theorem DtA.snoc {v : List V} {x : V} {d : List PyData} {y : PyData} (a : DtA H v d) (h : Dt H x y) : DtA H (v ++ [x]) (d ++ [y]) := a.app (.cons h .nil)
theorem DtA.take : ∀ {v : List V} {d : List PyData} (n : Nat), DtA H v d → DtA H (v.take n) (d.take n)
  | _, _, 0, _ => .nil
  | _, _, _ + 1, .nil => .nil
  | _, _, n + 1, .cons r t => .cons r (DtA.take n t)
theorem DtA.drop : ∀ {v : List V} {d : List PyData} (n : Nat), DtA H v d → DtA H (v.drop n) (d.drop n)
  | _, _, 0, a => a
  | _, _, _ + 1, .nil => .nil
  | _, _, n + 1, .cons _ t => DtA.drop n t
/-- ints -/
theorem DtA.ints : ∀ (ns : List Int), DtA H (ns.map V.int) (ns.map PyData.int)
  | [] => .nil
  | n :: r => .cons (.int n) (DtA.ints r)
theorem DtA.ints_inv : ∀ {v : List V} {ns : List Int}, DtA H v (ns.map PyData.int) → v = ns.map V.int
  | _, [], .nil => rfl
  | _, n :: r, .cons (.int _) t => congrArg (V.int n :: ·) (DtA.ints_inv t)
theorem Dt.int_inv {v : V} {i : Int} (h : Dt H v (.int i)) : v = .int i := by
  cases h
  rfl
theorem Dt.bl_inv {v : V} {i : Bool} (h : Dt H v (.bool i)) : v = .bl i := by
  cases h
  rfl
theorem Dt.non_inv {v : V} (h : Dt H v .none) : v = .non := by
  cases h
  rfl
theorem Dt.str_inv {v : V} {x : Str} (h : Dt H v (.str x)) : v = .str x := by
  cases h
  rfl
theorem Dt.tup_inv {v : V} {ds : List PyData} (h : Dt H v (.tuple ds)) : ∃ a xs, v = .ref a ∧ H a = some (.tup xs) ∧ DtA H xs ds := by
  cases h with
  | tup a b => exact ⟨_, _, rfl, a, b⟩
/-- a new tuple of data -/
theorem Dt.new {p : Addr} {xs : List V} {ds : List PyData} (h : H p = none) (a : DtA H xs ds) : Dt (upd H p (.tup xs)) (.ref p) (.tuple ds) :=
  .tup upd_same (a.mono (Im.new h))
end
end Lw
namespace Lw
open PySem PySem.Spec PyProof.Rows L2 NdefX LamX
/-! ## orders: an instance whose dict 'kept' is a memo -/
abbrev Steps := List (Nat × Nat)
/-- what may be kept under a word -/
abbrev MemoF := Nat → Steps → Str → Option (List PyData)
def ePr (p : Nat × Nat) : PyData := .tuple [.int (p.1 : Int), .int (p.2 : Int)]
def ePs (ss : Steps) : PyData := .tuple (ss.map ePr)
def eN (n : Nat) : PyData := .int (n : Int)
def eNs (l : List Nat) : PyData := .tuple (l.map eN)
/-- a locked list of data -/
def FrzL (H : Hp) (v : V) (ds : List PyData) : Prop := ∃ p o vs, v = .ref p ∧ H p = some (.frz o (.lst vs)) ∧ DtA H vs ds
theorem FrzL.mono {H H' : Hp} {v : V} {ds : List PyData} (m : Im H H') (h : FrzL H v ds) : FrzL H' v ds := by
  obtain ⟨p, o, vs, e, h1, h2⟩ := h
  exact ⟨p, o, vs, e, m.2 _ _ _ h1, h2.mono m⟩
theorem FrzL.seq {K : PySem.W.Frag} {H : Hp} {v : V} {ds : List PyData} (h : FrzL H v ds) : ∃ p vs, v = .ref p ∧ SqL K H p vs ∧ DtA H vs ds := by
  obtain ⟨p, o, vs, e, h1, h2⟩ := h
  exact ⟨p, vs, e, .inl (.inr ⟨o, h1⟩), h2⟩
structure Prm where
  K : PySem.W.Frag
  C : Addr
  mm : MemoF
  T : List (Addr × Str)
  /-- no memo is written -/
  pu : Prop := False
  /-- whose memo a dict is -/
  ow : Addr → Option (Nat × Steps) := fun _ => none
def Memo (O : Prm) (H : Hp) (n : Nat) (ss : Steps) (kvs : List (Key × V)) : Prop :=
  ∀ k v, valV kvs k = some v → ∃ z ds, k = .inr z ∧ O.mm n ss z = some ds ∧ FrzL H v ds
abbrev oFs (n : Nat) (t : V) (d : Addr) : List (Str × V) := [("places", .int (n : Int)), ("steps", t), ("kept", .ref d)]
/-- at v stands the order of n places with the steps ss -/
def OrdAt (O : Prm) (H : Hp) (v : V) (n : Nat) (ss : Steps) : Prop :=
  ∃ p dx t d kvs, v = .ref p ∧ H p = some (.ins O.C dx (oFs n t d)) ∧ Dt H t (ePs ss) ∧ H d = some (.dK kvs) ∧ ((kvs.map (·.1)).Nodup ∧ O.ow d = some (n, ss)) ∧ (∀ e ∈ kvs, ∃ z, e.1 = Sum.inr z) ∧ Memo O H n ss kvs
theorem putK_words {kvs : List (Key × V)} {z : Str} {v : V} (h : ∀ e ∈ kvs, ∃ z, e.1 = Sum.inr z) : ∀ e ∈ putK kvs (Sum.inr z) v, ∃ z, e.1 = Sum.inr z := by
  intro e he
  unfold putK at he
  split at he
  · obtain ⟨b, hb, rfl⟩ := List.mem_map.mp he
    split
    · exact h b hb
    · exact h b hb
  · rcases List.mem_append.mp he with he | he
    · exact h e he
    · rw [List.mem_singleton.mp he]
      exact ⟨z, rfl⟩
theorem valV_none {kvs : List (Key × V)} {k : Key} : valV kvs k = none ↔ k ∉ kvs.map (·.1) := by
  induction kvs with
  | nil => simp [valV]
  | cons e r ih =>
    by_cases h : e.1 = k
    · rw [valV_pos h]
      simp [h]
    · rw [valV_neg h, ih, List.map_cons, List.mem_cons]
      simp [Ne.symm h]
theorem putK_nodup {kvs : List (Key × V)} {k : Key} {v : V} (h : (kvs.map (·.1)).Nodup) : ((putK kvs k v).map (·.1)).Nodup := by
  cases n : valV kvs k with
  | some u =>
    have e : (kvs.any fun kv => decide (kv.1 = k)) = true := by rw [valV_any, n]; rfl
    unfold putK
    rw [if_pos e, List.map_map]
    have e2 : ((fun x : Key × V => x.1) ∘ fun kv => if kv.1 = k then (kv.1, v) else kv) = fun x => x.1 := by
      funext x
      show (if x.1 = k then (x.1, v) else x).1 = x.1
      split <;> rfl
    rw [e2]
    exact h
  | none =>
  rw [putK_new _ n, List.map_append, List.nodup_append]
  refine ⟨h, by simp, fun a ha b hb e => ?_⟩
  subst e
  rw [List.map_cons, List.map_nil, List.mem_singleton] at hb
  subst hb
  exact valV_none.mp n ha
/-- the memo is small -/
theorem Memo.len {O : Prm} {H : Hp} {n : Nat} {ss : Steps} {kvs : List (Key × V)} {ws : List Str} (m : Memo O H n ss kvs) (hw : ∀ z ds, O.mm n ss z = some ds → z ∈ ws) (nd : (kvs.map (·.1)).Nodup) : kvs.length ≤ ws.length := by
  have := List.Nodup.length_le_of_subset nd (l₂ := ws.map Sum.inr) fun k hk => by
    cases e : valV kvs k with
    | none => exact absurd hk (valV_none.mp e)
    | some v =>
      obtain ⟨z, ds, e1, e2, _⟩ := m k v e
      rw [e1]
      exact List.mem_map.mpr ⟨z, hw z ds e2, rfl⟩
  rwa [List.length_map, List.length_map] at this
/-- .. a new one, its memo at d -/
def OrdNew (O : Prm) (H : Hp) (v : V) (n : Nat) (ss : Steps) (d : Addr) : Prop :=
  ∃ p dx t, v = .ref p ∧ H p = some (.ins O.C dx (oFs n t d)) ∧ Dt H t (ePs ss) ∧ H d = some (.dK [])
/-- what no one changes unseen, but where A says so -/
def Stb (O : Prm) (A : Addr → Prop) (b : Addr) : HO → Prop
  | .tbl _ => False
  | .lst _ => ¬ A b
  | .dT _ => ¬ A b
  | .dK kvs => ¬ A b ∧ (O.pu ∨ ∃ e ∈ kvs, ∃ i : Int, e.1 = Sum.inl i)
  | .ins C _ _ => C = O.C ∨ ¬ A b
  | _ => True
/-- from H on to H': all stays, but what A names, memos and tables, which grow -/
structure Ex (O : Prm) (A : Addr → Prop) (H H' : Hp) : Prop where
  im : Im H H'
  cel : ∀ b o, H b = some o → Stb O A b o → H' b = some o
  ord : ∀ v n ss, OrdAt O H v n ss → OrdAt O H' v n ss
  dom : ∀ b, H' b = none → H b = none
  tab : Tabs O.T H → Tabs O.T H'
abbrev nA : Addr → Prop := fun _ => False
section
variable {O : Prm} {A : Addr → Prop} {H H' H1 H2 : Hp} {v : V} {n : Nat} {ss : Steps}
theorem Memo.mono {kvs : List (Key × V)} (m : Im H H') (h : Memo O H n ss kvs) : Memo O H' n ss kvs := fun k v e => by
  obtain ⟨z, ds, e1, e2, e3⟩ := h k v e
  exact ⟨z, ds, e1, e2, e3.mono m⟩
theorem OrdAt.same (m : ∀ b o, H b = some o → H' b = some o) (h : OrdAt O H v n ss) : OrdAt O H' v n ss := by
  obtain ⟨p, dx, t, d, kvs, e, h1, h2, h3, h4, h5, h6⟩ := h
  exact ⟨p, dx, t, d, kvs, e, m _ _ h1, h2.mono (.same m), m _ _ h3, h4, h5, h6.mono (.same m)⟩
theorem Ex.refl (H : Hp) : Ex O A H H := ⟨.refl H, fun _ _ h _ => h, fun _ _ _ h => h, fun _ h => h, fun h => h⟩
theorem Ex.trans (a : Ex O A H H1) (b : Ex O A H1 H2) : Ex O A H H2 :=
  ⟨a.im.trans b.im, fun c o h s => b.cel c o (a.cel c o h s) s, fun v n ss h => b.ord v n ss (a.ord v n ss h), fun c h => a.dom c (b.dom c h), fun h => b.tab (a.tab h)⟩
theorem Stb.mono {A' : Addr → Prop} {b : Addr} {o : HO} (h : ∀ b, A b → A' b) (s : Stb O A' b o) : Stb O A b o := by
  cases o with
  | lst xs => exact fun z => s (h b z)
  | dT kvs => exact fun z => s (h b z)
  | dK kvs => exact ⟨fun z => s.1 (h b z), s.2⟩
  | ins C dx fs => exact s.imp_right fun n z => n (h b z)
  | tbl ps => exact s
  | _ => exact True.intro
theorem Ex.mono {A' : Addr → Prop} (a : Ex O A H H1) (h : ∀ b, A b → A' b) : Ex O A' H H1 :=
  ⟨a.im, fun c o e s => a.cel c o e (s.mono h), a.ord, a.dom, a.tab⟩
theorem Ex.same (m : ∀ b o, H b = some o → H' b = some o) : Ex O A H H' :=
  ⟨.same m, fun b o h _ => m b o h, fun _ _ _ h => h.same m, fun b h => by
    cases e : H b with
    | none => rfl
    | some o =>
      rw [m b o e] at h
      exact absurd h (by simp), fun h => Tabs.ext h m⟩
theorem OrdNew.to {d : Addr} (h : OrdNew O H v n ss d) (e : O.ow d = some (n, ss)) : OrdAt O H v n ss := by
  obtain ⟨p, dx, t, e', h1, h2, h3⟩ := h
  exact ⟨p, dx, t, d, [], e', h1, h2, h3, ⟨List.nodup_nil, e⟩, fun _ z => absurd z (by simp), fun _ _ z => by cases z⟩
/-- what was kept is written: a new list of data, locked from now on -/
theorem Ex.keep {p dx d l : Addr} {t : V} {kvs : List (Key × V)} {z : Str} {us : List V} {ds : List PyData} {od : Obj} (np : ¬ O.pu) (a : Ex O nA H H1) (hl : H l = none) (h1 : H1 p = some (.ins O.C dx (oFs n t d))) (h2 : Dt H1 t (ePs ss)) (h3 : H1 d = some (.dK kvs))
    (h4 : (kvs.map (·.1)).Nodup ∧ O.ow d = some (n, ss)) (h5 : ∀ e ∈ kvs, ∃ z, e.1 = Sum.inr z) (hd : H1 l = some (.lst us)) (hu : DtA H1 us ds) (hm : O.mm n ss z = some ds) :
    Ex O nA H (upd (upd H1 d (.dK (putK kvs (Sum.inr z) (.ref l)))) l (.frz od (.lst us))) := by
  have ndl : d ≠ l := fun e => by rw [e, hd] at h3; cases h3
  have i1 : Im H1 (upd H1 d (.dK (putK kvs (Sum.inr z) (.ref l)))) := .dK h3
  have i2 : Im (upd H1 d (.dK (putK kvs (Sum.inr z) (.ref l)))) (upd (upd H1 d (.dK (putK kvs (Sum.inr z) (.ref l)))) l (.frz od (.lst us))) := .lst (by rw [upd_ne (Ne.symm ndl)]; exact hd)
  have i3 := i1.trans i2
  have oth : ∀ b, b ≠ d → b ≠ l → upd (upd H1 d (.dK (putK kvs (Sum.inr z) (.ref l)))) l (.frz od (.lst us)) b = H1 b := fun b e1 e2 => by rw [upd_ne e2, upd_ne e1]
  have atd : upd (upd H1 d (.dK (putK kvs (Sum.inr z) (.ref l)))) l (.frz od (.lst us)) d = some (.dK (putK kvs (Sum.inr z) (.ref l))) := by rw [upd_ne ndl, upd_same]
  have nd : ∀ b o, H1 b = some o → (∀ k, o ≠ .dK k) → b ≠ d := fun b o e n z => by
    rw [z, h3] at e
    exact n _ (Option.some.inj e).symm
  have nl : ∀ b o, H1 b = some o → (∀ k, o ≠ .lst k) → b ≠ l := fun b o e n z => by
    rw [z, hd] at e
    exact n _ (Option.some.inj e).symm
  refine ⟨a.im.trans i3, fun b o e s => ?_, fun v' n' ss' h => ?_, fun b e => ?_, fun h q hq => ?_⟩
  · have e1 := a.cel b o e s
    have bd : b ≠ d := fun z => by
      rw [z, h3] at e1
      cases e1
      rcases s.2 with s | ⟨en, hen, i, hi⟩
      · exact np s
      · obtain ⟨w, hw⟩ := h5 en hen
        rw [hi] at hw
        cases hw
    rw [oth b bd (fun z => by rw [z, hl] at e; cases e)]
    exact e1
  · obtain ⟨p', dx', t', d', kvs', e', j1, j2, j3, j4, j5, j6⟩ := a.ord v' n' ss' h
    have jp := (oth p' (nd _ _ j1 fun _ z => by cases z) (nl _ _ j1 fun _ z => by cases z)).trans j1
    by_cases hdd : d' = d
    · subst hdd
      rw [h3] at j3
      cases j3
      have e9 : (n', ss') = (n, ss) := Option.some.inj (j4.2.symm.trans h4.2)
      cases e9
      refine ⟨p', dx', t', d', _, e', jp, j2.mono i3, atd, ⟨putK_nodup h4.1, h4.2⟩, fun en hen => ?_, fun k v hk => ?_⟩
      · exact putK_words h5 en hen
      · rw [valV_put] at hk
        by_cases hkz : k = Sum.inr z
        · rw [if_pos hkz] at hk
          cases hk
          exact ⟨z, ds, hkz, hm, l, od, us, rfl, upd_same, hu.mono i3⟩
        · rw [if_neg hkz] at hk
          obtain ⟨w, es, q1, q2, q3⟩ := j6 k v hk
          exact ⟨w, es, q1, q2, q3.mono i3⟩
    · refine ⟨p', dx', t', d', kvs', e', jp, j2.mono i3, ?_, j4, j5, j6.mono i3⟩
      rw [oth d' hdd (nl _ _ j3 fun _ z => by cases z)]
      exact j3
  · by_cases z1 : b = l
    · rw [z1]
      exact hl
    · rw [upd_ne z1] at e
      by_cases z2 : b = d
      · rw [z2, upd_same] at e
        cases e
      · rw [upd_ne z2] at e
        exact a.dom b e
  · obtain ⟨ps, t1, t2, t3⟩ := a.tab h q hq
    refine ⟨ps, (oth _ (nd _ _ t1 fun _ z => by cases z) (nl _ _ t1 fun _ z => by cases z)).trans t1, t2, fun pos cv hc => ?_⟩
    obtain ⟨c, e1, e2⟩ := t3 pos cv hc
    exact ⟨c, e1, (oth c (nd _ _ e2 fun _ z => by unfold CodeO at z; cases z) (nl _ _ e2 fun _ z => by unfold CodeO at z; cases z)).trans e2⟩
/-- the same, no memo written -/
abbrev Prm.p (O : Prm) : Prm := { O with pu := True }
theorem Ex.wk (a : Ex O.p A H H1) : Ex O A H H1 := by
  refine ⟨a.im, fun c o e s => a.cel c o e ?_, a.ord, a.dom, a.tab⟩
  cases o with
  | dK kvs => exact ⟨s.1, .inl True.intro⟩
  | _ => exact s
theorem same_new {p : Addr} {o : HO} (h : H p = none) : ∀ b u, H b = some u → upd H p o b = some u := fun b u e => by
  rw [upd_ne (ne_of_none e h)]
  exact e
theorem Ex.new {p : Addr} {o : HO} (h : H p = none) : Ex O A H (upd H p o) := .same (same_new h)
/-- an object that was not there at H is changed -/
theorem Ex.own {p : Addr} {o u : HO} (a : Ex O A H H1) (hp : H p = none) (h1 : H1 p = some o) (n1 : ∀ xs, o ≠ .tup xs) (n2 : ∀ b v, o ≠ .frz b v) (n3 : ∀ ps, o ≠ .tbl ps) (n4 : ∀ q, o ≠ CodeO p q) : Ex O A H (upd H1 p u) := by
  have ne : ∀ b w, H b = some w → b ≠ p := fun b w e => ne_of_none e hp
  have mu : Im H1 (upd H1 p u) := .mut h1 n1 n2
  refine ⟨a.im.trans mu, fun b w e s => ?_, fun v n ss h => ?_, fun b e => ?_, fun h q hq => ?_⟩
  · rw [upd_ne (ne b w e)]
    exact a.cel b w e s
  · have h0 := h
    obtain ⟨p0, dx, t, d, kvs, e, i1, i2, i3, i4, i5, i6⟩ := a.ord v n ss h
    obtain ⟨p1, dx1, t1, d1, kvs1, e', j1, j2, j3, j4, j5, j6⟩ := h0
    rw [e] at e'
    cases e'
    have d0 : d ≠ p := by
      have q := a.cel p0 _ j1 (.inl rfl)
      rw [q] at i1
      cases i1
      exact ne d _ j3
    refine ⟨p0, dx, t, d, kvs, e, ?_, i2.mono mu, ?_, i4, i5, i6.mono mu⟩
    · rw [upd_ne (ne p0 _ j1)]
      exact i1
    · rw [upd_ne d0]
      exact i3
  · by_cases z : b = p
    · rw [z]
      exact hp
    · rw [upd_ne z] at e
      exact a.dom b e
  · obtain ⟨ps, t1, t2, t3⟩ := a.tab h q hq
    refine ⟨ps, ?_, t2, fun pos cv hc => ?_⟩
    · rw [upd_ne (fun z => by rw [z, h1] at t1; exact n3 ps (Option.some.inj t1))]
      exact t1
    · obtain ⟨c, e1, e2⟩ := t3 pos cv hc
      refine ⟨c, e1, ?_⟩
      rw [upd_ne (fun z => by rw [z, h1] at e2; subst z; exact n4 _ (Option.some.inj e2))]
      exact e2
end
end Lw
namespace Lw
open PySem PySem.Spec PyProof.Rows L2 NdefX LamX
/-! ## promises and calls -/
abbrev Spn := List V → Hp → VK → Prop
abbrev nn (sp : Spn) : Sp := fun vs H Q _ => sp vs H Q
/-- the def named x keeps the promise sp, at most k calls deep; it raises nothing -/
structure Df (P : Program) (w : World) (K : PySem.W.Frag) (mg : Str → Option Value) (base : Heap) (k : Nat) (x : Str) (sp : Spn) : Prop where
  ex : ∃ (f : Addr) (fd : FuncData) (ps : List Str), FnOk P w K mg base (L2.CX P w) k f fd ps (nn sp) ∧ mg x = some (.ref f) ∧ PySem.W.keepIn K (.ref f) = true ∧ Binds K fd ps []
theorem Df.imp {P : Program} {w : World} {K : PySem.W.Frag} {mg : Str → Option Value} {base : Heap} {k : Nat} {x : Str} {sp sp' : Spn} (d : Df P w K mg base k x sp) (h : ∀ vs H Q, sp' vs H Q → sp vs H Q) : Df P w K mg base k x sp' := by
  obtain ⟨f, fd, ps, a, b, c, e⟩ := d.ex
  exact ⟨f, fd, ps, a.imp fun vs H Q _ q => h vs H Q q, b, c, e⟩
theorem Df.mono {P : Program} {w : World} {K : PySem.W.Frag} {mg : Str → Option Value} {base : Heap} {j k : Nat} {x : Str} {sp : Spn} (d : Df P w K mg base j x sp) (h : j ≤ k) : Df P w K mg base k x sp := by
  obtain ⟨f, fd, ps, a, b, c, e⟩ := d.ex
  exact ⟨f, fd, ps, a.mono h, b, c, e⟩
section
variable {P : Program} {w : World} {K : PySem.W.Frag} {mg : Str → Option Value} {base : Heap}
/-- a def by its body -/
theorem fn_w {x qual : Str} {st : Stmt} {f : Addr} {fd : FuncData} {N ps : List Str} {k : Nat} {sp : Spn} (F : Fun K x qual st f fd) (S : FnScope N ps (defScope st)) (len : ∀ vs H Q, sp vs H Q → vs.length = ps.length)
    (hbody : ∀ (cdv : Value) (A : Around) (outer : List Env) (s : Shared) (H : Hp) (vs : List V) (Q : VK) (E : XK), Room k (A.deeper (envOfC qual (defScope st) s.heap.objs.size f cdv)) → sp vs H Q →
      wS (cxOf (L2.CX P w) P w K mg base N qual (defScope st) f cdv A outer s H E).nox (defBody st) { nx := fun _ H' => Q .non H', rt := Q } (start N vs) H) : FnOk P w K mg base (L2.CX P w) (k + 1) f fd ps (nn sp) :=
  F.okX S (fun vs H Q _ h => len vs H Q h) fun cdv A outer s H vs Q E hr h => ⟨_, wS_pss.nox, hbody cdv A outer s H vs Q E hr h⟩
end
section
variable {X : Cx} {σ : L2.St} {H : Hp} {Q : VK} {x : Str} {p pos : Pos} {sp : Spn} {j k : Nat} {a b c d : Expr}
theorem wE_call0 (D : Df X.prog X.w X.K X.mg X.base k x sp) (hr : Room j X.A) (hk : k ≤ j) (hg : Gl X x) (hd : (x == ("__debug__" : Str)) = false) (q : sp [] H Q) :
    wE X (.Call (.Name x p) [] [] pos) σ H Q := by
  obtain ⟨f, fd, ps, F, hm, kp, bd⟩ := D.ex
  exact wE_of (pe_call0 F (hr.mono hk) hg hm kp bd .nil passL hd) q
theorem wE_call1 (D : Df X.prog X.w X.K X.mg X.base k x sp) (hr : Room j X.A) (hk : k ≤ j) (hg : Gl X x) (hd : (x == ("__debug__" : Str)) = false)
    (h1 : starEach [a] X.env = (false, eval a X.env) :: starEach [] X.env) (q : wE X a σ H fun v H1 => sp [v] H1 Q) :
    wE X (.Call (.Name x p) [a] [] pos) σ H Q := by
  obtain ⟨f, fd, ps, F, hm, kp, bd⟩ := D.ex
  exact wE_of (pe_call F (hr.mono hk) hg hm kp bd .nil passL (pa_cons wE_pe pa_nil h1) hd h1 (by rfl)) q
theorem wE_call2 (D : Df X.prog X.w X.K X.mg X.base k x sp) (hr : Room j X.A) (hk : k ≤ j) (hg : Gl X x) (hd : (x == ("__debug__" : Str)) = false)
    (h1 : starEach [a, b] X.env = (false, eval a X.env) :: starEach [b] X.env) (h2 : starEach [b] X.env = (false, eval b X.env) :: starEach [] X.env)
    (q : wE X a σ H fun v H1 => wE X b σ H1 fun u H2 => sp [v, u] H2 Q) :
    wE X (.Call (.Name x p) [a, b] [] pos) σ H Q := by
  obtain ⟨f, fd, ps, F, hm, kp, bd⟩ := D.ex
  exact wE_of (pe_call F (hr.mono hk) hg hm kp bd .nil passL (pa_cons wE_pe (pa_cons wE_pe pa_nil h2) h1) hd h1 (by rw [h2]; rfl)) q
theorem wE_call3 (D : Df X.prog X.w X.K X.mg X.base k x sp) (hr : Room j X.A) (hk : k ≤ j) (hg : Gl X x) (hd : (x == ("__debug__" : Str)) = false)
    (h1 : starEach [a, b, c] X.env = (false, eval a X.env) :: starEach [b, c] X.env) (h2 : starEach [b, c] X.env = (false, eval b X.env) :: starEach [c] X.env) (h3 : starEach [c] X.env = (false, eval c X.env) :: starEach [] X.env)
    (q : wE X a σ H fun v H1 => wE X b σ H1 fun u H2 => wE X c σ H2 fun t H3 => sp [v, u, t] H3 Q) :
    wE X (.Call (.Name x p) [a, b, c] [] pos) σ H Q := by
  obtain ⟨f, fd, ps, F, hm, kp, bd⟩ := D.ex
  exact wE_of (pe_call F (hr.mono hk) hg hm kp bd .nil passL (pa_cons wE_pe (pa_cons wE_pe (pa_cons wE_pe pa_nil h3) h2) h1) hd h1 (by rw [h2, h3]; rfl)) q
theorem wE_call4 (D : Df X.prog X.w X.K X.mg X.base k x sp) (hr : Room j X.A) (hk : k ≤ j) (hg : Gl X x) (hd : (x == ("__debug__" : Str)) = false)
    (h1 : starEach [a, b, c, d] X.env = (false, eval a X.env) :: starEach [b, c, d] X.env) (h2 : starEach [b, c, d] X.env = (false, eval b X.env) :: starEach [c, d] X.env) (h3 : starEach [c, d] X.env = (false, eval c X.env) :: starEach [d] X.env) (h4 : starEach [d] X.env = (false, eval d X.env) :: starEach [] X.env)
    (q : wE X a σ H fun v H1 => wE X b σ H1 fun u H2 => wE X c σ H2 fun t H3 => wE X d σ H3 fun r H4 => sp [v, u, t, r] H4 Q) :
    wE X (.Call (.Name x p) [a, b, c, d] [] pos) σ H Q := by
  obtain ⟨f, fd, ps, F, hm, kp, bd⟩ := D.ex
  exact wE_of (pe_call F (hr.mono hk) hg hm kp bd .nil passL (pa_cons wE_pe (pa_cons wE_pe (pa_cons wE_pe (pa_cons wE_pe pa_nil h4) h3) h2) h1) hd h1 (by rw [h2, h3, h4]; rfl)) q
/-! ## names, constants, operators -/
theorem wE_name (i : Nat) {v : V} (hN : X.N[i]? = some x) (hv : Vis X.env.scope x) (hd : (x == ("__debug__" : Str)) = false) (hcd : (x == ("__classdict__" : Str)) = false) (e : σ[i]? = some (some v)) (q : Q v H) :
    wE X (.Name x pos) σ H Q := wE_of (pe_var hN hv hd hcd) ⟨v, e, q⟩
theorem wE_int {i : Int} {n : Nat} (q : Q (.int i) H) : wE X (.Constant (.int i) n pos) σ H Q := wE_of pe_int q
theorem wE_bl {i : Bool} {n : Nat} (q : Q (.bl i) H) : wE X (.Constant (.bool i) n pos) σ H Q := wE_of pe_bl q
theorem wE_non {n : Nat} (q : Q .non H) : wE X (.Constant .none n pos) σ H Q := wE_of pe_non q
theorem wE_str {z : Str} {n : Nat} (q : Q (.str z) H) : wE X (.Constant (.str z) n pos) σ H Q := wE_of pe_str q
theorem wE_glob {v : V} {u : Value} (hg : Gl X x) (hm : X.mg x = some u) (r : RelV v u) (hd : (x == ("__debug__" : Str)) = false) (q : Q v H) : wE X (.Name x pos) σ H Q := wE_of (pe_glob hg hm r hd) q
theorem wE_op {op : Operator} {r : R2} (ho : OpR X (binaryOp op) r) (q : wE X a σ H fun v H1 => wE X b σ H1 fun u H2 => r v u H2 Q) : wE X (.BinOp a op b pos) σ H Q := wE_of (pe_op ho wE_pe wE_pe) q
theorem wE_cmp {op : CmpOp} {r : R2} (ho : OpR X (compareOp op) r) (hm : behindInMarks op b = false) (q : wE X a σ H fun v H1 => wE X b σ H1 fun u H2 => r v u H2 Q) : wE X (.Compare a [op] [b] pos) σ H Q := wE_of (pe_cmpR ho wE_pe wE_pe hm) q
theorem wT_cmp {op : CmpOp} {r : R2} {Q : Bool → Hp → Prop} (ho : OpR X (compareOp op) r) (hm : behindInMarks op b = false) (q : wE X a σ H fun v H1 => wE X b σ H1 fun u H2 => r v u H2 fun z H3 => ∃ k, z = .bl k ∧ Q k H3) : wT X (.Compare a [op] [b] pos) σ H Q := wT_of (pt_cmpR ho wE_pe wE_pe hm) q
theorem wE_chain {op op' : CmpOp} {r r' : R2} (ho : OpR X (compareOp op) r) (ho' : OpR X (compareOp op') r') (hm : lastMarks [op, op'] [b, c] = false)
    (q : wE X a σ H fun v H1 => wE X b σ H1 fun u H2 => r v u H2 fun z H3 => ∃ k, z = .bl k ∧ (if k = true then wE X c σ H3 fun t H4 => r' u t H4 Q else Q (.bl false) H3)) : wE X (.Compare a [op, op'] [b, c] pos) σ H Q := wE_of (pe_chain ho ho' wE_pe wE_pe wE_pe hm) q
theorem wT_chain {op op' : CmpOp} {r r' : R2} {Q : Bool → Hp → Prop} (ho : OpR X (compareOp op) r) (ho' : OpR X (compareOp op') r') (hm : lastMarks [op, op'] [b, c] = false)
    (q : wE X a σ H fun v H1 => wE X b σ H1 fun u H2 => r v u H2 fun z H3 => ∃ k, z = .bl k ∧ (if k = true then wE X c σ H3 fun t H4 => r' u t H4 (fun z H5 => ∃ k, z = .bl k ∧ Q k H5) else ∃ k, V.bl false = .bl k ∧ Q k H3)) : wT X (.Compare a [op, op'] [b, c] pos) σ H Q :=
  wT_of (pt_chain ho ho' wE_pe wE_pe wE_pe hm) q
theorem wE_un {op : UnaryOp} {r : V → Hp → VK → Prop} (ho : UnR X (unaryOp op) r) (q : wE X a σ H fun v H1 => r v H1 Q) : wE X (.UnaryOp op a pos) σ H Q := wE_of (pe_un ho wE_pe) q
/-! ## and, or, not, if-else -/
theorem wE_and {r : List Expr} (q : wE X a σ H fun v H1 => ∃ c, v = .bl c ∧ if c = true then wE X (.BoolOp .And (b :: r) pos) σ H1 Q else Q (.bl false) H1) : wE X (.BoolOp .And (a :: b :: r) pos) σ H Q := wE_of (pe_and wE_pe wE_pe) q
theorem wE_or {r : List Expr} (q : wE X a σ H fun v H1 => ∃ c, v = .bl c ∧ if c = true then Q (.bl true) H1 else wE X (.BoolOp .Or (b :: r) pos) σ H1 Q) : wE X (.BoolOp .Or (a :: b :: r) pos) σ H Q := wE_of (pe_or wE_pe wE_pe) q
theorem wE_one {op : BoolOp} (q : wE X a σ H Q) : wE X (.BoolOp op [a] pos) σ H Q := wE_of (pe_one wE_pe) q
theorem wE_not (q : wE X a σ H fun v H1 => ∃ c, v = .bl c ∧ Q (.bl (!c)) H1) : wE X (.UnaryOp .Not a pos) σ H Q := wE_of (pe_not wE_pe) q
theorem wE_if {c : Expr} (q : wT X c σ H fun k H1 => if k = true then wE X a σ H1 Q else wE X b σ H1 Q) : wE X (.IfExp c a b pos) σ H Q := wE_of (pe_ifExp wT_pt wE_pe wE_pe) q
/-- the test of an expression that gives a truth -/
theorem wT_val {Q : Bool → Hp → Prop} (he : ∀ whole, isTrue a X.env whole = (do let v ← whole; standAt a.pos; holding [v] (truthy v))) (q : wE X a σ H fun v H1 => ∃ c, v = .bl c ∧ Q c H1) : wT X a σ H Q := wT_of (pt_val wE_pe he) q
theorem wT_not {Q : Bool → Hp → Prop} (q : wT X a σ H fun c H1 => Q (!c) H1) : wT X (.UnaryOp .Not a pos) σ H Q := wT_of (pt_not wT_pt) q
end
end Lw
/-! enumerate of a tuple -/
namespace PySem
open Sem (wp)
open AutoSeq1 (wpAny_loadPart')
theorem lw_enumNew {vv : Value} {ob : Obj} {HH : Heap → Prop} (BB : Begins vv ob HH) :
    Meets (Builtin.«enumerate.__new__» ⟨[.type "enumerate", vv], []⟩) (fun _ R sh => HH sh.heap ∧
      R (.ok (.ret (.ref (sh.heap.push ob).objs.size)))
        { sh with heap := (sh.heap.push ob).push { cls := .type "enumerate", data := .fields #[.none, .bool false, .ref sh.heap.objs.size, rawInt 0, .none, .none] } }) :=
  .of_wp fun prog w A R sh hyp => by
    obtain ⟨hp, gg, dr, tk, os⟩ := sh
    obtain ⟨b1, b2⟩ := hyp
    have hs0 := sub_enumerate
    have it1 : ∀ {A' : Around} {E : Value → Shared → Prop} {Q : Value → Shared → Prop}, Q (.ref hp.objs.size) ⟨hp.push ob, gg, dr, tk, os⟩ →
        wpAny (model prog w) A' (pyIter vv) Q E ⟨hp, gg, dr, tk, os⟩ := fun z => BB.iter prog w _ _ ⟨hp, gg, dr, tk, os⟩ _ b1 z
    wp_walk using it1
    refine wpAny_stack_any fun st0 => wpAny_pure ?_
    split
    · rename_i c _ _ _ _ _
      cases (c == Value.type "enumerate") <;> (wp_walk using it1; exact ⟨_, rfl, b2⟩)
    · wp_walk using it1
      exact ⟨_, rfl, b2⟩
theorem lw_enumBegins {prog : Program} {w : World} {A : Around} {E : Value → Shared → Prop} {sh : Shared} {vv : Value} {ob : Obj} {HH : Heap → Prop} {Q : Value → Shared → Prop} (BB : Begins vv ob HH) (b1 : HH sh.heap)
    (k : ∀ h', IsEnum h' (sh.heap.objs.size + 1) sh.heap.objs.size 0 .none → h'.get? sh.heap.objs.size = some ob → h'.objs.size = sh.heap.objs.size + 2 →
      (∀ b o, sh.heap.get? b = some o → h'.get? b = some o) → Q (.ref (sh.heap.objs.size + 1)) { sh with heap := h' }) :
    wpAny (model prog w) A (call (.type "enumerate") [vv]) Q E sh := by
  refine callType_new F.called_enumerate (by decide) (F.typeCall_enumerate_1 _)
    (F.newCall_enumerate_1 _) (fun obj => F.args_object_init_2 obj _) F.entry_enumerate_new (lw_enumNew BB) ⟨b1, ?_⟩
  have z1 : (sh.heap.push ob).objs.size = sh.heap.objs.size + 1 := Heap.size_push ..
  show _ ∧ _
  rw [z1]
  have en : IsEnum ((sh.heap.push ob).push { cls := .type "enumerate", data := .fields #[.none, .bool false, .ref sh.heap.objs.size, rawInt 0, .none, .none] }) (sh.heap.objs.size + 1) sh.heap.objs.size 0 .none := by
    have q := Heap.get?_push_size (sh.heap.push ob) (o := { cls := .type "enumerate", data := .fields #[.none, .bool false, .ref sh.heap.objs.size, rawInt 0, .none, .none] }) rfl
    rw [z1] at q
    exact q
  exact ⟨⟨_, en, rfl⟩, k _ en (Heap.get?_push_of_some _ (Heap.get?_push_size _ BB.free)) (by rw [Heap.size_push, z1])
    fun b o x => Heap.get?_push_of_some _ (Heap.get?_push_of_some _ x)⟩
end PySem
namespace Lw
open PySem PySem.Spec PyProof.Rows L2
/-- the tuple at a, item by item, in new pairs with the index -/
def ItEt (K : PySem.W.Frag) (a : Addr) : It :=
  ⟨fun i H => ∃ (xs : List V) (x : V), SqT K H a xs ∧ xs[i]? = some x,
   fun i H v H' => ∃ T x, v = .ref T ∧ H T = none ∧ H' = upd H T (.tup [.int (i : Nat), x]) ∧ ∀ xs, SqT K H a xs → xs[i]? = some x,
   fun i H => ∃ xs : List V, SqT K H a xs ∧ xs.length = i⟩
theorem turnEt {P : Program} {w : World} {K : PySem.W.Frag} {elts : List Expr} {kk : Nat} {tpos : Pos} (a e it : Addr) :
    Turn P w K (.Tuple elts kk tpos) (ItEt K a) [e, it] e (fun i h => (∃ old, IsEnum h e it ((i : Nat) : Int) old) ∧ h.IsTupleIter it a i ∧ e ≠ it) where
  mem := by simp
  obj := fun i h st b hb => by
    obtain ⟨⟨old, he⟩, ⟨o, ho, hc, hd⟩, _⟩ := st
    have z : b = e ∨ b = it := by simpa using hb
    rcases z with rfl | rfl
    · exact ⟨_, he, fun v q => nomatch q⟩
    · exact ⟨o, ho, fun v q => by rw [hd] at q; cases q⟩
  keep := fun i h h' st k => ⟨st.1.elim fun old he => ⟨old, k e (by simp) _ he⟩, st.2.1.at fun o q => k it (by simp) o q, st.2.2⟩
  item := by
    intro X hP hw hK hc i pins s σ H E I hf st hg
    subst hP hw hK
    obtain ⟨⟨old, he⟩, hit, hne⟩ := st
    obtain ⟨xs, x, hq, hx⟩ := hg
    obtain ⟨its, rv, p, hz⟩ := I.tuple hq
    have hT0 : s.heap.IsTuple a its.toArray := p
    have hni : a ≠ it := fun z => by
      obtain ⟨o1, h1, c1, _⟩ := hit
      obtain ⟨o2, h2, c2, _⟩ := hT0
      rw [z, h1] at h2
      cases h2
      rw [c1] at c2
      injection c2 with q
      exact absurd q (by decide)
    have hne2 : a ≠ e := fun z => by
      obtain ⟨o2, h2, c2, _⟩ := hT0
      rw [z, he] at h2
      cases h2
      injection c2 with q
      exact absurd q (by decide)
    have hi : i < its.toArray.size := by
      have q := List.getElem?_eq_some_iff.mp hx
      obtain ⟨q, _⟩ := q
      have := rv.length
      simp
      omega
    have hel : e < s.heap.objs.size := Heap.lt_size he
    have hil : it < s.heap.objs.size := by
      obtain ⟨_, q, _⟩ := hit
      exact Heap.lt_size q
    refine wpAny_pyNext_enum_itemD (Draws.tuple (A := X.A.in1) (I.ok.hd hc) it a hni its.toArray) he ⟨hit, hT0⟩ hi hne (by simp [hne, hne2.symm]) fun y h' tk hy ho hst hT hsz hk => ?_
    obtain ⟨u, hu, ru⟩ := rv.get hx
    have eu : y = u := by
      have q : its.toArray[i]? = some u := by simpa using hu
      exact Option.some.inj (hy.symm.trans q)
    subst eu
    refine ⟨_, rfl, wpAny_letOwnedTupleGo_enum (s := { s with heap := h', toks := tk + 1 }) ho fun h'' he' sb => ?_⟩
    have hT2 : h''.get? s.heap.objs.size = some { cls := .type "tuple", data := .seq #[.int i tk, y] } := (sb.2 _ (Nat.ne_of_gt hel)).trans hT
    have fresh : H s.heap.objs.size = none := I.hok.fresh (Nat.le_refl _)
    have I1 : Inv X pins σ (upd H s.heap.objs.size (.tup [.int (i : Nat), x])) { s with heap := h'', toks := tk + 1 } :=
      I.turnedNew (ch := [e, it]) (fun b ob hb q => (sb.2 b (fun z => hb (by simp [z]))).trans (hk b ob (fun z => hb (by simp [z])) (fun z => hb (by simp [z])) q)) hf (Nat.le_refl _)
        ⟨by show 2 ≤ sizeLine; decide, [.int i tk, y], .cons ⟨_, rfl⟩ (.cons ru .nil), ⟨_, hT2, rfl, _, rfl⟩⟩
    refine ⟨.ref s.heap.objs.size, _, I1, rfl, ⟨_, x, rfl, fresh, rfl, fun ys hy => by rw [I.tuple_inj hy hq]; exact hx⟩, ⟨⟨y, ?_⟩, hst.1.at fun o q => (sb.2 it (Ne.symm hne)).trans q, hne⟩, fun b hb => ?_⟩
    · rw [show ((i + 1 : Nat) : Int) = (i : Int) + 1 by omega]
      exact he'
    · have z : b = e ∨ b = it := by simpa using hb
      have hb' : b < s.heap.objs.size := by rcases z with rfl | rfl <;> assumption
      rw [upd_ne (Nat.ne_of_lt hb')]
      exact (hf b hb).1
  done := by
    intro X hP hw hK hc i pins s σ H E I hf st hg
    subst hP hw hK
    obtain ⟨⟨old, he⟩, hit, hne⟩ := st
    obtain ⟨xs, hq, hx⟩ := hg
    obtain ⟨its, rv, p, hz⟩ := I.tuple hq
    have hT0 : s.heap.IsTuple a its.toArray := p
    have hl := rv.length
    obtain ⟨f0, f1, f2, f3, f4, f5⟩ := hf it (by simp)
    have hni : a ≠ it := fun z => by
      obtain ⟨o1, h1, c1, _⟩ := hit
      obtain ⟨o2, h2, c2, _⟩ := hT0
      rw [z, h1] at h2
      cases h2
      rw [c1] at c2
      injection c2 with q
      exact absurd q (by decide)
    have ei : its.toArray.size = i := by
      simp
      omega
    subst ei
    exact wpAny_pyNext_enum_endD (Draws.tuple (A := X.A.in1) (I.ok.hd hc) it a hni its.toArray) he ⟨hit, hT0⟩ fun h' eb => ⟨rfl, I.turned (t' := s.toks) (fun b o hb q => eb b o hb q) f0 f1 f3 f4 f5⟩
  self := fun A i s Q E st h => st.1.elim fun _ he => wpAny_pyIter_enum he h
theorem pi_Et {X : Cx} {e : Expr} {te : TE} {p pos tpos : Pos} {elts : List Expr} {kk : Nat} (hg : Gl X "enumerate") (hm : X.mg "enumerate" = none) (ha : PE X e te) (hs : starEach [e] X.env = (false, eval e X.env) :: starEach [] X.env) :
    PI X (.Tuple elts kk tpos) (.Call (.Name "enumerate" p) [e] [] pos) (fun σ H R => te σ H fun x H1 => ∃ a xs, x = .ref a ∧ SqT X.K H1 a xs ∧ R (ItEt X.K a) H1) := by
  refine ⟨fun pins s σ H R I h => ?_⟩
  have hPA := pa_cons ha pa_nil hs
  have h' : tCons te tNil σ H fun vs H1 => ∃ a xs, vs = [.ref a] ∧ SqT X.K H1 a xs ∧ R (ItEt X.K a) H1 := by
    refine (?_ : te σ H fun x H1 => ∃ a xs, [x] = [.ref a] ∧ SqT X.K H1 a xs ∧ R (ItEt X.K a) H1)
    have e : (fun x H1 => ∃ a xs, [x] = [V.ref a] ∧ SqT X.K H1 a xs ∧ R (ItEt X.K a) H1) = fun x H1 => ∃ a xs, x = .ref a ∧ SqT X.K H1 a xs ∧ R (ItEt X.K a) H1 := by
      funext x H1
      simp
    rw [e]
    exact h
  refine Call_ (ld_blt I hg hm boot_enumerate (PyProof.Rows.callWith_type1 (thn (hPA.run pos pins s σ H _ I h') fun us s1 ⟨vs, H1, I1, r1, q1⟩ => ?_) hs rfl))
  obtain ⟨a, xs, ex, hq, q⟩ := q1
  subst ex
  cases r1 with
  | cons r rr =>
    cases rr
    cases r
    obtain ⟨its, rv, p', hz⟩ := I1.tuple hq
    refine lw_enumBegins (begins_tuple a its.toArray) p' fun h' he hit hsz hk => wpAny_pyIter_enum he ?_
    have I2 : Inv X pins σ H1 { s1 with heap := h' } := I1.kept (t' := s1.toks) hk
    refine ⟨s1.heap.objs.size + 1, [s1.heap.objs.size + 1, s1.heap.objs.size], _, _, H1, rfl, I2, turnEt a (s1.heap.objs.size + 1) s1.heap.objs.size,
      ⟨⟨.none, he⟩, ⟨_, hit, rfl, rfl⟩, Nat.succ_ne_self _⟩, fun b hb => ?_, q⟩
    have z : b = s1.heap.objs.size + 1 ∨ b = s1.heap.objs.size := by simpa using hb
    have hle : s1.heap.objs.size ≤ b := z.elim (fun q => q ▸ Nat.le_succ _) fun q => q ▸ Nat.le_refl _
    exact I1.fpOk hle (I1.hok.fresh hle)
theorem walk_Et {K : PySem.W.Frag} {a : Addr} {xs : List V} : Walk (ItEt K a) xs.length (fun H => SqT K H a xs) (YPair (fun i => some (.int (i : Nat))) (fun i => xs[i]?)) := by
  refine ⟨fun i _ hi q => ⟨xs, xs[i], q, by simp [hi]⟩, fun _ q => ⟨xs, q, rfl⟩, fun i H v H' _ q y => ?_⟩
  obtain ⟨T, x, h1, h2, h3, h4⟩ := y
  exact ⟨T, .int (i : Nat), x, h1, h2, h3, rfl, h4 xs q⟩
end Lw
namespace Lw
open PySem PySem.Spec PyProof.Rows L2 NdefX LamX
/-! ## more weakest readings: targets, what is walked, a clause's tests -/
def wG (X : Cx) (tg : Expr) : TG := fun v σ H Q => ∀ pins s u, Inv X pins σ H s → RelV v u →
  wpAny (model X.prog X.w) X.A (assign tg X.env u) (fun _ s' => ∃ σ' H', Inv X pins σ' H' s' ∧ Q σ' H') X.xe s
def wI (X : Cx) (tg iter : Expr) : TI := fun σ H R => ∀ pins s, Inv X pins σ H s →
  wpAny (model X.prog X.w) X.A (eval iter X.env) (fun v s1 => wpAny (model X.prog X.w) X.A (pyIter v) (PIE X pins σ tg R) X.xe s1) X.xe s
def wTs (X : Cx) (ifs : List Expr) : TT := fun σ H Q => ∀ pins s, Inv X pins σ H s →
  wpAny (model X.prog X.w) X.A (forIn ifs true fun c r => if r = true then do let ok ← isTrue c X.env (eval c X.env); pure (ForInStep.yield ok) else pure (ForInStep.yield r)) (TP X pins σ Q) X.xe s
section
variable {X : Cx} {tg iter : Expr} {ifs : List Expr} {σ : L2.St} {H : Hp}
theorem wG_pg : PG X tg (wG X tg) := ⟨fun pins s σ H v u Q I r h => h pins s u I r⟩
theorem wI_pi : PI X tg iter (wI X tg iter) := ⟨fun pins s σ H R I h => h pins s I⟩
theorem wTs_pts : PTs X ifs (wTs X ifs) := ⟨fun pins s σ H Q I h => h pins s I⟩
theorem wG_of {t : TG} {v : V} {Q : L2.St → Hp → Prop} (p : PG X tg t) (q : t v σ H Q) : wG X tg v σ H Q := fun pins s u I r => p.run pins s σ H v u Q I r q
theorem wI_of {t : TI} {R : It → Hp → Prop} (p : PI X tg iter t) (q : t σ H R) : wI X tg iter σ H R := fun pins s I => p.run pins s σ H R I q
theorem wTs_of {t : TT} {Q : Bool → Hp → Prop} (p : PTs X ifs t) (q : t σ H Q) : wTs X ifs σ H Q := fun pins s I => p.run pins s σ H Q I q
theorem wTs_nil {Q : Bool → Hp → Prop} (q : Q true H) : wTs X [] σ H Q := wTs_of pts_nil q
theorem wTs_one {c : Expr} {Q : Bool → Hp → Prop} (q : wT X c σ H Q) : wTs X [c] σ H Q := wTs_of (pts_one wT_pt) q
theorem wG_name (i : Nat) {x : Str} {pos : Pos} {v : V} {Q : L2.St → Hp → Prop} (hN : X.N.Nodup) (hi : X.N[i]? = some x) (hx : Loc X.env.scope x) (hf : X.fn x = true ∨ X.env.scope.names.lookup x = some .local) (q : Q (σ.set i (some v)) H) : wG X (.Name x pos) v σ H Q :=
  wG_of (pg_name hN hi hx hf) q
/-- a, b = a pair that stands -/
theorem wG_pair (i j : Nat) {x y : Str} {p1 p2 pos : Pos} {k : Nat} {v : V} {d e : PyData} {Q : L2.St → Hp → Prop} (hc : X.calm = true) (hN : X.N.Nodup) (hi : X.N[i]? = some x) (hj : X.N[j]? = some y) (hx : Loc X.env.scope x) (hy : Loc X.env.scope y)
    (hfx : X.fn x = true ∨ X.env.scope.names.lookup x = some .local) (hfy : X.fn y = true ∨ X.env.scope.names.lookup y = some .local) (hd : Dt H v (.tuple [d, e]))
    (hn : (assignEach [Expr.Name x p1, .Name y p2] X.env).length = 2) (hst : (assignEach [Expr.Name x p1, .Name y p2] X.env).findIdx? (·.1) = none)
    (hs1 : (assignEach [Expr.Name x p1, .Name y p2] X.env).map (·.2) = assign (.Name x p1) X.env :: (assignEach [Expr.Name y p2] X.env).map (·.2))
    (hs2 : (assignEach [Expr.Name y p2] X.env).map (·.2) = assign (.Name y p2) X.env :: (assignEach [] X.env).map (·.2))
    (q : ∀ u w, Dt H u d → Dt H w e → Q ((σ.set i (some u)).set j (some w)) H) : wG X (.Tuple [.Name x p1, .Name y p2] k pos) v σ H Q := by
  obtain ⟨a, xs, rfl, h1, h2⟩ := hd.tup_inv
  cases h2 with
  | cons h3 h4 =>
    cases h4 with
    | cons h5 h6 =>
      cases h6
      exact wG_of (pg_tup hc (pgs_cons (pg_name hN hi hx hfx) (pgs_cons (pg_name hN hj hy hfy) pgs_nil hs2) hs1) hn hst) ⟨a, _, rfl, .inl (.inl h1), rfl, _, _, rfl, _, _, rfl, rfl, q _ _ h3 h5⟩
end
/-! ## what is walked: data, item by item -/
/-- all that stands stays -/
abbrev Sm (H H' : Hp) : Prop := ∀ b o, H b = some o → H' b = some o
/-- the iterable gives the data ds, one by one, whatever A's objects do meanwhile -/
def Src (O : Prm) (A : Addr → Prop) (X : Cx) (tg iter : Expr) (σ : L2.St) (H : Hp) (ds : List PyData) : Prop :=
  ∀ R : It → Hp → Prop, (∀ (J : It) (H2 : Hp) (Y : Nat → Hp → V → Hp → Prop), Ex O nA H H2 → Walk J ds.length (Ex O A H2) Y →
    (∀ i Ha x Hb, i < ds.length → Ex O A H2 Ha → Y i Ha x Hb → Sm Ha Hb ∧ ∃ d, ds[i]? = some d ∧ Dt Hb x d) → R J H2) → wI X tg iter σ H R
section
variable {O : Prm} {A : Addr → Prop} {X : Cx} {tg iter e : Expr} {σ : L2.St} {H : Hp} {ds : List PyData}
/-- a list that stands and that A does not name, or a locked one -/
def LsAt (A : Addr → Prop) (H : Hp) (v : V) (ds : List PyData) : Prop := ∃ p vs, v = .ref p ∧ ((H p = some (.lst vs) ∧ ¬ A p) ∨ ∃ o, H p = some (.frz o (.lst vs))) ∧ DtA H vs ds
theorem LsAt.frz {v : V} (h : FrzL H v ds) : LsAt A H v ds := by
  obtain ⟨p, o, vs, e, h1, h2⟩ := h
  exact ⟨p, vs, e, .inr ⟨o, h1⟩, h2⟩
theorem LsAt.mono {v : V} {H' : Hp} (m : Ex O A H H') (h : LsAt A H v ds) : LsAt A H' v ds := by
  obtain ⟨p, vs, e, h1, h2⟩ := h
  refine ⟨p, vs, e, ?_, h2.mono m.im⟩
  rcases h1 with ⟨h1, n⟩ | ⟨o, h1⟩
  · exact .inl ⟨m.cel _ _ h1 n, n⟩
  · exact .inr ⟨o, m.im.2 _ _ _ h1⟩
theorem src_list (h : wE X e σ H fun v H1 => Ex O nA H H1 ∧ LsAt A H1 v ds) : Src O A X tg e σ H ds := fun R k => by
  refine wI_of (pi_list wE_pe) (wE_mono h fun v H1 q => ?_)
  obtain ⟨ex, p, vs, rfl, h1, h2⟩ := q
  have sq : ∀ {Ha}, Ex O A H1 Ha → SqL X.K Ha p vs := fun {Ha} m => by
    rcases h1 with ⟨h1, n⟩ | ⟨o, h1⟩
    · exact .inl (.inl (m.cel _ _ h1 n))
    · exact .inl (.inr ⟨o, m.im.2 _ _ _ h1⟩)
  refine ⟨p, rfl, ⟨vs, sq (.refl _)⟩, k _ _ (YAt vs) ex ?_ fun i Ha x Hb hi m y => ?_⟩
  · rw [← h2.len]
    exact walk_list.mono (fun Ha m => sq m) fun _ _ _ _ _ _ y => y
  · obtain ⟨rfl, y⟩ := y
    obtain ⟨d, hd, hx⟩ := (h2.mono m.im).get y
    exact ⟨fun _ _ z => z, d, hd, hx⟩
theorem src_tup (h : wE X e σ H fun v H1 => Ex O nA H H1 ∧ Dt H1 v (.tuple ds)) : Src O A X tg e σ H ds := fun R k => by
  refine wI_of (pi_tup wE_pe) (wE_mono h fun v H1 q => ?_)
  obtain ⟨ex, hd⟩ := q
  obtain ⟨p, vs, rfl, h1, h2⟩ := hd.tup_inv
  have sq : ∀ {Ha}, Ex O A H1 Ha → SqT X.K Ha p vs := fun {Ha} m => .inl (.inl (m.im.1 _ _ h1))
  refine ⟨p, rfl, ⟨vs, sq (.refl _)⟩, k _ _ (YAt vs) ex ?_ fun i Ha x Hb hi m y => ?_⟩
  · rw [← h2.len]
    exact walk_tup.mono (fun Ha m => sq m) fun _ _ _ _ _ _ y => y
  · obtain ⟨rfl, y⟩ := y
    obtain ⟨d, hd, hx⟩ := (h2.mono m.im).get y
    exact ⟨fun _ _ z => z, d, hd, hx⟩
/-- the numbers below n -/
def eRg (n : Nat) : List PyData := (List.range n).map eN
theorem eRg_len (n : Nat) : (eRg n).length = n := by simp [eRg]
theorem eRg_get {n i : Nat} (h : i < n) : (eRg n)[i]? = some (.int (i : Int)) := by
  simp [eRg, h, eN]
theorem src_range {p pos : Pos} {n : Nat} (hg : Gl X "range") (hm : X.mg "range" = none) (hs : starEach [e] X.env = (false, eval e X.env) :: starEach [] X.env)
    (h : wE X e σ H fun v H1 => Ex O nA H H1 ∧ v = .int (n : Int)) (hn : n ≤ 1000000) : Src O A X tg (.Call (.Name "range" p) [e] [] pos) σ H (eRg n) := fun R k => by
  refine wI_of (pi_range1 hg hm (pa_cons wE_pe pa_nil hs) hs) (wE_mono h fun v H1 q => ?_)
  obtain ⟨ex, rfl⟩ := q
  refine ⟨n, rfl, by omega, by omega, ?_⟩
  rw [Int.toNat_natCast]
  have wk0 : Walk (Itr 0 n) (eRg n).length (Ex O A H1) (YFn fun i : Nat => .int (i : Int)) := by
    rw [eRg_len]
    exact walk_range.mono (fun _ _ => trivial) fun i Ha x Hb _ _ y => ⟨y.1, y.2.trans (congrArg V.int (Int.zero_add _))⟩
  refine k _ _ _ ex wk0 fun i Ha x Hb hi m y => ?_
  obtain ⟨rfl, rfl⟩ := y
  rw [eRg_len] at hi
  exact ⟨fun _ _ z => z, _, eRg_get hi, .int _⟩
/-- the items with their numbers -/
def eEn (ds : List PyData) : List PyData := (List.range ds.length).map fun i : Nat => .tuple [.int (i : Int), ds.getD i .none]
theorem eEn_len : (eEn ds).length = ds.length := by simp [eEn]
theorem eEn_get {i : Nat} {d : PyData} (h : ds[i]? = some d) : (eEn ds)[i]? = some (.tuple [.int (i : Int), d]) := by
  obtain ⟨hi, he⟩ := List.getElem?_eq_some_iff.mp h
  simp [eEn, hi, he]
theorem src_enumT {p pos tpos : Pos} {elts : List Expr} {kk : Nat} (hg : Gl X "enumerate") (hm : X.mg "enumerate" = none) (hs : starEach [e] X.env = (false, eval e X.env) :: starEach [] X.env)
    (h : wE X e σ H fun v H1 => Ex O nA H H1 ∧ Dt H1 v (.tuple ds)) : Src O A X (.Tuple elts kk tpos) (.Call (.Name "enumerate" p) [e] [] pos) σ H (eEn ds) := fun R k => by
  refine wI_of (pi_Et hg hm wE_pe hs) (wE_mono h fun v H1 q => ?_)
  obtain ⟨ex, hd⟩ := q
  obtain ⟨p, vs, rfl, h1, h2⟩ := hd.tup_inv
  have sq : ∀ {Ha}, Ex O A H1 Ha → SqT X.K Ha p vs := fun {Ha} m => .inl (.inl (m.im.1 _ _ h1))
  refine ⟨p, vs, rfl, sq (.refl _), k _ _ (YPair (fun i => some (.int (i : Nat))) (fun i => vs[i]?)) ex ?_ fun i Ha x Hb hi m y => ?_⟩
  · rw [eEn_len, ← h2.len]
    exact walk_Et.mono (fun Ha m => sq m) fun _ _ _ _ _ _ y => y
  · obtain ⟨T, u, v, rfl, nT, rfl, e1, e2⟩ := y
    cases e1
    obtain ⟨d, hd, hx⟩ := (h2.mono m.im).get e2
    exact ⟨same_new nT, _, eEn_get hd, .new nT (.cons (.int _) (.cons hx .nil))⟩
theorem src_enumL {p pos tpos : Pos} {elts : List Expr} {kk : Nat} (hg : Gl X "enumerate") (hm : X.mg "enumerate" = none) (hs : starEach [e] X.env = (false, eval e X.env) :: starEach [] X.env)
    (h : wE X e σ H fun v H1 => Ex O nA H H1 ∧ LsAt A H1 v ds) : Src O A X (.Tuple elts kk tpos) (.Call (.Name "enumerate" p) [e] [] pos) σ H (eEn ds) := fun R k => by
  refine wI_of (pi_enum hg hm (pa_cons wE_pe pa_nil hs) hs) (wE_mono h fun v H1 q => ?_)
  obtain ⟨ex, p, vs, rfl, h1, h2⟩ := q
  have sq : ∀ {Ha}, Ex O A H1 Ha → SqL X.K Ha p vs := fun {Ha} m => by
    rcases h1 with ⟨h1, n⟩ | ⟨o, h1⟩
    · exact .inl (.inl (m.cel _ _ h1 n))
    · exact .inl (.inr ⟨o, m.im.2 _ _ _ h1⟩)
  refine ⟨p, vs, rfl, sq (.refl _), k _ _ (YPair (fun i => some (.int (i : Nat))) (fun i => vs[i]?)) ex ?_ fun i Ha x Hb hi m y => ?_⟩
  · rw [eEn_len, ← h2.len]
    exact walk_enum.mono (fun Ha m => sq m) fun _ _ _ _ _ _ y => y
  · obtain ⟨T, u, v, rfl, nT, rfl, e1, e2⟩ := y
    cases e1
    obtain ⟨d, hd, hx⟩ := (h2.mono m.im).get e2
    exact ⟨same_new nT, _, eEn_get hd, .new nT (.cons (.int _) (.cons hx .nil))⟩
end
/-! ## for -/
section
variable {O : Prm} {A : Addr → Prop} {X : Cx} {tg iter : Expr} {body : List Stmt} {σ : L2.St} {H : Hp} {ds : List PyData} {D : Ends} {pos : Pos}
theorem w1_for (hp : PassesOwn (model X.prog X.w) X.A X.env X.xe) (hc : X.calm = true) (hs : ∀ x, foldedSetIterable iter X.env x = pure x) (src : Src O A X tg iter σ H ds)
    (k : ∀ H2, Ex O nA H H2 → ∃ Pv : Nat → L2.St → Hp → Prop, Pv 0 σ H2 ∧ (∀ i σ' H', Pv i σ' H' → Ex O A H2 H') ∧ (∀ i σ' H' Hb, Pv i σ' H' → Sm H' Hb → Pv i σ' Hb) ∧
      (∀ i d x σ' H', ds[i]? = some d → Pv i σ' H' → Dt H' x d → wG X tg x σ' H' fun σ2 H3 => wS X body { D with nx := Pv (i + 1), ct := Pv (i + 1), bk := D.nx } σ2 H3) ∧
      ∀ σ' H', Pv ds.length σ' H' → D.nx σ' H') : w1 X (.For tg iter body [] pos) D σ H := by
  refine w1_of (ps_for hp hc wI_pi wG_pg wS_pss hs) (src _ fun J H2 Y ex wk hY => ?_)
  obtain ⟨Pv, h0, hE, hM, hS, hd⟩ := k H2 ex
  refine for_it wk Pv h0 (fun i σ' H' _ p => hE i σ' H' p) (fun i x σ' H' Hb hi p y => ?_) hd
  obtain ⟨sm, d, e1, e2⟩ := hY i H' x Hb hi (hE _ _ _ p) y
  exact hS i d x σ' Hb e1 (hM _ _ _ _ p sm) e2
end
/-! ## comprehensions -/
section
variable {O : Prm} {X : Cx} {tg iter elt : Expr} {ifs : List Expr} {scope : Scope} {σ : L2.St} {H : Hp} {ds : List PyData} {pos : Pos} {own : List (Str × Nat)}
/-- what is kept of the data ds: F gives the new item, or nothing -/
abbrev kept (F : Nat → PyData → Option PyData) (ds : List PyData) (n : Nat) : List PyData := ((ds.take n).zipIdx.filterMap fun p => F p.2 p.1)
theorem kept_succ {F : Nat → PyData → Option PyData} {n : Nat} {d : PyData} (h : ds[n]? = some d) : kept F ds (n + 1) = kept F ds n ++ (F n d).toList := by
  obtain ⟨hi, he⟩ := List.getElem?_eq_some_iff.mp h
  have e : ds.take (n + 1) = ds.take n ++ [d] := by
    rw [List.take_add_one, h]
    rfl
  show ((ds.take (n + 1)).zipIdx.filterMap fun p => F p.2 p.1) = _
  rw [e, List.zipIdx_append, List.filterMap_append, List.length_take, Nat.min_eq_left (Nat.le_of_lt hi)]
  congr 1
  simp only [List.zipIdx, Nat.zero_add, List.filterMap_cons, List.filterMap_nil]
  cases F n d <;> rfl
theorem kept_len {F : Nat → PyData → Option PyData} : ∀ n, (kept F ds n).length ≤ n := fun n => by
  refine Nat.le_trans (List.length_filterMap_le _ _) ?_
  rw [List.length_zipIdx, List.length_take]
  exact Nat.min_le_left _ _
/-- the core of a comprehension: B stands for its block -/
theorem lc_go {Qr : V → Hp → Prop} {g : TG} {tt : TT} {te : TE} {vs : List Nat} (src : Src O nA X tg iter σ H ds) (hz : ds.length ≤ 1000000) (F : Nat → PyData → Option PyData)
    (hs : ∀ i d x Ha, ds[i]? = some d → Ex O nA H Ha → Dt Ha x d → g x (wipe σ vs) Ha fun σ2 H2 => wipe σ2 vs = wipe σ vs ∧ tt σ2 H2 fun b H3 =>
      if b = true then te σ2 H3 fun y H4 => Ex O nA Ha H4 ∧ ∃ z, F i d = some z ∧ Dt H4 y z else Ex O nA Ha H3 ∧ F i d = none)
    (mono : ∀ (x : V) (σ1 : L2.St) (Ha : Hp) (Q Q' : L2.St → Hp → Prop), (∀ a b, Q a b → Q' a b) → g x σ1 Ha Q → g x σ1 Ha Q') (monoT : ∀ (σ1 : L2.St) (Ha : Hp) (Q Q' : Bool → Hp → Prop), (∀ a b, Q a b → Q' a b) → tt σ1 Ha Q → tt σ1 Ha Q')
    (monoE : ∀ (σ1 : L2.St) (Ha : Hp) (Q Q' : VK), (∀ a b, Q a b → Q' a b) → te σ1 Ha Q → te σ1 Ha Q')
    (k : ∀ p H' vs, H p = none → Ex O nA H H' → H' p = some (.lst vs) → DtA H' vs (kept F ds ds.length) → Qr (.ref p) H') :
    tLc (wI X tg iter) g tt te vs σ H Qr := by
  refine src _ fun J H2 Y ex wk hY D nD => ?_
  have nD0 : H D = none := ex.dom _ nD
  refine lc_it wk (fun i Ha => Ex O nA H2 Ha ∧ ∃ acc, Ha D = some (.lst acc) ∧ DtA Ha acc (kept F ds i)) ⟨.new nD, [], upd_same, .nil⟩ (fun i Ha _ p => p.1) (fun i x Ha Hb hi p y => ?_) fun Ha p => ?_
  · obtain ⟨m, acc, hD, hA⟩ := p
    obtain ⟨sm, d, e1, e2⟩ := hY i Ha x Hb hi m y
    have mb : Ex O nA H2 Hb := m.trans (.same sm)
    have hDb : Hb D = some (.lst acc) := sm _ _ hD
    have hAb : DtA Hb acc (kept F ds i) := hA.mono (.same sm)
    have hl : acc.length < sizeLine := by
      rw [hAb.len]
      have := kept_len (F := F) (ds := ds) i
      rw [sizeLine_eq]
      omega
    refine mono _ _ _ _ _ (fun σ2 H3 q => ⟨q.1, monoT _ _ _ _ (fun b H4 q => ?_) q.2⟩) (hs i d x Hb e1 (ex.trans mb) e2)
    cases b with
    | true =>
      rw [if_pos rfl] at q ⊢
      refine monoE _ _ _ _ (fun y H5 q => ?_) q
      obtain ⟨m5, z, ez, hz5⟩ := q
      have hD5 : H5 D = some (.lst acc) := m5.cel _ _ hDb (fun z => z)
      have me : Ex O nA H2 H5 := mb.trans m5
      refine ⟨acc, hD5, hl, me.own nD hD5 (fun _ z => by cases z) (fun _ _ z => by cases z) (fun _ z => by cases z) (fun _ z => by unfold CodeO at z; cases z), _, upd_same, ?_⟩
      have im5 : Im H5 (upd H5 D (.lst (acc ++ [y]))) := .lst hD5
      rw [kept_succ e1, ez]
      exact ((hAb.mono m5.im).mono im5).snoc (hz5.mono im5)
    | false =>
      rw [if_neg Bool.false_ne_true] at q ⊢
      obtain ⟨m5, ez⟩ := q
      refine ⟨mb.trans m5, acc, m5.cel _ _ hDb (fun z => z), ?_⟩
      rw [kept_succ e1, ez]
      simpa using hAb.mono m5.im
  · obtain ⟨m, acc, hD, hA⟩ := p
    exact k D Ha acc nD0 (ex.trans m) hD hA
end
end Lw
namespace Lw
open PySem PySem.Spec PyProof.Rows L2 NdefX LamX
/-! ## comprehensions on the syntax -/
abbrev Bk (X : Cx) (scope : Scope) (s : Shared) (H : Hp) (C : Addr) (cl : List (Str × Addr)) (fp : List Addr) : Cx := X.blk s H scope (compEnvC scope cl C X.env) fp
def bE (X : Cx) (scope : Scope) (e : Expr) : TE := fun σ H Q => ∀ s H0 C cl fp, wE (Bk X scope s H0 C cl fp) e σ H Q
def bTs (X : Cx) (scope : Scope) (ifs : List Expr) : TT := fun σ H Q => ∀ s H0 C cl fp, wTs (Bk X scope s H0 C cl fp) ifs σ H Q
section
variable {X : Cx} {scope : Scope} {e : Expr} {ifs : List Expr} {σ : L2.St} {H : Hp}
theorem bE_pe : ∀ s H0 C cl fp, PE (Bk X scope s H0 C cl fp) e (bE X scope e) := fun s H0 C cl fp => ⟨fun pins s' _ _ _ I h => h s H0 C cl fp pins s' I⟩
theorem bTs_pts : ∀ s H0 C cl fp, PTs (Bk X scope s H0 C cl fp) ifs (bTs X scope ifs) := fun s H0 C cl fp => ⟨fun pins s' _ _ _ I h => h s H0 C cl fp pins s' I⟩
theorem bE_mono {Q Q' : VK} (m : ∀ a b, Q a b → Q' a b) (h : bE X scope e σ H Q) : bE X scope e σ H Q' := fun s H0 C cl fp => wE_mono (h s H0 C cl fp) m
theorem bTs_mono {Q Q' : Bool → Hp → Prop} (m : ∀ a b, Q a b → Q' a b) (h : bTs X scope ifs σ H Q) : bTs X scope ifs σ H Q' := fun s H0 C cl fp pins s' I =>
  wpAny_mono (h s H0 C cl fp pins s' I) (fun _ _ q => by obtain ⟨H', a, b⟩ := q; exact ⟨H', a, m _ _ b⟩) fun _ _ q => q
theorem bTs_nil {Q : Bool → Hp → Prop} (q : Q true H) : bTs X scope [] σ H Q := fun s H0 C cl fp => wTs_nil q
end
/-- two names of a pair -/
abbrev gTwo (K : PySem.W.Frag) (i j : Nat) : TG := gTup K 2 (gCons (gName i) (gCons (gName j) gNil))
theorem set_set_eq {α : Type} (l : List α) (i : Nat) (a b : α) : (l.set i a).set i b = l.set i b := by simp
theorem set_comm2 {α : Type} (l : List α) {i j : Nat} (a b : α) (h : i ≠ j) : (l.set i a).set j b = (l.set j b).set i a := List.set_comm a b h
section
variable {O : Prm} {X : Cx} {tg iter elt : Expr} {ifs : List Expr} {scope : Scope} {σ : L2.St} {H : Hp} {ds : List PyData} {pos : Pos} {x y : Str} {Q : VK} {i j : Nat}
/-- what a turn must do: σ1 the slots with the target's names -/
def Turn1 (O : Prm) (X : Cx) (scope : Scope) (ifs : List Expr) (elt : Expr) (F : Option PyData) (σ1 : L2.St) (Ha : Hp) : Prop :=
  bTs X scope ifs σ1 Ha fun b H3 => if b = true then bE X scope elt σ1 H3 fun y H4 => Ex O nA Ha H4 ∧ ∃ z, F = some z ∧ Dt H4 y z else Ex O nA Ha H3 ∧ F = none
theorem lcN_core {g : TG} (hi : g = gName i) (src : Src O nA X tg iter σ H ds) (hz : ds.length ≤ 1000000) (F : Nat → PyData → Option PyData)
    (hs : ∀ n d v Ha, ds[n]? = some d → Ex O nA H Ha → Dt Ha v d → Turn1 O X scope ifs elt (F n d) (σ.set i (some v)) Ha)
    (k : ∀ p H' vs, H p = none → Ex O nA H H' → H' p = some (.lst vs) → DtA H' vs (kept F ds ds.length) → Q (.ref p) H') :
    tLc (wI X tg iter) g (bTs X scope ifs) (bE X scope elt) [i] σ H Q := by
  subst hi
  refine lc_go src hz F (fun n d v Ha e1 ex hd => ?_) (fun v σ1 Ha Q Q' m h => m _ _ h) (fun _ _ _ _ m h => bTs_mono m h) (fun _ _ _ _ m h => bE_mono m h) k
  have e0 : (wipe σ [i]).set i (some v) = σ.set i (some v) := by
    show (σ.set i none).set i (some v) = _
    rw [set_set_eq]
  show _ ∧ _
  rw [e0]
  refine ⟨?_, hs n d v Ha e1 ex hd⟩
  show (σ.set i (some v)).set i none = σ.set i none
  rw [set_set_eq]
theorem wE_lcN (hc : X.calm = true) (hN : X.N.Nodup) (hf : ∀ z, foldedSetIterable iter X.env z = pure z) (ok : BlkOk X.N X.env.scope scope [(x, i)])
    (hg : ∀ s H C cl fp, PG (Bk X scope s H C cl fp) tg (gName i)) (src : Src O nA X tg iter σ H ds) (hz : ds.length ≤ 1000000) (F : Nat → PyData → Option PyData)
    (hs : ∀ n d v Ha, ds[n]? = some d → Ex O nA H Ha → Dt Ha v d → Turn1 O X scope ifs elt (F n d) (σ.set i (some v)) Ha)
    (k : ∀ p H' vs, H p = none → Ex O nA H H' → H' p = some (.lst vs) → DtA H' vs (kept F ds ds.length) → Q (.ref p) H') :
    wE X (.ListComp elt [⟨tg, iter, ifs, 0⟩] scope pos) σ H Q :=
  wE_of (pe_lc (own := [(x, i)]) hc hN wI_pi ok hg bTs_pts bE_pe hf) (lcN_core rfl src hz F hs k)
theorem w1_setLcN (j : Nat) {D : Ends} {py spos : Pos} (hc : X.calm = true) (hN : X.N.Nodup) (hy : X.N[j]? = some y) (hyl : X.env.scope.names.lookup y = some .local)
    (hsw : swapsWith (.ListComp elt [⟨tg, iter, ifs, 0⟩] scope pos) (some (.Name y py)) spos.line X.env = pure true)
    (hf : ∀ z, foldedSetIterable iter X.env z = pure z) (ok : BlkOk X.N X.env.scope scope [(x, i)])
    (hg : ∀ s H C cl fp, PG (Bk X scope s H C cl fp) tg (gName i)) (src : Src O nA X tg iter σ H ds) (hz : ds.length ≤ 1000000) (F : Nat → PyData → Option PyData)
    (hs : ∀ n d v Ha, ds[n]? = some d → Ex O nA H Ha → Dt Ha v d → Turn1 O X scope ifs elt (F n d) (σ.set i (some v)) Ha)
    (k : ∀ p H' vs, H p = none → Ex O nA H H' → H' p = some (.lst vs) → DtA H' vs (kept F ds ds.length) → D.nx (σ.set j (some (.ref p))) H') :
    w1 X (.Assign [.Name y py] (.ListComp elt [⟨tg, iter, ifs, 0⟩] scope pos) spos) D σ H :=
  w1_of (ps_setLc (own := [(x, i)]) hc hN hy hyl hsw wI_pi ok hg bTs_pts bE_pe hf) (lcN_core (Q := fun v H' => D.nx (σ.set j (some v)) H') rfl src hz F hs k)
theorem lcP_core (hij : i ≠ j) (src : Src O nA X tg iter σ H ds) (hz : ds.length ≤ 1000000) (F : Nat → PyData → Option PyData)
    (hs : ∀ n d v Ha, ds[n]? = some d → Ex O nA H Ha → Dt Ha v d → ∃ d1 d2, d = .tuple [d1, d2] ∧ ∀ u w, Dt Ha u d1 → Dt Ha w d2 → Turn1 O X scope ifs elt (F n d) ((σ.set i (some u)).set j (some w)) Ha)
    (k : ∀ p H' vs, H p = none → Ex O nA H H' → H' p = some (.lst vs) → DtA H' vs (kept F ds ds.length) → Q (.ref p) H') :
    tLc (wI X tg iter) (gTwo X.K i j) (bTs X scope ifs) (bE X scope elt) [i, j] σ H Q := by
  refine lc_go src hz F (fun n d v Ha e1 ex hd => ?_) (fun v σ1 Ha Q Q' m h => ?_) (fun _ _ _ _ m h => bTs_mono m h) (fun _ _ _ _ m h => bE_mono m h) k
  · obtain ⟨d1, d2, rfl, q⟩ := hs n d v Ha e1 ex hd
    obtain ⟨a, xs, rfl, h1, h2⟩ := hd.tup_inv
    cases h2 with
    | cons h3 h4 =>
      cases h4 with
      | cons h5 h6 =>
        cases h6
        rename_i u w
        have e0 : ((wipe σ [i, j]).set i (some u)).set j (some w) = (σ.set i (some u)).set j (some w) := by
          show ((((σ.set j none).set i none).set i (some u)).set j (some w)) = _
          rw [set_set_eq, set_comm2 _ _ _ hij, set_set_eq, set_comm2 _ _ _ hij.symm]
        refine ⟨a, [u, w], rfl, .inl (.inl h1), rfl, u, [w], rfl, w, [], rfl, rfl, ?_⟩
        show _ ∧ _
        rw [e0]
        refine ⟨?_, q u w h3 h5⟩
        show ((((σ.set i (some u)).set j (some w)).set j none).set i none) = (σ.set j none).set i none
        rw [set_set_eq, set_comm2 _ _ _ hij, set_set_eq]
  · obtain ⟨a, xs, e1, h1, h2, u, r, e2, w', r', e3, e4, q⟩ := h
    exact ⟨a, xs, e1, h1, h2, u, r, e2, w', r', e3, e4, m _ _ q⟩
theorem wE_lcP (hij : i ≠ j) (hc : X.calm = true) (hN : X.N.Nodup) (hf : ∀ z, foldedSetIterable iter X.env z = pure z) (ok : BlkOk X.N X.env.scope scope [(x, i), (y, j)])
    (hg : ∀ s H C cl fp, PG (Bk X scope s H C cl fp) tg (gTwo X.K i j)) (src : Src O nA X tg iter σ H ds) (hz : ds.length ≤ 1000000) (F : Nat → PyData → Option PyData)
    (hs : ∀ n d v Ha, ds[n]? = some d → Ex O nA H Ha → Dt Ha v d → ∃ d1 d2, d = .tuple [d1, d2] ∧ ∀ u w, Dt Ha u d1 → Dt Ha w d2 → Turn1 O X scope ifs elt (F n d) ((σ.set i (some u)).set j (some w)) Ha)
    (k : ∀ p H' vs, H p = none → Ex O nA H H' → H' p = some (.lst vs) → DtA H' vs (kept F ds ds.length) → Q (.ref p) H') :
    wE X (.ListComp elt [⟨tg, iter, ifs, 0⟩] scope pos) σ H Q :=
  wE_of (pe_lc (own := [(x, i), (y, j)]) hc hN wI_pi ok hg bTs_pts bE_pe hf) (lcP_core hij src hz F hs k)
theorem w1_setLcP {z : Str} (l : Nat) {D : Ends} {py spos : Pos} (hij : i ≠ j) (hc : X.calm = true) (hN : X.N.Nodup) (hy : X.N[l]? = some z) (hyl : X.env.scope.names.lookup z = some .local)
    (hsw : swapsWith (.ListComp elt [⟨tg, iter, ifs, 0⟩] scope pos) (some (.Name z py)) spos.line X.env = pure true)
    (hf : ∀ z, foldedSetIterable iter X.env z = pure z) (ok : BlkOk X.N X.env.scope scope [(x, i), (y, j)])
    (hg : ∀ s H C cl fp, PG (Bk X scope s H C cl fp) tg (gTwo X.K i j)) (src : Src O nA X tg iter σ H ds) (hz : ds.length ≤ 1000000) (F : Nat → PyData → Option PyData)
    (hs : ∀ n d v Ha, ds[n]? = some d → Ex O nA H Ha → Dt Ha v d → ∃ d1 d2, d = .tuple [d1, d2] ∧ ∀ u w, Dt Ha u d1 → Dt Ha w d2 → Turn1 O X scope ifs elt (F n d) ((σ.set i (some u)).set j (some w)) Ha)
    (k : ∀ p H' vs, H p = none → Ex O nA H H' → H' p = some (.lst vs) → DtA H' vs (kept F ds ds.length) → D.nx (σ.set l (some (.ref p))) H') :
    w1 X (.Assign [.Name z py] (.ListComp elt [⟨tg, iter, ifs, 0⟩] scope pos) spos) D σ H :=
  w1_of (ps_setLc (own := [(x, i), (y, j)]) hc hN hy hyl hsw wI_pi ok hg bTs_pts bE_pe hf) (lcP_core (Q := fun v H' => D.nx (σ.set l (some v)) H') hij src hz F hs k)
end
/-! ## statements -/
section
variable {X : Cx} {st : Stmt} {rest a b body : List Stmt} {c e : Expr} {D : Ends} {σ : L2.St} {H : Hp} {x : Str} {pos pos' : Pos}
theorem wS_nil (q : D.nx σ H) : wS X [] D σ H := wS_of pss_nil q
theorem wS_cons (q : w1 X st { D with nx := wS X rest D } σ H) : wS X (st :: rest) D σ H := wS_of (pss_cons w1_ps wS_pss) q
theorem wS_one (q : w1 X st D σ H) : wS X [st] D σ H := wS_of (pss_one w1_ps) q
theorem w1_set (i : Nat) (hN : X.N.Nodup) (hi : X.N[i]? = some x) (hx : Loc X.env.scope x) (hs : swapsWith e (some (.Name x pos')) pos.line X.env = pure false) (hf : X.fn x = true ∨ X.env.scope.names.lookup x = some .local)
    (q : wE X e σ H fun v H1 => D.nx (σ.set i (some v)) H1) : w1 X (.Assign [.Name x pos'] e pos) D σ H := w1_of (ps_set hN hi hx wE_pe hs hf) q
theorem w1_expr (hs : swapsWith e none pos.line X.env = pure false) (q : wE X e σ H fun _ H1 => D.nx σ H1) : w1 X (.Expr e pos) D σ H := w1_of (ps_expr wE_pe hs) q
theorem w1_ret (q : wE X e σ H D.rt) : w1 X (.Return (some e) pos) D σ H := w1_of (ps_ret wE_pe) q
theorem w1_if (q : wT X c σ H fun k H1 => if k = true then wS X a D σ H1 else wS X b D σ H1) : w1 X (.If c a b pos) D σ H := w1_of (ps_if wT_pt wS_pss wS_pss) q
theorem w1_pass (q : D.nx σ H) : w1 X (.Pass pos) D σ H := w1_of ps_pass q
theorem w1_while (hp : PassesOwn (model X.prog X.w) X.A X.env X.xe) (W : Nat → L2.St → Hp → Prop) (m0 : Nat) (h0 : W m0 σ H)
    (k : ∀ m σ H, W m σ H → wT X c σ H fun b H1 => if b = true then ∃ N : L2.St → Hp → Prop, (∀ σ' H', N σ' H' → ∃ m', m' < m ∧ W m' σ' H') ∧ wS X body { D with nx := N, ct := N, bk := D.nx } σ H1 else D.nx σ H1) :
    w1 X (.While c body [] pos) D σ H := w1_of (ps_while hp wT_pt wS_pss) ⟨W, ⟨m0, h0⟩, k⟩
end
end Lw
namespace Lw
open PySem PySem.Spec PyProof.Rows L2 NdefX LamX
/-! ## the rules as one types them: what is to be shown first, the small print by tactics -/
/-- the built-in names are the built-in ones -/
structure Bi (mg : Str → Option Value) : Prop where
  len : mg "len" = none
  range : mg "range" = none
  tuple : mg "tuple" = none
  sorted : mg "sorted" = none
  isinstance : mg "isinstance" = none
  int : mg "int" = none
  bool : mg "bool" = none
  any : mg "any" = none
  all : mg "all" = none
  enumerate : mg "enumerate" = none
  list : mg "list" = none
  dict : mg "dict" = none
  abs : mg "abs" = none
  divmod : mg "divmod" = none
  repr : mg "repr" = none
section
variable {X : Cx} {σ : L2.St} {H : Hp} {Q : VK} {x : Str} {p pos apos : Pos} {sp : Spn} {j k n : Nat} {a b c d e : Expr}
theorem nm (i : Nat) {v : V} (q : Q v H) (hN : X.N[i]? = some x := by rfl) (hv : Vis X.env.scope x := by first | exact Or.inl rfl | exact Or.inr (Or.inl rfl) | exact Or.inr (Or.inr rfl)) (hd : (x == ("__debug__" : Str)) = false := by decide) (hcd : (x == ("__classdict__" : Str)) = false := by decide) (e : σ[i]? = some (some v) := by rfl) :
    wE X (.Name x pos) σ H Q := wE_name i hN hv hd hcd e q
theorem gc {v : V} {u : Value} (hm : X.mg x = some u) (r : RelV v u) (q : Q v H) (hg : Gl X x := by rfl) (hd : (x == ("__debug__" : Str)) = false := by decide) : wE X (.Name x pos) σ H Q := wE_glob hg hm r hd q
theorem call0 (D : Df X.prog X.w X.K X.mg X.base k x sp) (hr : Room j X.A) (q : sp [] H Q) (hk : k ≤ j := by decide) (hg : Gl X x := by rfl) (hd : (x == ("__debug__" : Str)) = false := by decide) : wE X (.Call (.Name x p) [] [] pos) σ H Q := wE_call0 D hr hk hg hd q
theorem call1 (D : Df X.prog X.w X.K X.mg X.base k x sp) (hr : Room j X.A) (q : wE X a σ H fun v H1 => sp [v] H1 Q) (hk : k ≤ j := by decide) (hg : Gl X x := by rfl) (hd : (x == ("__debug__" : Str)) = false := by decide)
    (h1 : starEach [a] X.env = (false, eval a X.env) :: starEach [] X.env := by rfl) : wE X (.Call (.Name x p) [a] [] pos) σ H Q := wE_call1 D hr hk hg hd h1 q
theorem call2 (D : Df X.prog X.w X.K X.mg X.base k x sp) (hr : Room j X.A) (q : wE X a σ H fun v H1 => wE X b σ H1 fun u H2 => sp [v, u] H2 Q) (hk : k ≤ j := by decide) (hg : Gl X x := by rfl) (hd : (x == ("__debug__" : Str)) = false := by decide)
    (h1 : starEach [a, b] X.env = (false, eval a X.env) :: starEach [b] X.env := by rfl) (h2 : starEach [b] X.env = (false, eval b X.env) :: starEach [] X.env := by rfl) : wE X (.Call (.Name x p) [a, b] [] pos) σ H Q := wE_call2 D hr hk hg hd h1 h2 q
theorem call3 (D : Df X.prog X.w X.K X.mg X.base k x sp) (hr : Room j X.A) (q : wE X a σ H fun v H1 => wE X b σ H1 fun u H2 => wE X c σ H2 fun t H3 => sp [v, u, t] H3 Q) (hk : k ≤ j := by decide) (hg : Gl X x := by rfl) (hd : (x == ("__debug__" : Str)) = false := by decide)
    (h1 : starEach [a, b, c] X.env = (false, eval a X.env) :: starEach [b, c] X.env := by rfl) (h2 : starEach [b, c] X.env = (false, eval b X.env) :: starEach [c] X.env := by rfl) (h3 : starEach [c] X.env = (false, eval c X.env) :: starEach [] X.env := by rfl) : wE X (.Call (.Name x p) [a, b, c] [] pos) σ H Q := wE_call3 D hr hk hg hd h1 h2 h3 q
theorem call4 (D : Df X.prog X.w X.K X.mg X.base k x sp) (hr : Room j X.A) (q : wE X a σ H fun v H1 => wE X b σ H1 fun u H2 => wE X c σ H2 fun t H3 => wE X d σ H3 fun r H4 => sp [v, u, t, r] H4 Q) (hk : k ≤ j := by decide) (hg : Gl X x := by rfl) (hd : (x == ("__debug__" : Str)) = false := by decide)
    (h1 : starEach [a, b, c, d] X.env = (false, eval a X.env) :: starEach [b, c, d] X.env := by rfl) (h2 : starEach [b, c, d] X.env = (false, eval b X.env) :: starEach [c, d] X.env := by rfl) (h3 : starEach [c, d] X.env = (false, eval c X.env) :: starEach [d] X.env := by rfl) (h4 : starEach [d] X.env = (false, eval d X.env) :: starEach [] X.env := by rfl) :
    wE X (.Call (.Name x p) [a, b, c, d] [] pos) σ H Q := wE_call4 D hr hk hg hd h1 h2 h3 h4 q
/-- a built-in, one argument -/
theorem bi1 {id : String} {r : List V → Hp → VK → Prop} (hc : CallR X (.builtin id) r) (hm : X.mg x = none) (q : wE X a σ H fun v H1 => r [v] H1 Q) (hv : bootBuiltins x = some (.builtin id) := by decide +kernel) (hg : Gl X x := by rfl)
    (hn : x ≠ "__name__" := by decide) (hd : (x == ("__debug__" : Str)) = false := by decide) (h1 : starEach [a] X.env = (false, eval a X.env) :: starEach [] X.env := by rfl) : wE X (.Call (.Name x p) [a] [] pos) σ H Q :=
  wE_of (pe_callB hc hg hm hv (pa_cons wE_pe pa_nil h1) hn hd h1 (by rfl)) q
theorem bi2 {id : String} {r : List V → Hp → VK → Prop} (hc : CallR X (.builtin id) r) (hm : X.mg x = none) (q : wE X a σ H fun v H1 => wE X b σ H1 fun u H2 => r [v, u] H2 Q) (hv : bootBuiltins x = some (.builtin id) := by decide +kernel) (hg : Gl X x := by rfl)
    (hn : x ≠ "__name__" := by decide) (hd : (x == ("__debug__" : Str)) = false := by decide) (h1 : starEach [a, b] X.env = (false, eval a X.env) :: starEach [b] X.env := by rfl) (h2 : starEach [b] X.env = (false, eval b X.env) :: starEach [] X.env := by rfl) :
    wE X (.Call (.Name x p) [a, b] [] pos) σ H Q := wE_of (pe_callB hc hg hm hv (pa_cons wE_pe (pa_cons wE_pe pa_nil h2) h1) hn hd h1 (by rw [h2]; rfl)) q
theorem ty1 {T : String} {r : List V → Hp → VK → Prop} (hc : CallR X (.type T) r) (hm : X.mg x = none) (q : wE X a σ H fun v H1 => r [v] H1 Q) (hv : bootBuiltins x = some (.type T) := by decide +kernel) (hg : Gl X x := by rfl)
    (hn : x ≠ "__name__" := by decide) (hd : (x == ("__debug__" : Str)) = false := by decide) (h1 : starEach [a] X.env = (false, eval a X.env) :: starEach [] X.env := by rfl) : wE X (.Call (.Name x p) [a] [] pos) σ H Q :=
  wE_of (pe_callTy hc hg hm hv (pa_cons wE_pe pa_nil h1) hn hd h1 (by rfl)) q
/-- isinstance(a, T), T a built-in type -/
theorem isi {y : Str} {py : Pos} {T U : String} {r : Bool} (hm : X.mg "isinstance" = none) (hT : X.mg y = none) (hv : bootBuiltins y = some (.type T)) (hk : kitB U T = some r)
    (q : wE X a σ H fun v H1 => TyX X.K H1 v (.type U) ∧ Q (.bl r) H1) (hg : Gl X "isinstance" := by rfl) (hgy : Gl X y := by rfl) (hny : y ≠ "__name__" := by decide) (hdy : (y == ("__debug__" : Str)) = false := by decide)
    (h1 : starEach [a, .Name y py] X.env = (false, eval a X.env) :: starEach [.Name y py] X.env := by rfl) (h2 : starEach [.Name y py] X.env = (false, eval (.Name y py) X.env) :: starEach [] X.env := by rfl) :
    wE X (.Call (.Name "isinstance" p) [a, .Name y py] [] pos) σ H Q := by
  refine bi2 call_isi hm (wE_mono q fun v H1 q => ?_) (by decide +kernel) hg (by decide) (by decide) h1 h2
  exact wE_of (pe_bltn (v := .ty T) hgy hT hv rfl hny hdy) ⟨v, .ty T, .type U, .type T, r, rfl, .ty T, q.1, kit_ty hk, q.2⟩
/-- a truth told otherwise -/
theorem qb {k k' : Bool} (e : k = k') (q : Q (.bl k') H) : Q (.bl k) H := e ▸ q
theorem qi {k k' : Int} (e : k = k') (q : Q (.int k') H) : Q (.int k) H := e ▸ q
end
end Lw
namespace Lw
open PySem PySem.Spec PyProof.Rows L2 NdefX LamX
/-! ## tests by and, or -/
def wW (X : Cx) (e : Expr) : TT := fun σ H Q => ∀ (whole : Sem Value) pins s, Inv X pins σ H s →
  wpAny (model X.prog X.w) X.A (isTrue e X.env whole) (TP X pins σ Q) X.xe s
section
variable {X : Cx} {σ : L2.St} {H : Hp} {Q : VK} {QT : Bool → Hp → Prop} {x : Str} {p pos apos : Pos} {a b c d e : Expr} {r : List Expr} {O : Prm} {A : Addr → Prop}
theorem wW_pw : PW X e (wW X e) := ⟨fun wh pins s _ _ _ I h => h wh pins s I⟩
theorem wW_of {t : TT} (p : PW X e t) (q : t σ H QT) : wW X e σ H QT := fun wh pins s I => p.run wh pins s σ H QT I q
theorem wT_W (q : wW X e σ H QT) : wT X e σ H QT := fun pins s I => q _ pins s I
theorem wW_and (q : wT X a σ H fun k H1 => if k = true then wW X (.BoolOp .And (b :: r) pos) σ H1 QT else QT false H1) : wW X (.BoolOp .And (a :: b :: r) pos) σ H QT := wW_of (pw_and wT_pt wW_pw) q
theorem wW_or (q : wT X a σ H fun k H1 => if k = true then QT true H1 else wW X (.BoolOp .Or (b :: r) pos) σ H1 QT) : wW X (.BoolOp .Or (a :: b :: r) pos) σ H QT := wW_of (pw_or wT_pt wW_pw) q
theorem wW_and1 (q : wT X a σ H QT) : wW X (.BoolOp .And [a] pos) σ H QT := wW_of (pw_and1 wT_pt) q
theorem wW_or1 (q : wT X a σ H QT) : wW X (.BoolOp .Or [a] pos) σ H QT := wW_of (pw_or1 wT_pt) q
theorem and2 (q : wT X a σ H fun k H1 => if k = true then wT X b σ H1 QT else QT false H1) : wT X (.BoolOp .And [a, b] pos) σ H QT := by
  refine wT_W (wW_and (wT_mono q fun k H1 q => ?_))
  cases k with
  | true =>
    rw [if_pos rfl] at q ⊢
    exact wW_and1 q
  | false => exact q
theorem or2 (q : wT X a σ H fun k H1 => if k = true then QT true H1 else wT X b σ H1 QT) : wT X (.BoolOp .Or [a, b] pos) σ H QT := by
  refine wT_W (wW_or (wT_mono q fun k H1 q => ?_))
  cases k with
  | true => exact q
  | false =>
    rw [if_neg Bool.false_ne_true] at q ⊢
    exact wW_or1 q
/-- .. where what each says is known -/
theorem and2v {k l : Bool} (q : wT X a σ H fun k' H1 => k' = k ∧ if k = true then wT X b σ H1 (fun l' H2 => l' = l ∧ QT (k && l) H2) else QT (k && l) H1) : wT X (.BoolOp .And [a, b] pos) σ H QT := by
  refine and2 (wT_mono q fun k' H1 q => ?_)
  obtain ⟨rfl, q⟩ := q
  cases k' with
  | true =>
    rw [if_pos rfl] at q ⊢
    refine wT_mono q fun l' H2 q => ?_
    obtain ⟨rfl, q⟩ := q
    exact q
  | false => exact q
/-! ## data -/
theorem isTup {v : V} {ds : List PyData} (h : Dt H v (.tuple ds)) : TyX X.K H v (.type "tuple") := by
  obtain ⟨a, xs, rfl, h1, _⟩ := h.tup_inv
  exact .base (.tup h1)
theorem dec_int {i j : Int} : decide (V.int i = V.int j) = decide (i = j) := by
  by_cases h : i = j
  · subst h
    simp
  · rw [decide_eq_false h, decide_eq_false (fun z => h (V.int.inj z))]
/-- a list of data that may be read -/
def Ls (H : Hp) (v : V) (ds : List PyData) : Prop := ∃ p vs, v = .ref p ∧ (H p = some (.lst vs) ∨ ∃ o, H p = some (.frz o (.lst vs))) ∧ DtA H vs ds
theorem LsAt.ls {v : V} {ds : List PyData} (d : LsAt A H v ds) : Ls H v ds := by
  obtain ⟨t, xs, e, h1, h2⟩ := d
  exact ⟨t, xs, e, h1.imp_left And.left, h2⟩
theorem Ls.of {p : Addr} {vs : List V} {ds : List PyData} (h : H p = some (.lst vs)) (d : DtA H vs ds) : Ls H (.ref p) ds := ⟨p, vs, rfl, .inl h, d⟩
theorem LsAt.of {p : Addr} {vs : List V} {ds : List PyData} (h : H p = some (.lst vs)) (d : DtA H vs ds) (n : ¬ A p := by exact fun z => z) : LsAt A H (.ref p) ds := ⟨p, vs, rfl, .inl ⟨h, n⟩, d⟩
theorem Ls.sq {K : PySem.W.Frag} {v : V} {ds : List PyData} (d : Ls H v ds) : ∃ p xs, v = .ref p ∧ SqL K H p xs ∧ DtA H xs ds := by
  obtain ⟨t, xs, rfl, h1, h2⟩ := d
  rcases h1 with h1 | ⟨o, h1⟩
  · exact ⟨t, xs, rfl, .inl (.inl h1), h2⟩
  · exact ⟨t, xs, rfl, .inl (.inr ⟨o, h1⟩), h2⟩
/-- len of a tuple of data -/
theorem len_tup (hm : X.mg "len" = none) (q : wE X a σ H fun v H1 => ∃ ds, Dt H1 v (.tuple ds) ∧ Q (.int (ds.length : Int)) H1) (hg : Gl X "len" := by rfl) (h1 : starEach [a] X.env = (false, eval a X.env) :: starEach [] X.env := by rfl) :
    wE X (.Call (.Name "len" p) [a] [] pos) σ H Q := by
  refine bi1 call_len_seq hm (wE_mono q fun v H1 q => ?_) PySem.boot_len hg (by decide) (by decide) h1
  obtain ⟨ds, d, q⟩ := q
  obtain ⟨t, xs, rfl, h1, h2⟩ := d.tup_inv
  exact ⟨t, xs, rfl, .inr (.inl (.inl h1)), by rw [h2.len]; exact q⟩
/-- len of a list of data -/
theorem len_ls (hm : X.mg "len" = none) (q : wE X a σ H fun v H1 => ∃ ds, Ls H1 v ds ∧ Q (.int (ds.length : Int)) H1) (hg : Gl X "len" := by rfl) (h1 : starEach [a] X.env = (false, eval a X.env) :: starEach [] X.env := by rfl) :
    wE X (.Call (.Name "len" p) [a] [] pos) σ H Q := by
  refine bi1 call_len_seq hm (wE_mono q fun v H1 q => ?_) PySem.boot_len hg (by decide) (by decide) h1
  obtain ⟨ds, d, q⟩ := q
  obtain ⟨t, xs, rfl, h1, h2⟩ := d.sq (K := X.K)
  exact ⟨t, xs, rfl, .inl h1, by rw [h2.len]; exact q⟩
theorem LsAt.sq {K : PySem.W.Frag} {v : V} {ds : List PyData} (d : LsAt A H v ds) : ∃ p xs, v = .ref p ∧ SqL K H p xs ∧ DtA H xs ds := by
  obtain ⟨t, xs, rfl, h1, h2⟩ := d
  rcases h1 with ⟨h1, _⟩ | ⟨o, h1⟩
  · exact ⟨t, xs, rfl, .inl (.inl h1), h2⟩
  · exact ⟨t, xs, rfl, .inl (.inr ⟨o, h1⟩), h2⟩
/-- ints -/
theorem eq_int (q : wE X a σ H fun v H1 => wE X b σ H1 fun u H2 => ∃ i j : Int, v = .int i ∧ u = .int j ∧ Q (.bl (decide (i = j))) H2) (hm : behindInMarks CmpOp.Eq b = false := by exact nomark _) : wE X (.Compare a [.Eq] [b] pos) σ H Q := by
  refine wE_cmp op_eq hm (wE_mono q fun v H1 q => wE_mono q fun u H2 q => ?_)
  obtain ⟨i, j, rfl, rfl, q⟩ := q
  exact ⟨rfl, qb dec_int q⟩
theorem ne_int (q : wE X a σ H fun v H1 => wE X b σ H1 fun u H2 => ∃ i j : Int, v = .int i ∧ u = .int j ∧ Q (.bl (!decide (i = j))) H2) (hm : behindInMarks CmpOp.NotEq b = false := by exact nomark _) : wE X (.Compare a [.NotEq] [b] pos) σ H Q := by
  refine wE_cmp op_ne hm (wE_mono q fun v H1 q => wE_mono q fun u H2 q => ?_)
  obtain ⟨i, j, rfl, rfl, q⟩ := q
  exact ⟨rfl, qb (congrArg (!·) dec_int) q⟩
theorem teq_int (q : wE X a σ H fun v H1 => wE X b σ H1 fun u H2 => ∃ i j : Int, v = .int i ∧ u = .int j ∧ QT (decide (i = j)) H2) (hm : behindInMarks CmpOp.Eq b = false := by exact nomark _) : wT X (.Compare a [.Eq] [b] pos) σ H QT := by
  refine wT_cmp op_eq hm (wE_mono q fun v H1 q => wE_mono q fun u H2 q => ?_)
  obtain ⟨i, j, rfl, rfl, q⟩ := q
  exact ⟨rfl, _, rfl, by rw [dec_int]; exact q⟩
theorem tne_int (q : wE X a σ H fun v H1 => wE X b σ H1 fun u H2 => ∃ i j : Int, v = .int i ∧ u = .int j ∧ QT (!decide (i = j)) H2) (hm : behindInMarks CmpOp.NotEq b = false := by exact nomark _) : wT X (.Compare a [.NotEq] [b] pos) σ H QT := by
  refine wT_cmp op_ne hm (wE_mono q fun v H1 q => wE_mono q fun u H2 q => ?_)
  obtain ⟨i, j, rfl, rfl, q⟩ := q
  exact ⟨rfl, _, rfl, by rw [dec_int]; exact q⟩
theorem tlt_int (q : wE X a σ H fun v H1 => wE X b σ H1 fun u H2 => ∃ i j : Int, v = .int i ∧ u = .int j ∧ QT (decide (i < j)) H2) (hm : behindInMarks CmpOp.Lt b = false := by exact nomark _) : wT X (.Compare a [.Lt] [b] pos) σ H QT := by
  refine wT_cmp op_lt hm (wE_mono q fun v H1 q => wE_mono q fun u H2 q => ?_)
  obtain ⟨i, j, rfl, rfl, q⟩ := q
  exact ⟨i, j, rfl, rfl, _, rfl, q⟩
theorem add_int' (q : wE X a σ H fun v H1 => wE X b σ H1 fun u H2 => ∃ i j : Int, v = .int i ∧ u = .int j ∧ Q (.int (i + j)) H2) : wE X (.BinOp a .Add b pos) σ H Q := wE_op op_add q
theorem sub_int' (q : wE X a σ H fun v H1 => wE X b σ H1 fun u H2 => ∃ i j : Int, v = .int i ∧ u = .int j ∧ Q (.int (i - j)) H2) : wE X (.BinOp a .Sub b pos) σ H Q := wE_op op_sub q
/-- an item of a tuple of data -/
theorem ix_t (q : wE X a σ H fun v H1 => wE X b σ H1 fun u H2 => ∃ ds i z, Dt H2 v (.tuple ds) ∧ u = .int i ∧ atI ds i = some z ∧ ∀ y, Dt H2 y z → Q y H2) (hs : PlainIx b := by exact fun _ _ => rfl) : wE X (.Subscript a b pos) σ H Q := by
  refine wE_of (pe_ix ix_tup wE_pe wE_pe hs) (wE_mono q fun v H1 q => wE_mono q fun u H2 q => ?_)
  obtain ⟨ds, i, z, d, rfl, e, qq⟩ := q
  obtain ⟨t, xs, rfl, h1, h2⟩ := d.tup_inv
  unfold atI at e
  rw [← h2.len] at e
  cases ei : ixN xs.length i with
  | none => rw [ei] at e; simp at e
  | some j =>
    rw [ei] at e
    obtain ⟨y, hy, hd⟩ := h2.getD e
    refine ⟨t, xs, i, y, rfl, rfl, .inl (.inl h1), ?_, qq y hd⟩
    unfold atI
    rw [ei]
    exact hy
theorem ix_l (q : wE X a σ H fun v H1 => wE X b σ H1 fun u H2 => ∃ ds i z, Ls H2 v ds ∧ u = .int i ∧ atI ds i = some z ∧ ∀ y, Dt H2 y z → Q y H2) (hs : PlainIx b := by exact fun _ _ => rfl) : wE X (.Subscript a b pos) σ H Q := by
  refine wE_of (pe_ix ix_list wE_pe wE_pe hs) (wE_mono q fun v H1 q => wE_mono q fun u H2 q => ?_)
  obtain ⟨ds, i, z, d, rfl, e, qq⟩ := q
  obtain ⟨t, xs, rfl, h1, h2⟩ := d.sq (K := X.K)
  unfold atI at e
  rw [← h2.len] at e
  cases ei : ixN xs.length i with
  | none => rw [ei] at e; simp at e
  | some j =>
    rw [ei] at e
    obtain ⟨y, hy, hd⟩ := h2.getD e
    refine ⟨t, xs, i, y, rfl, rfl, h1, ?_, qq y hd⟩
    unfold atI
    rw [ei]
    exact hy
theorem atI_nat' {α : Type} {l : List α} {i : Nat} {z : α} (h : l[i]? = some z) : atI l (i : Int) = some z := atI_nat (j := i) h
/-- all, any of a list of truths -/
theorem DtA.bools_inv : ∀ {v : List V} {bs : List Bool}, DtA H v (bs.map PyData.bool) → v = bs.map V.bl
  | _, [], .nil => rfl
  | _, n :: r, .cons (.bl _) t => congrArg (V.bl n :: ·) (DtA.bools_inv t)
theorem all_ls (hc : X.calm = true) (hm : X.mg "all" = none) (q : wE X a σ H fun v H1 => ∃ bs : List Bool, Ls H1 v (bs.map PyData.bool) ∧ Q (.bl (bs.all id)) H1) (hg : Gl X "all" := by rfl) (h1 : starEach [a] X.env = (false, eval a X.env) :: starEach [] X.env := by rfl) :
    wE X (.Call (.Name "all" p) [a] [] pos) σ H Q := by
  refine bi1 (cr_all hc) hm (wE_mono q fun v H1 q => ?_) (by decide +kernel) hg (by decide) (by decide) h1
  obtain ⟨bs, d, q⟩ := q
  obtain ⟨t, xs, rfl, h1, h2⟩ := d.sq (K := X.K)
  rw [h2.bools_inv] at h1
  exact ⟨t, bs, rfl, h1, q⟩
theorem any_ls (hc : X.calm = true) (hm : X.mg "any" = none) (q : wE X a σ H fun v H1 => ∃ bs : List Bool, Ls H1 v (bs.map PyData.bool) ∧ Q (.bl (bs.any id)) H1) (hg : Gl X "any" := by rfl) (h1 : starEach [a] X.env = (false, eval a X.env) :: starEach [] X.env := by rfl) :
    wE X (.Call (.Name "any" p) [a] [] pos) σ H Q := by
  refine bi1 (cr_any hc) hm (wE_mono q fun v H1 q => ?_) (by decide +kernel) hg (by decide) (by decide) h1
  obtain ⟨bs, d, q⟩ := q
  obtain ⟨t, xs, rfl, h1, h2⟩ := d.sq (K := X.K)
  rw [h2.bools_inv] at h1
  exact ⟨t, bs, rfl, h1, q⟩
/-- tuple of a list of data -/
theorem tup_ls (hm : X.mg "tuple" = none) (q : wE X a σ H fun v H1 => ∃ ds, Ls H1 v ds ∧ ∀ y H2, Sm H1 H2 → Dt H2 y (.tuple ds) → Q y H2) (hg : Gl X "tuple" := by rfl) (h1 : starEach [a] X.env = (false, eval a X.env) :: starEach [] X.env := by rfl) :
    wE X (.Call (.Name "tuple" p) [a] [] pos) σ H Q := by
  refine ty1 call_tuple_of hm (wE_mono q fun v H1 q => ?_) (by decide +kernel) hg (by decide) (by decide) h1
  obtain ⟨ds, d, q⟩ := q
  obtain ⟨t, xs, rfl, h1, h2⟩ := d.sq (K := X.K)
  exact ⟨t, xs, rfl, .inl ⟨h1, fun l nl => q _ _ (same_new nl) (.new nl h2)⟩⟩
theorem tup_tup (hm : X.mg "tuple" = none) (q : wE X a σ H fun v H1 => ∃ ds, Dt H1 v (.tuple ds) ∧ Q v H1) (hg : Gl X "tuple" := by rfl) (h1 : starEach [a] X.env = (false, eval a X.env) :: starEach [] X.env := by rfl) :
    wE X (.Call (.Name "tuple" p) [a] [] pos) σ H Q := by
  refine ty1 call_tuple_of hm (wE_mono q fun v H1 q => ?_) (by decide +kernel) hg (by decide) (by decide) h1
  obtain ⟨ds, d, q⟩ := q
  obtain ⟨t, xs, rfl, h1, h2⟩ := d.tup_inv
  exact ⟨t, xs, rfl, .inr ⟨.inl (.inl h1), q⟩⟩
/-- (a, b) -/
theorem tup2 {k : Nat} (q : wE X a σ H fun v H1 => wE X b σ H1 fun u H2 => ∃ d1 d2, Dt H2 v d1 ∧ Dt H2 u d2 ∧ ∀ y H3, Sm H2 H3 → Dt H3 y (.tuple [d1, d2]) → Q y H3) (h1 : starEach [a, b] X.env = (false, eval a X.env) :: starEach [b] X.env := by rfl) (h2 : starEach [b] X.env = (false, eval b X.env) :: starEach [] X.env := by rfl) :
    wE X (.Tuple [a, b] k pos) σ H Q := by
  refine wE_of (pe_tup (pa_cons wE_pe (pa_cons wE_pe pa_nil h2) h1)) (wE_mono q fun v H1 q => wE_mono q fun u H2 q => ?_)
  obtain ⟨d1, d2, e1, e2, q⟩ := q
  exact ⟨by show 2 ≤ sizeLine; decide, fun p np => q _ _ (same_new np) (.new np (.cons e1 (.cons e2 .nil)))⟩
/-- in, of ints -/
theorem inV_ints {i : Int} {ns : List Int} : inV (.int i) (ns.map V.int) = decide (i ∈ ns) := by
  induction ns with
  | nil => rfl
  | cons n r ih =>
    unfold inV at ih ⊢
    rw [List.map_cons, List.any_cons, ih]
    have e : eqV (.int n) (.int i) = decide (n = i) := by
      show (n == i) = _
      exact Bool.beq_eq_decide_eq _ _
    rw [e]
    by_cases h : n = i
    · subst h
      simp
    · have h' : i ≠ n := fun z => h z.symm
      simp [h, h']
theorem flat_ints (ns : List Int) : (ns.map V.int).all flatV = true := by
  rw [List.all_eq_true]
  intro x hx
  obtain ⟨n, _, rfl⟩ := List.mem_map.mp hx
  rfl
theorem in_t (q : wE X a σ H fun v H1 => wE X b σ H1 fun u H2 => ∃ (ns : List Int) (i : Int), v = .int i ∧ Dt H2 u (.tuple (ns.map PyData.int)) ∧ Q (.bl (decide (i ∈ ns))) H2) (hm : behindInMarks CmpOp.In b = false := by rfl) : wE X (.Compare a [.In] [b] pos) σ H Q := by
  refine wE_cmp op_in_seq hm (wE_mono q fun v H1 q => wE_mono q fun u H2 q => ?_)
  obtain ⟨ns, i, rfl, d, q⟩ := q
  obtain ⟨t, xs, rfl, h1, h2⟩ := d.tup_inv
  have e := h2.ints_inv
  subst e
  refine ⟨t, _, rfl, .inr (.inl (.inl h1)), rfl, flat_ints ns, ?_⟩
  show Q (.bl (inV _ _)) H2
  rw [inV_ints]
  exact q
theorem tin_t (q : wE X a σ H fun v H1 => wE X b σ H1 fun u H2 => ∃ (ns : List Int) (i : Int), v = .int i ∧ Dt H2 u (.tuple (ns.map PyData.int)) ∧ QT (decide (i ∈ ns)) H2) (hm : behindInMarks CmpOp.In b = false := by rfl) : wT X (.Compare a [.In] [b] pos) σ H QT := by
  refine wT_cmp op_in_seq hm (wE_mono q fun v H1 q => wE_mono q fun u H2 q => ?_)
  obtain ⟨ns, i, rfl, d, q⟩ := q
  obtain ⟨t, xs, rfl, h1, h2⟩ := d.tup_inv
  have e := h2.ints_inv
  subst e
  refine ⟨t, _, rfl, .inr (.inl (.inl h1)), rfl, flat_ints ns, _, rfl, ?_⟩
  show QT (inV _ _) H2
  rw [inV_ints]
  exact q
end
/-! ## what is kept, told by lists -/
theorem kept_map {F : Nat → PyData → Option PyData} {α : Type} {enc : α → PyData} {f : α → PyData} {l : List α} (h : ∀ n a, l[n]? = some a → F n (enc a) = some (f a)) : ∀ n, n ≤ l.length → kept F (l.map enc) n = (l.take n).map f
  | 0, _ => by simp [kept]
  | n + 1, hn => by
    have hi : n < l.length := by omega
    have e : (l.map enc)[n]? = some (enc l[n]) := by simp [hi]
    have et : l.take (n + 1) = l.take n ++ [l[n]] := by
      rw [List.take_add_one, List.getElem?_eq_getElem hi]
      rfl
    rw [kept_succ e, kept_map h n (by omega), h n l[n] (by simp [hi]), et, List.map_append]
    rfl
theorem kept_map' {F : Nat → PyData → Option PyData} {α : Type} {enc : α → PyData} {f : α → PyData} {l : List α} (h : ∀ n a, l[n]? = some a → F n (enc a) = some (f a)) : kept F (l.map enc) (l.map enc).length = l.map f := by
  rw [kept_map h _ (by simp)]
  simp
theorem kept_fil {F : Nat → PyData → Option PyData} {α : Type} {enc : α → PyData} {f : α → PyData} {c : α → Bool} {l : List α} (h : ∀ n a, l[n]? = some a → F n (enc a) = if c a = true then some (f a) else none) : ∀ n, n ≤ l.length → kept F (l.map enc) n = ((l.take n).filter c).map f
  | 0, _ => by simp [kept]
  | n + 1, hn => by
    have hi : n < l.length := by omega
    have e : (l.map enc)[n]? = some (enc l[n]) := by simp [hi]
    have et : l.take (n + 1) = l.take n ++ [l[n]] := by
      rw [List.take_add_one, List.getElem?_eq_getElem hi]
      rfl
    rw [kept_succ e, kept_fil h n (by omega), h n l[n] (by simp [hi]), et, List.filter_append, List.map_append]
    by_cases hc : c l[n] = true
    · rw [if_pos hc, List.filter_cons_of_pos hc]
      rfl
    · rw [if_neg hc, List.filter_cons_of_neg hc]
      rfl
theorem kept_fil' {F : Nat → PyData → Option PyData} {α : Type} {enc : α → PyData} {f : α → PyData} {c : α → Bool} {l : List α} (h : ∀ n a, l[n]? = some a → F n (enc a) = if c a = true then some (f a) else none) : kept F (l.map enc) (l.map enc).length = (l.filter c).map f := by
  rw [kept_fil h _ (by simp)]
  simp
end Lw
namespace Lw
open PySem PySem.Spec PyProof.Rows L2 NdefX LamX
section
variable {O : Prm} {X : Cx} {elt c : Expr} {scope : Scope} {σ1 : L2.St} {Ha : Hp} {F : Option PyData}
theorem turn_nil (h : ∀ s H0 C cl fp, wE (Bk X scope s H0 C cl fp) elt σ1 Ha fun y H4 => Ex O nA Ha H4 ∧ ∃ z, F = some z ∧ Dt H4 y z) : Turn1 O X scope [] elt F σ1 Ha :=
  bTs_nil (by rw [if_pos rfl]; exact h)
/-- one test, its answer known -/
theorem turn_one {k : Bool} (h : ∀ s H0 C cl fp, wT (Bk X scope s H0 C cl fp) c σ1 Ha fun b H3 => b = k ∧ Ex O nA Ha H3) (h0 : k = false → F = none)
    (h1 : k = true → ∀ H3, Ex O nA Ha H3 → ∀ s H0 C cl fp, wE (Bk X scope s H0 C cl fp) elt σ1 H3 fun y H4 => Ex O nA Ha H4 ∧ ∃ z, F = some z ∧ Dt H4 y z) : Turn1 O X scope [c] elt F σ1 Ha := by
  intro s H0 C cl fp
  refine wTs_one (wT_mono (h s H0 C cl fp) fun b H3 q => ?_)
  obtain ⟨rfl, m⟩ := q
  cases b with
  | true =>
    rw [if_pos rfl]
    exact h1 rfl H3 m
  | false =>
    rw [if_neg Bool.false_ne_true]
    exact ⟨m, h0 rfl⟩
end
end Lw
/-! plain mathematics: what steps up reach, reductions -/
namespace Lw
inductive TC (ps : Steps) : Nat → Nat → Prop
  | base {a b : Nat} : (a, b) ∈ ps → TC ps a b
  | step {a b c : Nat} : TC ps a b → (b, c) ∈ ps → TC ps a c
theorem TC.trans {ps : Steps} {a b c : Nat} (h : TC ps a b) (k : TC ps b c) : TC ps a c := by
  induction k with
  | base e => exact .step h e
  | step _ e ih => exact .step ih e
open Classical in
/-- the places to which pairs lead up from p, of n -/
noncomputable def upw (n : Nat) (ps : Steps) (p : Nat) : List Nat := (List.range n).filter fun q => decide (TC ps p q)
noncomputable def upL (n : Nat) (ps : Steps) : List (List Nat) := (List.range n).map (upw n ps)
def hasRing (U : List (List Nat)) : Bool := (List.range U.length).any fun i => decide (i ∈ U.getD i [])
/-- the steps by the lots above -/
def stp (U : List (List Nat)) : Steps := (List.range U.length).flatMap fun l => ((U.getD l []).filter fun h => !((U.getD l []).any fun o => decide (h ∈ U.getD o []))).map fun h => (l, h)
/-- pairs in order: by the first, then by the second -/
def ltP2 (p q : Nat × Nat) : Prop := p.1 < q.1 ∨ (p.1 = q.1 ∧ p.2 < q.2)
/-- rows that ascend, of places -/
structure Rows (U : List (List Nat)) : Prop where
  asc : ∀ r ∈ U, r.Pairwise (· < ·)
  bd : ∀ r ∈ U, ∀ x ∈ r, x < U.length
theorem upL_len {n : Nat} {ps : Steps} : (upL n ps).length = n := by simp [upL]
theorem upL_get {n : Nat} {ps : Steps} {i : Nat} (h : i < n) : (upL n ps).getD i [] = upw n ps i := by simp [upL, h]
theorem mem_upw {n : Nat} {ps : Steps} {p q : Nat} : q ∈ upw n ps p ↔ q < n ∧ TC ps p q := by simp [upw]
theorem rows_upL {n : Nat} {ps : Steps} : Rows (upL n ps) := by
  refine ⟨fun r hr => ?_, fun r hr x hx => ?_⟩
  · obtain ⟨p, _, rfl⟩ := List.mem_map.mp hr
    exact List.Pairwise.filter _ List.pairwise_lt_range
  · obtain ⟨p, _, rfl⟩ := List.mem_map.mp hr
    rw [upL_len]
    exact (mem_upw.mp hx).1
theorem getD_mem {U : List (List Nat)} {i : Nat} (h : i < U.length) : U.getD i [] ∈ U := by
  have e : U.getD i [] = U[i] := by simp [h]
  rw [e]
  exact List.getElem_mem h
theorem stp_asc {U : List (List Nat)} (R : Rows U) : (stp U).Pairwise ltP2 := by
  unfold stp
  rw [List.flatMap_def, List.pairwise_flatten]
  refine ⟨fun l hl => ?_, ?_⟩
  · obtain ⟨i, hi, rfl⟩ := List.mem_map.mp hl
    rw [List.pairwise_map]
    exact (List.Pairwise.filter _ (R.asc _ (getD_mem (List.mem_range.mp hi)))).imp fun h => .inr ⟨rfl, h⟩
  · rw [List.pairwise_map]
    refine List.pairwise_lt_range.imp fun {a b} h => ?_
    intro x hx y hy
    obtain ⟨_, _, rfl⟩ := List.mem_map.mp hx
    obtain ⟨_, _, rfl⟩ := List.mem_map.mp hy
    exact .inl h
theorem mem_stp {U : List (List Nat)} {l h : Nat} : (l, h) ∈ stp U ↔ l < U.length ∧ h ∈ U.getD l [] ∧ ∀ o ∈ U.getD l [], h ∉ U.getD o [] := by
  unfold stp
  simp only [List.mem_flatMap, List.mem_range, List.mem_map, List.mem_filter, Prod.mk.injEq]
  constructor
  · rintro ⟨i, hi, x, ⟨h1, h2⟩, rfl, rfl⟩
    refine ⟨hi, h1, fun o ho z => ?_⟩
    rw [Bool.not_eq_true', List.any_eq_false] at h2
    exact h2 o ho (decide_eq_true z)
  · rintro ⟨h1, h2, h3⟩
    refine ⟨l, h1, h, ⟨h2, ?_⟩, rfl, rfl⟩
    rw [Bool.not_eq_true', List.any_eq_false]
    exact fun o ho z => h3 o ho (of_decide_eq_true z)
theorem stp_bd {U : List (List Nat)} (R : Rows U) : ∀ p ∈ stp U, p.1 < U.length ∧ p.2 < U.length := fun ⟨l, h⟩ hp => by
  obtain ⟨h1, h2, _⟩ := mem_stp.mp hp
  exact ⟨h1, R.bd _ (getD_mem h1) _ h2⟩
end Lw
namespace Lw
open PySem PySem.Spec PyProof.Rows L2 NdefX LamX
section
variable {O : Prm} {A : Addr → Prop} {H Hx Hy : Hp}
/-- a list that A names is changed -/
theorem Ex.atA {p : Addr} {vs : List V} {u : HO} (hA : A p) (h1 : H p = some (.lst vs)) : Ex O A H (upd H p u) := by
  have ne : ∀ b o, H b = some o → (∀ xs, o ≠ .lst xs) → b ≠ p := fun b o e n z => by
    rw [z, h1] at e
    exact n vs (Option.some.inj e).symm
  refine ⟨.lst h1, fun b o e s => ?_, fun v n ss h => ?_, fun b e => ?_, fun h q hq => ?_⟩
  · by_cases z : b = p
    · rw [z, h1] at e
      cases e
      subst z
      exact absurd hA s
    · rw [upd_ne z]
      exact e
  · obtain ⟨q, dx, t, d, kvs, e, i1, i2, i3, i4, i5, i6⟩ := h
    refine ⟨q, dx, t, d, kvs, e, ?_, i2.mono (.lst h1), ?_, i4, i5, i6.mono (.lst h1)⟩
    · rw [upd_ne (ne _ _ i1 fun _ z => by cases z)]
      exact i1
    · rw [upd_ne (ne _ _ i3 fun _ z => by cases z)]
      exact i3
  · by_cases z : b = p
    · rw [z, upd_same] at e
      cases e
    · rw [upd_ne z] at e
      exact e
  · obtain ⟨ps, t1, t2, t3⟩ := h q hq
    refine ⟨ps, ?_, t2, fun pos cv hc => ?_⟩
    · rw [upd_ne (ne _ _ t1 fun _ z => by cases z)]
      exact t1
    · obtain ⟨c, e1, e2⟩ := t3 pos cv hc
      refine ⟨c, e1, ?_⟩
      rw [upd_ne (ne _ _ e2 fun _ z => by unfold CodeO at z; cases z)]
      exact e2
/-- a dict that A names is changed -/
theorem Ex.atD {p : Addr} {kvs : List (List Key × V)} {u : HO} (hA : A p) (h1 : H p = some (.dT kvs)) : Ex O A H (upd H p u) := by
  have ne : ∀ b o, H b = some o → (∀ xs, o ≠ .dT xs) → b ≠ p := fun b o e n z => by
    rw [z, h1] at e
    exact n kvs (Option.some.inj e).symm
  refine ⟨.dT h1, fun b o e s => ?_, fun v n ss h => ?_, fun b e => ?_, fun h q hq => ?_⟩
  · by_cases z : b = p
    · rw [z, h1] at e
      cases e
      subst z
      exact absurd hA s
    · rw [upd_ne z]
      exact e
  · obtain ⟨q, dx, t, d, ls, e, i1, i2, i3, i4, i5, i6⟩ := h
    refine ⟨q, dx, t, d, ls, e, ?_, i2.mono (.dT h1), ?_, i4, i5, i6.mono (.dT h1)⟩
    · rw [upd_ne (ne _ _ i1 fun _ z => by cases z)]
      exact i1
    · rw [upd_ne (ne _ _ i3 fun _ z => by cases z)]
      exact i3
  · by_cases z : b = p
    · rw [z, upd_same] at e
      cases e
    · rw [upd_ne z] at e
      exact e
  · obtain ⟨ps, t1, t2, t3⟩ := h q hq
    refine ⟨ps, ?_, t2, fun pos cv hc => ?_⟩
    · rw [upd_ne (ne _ _ t1 fun _ z => by cases z)]
      exact t1
    · obtain ⟨c, e1, e2⟩ := t3 pos cv hc
      refine ⟨c, e1, ?_⟩
      rw [upd_ne (ne _ _ e2 fun _ z => by unfold CodeO at z; cases z)]
      exact e2
/-- what A names was not there at the beginning -/
theorem Ex.glue {A' : Addr → Prop} (a : Ex O A' H Hx) (b : Ex O A Hx Hy) (hA : ∀ p, A p → H p = none ∨ A' p) : Ex O A' H Hy := by
  refine ⟨a.im.trans b.im, fun c o e s => b.cel c o (a.cel c o e s) ?_, fun v n ss h => b.ord v n ss (a.ord v n ss h), fun c h => a.dom c (b.dom c h), fun h => b.tab (a.tab h)⟩
  have n : A c → A' c := fun z => (hA c z).elim (fun q => by rw [q] at e; cases e) id
  cases o with
  | lst xs => exact fun z => s (n z)
  | dT kvs => exact fun z => s (n z)
  | dK kvs => exact ⟨fun z => s.1 (n z), s.2⟩
  | ins C dx fs => exact s.imp_right fun q z => q (n z)
  | tbl ps => exact s
  | _ => exact True.intro
/-- a list that stood before a new object came -/
theorem LsAt.one {p : Addr} {v : V} {ds : List PyData} (h : LsAt nA H v ds) (hp : H p = none) : LsAt (· = p) H v ds := by
  obtain ⟨q, vs, e, h1, h2⟩ := h
  exact ⟨q, vs, e, h1.imp_left fun z => ⟨z.1, fun y => by subst y; rw [hp] at z; cases z.1⟩, h2⟩
theorem Ls.mono {v : V} {ds : List PyData} (m : Ex O nA H Hx) (h : Ls H v ds) : Ls Hx v ds := by
  obtain ⟨p, vs, e, h1, h2⟩ := h
  refine ⟨p, vs, e, ?_, h2.mono m.im⟩
  rcases h1 with h1 | ⟨o, h1⟩
  · exact .inl (m.cel _ _ h1 fun z => z)
  · exact .inr ⟨o, m.im.2 _ _ _ h1⟩
end
theorem blk_in {N : List Str} {sc scope1 scope2 : Scope} {own : List (Str × Nat)} {env : Env} (h : blkC N (relS scope1 sc) scope2 own = true) (e : env.scope = sc) : BlkOk N (relabel scope1 env) scope2 own := by
  subst e
  exact blkOk_by h
theorem kept_range {F : Nat → PyData → Option PyData} {ds : List PyData} {g : Nat → PyData} (h : ∀ n d, ds[n]? = some d → F n d = some (g n)) : ∀ n, n ≤ ds.length → kept F ds n = (List.range n).map g
  | 0, _ => by simp [kept]
  | n + 1, hn => by
    have hi : n < ds.length := by omega
    have e : ds[n]? = some ds[n] := by simp [hi]
    rw [kept_succ e, kept_range h n (by omega), h n _ e, List.range_succ, List.map_append]
    rfl
theorem kept_all {F : Nat → PyData → Option PyData} {ds : List PyData} {g : Nat → PyData} (h : ∀ n d, ds[n]? = some d → F n d = some (g n)) : kept F ds ds.length = (List.range ds.length).map g := kept_range h _ (Nat.le_refl _)
theorem eNs_map (l : List Nat) : eNs l = .tuple ((l.map fun n : Nat => (n : Int)).map PyData.int) := by
  show PyData.tuple _ = _
  rw [List.map_map]
  rfl
theorem mem_cast {n : Nat} {l : List Nat} : ((n : Int) ∈ l.map fun n : Nat => (n : Int)) ↔ n ∈ l := by
  rw [List.mem_map]
  constructor
  · rintro ⟨a, h1, h2⟩
    have := Int.ofNat.inj h2
    rw [← this]
    exact h1
  · exact fun h => ⟨n, h, rfl⟩
/-! ## sorted of pairs that are in order -/
open Classical in
noncomputable def pairAt (H : Hp) (v : V) : Int × Int := if h : ∃ (q : Int × Int) (t : Addr), v = .ref t ∧ H t = some (.tup [.int q.1, .int q.2]) then h.choose else (0, 0)
theorem pairAt_eq {H : Hp} {v : V} {p : Nat × Nat} (d : Dt H v (ePr p)) : pairAt H v = ((p.1 : Int), (p.2 : Int)) ∧ ∃ t, v = .ref t ∧ H t = some (.tup [.int (p.1 : Int), .int (p.2 : Int)]) := by
  obtain ⟨a, xs, rfl, h1, h2⟩ := d.tup_inv
  have e := h2.ints_inv (ns := [(p.1 : Int), (p.2 : Int)])
  subst e
  refine ⟨?_, a, rfl, h1⟩
  have ex : ∃ (q : Int × Int) (t : Addr), V.ref a = .ref t ∧ H t = some (.tup [.int q.1, .int q.2]) := ⟨((p.1 : Int), (p.2 : Int)), a, rfl, h1⟩
  unfold pairAt
  rw [dif_pos ex]
  obtain ⟨t, e1, e2⟩ := ex.choose_spec
  cases e1
  rw [h1] at e2
  injection e2 with e2
  injection e2 with e2
  injection e2 with e3 e4
  injection e4 with e4 _
  injection e3 with e3
  injection e4 with e4
  exact Prod.ext e3.symm e4.symm
theorem DtA.mem {H : Hp} : ∀ {vs : List V} {ds : List PyData} {v : V}, DtA H vs ds → v ∈ vs → ∃ d ∈ ds, Dt H v d
  | _, _, _, .nil, h => absurd h (by simp)
  | _, _, v, .cons r t, h => by
    rcases List.mem_cons.mp h with rfl | h
    · exact ⟨_, List.mem_cons_self, r⟩
    · obtain ⟨d, h1, h2⟩ := DtA.mem t h
      exact ⟨d, List.mem_cons_of_mem _ h1, h2⟩
theorem srtd_pairs {H : Hp} : ∀ {vs : List V} {ps : Steps}, DtA H vs (ps.map ePr) → ps.Pairwise ltP2 → SrtO.Srtd (ltP (pairAt H)) vs
  | _, [], .nil, _ => List.Pairwise.nil
  | _, p :: ps, .cons (v := v) r t, h => by
    obtain ⟨h1, h2⟩ := List.pairwise_cons.mp h
    refine List.pairwise_cons.mpr ⟨fun y hy => ?_, srtd_pairs t h2⟩
    obtain ⟨d, hd, dy⟩ := t.mem hy
    obtain ⟨q, hq, rfl⟩ := List.mem_map.mp hd
    show SrtO.lexB (pairAt H y) (pairAt H v) = false
    rw [(pairAt_eq r).1, (pairAt_eq dy).1]
    refine SrtO.lexB_no.mpr ?_
    have := h1 q hq
    unfold ltP2 at this
    simp only
    omega
section
variable {X : Cx} {σ : L2.St} {H : Hp} {Q : VK} {p pos apos : Pos} {a b : Expr}
/-- sorted(a), a a list of pairs in order already: a new list of the same -/
theorem sorted_same (hm : X.mg "sorted" = none) (q : wE X a σ H fun v H1 => ∃ ps : Steps, Ls H1 v (ps.map ePr) ∧ ps.Pairwise ltP2 ∧ ∀ l vs, H1 l = none → DtA (upd H1 l (.lst vs)) vs (ps.map ePr) → Q (.ref l) (upd H1 l (.lst vs)))
    (hg : Gl X "sorted" := by rfl) (h1 : starEach [a] X.env = (false, eval a X.env) :: starEach [] X.env := by rfl) : wE X (.Call (.Name "sorted" p) [a] [] pos) σ H Q := by
  refine bi1 cr_sortedPO hm (wE_mono q fun v H1 q => ?_) (by decide +kernel) hg (by decide) (by decide) h1
  obtain ⟨ps, d, hp, q⟩ := q
  obtain ⟨t, xs, rfl, h1, h2⟩ := d.sq (K := X.K)
  refine ⟨t, xs, pairAt H1, rfl, h1, fun x hx => ?_, fun ys l s1 s2 nl => ?_⟩
  · obtain ⟨d, hd, dx⟩ := h2.mem hx
    obtain ⟨p, hp, rfl⟩ := List.mem_map.mp hd
    obtain ⟨e1, u, e2, e3⟩ := pairAt_eq dx
    refine ⟨u, e2, ?_⟩
    rw [e1]
    exact e3
  · have e : ys = xs := SrtO.stb_uniq (ltP_swo _) s1 (srtd_pairs h2 hp) s2
    subst e
    exact q l ys nl (h2.mono (.new nl))
/-- xs.append(b), xs a list that stands -/
theorem append (q : wE X a σ H fun v H1 => ∃ l vs, v = .ref l ∧ H1 l = some (.lst vs) ∧ wE X b σ H1 fun u H2 => ∃ vs', H2 l = some (.lst vs') ∧ vs'.length < 1000000 ∧ Q .non (upd H2 l (.lst (vs' ++ [u]))))
    (hbase : attributeBase a "append" X.env (eval a X.env) = eval a X.env := by rfl)
    (hfew : ((backTo pos (starEach [b] X.env)).all (fun x => !x.1) && (backToKw pos (keywordEach [] X.env)).all (fun x => x.1.isSome) && decide ([b].length + ([] : List Keyword).length + (if ([] : List Keyword).isEmpty then 0 else 1) < 30)) = true := by rfl)
    (hline : (apos.endLine == pos.line) = true := by rfl) (hs : starEach [b] X.env = (false, eval b X.env) :: starEach [] X.env := by rfl) : wE X (.Call (.Attribute a "append" apos) [b] [] pos) σ H Q := by
  refine wE_of (pe_bm PySem.F.plainAttrs_list PySem.F.slot_list_append PySem.F.type_list_append mt_append wE_pe (pa_cons wE_pe pa_nil hs) hbase hfew hline hs (by rfl)) (wE_mono q fun v H1 q => ?_)
  obtain ⟨l, vs, rfl, h1, q⟩ := q
  refine ⟨.inl ⟨rfl, _, .inl (.inl h1)⟩, wE_mono q fun u H2 q => ?_⟩
  obtain ⟨vs', h2, hz, q⟩ := q
  exact ⟨l, vs', u, rfl, rfl, h2, by rw [sizeLine_eq]; omega, q⟩
theorem extend (q : wE X a σ H fun v H1 => ∃ l vs, v = .ref l ∧ H1 l = some (.lst vs) ∧ wE X b σ H1 fun u H2 => ∃ vs' r ws, H2 l = some (.lst vs') ∧ u = .ref r ∧ H2 r = some (.lst ws) ∧ vs'.length + ws.length < 1000000 ∧ Q .non (upd H2 l (.lst (vs' ++ ws))))
    (hbase : attributeBase a "extend" X.env (eval a X.env) = eval a X.env := by rfl)
    (hfew : ((backTo pos (starEach [b] X.env)).all (fun x => !x.1) && (backToKw pos (keywordEach [] X.env)).all (fun x => x.1.isSome) && decide ([b].length + ([] : List Keyword).length + (if ([] : List Keyword).isEmpty then 0 else 1) < 30)) = true := by rfl)
    (hline : (apos.endLine == pos.line) = true := by rfl) (hs : starEach [b] X.env = (false, eval b X.env) :: starEach [] X.env := by rfl) : wE X (.Call (.Attribute a "extend" apos) [b] [] pos) σ H Q := by
  refine wE_of (pe_bm PySem.F.plainAttrs_list PySem.F.slot_list_extend PySem.F.type_list_extend mt_extend wE_pe (pa_cons wE_pe pa_nil hs) hbase hfew hline hs (by rfl)) (wE_mono q fun v H1 q => ?_)
  obtain ⟨l, vs, rfl, h1, q⟩ := q
  refine ⟨.inl ⟨rfl, _, .inl (.inl h1)⟩, wE_mono q fun u H2 q => ?_⟩
  obtain ⟨vs', r, ws, h2, rfl, h3, hz, q⟩ := q
  exact ⟨l, r, vs', ws, rfl, rfl, h2, h3, by rw [sizeLine_eq]; omega, q⟩
/-- [] -/
theorem lst0 (q : ∀ l, H l = none → Q (.ref l) (upd H l (.lst []))) : wE X (.List [] pos) σ H Q := wE_of (pe_lst pa_nil) ⟨Nat.zero_le _, q⟩
theorem lst1 (q : wE X a σ H fun v H1 => ∀ l, H1 l = none → Q (.ref l) (upd H1 l (.lst [v]))) (h1 : starEach [a] X.env = (false, eval a X.env) :: starEach [] X.env := by rfl) : wE X (.List [a] pos) σ H Q :=
  wE_of (pe_lst (pa_cons wE_pe pa_nil h1)) (wE_mono q fun v H1 q => ⟨by show 1 ≤ sizeLine; decide, q⟩)
theorem tup0 {k : Nat} (q : ∀ l, H l = none → Q (.ref l) (upd H l (.tup []))) : wE X (.Tuple [] k pos) σ H Q := wE_of (pe_tup pa_nil) ⟨Nat.zero_le _, q⟩
theorem tup1 {k : Nat} (q : wE X a σ H fun v H1 => ∀ l, H1 l = none → Q (.ref l) (upd H1 l (.tup [v]))) (h1 : starEach [a] X.env = (false, eval a X.env) :: starEach [] X.env := by rfl) : wE X (.Tuple [a] k pos) σ H Q :=
  wE_of (pe_tup (pa_cons wE_pe pa_nil h1)) (wE_mono q fun v H1 q => ⟨by show 1 ≤ sizeLine; decide, q⟩)
end
end Lw
namespace Lw
open PySem PySem.Spec PyProof.Rows L2 NdefX LamX
/-! ## dicts -/
def rUpdK : V → List V → Hp → VK → Prop := fun x vs H Q => ∃ a b ks ls, x = .ref a ∧ vs = [.ref b] ∧ a ≠ b ∧ H a = some (.dK ks) ∧ H b = some (.dK ls) ∧ ks.length + ls.length ≤ 1000000 ∧ Q .non (upd H a (.dK (mergeK ks ls)))
theorem mt_update {X : Cx} : MtR X "dict.update" rUpdK := by
  intro pins s σ H x vs v us Q I rx rv h
  obtain ⟨a, b, ks, ls, rfl, rfl, hne, hA, hB, hz, q⟩ := h
  cases rx
  obtain ⟨u, rfl, ru⟩ := rv.one
  cases ru
  obtain ⟨z1, l1, vs, r1, d1⟩ := dk_of I.hok hA
  obtain ⟨z2, l2, ws, r2, d2⟩ := dk_of I.hok hB
  have hsz : vs.length + ws.length ≤ sizeLine := by rw [← r1.length, ← r2.length, sizeLine_eq]; omega
  refine call_meetsIn PySem.F.slot_dict_update d1.typeIs PySem.F.entry_dict_update (PySem.F.args_dict_update_2 _ _) (meets_dict_update (mixKind X.prog X.w) a b hne l2) ⟨vs, ws, d1, d2, hsz, fun h' e1 e2 sb => ?_⟩
  have he : ∃ q, h'.get? a = some q := let ⟨q, _, _, hq, _⟩ := e1; ⟨q, hq⟩
  refine ⟨.non, _, d_write I (by rw [hA]; exact True.intro) sb he (dk_new ?_ l1 (r2.merge r1) e1), rfl, q⟩
  have := length_mergeK ls ks
  rw [sizeLine_eq]
  omega
section
variable {X : Cx} {σ : L2.St} {H : Hp} {Q : VK} {QT : Bool → Hp → Prop} {p pos apos : Pos} {a b : Expr} {O : Prm} {x y : Str} {k : Nat}
/-- d.update(e) -/
theorem update (q : wE X a σ H fun v H1 => ∃ l, v = .ref l ∧ (∃ ks, H1 l = some (.dK ks)) ∧ wE X b σ H1 fun u H2 => ∃ r ks ls, u = .ref r ∧ l ≠ r ∧ H2 l = some (.dK ks) ∧ H2 r = some (.dK ls) ∧ ks.length + ls.length ≤ 1000000 ∧ Q .non (upd H2 l (.dK (mergeK ks ls))))
    (hbase : attributeBase a "update" X.env (eval a X.env) = eval a X.env := by rfl)
    (hfew : ((backTo pos (starEach [b] X.env)).all (fun x => !x.1) && (backToKw pos (keywordEach [] X.env)).all (fun x => x.1.isSome) && decide ([b].length + ([] : List Keyword).length + (if ([] : List Keyword).isEmpty then 0 else 1) < 30)) = true := by rfl)
    (hline : (apos.endLine == pos.line) = true := by rfl) (hs : starEach [b] X.env = (false, eval b X.env) :: starEach [] X.env := by rfl) : wE X (.Call (.Attribute a "update" apos) [b] [] pos) σ H Q := by
  refine wE_of (pe_bm PySem.F.plainAttrs_dict PySem.F.slot_dict_update PySem.F.type_dict_update mt_update wE_pe (pa_cons wE_pe pa_nil hs) hbase hfew hline hs (by rfl)) (wE_mono q fun v H1 q => ?_)
  obtain ⟨l, rfl, ⟨ks0, h1⟩, q⟩ := q
  refine ⟨.inr (.inr (.inl ⟨rfl, .inl ⟨ks0, h1⟩⟩)), wE_mono q fun u H2 q => ?_⟩
  obtain ⟨r, ks, ls, rfl, hne, h2, h3, hz, q⟩ := q
  exact ⟨l, r, ks, ls, rfl, rfl, hne, h2, h3, hz, q⟩
/-- y in d -/
theorem op_dinA (hu : X.A.units + 1 < cLine) : OpR X (compareOp .In) (fun y x H Q => ∃ a o, x = .ref a ∧ DGet H a y o ∧ Q (.bl o.isSome) H) := by
  intro pins s σ H x y v u Q I rx ry h
  obtain ⟨a, o, rfl, g, q⟩ := h
  obtain rfl : u = Value.ref a := ry
  exact d_in hu I g rx fun s3 I3 => ⟨.bl o.isSome, H, I3, rfl, q⟩
theorem op_dninA (hu : X.A.units + 1 < cLine) : OpR X (compareOp .NotIn) (fun y x H Q => ∃ a o, x = .ref a ∧ DGet H a y o ∧ Q (.bl (!o.isSome)) H) := by
  intro pins s σ H x y v u Q I rx ry h
  obtain ⟨a, o, rfl, g, q⟩ := h
  obtain rfl : u = Value.ref a := ry
  exact d_notIn hu I g rx fun s3 I3 => ⟨.bl (!o.isSome), H, I3, rfl, q⟩
theorem tdin (hr : Room k X.A) (q : wE X a σ H fun y H1 => wE X b σ H1 fun x H2 => ∃ a o, x = .ref a ∧ DGet H2 a y o ∧ QT o.isSome H2) (hm : behindInMarks CmpOp.In b = false := by rfl) : wT X (.Compare a [.In] [b] pos) σ H QT :=
  wT_cmp (op_dinA (by have := hr.units; omega)) hm (wE_mono q fun v H1 q => wE_mono q fun u H2 q => let ⟨a, o, e, g, q⟩ := q; ⟨a, o, e, g, _, rfl, q⟩)
theorem tdnin (hr : Room k X.A) (q : wE X a σ H fun y H1 => wE X b σ H1 fun x H2 => ∃ a o, x = .ref a ∧ DGet H2 a y o ∧ QT (!o.isSome) H2) (hm : behindInMarks CmpOp.NotIn b = false := by rfl) : wT X (.Compare a [.NotIn] [b] pos) σ H QT :=
  wT_cmp (op_dninA (by have := hr.units; omega)) hm (wE_mono q fun v H1 q => wE_mono q fun u H2 q => let ⟨a, o, e, g, q⟩ := q; ⟨a, o, e, g, _, rfl, q⟩)
/-- sorted(d), d a dict of few ints -/
theorem sorted_dki (hc : X.calm = true) (hm : X.mg "sorted" = none) (q : wE X a σ H fun v H1 => ∃ (l : Addr) (ks : List Int), v = .ref l ∧ H1 l = some (.dK (ks.map fun i => (Sum.inl i, .bl true))) ∧ ks.length < 64 ∧ ∀ (ys : List Int) (p : Addr), ys.Perm ks → ys.Pairwise (· ≤ ·) → H1 p = none → Q (.ref p) (upd H1 p (.lst (ys.map V.int))))
    (hg : Gl X "sorted" := by rfl) (h1 : starEach [a] X.env = (false, eval a X.env) :: starEach [] X.env := by rfl) : wE X (.Call (.Name "sorted" p) [a] [] pos) σ H Q := by
  refine bi1 (call_sortedDI hc) hm (wE_mono q fun v H1 q => ?_) (by decide +kernel) hg (by decide) (by decide) h1
  obtain ⟨l, ks, rfl, h, h64, q⟩ := q
  exact ⟨l, _, ks, rfl, .inl h, by rw [List.map_map]; rfl, h64, q⟩
/-- {} with keys that are ints or words -/
theorem dct0 (q : ∀ l, H l = none → Q (.ref l) (upd H l (.dK []))) : wE X (.Dict [] [] pos) σ H Q := wE_of pe_dnewK q
/-- {} with keys that are tuples -/
theorem dct0T (q : ∀ l, H l = none → Q (.ref l) (upd H l (.dT []))) : wE X (.Dict [] [] pos) σ H Q := wE_of pe_dnewT q
end
/-! ## a, b = u, w -/
section
variable {X : Cx} {σ : L2.St} {H : Hp} {D : Ends} {a b c : Expr} {x y z : Str} {p1 p2 p3 pos pos2 pos3 : Pos} {k k2 : Nat}
theorem w1_set2 (i j : Nat) (hN : X.N.Nodup) (q : wE X a σ H fun u H1 => wE X b σ H1 fun w H2 => ∀ p, H2 p = none → D.nx ((σ.set i (some u)).set j (some w)) (upd H2 p (.tup [u, w])))
    (hi : X.N[i]? = some x := by rfl) (hj : X.N[j]? = some y := by rfl) (hc : X.calm = true := by rfl) (hx : Loc X.env.scope x := by first | exact .inl rfl | exact .inr rfl) (hy : Loc X.env.scope y := by first | exact .inl rfl | exact .inr rfl)
    (hfx : X.fn x = true ∨ X.env.scope.names.lookup x = some .local := by first | exact .inl rfl | exact .inr rfl) (hfy : X.fn y = true ∨ X.env.scope.names.lookup y = some .local := by first | exact .inl rfl | exact .inr rfl)
    (h1 : starEach [a, b] X.env = (false, eval a X.env) :: starEach [b] X.env := by rfl) (h2 : starEach [b] X.env = (false, eval b X.env) :: starEach [] X.env := by rfl)
    (hn : (assignEach [Expr.Name x p1, .Name y p2] X.env).length = 2 := by rfl) (hst : (assignEach [Expr.Name x p1, .Name y p2] X.env).findIdx? (·.1) = none := by rfl)
    (hs1 : (assignEach [Expr.Name x p1, .Name y p2] X.env).map (·.2) = assign (.Name x p1) X.env :: (assignEach [Expr.Name y p2] X.env).map (·.2) := by rfl)
    (hs2 : (assignEach [Expr.Name y p2] X.env).map (·.2) = assign (.Name y p2) X.env :: (assignEach [] X.env).map (·.2) := by rfl)
    (hs : swapsWithSole [Expr.Tuple [.Name x p1, .Name y p2] k pos] (.Tuple [a, b] k2 pos2) pos3.line X.env = pure false := by rfl) (hw : swappedStores [Expr.Tuple [.Name x p1, .Name y p2] k pos] (.Tuple [a, b] k2 pos2) X.env = pure none := by rfl)
    (ha : (assignEach [Expr.Tuple [.Name x p1, .Name y p2] k pos] X.env).map (·.2) = [assign (Expr.Tuple [.Name x p1, .Name y p2] k pos) X.env] := by rfl) :
    w1 X (.Assign [.Tuple [.Name x p1, .Name y p2] k pos] (.Tuple [a, b] k2 pos2) pos3) D σ H := by
  refine w1_of (ps_asg (pe_tup (pa_cons wE_pe (pa_cons wE_pe pa_nil h2) h1)) (pg_tup hc (pgs_cons (pg_name hN hi hx hfx) (pgs_cons (pg_name hN hj hy hfy) pgs_nil hs2) hs1) hn hst) hs hw ha) (wE_mono q fun v H1 q => wE_mono q fun u H2 q => ?_)
  exact ⟨by show 2 ≤ sizeLine; decide, fun p np => ⟨p, _, rfl, .inl (.inl upd_same), rfl, _, _, rfl, _, _, rfl, rfl, q p np⟩⟩
theorem w1_set3 (i j l : Nat) (hN : X.N.Nodup) (q : wE X a σ H fun u H1 => wE X b σ H1 fun w H2 => wE X c σ H2 fun t H3 => ∀ p, H3 p = none → D.nx (((σ.set i (some u)).set j (some w)).set l (some t)) (upd H3 p (.tup [u, w, t])))
    (hi : X.N[i]? = some x := by rfl) (hj : X.N[j]? = some y := by rfl) (hl : X.N[l]? = some z := by rfl) (hc : X.calm = true := by rfl) (hx : Loc X.env.scope x := by first | exact .inl rfl | exact .inr rfl) (hy : Loc X.env.scope y := by first | exact .inl rfl | exact .inr rfl) (hz : Loc X.env.scope z := by first | exact .inl rfl | exact .inr rfl)
    (hfx : X.fn x = true ∨ X.env.scope.names.lookup x = some .local := by first | exact .inl rfl | exact .inr rfl) (hfy : X.fn y = true ∨ X.env.scope.names.lookup y = some .local := by first | exact .inl rfl | exact .inr rfl) (hfz : X.fn z = true ∨ X.env.scope.names.lookup z = some .local := by first | exact .inl rfl | exact .inr rfl)
    (h1 : starEach [a, b, c] X.env = (false, eval a X.env) :: starEach [b, c] X.env := by rfl) (h2 : starEach [b, c] X.env = (false, eval b X.env) :: starEach [c] X.env := by rfl) (h3 : starEach [c] X.env = (false, eval c X.env) :: starEach [] X.env := by rfl)
    (hn : (assignEach [Expr.Name x p1, .Name y p2, .Name z p3] X.env).length = 3 := by rfl) (hst : (assignEach [Expr.Name x p1, .Name y p2, .Name z p3] X.env).findIdx? (·.1) = none := by rfl)
    (hs1 : (assignEach [Expr.Name x p1, .Name y p2, .Name z p3] X.env).map (·.2) = assign (.Name x p1) X.env :: (assignEach [Expr.Name y p2, .Name z p3] X.env).map (·.2) := by rfl)
    (hs2 : (assignEach [Expr.Name y p2, .Name z p3] X.env).map (·.2) = assign (.Name y p2) X.env :: (assignEach [Expr.Name z p3] X.env).map (·.2) := by rfl)
    (hs3 : (assignEach [Expr.Name z p3] X.env).map (·.2) = assign (.Name z p3) X.env :: (assignEach [] X.env).map (·.2) := by rfl)
    (hs : swapsWithSole [Expr.Tuple [.Name x p1, .Name y p2, .Name z p3] k pos] (.Tuple [a, b, c] k2 pos2) pos3.line X.env = pure false := by rfl) (hw : swappedStores [Expr.Tuple [.Name x p1, .Name y p2, .Name z p3] k pos] (.Tuple [a, b, c] k2 pos2) X.env = pure none := by rfl)
    (ha : (assignEach [Expr.Tuple [.Name x p1, .Name y p2, .Name z p3] k pos] X.env).map (·.2) = [assign (Expr.Tuple [.Name x p1, .Name y p2, .Name z p3] k pos) X.env] := by rfl) :
    w1 X (.Assign [.Tuple [.Name x p1, .Name y p2, .Name z p3] k pos] (.Tuple [a, b, c] k2 pos2) pos3) D σ H := by
  refine w1_of (ps_asg (pe_tup (pa_cons wE_pe (pa_cons wE_pe (pa_cons wE_pe pa_nil h3) h2) h1)) (pg_tup hc (pgs_cons (pg_name hN hi hx hfx) (pgs_cons (pg_name hN hj hy hfy) (pgs_cons (pg_name hN hl hz hfz) pgs_nil hs3) hs2) hs1) hn hst) hs hw ha) (wE_mono q fun v H1 q => wE_mono q fun u H2 q => wE_mono q fun t H3 q => ?_)
  exact ⟨by show 3 ≤ sizeLine; decide, fun p np => ⟨p, _, rfl, .inl (.inl upd_same), rfl, _, _, rfl, _, _, rfl, _, _, rfl, rfl, q p np⟩⟩
end
/-! ## {x: True for x in ..}, of ints -/
section
variable {O : Prm} {X : Cx} {tg iter kx vx : Expr} {scope : Scope} {σ : L2.St} {H : Hp} {l : List Nat} {pos : Pos} {x : Str} {Q : VK} {i : Nat}
def kTrue (l : List Int) : List (Key × V) := l.map fun n => (Sum.inl n, .bl true)
theorem valV_kTrue {n : Int} : ∀ {l : List Int}, valV (kTrue l) (Sum.inl n) = if n ∈ l then some (.bl true) else none
  | [] => rfl
  | m :: r => by
    have ih := valV_kTrue (n := n) (l := r)
    unfold valV kTrue at ih ⊢
    rw [List.map_cons, List.find?_cons]
    by_cases h : m = n
    · subst h
      simp
    · have h' : n ≠ m := fun z => h z.symm
      simp only [Sum.inl.injEq, h, decide_false, List.mem_cons, h', false_or] at ih ⊢
      exact ih
theorem wE_dcT (hc : X.calm = true) (hN : X.N.Nodup) (hf : ∀ z, foldedSetIterable iter X.env z = pure z) (ok : BlkOk X.N X.env.scope scope [(x, i)])
    (hg : ∀ s H C cl fp, PG (Bk X scope s H C cl fp) tg (gName i)) (src : Src O nA X tg iter σ H (l.map eN)) (hz : l.length ≤ 1000) (nd : l.Nodup)
    (hk : ∀ n Ha Q, Q (V.int n) Ha → bE X scope kx (σ.set i (some (.int n))) Ha Q) (hv : ∀ n Ha Q, Q (V.bl true) Ha → bE X scope vx (σ.set i (some (.int n))) Ha Q)
    (k : ∀ p H', H p = none → Ex O nA H H' → H' p = some (.dK (kTrue (l.map fun n : Nat => (n : Int)))) → Q (.ref p) H') :
    wE X (.DictComp kx vx [⟨tg, iter, [], 0⟩] scope pos) σ H Q := by
  refine wE_of (pe_dc (own := [(x, i)]) hc hN wI_pi ok hg bTs_pts bE_pe bE_pe hf) ?_
  refine src _ fun J H2 Y ex wk hY D nD => ?_
  have hl0 : (l.map eN).length = l.length := List.length_map _
  refine ⟨fun n m Ha => m = l.length - n ∧ n ≤ l.length ∧ Ex O nA H2 Ha ∧ Ha D = some (.dK (kTrue ((l.take n).map fun n : Nat => (n : Int)))), ⟨l.length, by simp, Nat.zero_le _, .new nD, upd_same⟩, ?_⟩
  rintro n m Ha ⟨rfl, hn, m1, hD⟩
  by_cases hlt : n < l.length
  · refine .inr ⟨wk.goes n Ha (by omega) m1, fun H' => n + 1 ≤ l.length ∧ Ex O nA H2 H' ∧ H' D = some (.dK (kTrue ((l.take (n + 1)).map fun n : Nat => (n : Int)))), fun H' p' => ⟨l.length - (n + 1), by omega, rfl, p'⟩, fun v Hb y => ?_⟩
    obtain ⟨sm, d, e1, e2⟩ := hY n Ha v Hb (by omega) m1 (wk.yields n Ha v Hb (by omega) m1 y)
    have e3 : d = .int ((l[n] : Nat) : Int) := by
      rw [List.getElem?_map, List.getElem?_eq_getElem hlt] at e1
      exact (Option.some.inj e1).symm
    subst e3
    rw [e2.int_inv]
    have e0 : (wipe σ [i]).set i (some (V.int (l[n] : Int))) = σ.set i (some (V.int (l[n] : Int))) := by
      show (σ.set i none).set i _ = _
      rw [set_set_eq]
    refine ⟨?_, ?_⟩
    · show ((wipe σ [i]).set i _).set i none = (σ.set i none)
      rw [e0, set_set_eq]
    · refine bTs_nil ?_
      rw [if_pos rfl]
      show bE X scope kx ((wipe σ [i]).set i _) Hb _
      rw [e0]
      refine hk _ _ _ ?_
      show bE X scope vx ((wipe σ [i]).set i _) Hb _
      rw [e0]
      refine hv _ _ _ ⟨_, Sum.inl _, rfl, sm _ _ hD, ?_, hlt, ?_, ?_⟩
      · unfold kTrue
        rw [List.length_map, List.length_map, List.length_take, sizeLine_eq]
        omega
      · exact (m1.trans (.same sm)).own nD (sm _ _ hD) (fun _ z => by cases z) (fun _ _ z => by cases z) (fun _ z => by cases z) (fun _ z => by unfold CodeO at z; cases z)
      · have et : l.take (n + 1) = l.take n ++ [l[n]] := by
          rw [List.take_add_one, List.getElem?_eq_getElem hlt]
          rfl
        have hni : ((l[n] : Nat) : Int) ∉ (l.take n).map fun n : Nat => (n : Int) := by
          intro h
          obtain ⟨b, h1, h2⟩ := List.mem_map.mp h
          obtain rfl : b = l[n] := Int.ofNat.inj h2
          have h3 : (l.take n ++ [l[n]]).Nodup := et ▸ nd.sublist (List.take_sublist (n + 1) l)
          exact (List.nodup_append.mp h3).2.2 _ h1 _ (List.mem_singleton.mpr rfl) rfl
        have e9 : valV (kTrue ((l.take n).map fun n : Nat => (n : Int))) (Sum.inl ((l[n] : Nat) : Int)) = none := by rw [valV_kTrue, if_neg hni]
        rw [upd_same, putK_new _ e9, et, List.map_append]
        unfold kTrue
        rw [List.map_append]
        rfl
  · have e : n = l.length := by omega
    subst e
    refine .inl ⟨?_, ?_⟩
    · rw [← hl0]
      exact wk.stops Ha m1
    · rw [List.take_length] at hD
      exact k D Ha (ex.dom _ nD) (ex.trans m1) hD
end
theorem merge_kTrue : ∀ {b a : List Int}, (∀ x ∈ b, x ∉ a) → b.Nodup → mergeK (kTrue a) (kTrue b) = kTrue (a ++ b)
  | [], a, _, _ => by
    rw [List.append_nil]
    rfl
  | x :: r, a, h, nd => by
    have e : putK (kTrue a) (Sum.inl x) (.bl true) = kTrue (a ++ [x]) := by
      rw [putK_new _ (by rw [valV_kTrue, if_neg (h x List.mem_cons_self)])]
      unfold kTrue
      rw [List.map_append]
      rfl
    have := merge_kTrue (b := r) (a := a ++ [x]) (fun y hy z => by
      rcases List.mem_append.mp z with z | z
      · exact h y (List.mem_cons_of_mem _ hy) z
      · rw [List.mem_singleton.mp z] at hy
        exact (List.nodup_cons.mp nd).1 hy) (List.nodup_cons.mp nd).2
    show mergeK (putK (kTrue a) (Sum.inl x) (.bl true)) (kTrue r) = _
    rw [e, this, List.append_assoc]
    rfl
end Lw
namespace Lw
open PySem PySem.Spec PyProof.Rows L2 NdefX LamX
/-! ## equality of data -/
theorem eqv_i {a b : Int} : PyData.eqv (.int a) (.int b) = decide (a = b) := by
  rw [PyData.eqv]
  exact Bool.beq_eq_decide_eq _ _
theorem eqv_n {a b : Nat} : PyData.eqv (eN a) (eN b) = decide (a = b) := by
  unfold eN
  rw [eqv_i]
  by_cases h : a = b
  · subst h
    simp
  · rw [decide_eq_false h, decide_eq_false (show ¬ (a : Int) = (b : Int) by omega)]
theorem eqvAll_map {α : Type} [DecidableEq α] {enc : α → PyData} (h : ∀ a b, PyData.eqv (enc a) (enc b) = decide (a = b)) : ∀ {l m : List α}, PyData.eqvAll (l.map enc) (m.map enc) = decide (l = m)
  | [], [] => rfl
  | [], _ :: _ => rfl
  | _ :: _, [] => rfl
  | a :: l, b :: m => by
    rw [List.map_cons, List.map_cons, PyData.eqvAll, h, eqvAll_map h]
    by_cases e : a = b
    · subst e
      simp
    · rw [decide_eq_false e, decide_eq_false (fun z => e (List.cons.inj z).1)]
      rfl
theorem eqv_tm {α : Type} [DecidableEq α] {enc : α → PyData} (h : ∀ a b, PyData.eqv (enc a) (enc b) = decide (a = b)) {l m : List α} : PyData.eqv (.tuple (l.map enc)) (.tuple (m.map enc)) = decide (l = m) := by
  rw [PyData.eqv]
  exact eqvAll_map h
theorem eqv_lm {α : Type} [DecidableEq α] {enc : α → PyData} (h : ∀ a b, PyData.eqv (enc a) (enc b) = decide (a = b)) {l m : List α} : PyData.eqv (.list (l.map enc)) (.list (m.map enc)) = decide (l = m) := by
  rw [PyData.eqv]
  exact eqvAll_map h
theorem eqv_ns {l m : List Nat} : PyData.eqv (eNs l) (eNs m) = decide (l = m) := eqv_tm fun _ _ => eqv_n
theorem eqv_pr {p q : Nat × Nat} : PyData.eqv (ePr p) (ePr q) = decide (p = q) := by
  unfold ePr
  rw [PyData.eqv, PyData.eqvAll, PyData.eqvAll, PyData.eqvAll, eqv_i, eqv_i]
  obtain ⟨a, b⟩ := p
  obtain ⟨c, d⟩ := q
  by_cases h1 : a = c
  · subst h1
    by_cases h2 : b = d
    · subst h2
      simp
    · have h3 : ¬ (b : Int) = (d : Int) := by omega
      simp [h2, h3]
  · have h3 : ¬ (a : Int) = (c : Int) := by omega
    simp [h1, h3]
theorem eqv_ps {l m : Steps} : PyData.eqv (ePs l) (ePs m) = decide (l = m) := eqv_tm fun _ _ => eqv_pr
/-- flat enough to be compared -/
def Fl (k : Nat) (d : PyData) : Prop := d.canLay0 = true ∧ d.depth ≤ k
theorem Fl.shaped {k : Nat} {d : PyData} (h : Fl k d) (hk : k ≤ 64 := by decide) : SeqAt.shaped d = true := by
  unfold SeqAt.shaped
  rw [h.1, decide_eq_true (Nat.le_trans h.2 hk)]
  rfl
theorem fl_int {i : Int} : Fl 1 (.int i) := ⟨rfl, by simp [PyData.depth]⟩
theorem fl_all {k : Nat} : ∀ {l : List PyData}, (∀ d ∈ l, Fl k d) → PyData.canLayAll0 l = true ∧ PyData.depthAll l ≤ k
  | [], _ => ⟨rfl, Nat.zero_le _⟩
  | d :: l, h => by
    obtain ⟨a, b⟩ := fl_all (l := l) fun d hd => h d (List.mem_cons_of_mem _ hd)
    obtain ⟨c, e⟩ := h d List.mem_cons_self
    refine ⟨?_, ?_⟩
    · rw [PyData.canLayAll0, a, c]
      rfl
    · rw [PyData.depthAll]
      exact Nat.max_le.mpr ⟨e, b⟩
theorem fl_tuple {k : Nat} {l : List PyData} (h : ∀ d ∈ l, Fl k d) : Fl (k + 1) (.tuple l) := by
  obtain ⟨a, b⟩ := fl_all h
  refine ⟨a, ?_⟩
  rw [PyData.depth]
  omega
theorem fl_list {k : Nat} {l : List PyData} (h : ∀ d ∈ l, Fl k d) : Fl (k + 1) (.list l) := by
  obtain ⟨a, b⟩ := fl_all h
  refine ⟨a, ?_⟩
  rw [PyData.depth]
  omega
theorem fl_ns {l : List Nat} : Fl 2 (eNs l) := fl_tuple fun d hd => by
  obtain ⟨n, _, rfl⟩ := List.mem_map.mp hd
  exact fl_int
theorem fl_pr {p : Nat × Nat} : Fl 2 (ePr p) := fl_tuple fun d hd => by
  rcases List.mem_cons.mp hd with rfl | hd
  · exact fl_int
  · rw [List.mem_singleton.mp hd]
    exact fl_int
theorem fl_ps {l : Steps} : Fl 3 (ePs l) := fl_tuple fun d hd => by
  obtain ⟨n, _, rfl⟩ := List.mem_map.mp hd
  exact fl_pr
theorem Ls.dp {K : PySem.W.Frag} {H : Hp} {v : V} {ds : List PyData} (h : Ls H v ds) : Dp K H v (.list ds) := by
  obtain ⟨p, xs, rfl, h1, h2⟩ := h.sq (K := K)
  exact .lst h1 h2.dp
section
variable {X : Cx} {σ : L2.St} {H : Hp} {Q : VK} {QT : Bool → Hp → Prop} {pos : Pos} {a b : Expr} {k : Nat}
/-- a == b, of data -/
theorem teq_d (hr : Room k X.A) (q : wE X a σ H fun v H1 => wE X b σ H1 fun u H2 => ∃ d e j i, Dp X.K H2 v d ∧ Dp X.K H2 u e ∧ Fl j d ∧ Fl i e ∧ j ≤ 64 ∧ i ≤ 64 ∧ QT (PyData.eqv d e) H2) (hm : behindInMarks CmpOp.Eq b = false := by exact nomark _) : wT X (.Compare a [.Eq] [b] pos) σ H QT := by
  refine wT_cmp (op_eqD hr.units) hm (wE_mono q fun v H1 q => wE_mono q fun u H2 q => ?_)
  obtain ⟨d, e, j, i, h1, h2, h3, h4, h5, h6, q⟩ := q
  exact ⟨d, e, h1, h2, h3.shaped h5, h4.shaped h6, _, rfl, q⟩
theorem eq_d (hr : Room k X.A) (q : wE X a σ H fun v H1 => wE X b σ H1 fun u H2 => ∃ d e j i, Dp X.K H2 v d ∧ Dp X.K H2 u e ∧ Fl j d ∧ Fl i e ∧ j ≤ 64 ∧ i ≤ 64 ∧ Q (.bl (PyData.eqv d e)) H2) (hm : behindInMarks CmpOp.Eq b = false := by exact nomark _) : wE X (.Compare a [.Eq] [b] pos) σ H Q := by
  refine wE_cmp (op_eqD hr.units) hm (wE_mono q fun v H1 q => wE_mono q fun u H2 q => ?_)
  obtain ⟨d, e, j, i, h1, h2, h3, h4, h5, h6, q⟩ := q
  exact ⟨d, e, h1, h2, h3.shaped h5, h4.shaped h6, q⟩
theorem tne_d (hr : Room k X.A) (q : wE X a σ H fun v H1 => wE X b σ H1 fun u H2 => ∃ d e j i, Dp X.K H2 v d ∧ Dp X.K H2 u e ∧ Fl j d ∧ Fl i e ∧ j ≤ 64 ∧ i ≤ 64 ∧ QT (!PyData.eqv d e) H2) (hm : behindInMarks CmpOp.NotEq b = false := by exact nomark _) : wT X (.Compare a [.NotEq] [b] pos) σ H QT := by
  refine wT_cmp (op_neD hr.units) hm (wE_mono q fun v H1 q => wE_mono q fun u H2 q => ?_)
  obtain ⟨d, e, j, i, h1, h2, h3, h4, h5, h6, q⟩ := q
  exact ⟨d, e, h1, h2, h3.shaped h5, h4.shaped h6, _, rfl, q⟩
theorem tnin_d (hr : Room k X.A) (q : wE X a σ H fun v H1 => wE X b σ H1 fun u H2 => ∃ d ds j i, Dp X.K H2 v d ∧ Dp X.K H2 u (.list ds) ∧ Fl j d ∧ Fl i (.list ds) ∧ j ≤ 64 ∧ i ≤ 64 ∧ QT (!ds.any fun z => PyData.eqv z d) H2) (hm : behindInMarks CmpOp.NotIn b = false := by rfl) : wT X (.Compare a [.NotIn] [b] pos) σ H QT := by
  refine wT_cmp (op_notInD (by have := hr.un; omega)) hm (wE_mono q fun v H1 q => wE_mono q fun u H2 q => ?_)
  obtain ⟨d, ds, j, i, h1, h2, h3, h4, h5, h6, q⟩ := q
  exact ⟨d, ds, h1, h2, h3.shaped h5, h4.shaped h6, _, rfl, q⟩
theorem tin_d (hr : Room k X.A) (q : wE X a σ H fun v H1 => wE X b σ H1 fun u H2 => ∃ d ds j i, Dp X.K H2 v d ∧ Dp X.K H2 u (.list ds) ∧ Fl j d ∧ Fl i (.list ds) ∧ j ≤ 64 ∧ i ≤ 64 ∧ QT (ds.any fun z => PyData.eqv z d) H2) (hm : behindInMarks CmpOp.In b = false := by rfl) : wT X (.Compare a [.In] [b] pos) σ H QT := by
  refine wT_cmp (op_inD (by have := hr.un; omega)) hm (wE_mono q fun v H1 q => wE_mono q fun u H2 q => ?_)
  obtain ⟨d, ds, j, i, h1, h2, h3, h4, h5, h6, q⟩ := q
  exact ⟨d, ds, h1, h2, h3.shaped h5, h4.shaped h6, _, rfl, q⟩
end
end Lw
namespace Lw
open PySem PySem.Spec PyProof.Rows L2 NdefX LamX
/-! ## a lambda with parameters and captured names, handed to a def -/
section
variable {X : Cx} {pins : List (Addr × Obj)} {σ : L2.St} {H : Hp} {s : Shared}
abbrev lq (X : Cx) : Str := X.env.qual ++ "<lambda>"
abbrev lcl (X : Cx) (sc : Scope) : List (Str × Addr) := cloFrom X.env.cells sc.names []
/-- the making; all that stood stands, but the table has grown -/
theorem lam_mk {T : List (Addr × Str)} {c tb : Addr} {ar : Arguments} {bd : Expr} {sc : Scope} {lp : Pos} {E Q : Value → Shared → Prop} (I : Inv X pins σ H s) (TB : TabB X.base X.mg c tb) (hcode : X.env.code = .ref c)
    (mT : (tb, lq X) ∈ T) (uT : ∀ p ∈ T, p.1 = tb → p.2 = lq X) (hT : Tabs T H) (hdef : defaultsOf ar X.env = ([], [])) (fr : ∀ y ∈ sc.names, y.2 = .free → ∃ c, X.env.cells.lookup y.1 = some c)
    (h : ∀ (f k : Addr) (pm ctv : Value) (H1 : Hp) (t : Shared), Inv X pins σ H1 t → ExtN H H1 → (∀ b, H1 b = none → H b = none) → Tabs T H1 →
      t.heap.get? f = some (PySem.W.kla_obj "<lambda>" (lq X) ar bd sc (lcl X sc) pm k ctv) → H1 f = none → f ∉ frs X.stack → H1 k = some (CodeO k (lq X)) → Q (.ref f) t) :
    wpAny (model X.prog X.w) X.A (eval (.Lambda ar bd sc lp) X.env) Q E s := by
  obtain ⟨ps, hP, ht, ha⟩ := hT _ mT
  refine PySem.W.kla_eval hdef ?_
  have b0 : s.heap.BuiltinsAt X.mg tb := TB.bm.keeps I.bk
  have p0 : s.heap.get? tb = some { cls := .none, data := .fields ps } := I.hok tb _ hP
  have nofr : ∀ f, s.heap.objs.size ≤ f → f ∉ frs X.stack := fun f hf z => (List.mem_cons.mp (I.stkSub _ z)).elim (fun e => by
      have := I.lt
      rw [← e] at this
      exact Nat.lt_irrefl _ (Nat.lt_of_lt_of_le this hf)) fun e => I.nofs hf e
  cases hc : codeAmong lp ps.toList with
  | some cv =>
    obtain ⟨k, e, hco⟩ := ha lp cv hc
    subst e
    refine PySem.W.kla_makeFunctionHit (mg := X.mg) (c := c) (P := tb) (ps := ps) (closure_ok fr) I.ok.glob (I.mod.glob.keeps I.bk) hcode (TB.code.keeps I.bk) p0 ht hc b0 fun ctv g tk hx hsz => ?_
    refine h g.objs.size k ((X.mg "__name__").getD .none) ctv H _ (I.kept fun b o e => Heap.get?_push_of_some _ (hx b o e)) (.refl H) (fun _ e => e) hT (Heap.get?_push_size _ rfl) (I.hok.fresh hsz) (nofr _ hsz) hco
  | none =>
    refine PySem.W.kla_makeFunction (mg := X.mg) (c := c) (P := tb) (ps := ps) (closure_ok fr) I.ok.glob (I.mod.glob.keeps I.bk) hcode (TB.code.keeps I.bk) p0 ht hc TB.gP b0 fun k ctv g tk hx hge hlt hrec htb => ?_
    obtain ⟨k2, oc, vs, t, e2, hoc, hd, hv⟩ := hrec
    cases e2
    have hsz : s.heap.objs.size ≤ g.objs.size := Nat.le_trans hge (Nat.le_of_lt hlt)
    have nC : H k = none := I.hok.fresh hge
    have J := inv_table (t' := tk) (more := #[rawInt lp.line, rawInt lp.col, .ref k]) (h' := g.push (PySem.W.kla_obj "<lambda>" (lq X) ar bd sc (lcl X sc) ((X.mg "__name__").getD .none) k ctv)) I hP
      (fun b o hb e => Heap.get?_push_of_some _ (hx b o hb e)) (Heap.get?_push_of_some _ htb) hge ⟨oc, vs, t, Heap.get?_push_of_some _ hoc, hd, hv⟩
    have eN : ExtN H (upd (upd H tb (.tbl (ps ++ #[rawInt lp.line, rawInt lp.col, .ref k]))) k (CodeO k (lq X))) := fun b o e n => by
      rw [upd_ne (ne_of_none e nC), upd_ne (fun (z : b = tb) => n ps (Option.some.inj (e.symm.trans (by rw [z]; exact hP))))]
      exact e
    have eL : (ps ++ #[rawInt lp.line, rawInt lp.col, .ref k]).toList = ps.toList ++ [rawInt lp.line, rawInt lp.col, .ref k] := by simp
    refine h g.objs.size k ((X.mg "__name__").getD .none) ctv _ _ J eN (fun b e => ?_) (fun p hp => ?_) (Heap.get?_push_size _ rfl) ?_ (nofr _ hsz) upd_same
    · by_cases h1 : b = k
      · rw [h1]
        exact nC
      · rw [upd_ne h1] at e
        by_cases h2 : b = tb
        · rw [h2, upd_same] at e
          cases e
        · rw [upd_ne h2] at e
          exact e
    · by_cases hb : p.1 = tb
      · rw [uT p hp hb, hb]
        refine ⟨_, by rw [upd_ne (ne_of_none hP nC), upd_same], by rw [eL]; exact PySem.TriplesOk_snoc _ _ _ _ ht, fun p' cv hcv => ?_⟩
        rw [eL] at hcv
        refine (among_app _ ht hcv).elim (fun z => ?_) fun z => ⟨k, z, upd_same⟩
        obtain ⟨c0, e1, e2⟩ := ha p' cv z
        exact ⟨c0, e1, eN _ _ e2 codeO_ne⟩
      · obtain ⟨qs, a1, a2, a3⟩ := hT p hp
        refine ⟨qs, by rw [upd_ne (ne_of_none a1 nC), upd_ne hb]; exact a1, a2, fun p' cv hcv => ?_⟩
        obtain ⟨c0, e1, e2⟩ := a3 p' cv hcv
        exact ⟨c0, e1, eN _ _ e2 codeO_ne⟩
    · rw [upd_ne (Nat.ne_of_gt hlt), upd_ne (Nat.ne_of_gt (Nat.lt_of_lt_of_le (Heap.lt_size p0) hsz))]
      exact I.hok.fresh hsz
/-- the frame of it -/
theorem Ex.ofN {O : Prm} {H H1 : Hp} (e : ExtN H H1) (d : ∀ b, H1 b = none → H b = none) (t : Tabs O.T H1) : Ex O nA H H1 := by
  have im : Im H H1 := ⟨fun a xs h => e _ _ h (fun _ z => by cases z), fun a o u h => e _ _ h (fun _ z => by cases z)⟩
  refine ⟨im, fun b o h s => e b o h fun ps z => ?_, fun v n ss h => ?_, d, fun _ => t⟩
  · subst z
    exact s
  · obtain ⟨p, dx, t, d, kvs, e', h1, h2, h3, h4, h5, h6⟩ := h
    exact ⟨p, dx, t, d, kvs, e', e _ _ h1 (fun _ z => by cases z), h2.mono im, e _ _ h3 (fun _ z => by cases z), h4, h5, h6.mono im⟩
abbrev cx0 : CXT := fun _ _ _ _ _ _ => False
abbrev xk0 : XK := fun _ _ _ => False
/-- the context of the def that gets the lambda, called from X at s -/
abbrev gCx (X : Cx) (s : Shared) (H : Hp) (Ng : List Str) (qg : Str) (sg : Scope) (g : Addr) (cdg : Value) : Cx := (cxOf cx0 X.prog X.w X.K X.mg X.base Ng qg sg g cdg X.A X.stack s H xk0).nox
/-- a(e1, e2), there -/
def LamRule (Y : Cx) (a : Str) (i : Nat) (f k : Addr) (q : Str) (sp : Spn) : Prop := ∀ (e1 e2 : Expr) (p1 p2 : Pos) (σZ : L2.St) (HZ : Hp) (Q : VK), σZ[i]? = some (some (.ref f)) →
  starEach [e1, e2] Y.env = (false, eval e1 Y.env) :: starEach [e2] Y.env → starEach [e2] Y.env = (false, eval e2 Y.env) :: starEach [] Y.env →
  wE Y e1 σZ HZ (fun v H1 => wE Y e2 σZ H1 fun u H2 => H2 k = some (CodeO k q) ∧ sp [v, u] H2 Q) → wE Y (.Call (.Name a p1) [e1, e2] [] p2) σZ HZ Q
abbrev lF (X : Cx) (ar : Arguments) (sc : Scope) (k : Addr) : NF := ⟨"<lambda>", lq X, ar, [], sc, lcl X sc, k⟩
theorem lam_act {Ng Nl ps frn : List Str} {js : List Nat} {qg a : Str} {sg sc : Scope} {g f k : Addr} {cdg pm ctv : Value} {ar : Arguments} {bd : Expr} {n i : Nat} {sp : Spn}
    (I : Inv X pins σ H s) (S : NScope Nl ps frn sc) (cp : Caps X (lcl X sc) frn js) (hf : s.heap.get? f = some (PySem.W.kla_obj "<lambda>" (lq X) ar bd sc (lcl X sc) pm k ctv)) (hfn : H f = none) (hfr : f ∉ frs X.stack)
    (hbind : ∀ (q : Str) (cl : List (Str × Addr)) (pm cv ctv : Value) (us : List Value), us.length = ps.length → bindArgs (PySem.W.kla_fn "<lambda>" q ar bd sc cl pm cv ctv) ⟨us, []⟩ = pure (ps.zip us)) (hps : ps.length = 2)
    (hr : Room (n + 1) (X.A.deeper (envOfC qg sg s.heap.objs.size g cdg)))
    (hbody : ∀ (A : Around) (outer : List Env) (s0 : Shared) (H0 : Hp) (vs : List V) (Q : VK), Room n (A.deeper (envF (lF X ar sc k) f s0.heap.objs.size)) → sp vs H0 Q →
      wE (ncx cx0 X.prog X.w X.K X.mg X.base Nl (lF X ar sc k) f A outer s0 H0 xk0).nox bd (startF Nl vs (js.map (slotAt σ))) H0 Q)
    (hN : Ng[i]? = some a) (hv : Vis sg a) (hd : (a == ("__debug__" : Str)) = false := by decide) (hcd : (a == ("__classdict__" : Str)) = false := by decide) :
    LamRule (gCx X s H Ng qg sg g cdg) a i f k (lq X) sp := by
  intro e1 e2 p1 p2 σZ HZ Q hs h1 h2 h pinsZ sZ IZ
  refine wpAny_Call_Name_kw (thn ((pe_var (X := gCx X s H Ng qg sg g cdg) (pos := p1) (i := i) hN hv hd hcd).run pinsZ sZ σZ HZ (fun v H1 => v = .ref f ∧ H1 = HZ) IZ ⟨.ref f, hs, rfl, rfl⟩) fun u s1 ⟨v, H1, I1, r1, q1⟩ => ?_)
  obtain ⟨ev, eH⟩ := q1
  subst ev
  rw [eH] at I1
  obtain rfl : u = Value.ref f := r1
  have at_ : ∀ {σ' H' s'}, Inv (gCx X s H Ng qg sg g cdg) pinsZ σ' H' s' → s'.heap.get? f = some (PySem.W.kla_obj "<lambda>" (lq X) ar bd sc (lcl X sc) pm k ctv) := fun J => J.base.keep f _ hf hfn hfr (fun z => nomatch (show f ∈ ([] : List Addr) from z))
  have hp : (backTo p2 (starEach [e2] (gCx X s H Ng qg sg g cdg).env)).any (·.1) = false := by
    rw [h2]
    rfl
  refine PySem.W.callWith_F (first := []) ⟨_, _, _, _, at_ I1⟩ (thn ((pa_cons (X := gCx X s H Ng qg sg g cdg) wE_pe (pa_cons wE_pe pa_nil h2) h1).run p2 pinsZ s1 σZ HZ (fun vs H2 => H2 k = some (CodeO k (lq X)) ∧ vs.length = 2 ∧ sp vs H2 Q) I1 ?_) fun us s2 ⟨vs, H2, I2, r, hc, hl, q⟩ => ⟨⟨_, _, _, _, at_ I2⟩, ?_⟩) h1 hp
  · exact wE_mono h fun v H1 q => wE_mono q fun u H2 q => ⟨q.1, rfl, q.2⟩
  · show wpAny _ _ (call (.ref f) us) _ _ _
    have of2 := at_ I2
    have un : Un (frs X.stack) [] H H2 s.heap s2.heap := I2.base
    obtain ⟨⟨oc, ws, t, hoc, hdc, hvc⟩, _, _⟩ := I2.hok k _ hc
    have C0 := cells_of I cp
    have cellK : ∀ {c : Addr} {v : Option Value}, H c = none → s.heap.IsCell c v → s2.heap.IsCell c v := fun {c v} n ⟨o, ho, hd⟩ => by
      obtain ⟨sl, q⟩ := un.any ho n (by simp)
      exact ⟨_, q, hd⟩
    have C2 : CellsAt (lcl X sc) frn (js.map (slotAt σ)) s2.heap H2 := by
      refine ⟨C0.len, fun y c e => ?_, C0.inj, fun j y e => ?_⟩
      · obtain ⟨n0, v, z⟩ := C0.all y c e
        obtain ⟨o, ho, hd⟩ := z
        exact ⟨un.free c o ho n0 (by simp), v, cellK n0 ⟨o, ho, hd⟩⟩
      · obtain ⟨c, hc, hv⟩ := C0.has j y e
        refine ⟨c, hc, fun v ev => ?_⟩
        obtain ⟨u, r, z⟩ := hv v ev
        exact ⟨u, r, cellK (C0.all y c hc).1 z⟩
    have hr2 : Room (n + 1) (gCx X s H Ng qg sg g cdg).A := hr
    have rc : codeAny (model X.prog X.w) (gCx X s H Ng qg sg g cdg).A (.call (.ref f) ⟨us, []⟩) (CR cx0 (gCx X s H Ng qg sg g cdg).stack X.prog X.w H2 s2 Q xk0) s2 := by
      refine PySem.W.kla_callFunE hr2.depth of2 rfl S.co S.gen rfl ⟨k, oc, ws, t, rfl, hoc, hdc, hvc⟩ ?_
      rw [hbind _ _ _ _ _ us (by rw [← r.length, hl, hps])]
      refine wpAny_pure (wpAny_newFunctionEnv S.nocell (fun ⟨m, _⟩ hy => S.par m (List.of_mem_zip hy).1) (fun h₁ hns hsb => ⟨I2.nolimit.fresh _ hsb, ?_⟩) S.kind)
      show codeAny _ _ (.expr bd (envF (lF X ar sc k) f s2.heap.objs.size)) _ _
      have kp : ∀ b o, s2.heap.get? b = some o → h₁.get? b = some o := fun b o e => hsb.extBut b o (Nat.ne_of_lt (Heap.lt_size e)) (Heap.get?_push_of_some _ e)
      have J : Inv (ncx cx0 X.prog X.w X.K X.mg X.base Nl (lF X ar sc k) f (gCx X s H Ng qg sg g cdg).A (gCx X s H Ng qg sg g cdg).stack s2 H2 xk0) [] (startF Nl vs (js.map (slotAt σ))) H2 { s2 with heap := h₁, toks := s2.toks + (ps.zip us).length } :=
        inv_startN (F := lF X ar sc k) S hr2.hd I2.env0 (by rw [hl, hps]) r C2 hns kp
      refine PySem.W.kla_codeExpr (wpAny_mono ((wE_pe.nox).run [] _ _ H2 Q J (hbody _ _ s2 H2 vs Q (hr2.deeper _) q)) (fun v s' hq => ?_) fun e s' hq => hq)
      obtain ⟨w', H', J', rv, q⟩ := hq
      exact ⟨w', H', J'.os, J'.bare, J'.base, J'.hok, rv, q⟩
    refine wpAny_call (codeAny_mono rc fun r s' hq => ?_)
    cases r with
    | error e => exact (show False from hq).elim
    | ok fl =>
      cases fl with
      | ret u => exact I2.after hq
      | next => exact False.elim hq
      | brk => exact False.elim hq
      | cont => exact False.elim hq
/-- x(e, lambda ..) -/
theorem wE_lamcall {T : List (Addr × Str)} {x a b : Str} {st : Stmt} {g c tb : Addr} {fd : FuncData} {Ng Nl ps frn : List Str} {js : List Nat} {n : Nat} {ar : Arguments} {e0 bd : Expr} {sc : Scope} {p lp pos : Pos} {sp : L2.St → Spn} {Q : VK}
    (F : Fun X.K x x st g fd) (hm : X.mg x = some (.ref g)) (Sg : FnScope Ng [a, b] (defScope st)) (S : NScope Nl ps frn sc) (fr : ∀ y ∈ sc.names, y.2 = .free → X.env.scope.names.lookup y.1 = some .cell ∨ X.env.scope.names.lookup y.1 = some .free) (hfr : ∀ y ∈ frn, (y, NameKind.free) ∈ sc.names)
    (hjs : js.map (fun j => X.N[j]?) = frn.map some) (TB : TabB X.base X.mg c tb) (hcode : X.env.code = .ref c) (mT : (tb, lq X) ∈ T) (uT : ∀ p ∈ T, p.1 = tb → p.2 = lq X) (hr : Room (n + 2) X.A)
    (hbody : ∀ (σ : L2.St) (f k : Addr) (A : Around) (outer : List Env) (s0 : Shared) (H0 : Hp) (vs : List V) (Q : VK), Room n (A.deeper (envF (lF X ar sc k) f s0.heap.objs.size)) → sp σ vs H0 Q →
      wE (ncx cx0 X.prog X.w X.K X.mg X.base Nl (lF X ar sc k) f A outer s0 H0 xk0).nox bd (startF Nl vs (js.map (slotAt σ))) H0 Q)
    (q : wE X e0 σ H fun v H1 => Tabs T H1 ∧ ∀ H2, ExtN H1 H2 → (∀ b, H2 b = none → H1 b = none) → Tabs T H2 → ∀ (s' : Shared) (cdg : Value) (f k : Addr), Room (n + 1) (X.A.deeper (envOfC x (defScope st) s'.heap.objs.size g cdg)) → LamRule (gCx X s' H2 Ng x (defScope st) g cdg) b 1 f k (lq X) (sp σ) → H2 k = some (CodeO k (lq X)) →
      wS (gCx X s' H2 Ng x (defScope st) g cdg) (defBody st) { nx := fun _ H' => Q .non H', rt := Q } (L2.start Ng [v, .ref f]) H2)
    (hg : Gl X x := by rfl) (hps : ps.length = 2 := by rfl) (hNb : Ng[1]? = some b := by rfl) (hvb : Vis (defScope st) b := by first | exact Or.inl rfl | exact Or.inr (Or.inl rfl) | exact Or.inr (Or.inr rfl)) (hdef : defaultsOf ar X.env = ([], []) := by rfl)
    (hb : ∀ (kV doc pm : Value) (an : Option Addr) (cdv ct : Value) (us : List Value), us.length = [a, b].length → bindArgs (PySem.W.fnOf x x (defArgs st) (defBody st) (defScope st) .none kV doc pm an cdv ct) ⟨us, []⟩ = pure ([a, b].zip us) := by exact fun _ _ _ _ _ _ us hl => match us, hl with | [_, _], _ => rfl)
    (hbind : ∀ (q : Str) (cl : List (Str × Addr)) (pm cv ctv : Value) (us : List Value), us.length = ps.length → bindArgs (PySem.W.kla_fn "<lambda>" q ar bd sc cl pm cv ctv) ⟨us, []⟩ = pure (ps.zip us) := by exact fun _ _ _ _ _ us hl => match us, hl with | [_, _], _ => rfl)
    (h1 : starEach [e0, .Lambda ar bd sc lp] X.env = (false, eval e0 X.env) :: starEach [.Lambda ar bd sc lp] X.env := by rfl)
    (hd : (b == ("__debug__" : Str)) = false := by decide) (hcd : (b == ("__classdict__" : Str)) = false := by decide) (hdb : (x == ("__debug__" : Str)) = false := by decide) :
    wE X (.Call (.Name x p) [e0, .Lambda ar bd sc lp] [] pos) σ H Q := by
  intro pins s I
  obtain ⟨oc, od, kV, doc, pm, an, cdv, ct, osl, rfl, lk, hcg⟩ := F.ex
  refine wpAny_Call_Name_kw (ld_glob I hg hm ?_ hdb)
  refine PySem.W.callWith_K (h₀ := X.base) I.ok.mod.kin F.kp ?_ h1 (by rfl)
  rw [h1]
  show wpAny _ _ (spliced ((false, eval e0 X.env) :: (false, eval (.Lambda ar bd sc lp) X.env) :: backTo pos (starEach [] X.env))) _ _ s
  refine Calls.spliced_cons (thn (q pins s I) fun u s1 ⟨v, H1, I1, r1, hT, q⟩ => ?_)
  have hf : ∀ y ∈ sc.names, y.2 = .free → ∃ c, X.env.cells.lookup y.1 = some c := fun y hy e => (fr y hy e).elim (fun z => I1.ok.has _ (.inl z)) fun z => I1.ok.has _ (.inr z)
  refine Calls.spliced_cons (lam_mk I1 TB hcode mT uT hT hdef hf fun f k pm' ctv H2 s2 I2 eN dm T2 hf2 hfn hfr2 hco => ?_)
  refine Calls.spliced_nil ⟨I2.kIn, ?_⟩
  have hbd : L2.Binds X.K (PySem.W.fnOf x x (defArgs st) (defBody st) (defScope st) .none kV doc pm an cdv ct) [a, b] [] := F.binds hb
  have rc : codeAny (model X.prog X.w) X.A (.call (.ref g) ⟨[u, .ref f], []⟩) (CR cx0 X.stack X.prog X.w H2 s2 Q xk0) s2 := by
    refine run_ofS (N := Ng) (ps := [a, b]) (us := [u, .ref f]) (vs := [v, .ref f]) lk hcg Sg hr I2.env0 (hbd s2 [u, .ref f] I2.kIn rfl) (.cons r1 (.cons rfl .nil)) rfl fun hr' => ?_
    refine ⟨_, wS_pss.nox, ?_⟩
    exact q H2 eN dm T2 s2 cdv f k hr' (lam_act I2 S (Caps.made I2.ok fr hfr hjs) hf2 hfn hfr2 hbind hps hr' (fun A outer s0 H0 vs Q hr0 h0 => hbody σ f k A outer s0 H0 vs Q hr0 h0) hNb hvb hd hcd) hco
  show wpAny _ _ (call (.ref g) [u, .ref f]) _ _ _
  refine wpAny_call (codeAny_mono rc fun r s3 hq => ?_)
  cases r with
  | error e => exact (show False from hq).elim
  | ok fl =>
    cases fl with
    | ret u => exact I2.after hq
    | next => exact False.elim hq
    | brk => exact False.elim hq
    | cont => exact False.elim hq
end
end Lw
namespace Lw
open PySem PySem.Spec PyProof.Rows L2 NdefX LamX
/-! ## [e for a in .. for b in .. if c] -/
/-- what is kept, of two clauses -/
def kept2 (F : Nat → PyData → Nat → PyData → Option PyData) (ds es : List PyData) (n : Nat) : List PyData := ((ds.take n).zipIdx.flatMap fun p => kept (F p.2 p.1) es es.length)
theorem kept2_succ {F : Nat → PyData → Nat → PyData → Option PyData} {ds es : List PyData} {n : Nat} {d : PyData} (h : ds[n]? = some d) : kept2 F ds es (n + 1) = kept2 F ds es n ++ kept (F n d) es es.length := by
  obtain ⟨hi, he⟩ := List.getElem?_eq_some_iff.mp h
  have e : ds.take (n + 1) = ds.take n ++ [d] := by
    rw [List.take_add_one, h]
    rfl
  unfold kept2
  rw [e, List.zipIdx_append, List.flatMap_append, List.length_take, Nat.min_eq_left (Nat.le_of_lt hi)]
  congr 1
  simp only [List.zipIdx, Nat.zero_add, List.flatMap_cons, List.flatMap_nil, List.append_nil]
theorem kept2_len {F : Nat → PyData → Nat → PyData → Option PyData} {ds es : List PyData} : ∀ n, n ≤ ds.length → (kept2 F ds es n).length ≤ n * es.length
  | 0, _ => by simp [kept2]
  | n + 1, hn => by
    have e : ds[n]? = some ds[n] := List.getElem?_eq_getElem (by omega)
    rw [kept2_succ e, List.length_append, Nat.succ_mul]
    have := kept2_len (F := F) (ds := ds) (es := es) n (by omega)
    have := kept_len (F := F n ds[n]) (ds := es) es.length
    omega
section
variable {O : Prm} {X : Cx} {tg iter elt tg1 iter1 : Expr} {ifs1 : List Expr} {scope : Scope} {σ : L2.St} {H : Hp} {ds es : List PyData} {pos : Pos} {x x1 y : Str} {Q : VK} {i j : Nat}
def bI (X : Cx) (scope : Scope) (tg iter : Expr) : TI := fun σ H R => ∀ s H0 C cl fp, wI (Bk X scope s H0 C cl fp) tg iter σ H R
theorem bI_pi : ∀ s H0 C cl fp, PI (Bk X scope s H0 C cl fp) tg1 iter1 (bI X scope tg1 iter1) := fun s H0 C cl fp => ⟨fun pins s' _ _ _ I h => h s H0 C cl fp pins s' I⟩
theorem lc2_go (hij : i ≠ j) (src : Src O nA X tg iter σ H ds) (hz : ds.length * es.length < 1000000) (F : Nat → PyData → Nat → PyData → Option PyData)
    (hin : ∀ (n : Nat) d v Ha, ds[n]? = some d → Ex O nA H Ha → Dt Ha v d → ∀ A s H0 C cl fp, Src O A (Bk X scope s H0 C cl fp) tg1 iter1 ((σ.set j none).set i (some v)) Ha es)
    (hs : ∀ (n : Nat) d v (k : Nat) e u Ha, ds[n]? = some d → es[k]? = some e → Ex O nA H Ha → Dt Ha v d → Dt Ha u e → Turn1 O X scope ifs1 elt (F n d k e) ((σ.set i (some v)).set j (some u)) Ha)
    (k : ∀ p H' vs, H p = none → Ex O nA H H' → H' p = some (.lst vs) → DtA H' vs (kept2 F ds es ds.length) → Q (.ref p) H') :
    tLc2 (wI X tg iter) (gName i) (bTs X scope []) (bI X scope tg1 iter1) (gName j) (bTs X scope ifs1) (bE X scope elt) [i, j] [j] σ H Q := by
  refine src _ fun J H2 Y ex wk hY D nD => ?_
  have nD0 : H D = none := ex.dom _ nD
  refine ⟨fun n m Ha => m = ds.length - n ∧ n ≤ ds.length ∧ Ex O nA H2 Ha ∧ ∃ acc, Ha D = some (.lst acc) ∧ DtA Ha acc (kept2 F ds es n), ⟨ds.length, by simp, Nat.zero_le _, .new nD, [], upd_same, .nil⟩, ?_⟩
  rintro n m Ha ⟨rfl, hn, m1, acc0, hD0, hA0⟩
  by_cases hlt : n < ds.length
  · refine .inr ⟨wk.goes n Ha hlt m1, fun H' => n + 1 ≤ ds.length ∧ Ex O nA H2 H' ∧ ∃ acc, H' D = some (.lst acc) ∧ DtA H' acc (kept2 F ds es (n + 1)), fun H' p' => ⟨ds.length - (n + 1), by omega, rfl, p'⟩, fun v Hb yy => ?_⟩
    obtain ⟨sm, d, e1, e2⟩ := hY n Ha v Hb hlt m1 (wk.yields n Ha v Hb hlt m1 yy)
    have mb : Ex O nA H2 Hb := m1.trans (.same sm)
    have e0 : (wipe σ [i, j]).set i (some v) = (σ.set j none).set i (some v) := by
      show ((σ.set j none).set i none).set i (some v) = _
      rw [set_set_eq]
    show wipe ((wipe σ [i, j]).set i (some v)) [i, j] = wipe σ [i, j] ∧ bTs X scope [] ((wipe σ [i, j]).set i (some v)) Hb _
    rw [e0]
    refine ⟨?_, bTs_nil ?_⟩
    · show (((σ.set j none).set i (some v)).set j none).set i none = (σ.set j none).set i none
      rw [set_comm2 _ _ _ hij, set_set_eq, set_set_eq]
    rw [if_pos rfl]
    intro s H0 C cl fp
    refine hin n d v Hb e1 (ex.trans mb) e2 (· = D) s H0 C cl fp _ fun J1 H4 Y1 ex4 wk1 hY1 => ?_
    have m4 : Ex O nA H2 H4 := mb.trans ex4
    have hD4 : H4 D = some (.lst acc0) := ex4.cel _ _ (sm _ _ hD0) (fun z => z)
    have hA4 : DtA H4 acc0 (kept2 F ds es n) := hA0.mono ((Im.same sm).trans ex4.im)
    have e4 : Dt H4 v d := e2.mono ex4.im
    refine ⟨fun q m Hc => m = es.length - q ∧ q ≤ es.length ∧ Ex O (· = D) H4 Hc ∧ ∃ acc, Hc D = some (.lst acc) ∧ DtA Hc acc (kept2 F ds es n ++ kept (F n d) es q), ⟨es.length, by simp, Nat.zero_le _, .refl _, acc0, hD4, ?_⟩, ?_⟩
    · have : kept (F n d) es 0 = [] := by simp [kept]
      rw [this, List.append_nil]
      exact hA4
    rintro q m Hc ⟨rfl, hq, mc, acc, hD, hA⟩
    by_cases hlt1 : q < es.length
    · refine .inr ⟨wk1.goes q Hc hlt1 mc, fun H' => q + 1 ≤ es.length ∧ Ex O (· = D) H4 H' ∧ ∃ acc, H' D = some (.lst acc) ∧ DtA H' acc (kept2 F ds es n ++ kept (F n d) es (q + 1)), fun H' p' => ⟨es.length - (q + 1), by omega, rfl, p'⟩, fun u Hd y1 => ?_⟩
      obtain ⟨sm1, e, f1, f2⟩ := hY1 q Hc u Hd hlt1 mc (wk1.yields q Hc u Hd hlt1 mc y1)
      have md : Ex O (· = D) H4 Hd := mc.trans (.same sm1)
      have mg : Ex O nA H Hd := ex.trans (m4.glue md fun p hp => .inl (hp ▸ nD))
      have g0 : (wipe ((σ.set j none).set i (some v)) [j]).set j (some u) = (σ.set i (some v)).set j (some u) := by
        show (((σ.set j none).set i (some v)).set j none).set j (some u) = _
        rw [set_set_eq, set_comm2 _ _ _ (Ne.symm hij), set_set_eq, set_comm2 _ _ _ hij]
      show wipe ((wipe ((σ.set j none).set i (some v)) [j]).set j (some u)) [j] = wipe ((σ.set j none).set i (some v)) [j] ∧ bTs X scope ifs1 ((wipe ((σ.set j none).set i (some v)) [j]).set j (some u)) Hd _
      rw [g0]
      have hDd : Hd D = some (.lst acc) := sm1 _ _ hD
      have hAd := hA.mono (Im.same sm1)
      refine ⟨?_, bTs_mono (fun b H6 qq => ?_) (hs n d v q e u Hd e1 f1 mg (e4.mono md.im) f2)⟩
      · show ((σ.set i (some v)).set j (some u)).set j none = ((σ.set j none).set i (some v)).set j none
        rw [set_set_eq, set_comm2 _ _ _ (Ne.symm hij), set_set_eq, set_comm2 _ _ _ hij]
      · cases b with
        | true =>
          rw [if_pos rfl] at qq ⊢
          refine bE_mono (fun y H7 qq => ?_) qq
          obtain ⟨m7, z, ez, hz7⟩ := qq
          have hD7 : H7 D = some (.lst acc) := m7.cel _ _ hDd (fun z => z)
          have hl7 := hAd.len
          rw [List.length_append] at hl7
          have l1 := kept2_len (F := F) (ds := ds) (es := es) n (by omega)
          have l2 := kept_len (F := F n d) (ds := es) q
          have l3 : n * es.length + es.length ≤ ds.length * es.length := by
            rw [← Nat.succ_mul]
            exact Nat.mul_le_mul_right _ hlt
          have i7 : Im H7 (upd H7 D (.lst (acc ++ [y]))) := .lst hD7
          refine ⟨acc, hD7, by rw [sizeLine_eq]; omega, hlt1, (md.trans (m7.mono fun _ z => z.elim)).trans (Ex.atA rfl hD7), _, upd_same, ?_⟩
          rw [kept_succ f1, ez, ← List.append_assoc]
          exact ((hAd.mono m7.im).mono i7).snoc (hz7.mono i7)
        | false =>
          rw [if_neg Bool.false_ne_true] at qq ⊢
          obtain ⟨m7, ez⟩ := qq
          refine ⟨hlt1, md.trans (m7.mono fun _ z => z.elim), acc, m7.cel _ _ hDd (fun z => z), ?_⟩
          rw [kept_succ f1, ez]
          simpa using hAd.mono m7.im
    · have e : q = es.length := by omega
      subst e
      refine .inl ⟨wk1.stops Hc mc, hlt, m4.glue mc (fun p hp => .inl (hp ▸ nD)), acc, hD, ?_⟩
      rw [kept2_succ e1]
      exact hA
  · have e : n = ds.length := by omega
    subst e
    exact .inl ⟨wk.stops Ha m1, k D Ha acc0 nD0 (ex.trans m1) hD0 hA0⟩
theorem w1_setLc2 (l : Nat) {D : Ends} {py spos : Pos} (hij : i ≠ j) (hc : X.calm = true) (hN : X.N.Nodup) (hy : X.N[l]? = some y) (hyl : X.env.scope.names.lookup y = some .local)
    (hsw : swapsWith (.ListComp elt [⟨tg, iter, [], 0⟩, ⟨tg1, iter1, ifs1, 0⟩] scope pos) (some (.Name y py)) spos.line X.env = pure true) (hf : ∀ z, foldedSetIterable iter X.env z = pure z) (hf1 : ∀ env z, foldedSetIterable iter1 env z = pure z) (ok : BlkOk X.N X.env.scope scope [(x, i), (x1, j)])
    (hg : ∀ s H C cl fp, PG (Bk X scope s H C cl fp) tg (gName i)) (hg1 : ∀ s H C cl fp, PG (Bk X scope s H C cl fp) tg1 (gName j)) (src : Src O nA X tg iter σ H ds) (hz : ds.length * es.length < 1000000) (F : Nat → PyData → Nat → PyData → Option PyData)
    (hin : ∀ (n : Nat) d v Ha, ds[n]? = some d → Ex O nA H Ha → Dt Ha v d → ∀ A s H0 C cl fp, Src O A (Bk X scope s H0 C cl fp) tg1 iter1 ((σ.set j none).set i (some v)) Ha es)
    (hs : ∀ (n : Nat) d v (k : Nat) e u Ha, ds[n]? = some d → es[k]? = some e → Ex O nA H Ha → Dt Ha v d → Dt Ha u e → Turn1 O X scope ifs1 elt (F n d k e) ((σ.set i (some v)).set j (some u)) Ha)
    (k : ∀ p H' vs, H p = none → Ex O nA H H' → H' p = some (.lst vs) → DtA H' vs (kept2 F ds es ds.length) → D.nx (σ.set l (some (.ref p))) H') :
    w1 X (.Assign [.Name y py] (.ListComp elt [⟨tg, iter, [], 0⟩, ⟨tg1, iter1, ifs1, 0⟩] scope pos) spos) D σ H :=
  w1_of (ps_setLc2 (own := [(x, i), (x1, j)]) (vs1 := [j]) hc hN hy hyl hsw wI_pi ok (by simp) hg bTs_pts bI_pi hg1 bTs_pts bE_pe hf hf1) (lc2_go (Q := fun v H' => D.nx (σ.set l (some v)) H') hij src hz F hin hs k)
end
/-- (*a, b), a a tuple of data -/
theorem tup_star {X : Cx} {σ : L2.St} {H : Hp} {Q : VK} {p pos : Pos} {k : Nat} {a b : Expr} (q : wE X a σ H fun v H1 => ∃ ds, Dt H1 v (.tuple ds) ∧ ds.length ≤ 1000 ∧ wE X b σ H1 fun u H2 => ∃ d, Dt H2 u d ∧ (∀ vs, DtA H1 vs ds → DtA H2 vs ds) ∧ ∀ y H3, Sm H2 H3 → Dt H3 y (.tuple (ds ++ [d])) → Q y H3)
    (hs : starEach [.Starred a p, b] X.env = (true, eval a X.env) :: starEach [b] X.env := by rfl) (h2 : starEach [b] X.env = (false, eval b X.env) :: starEach [] X.env := by rfl) : wE X (.Tuple [.Starred a p, b] k pos) σ H Q := by
  refine wE_of (pe_tup (StX.pa_star wE_pe (pa_cons wE_pe pa_nil h2) hs)) (wE_mono q fun v H1 q => ?_)
  obtain ⟨ds, d, hl, q⟩ := q
  obtain ⟨t, xs, rfl, h1, h3⟩ := d.tup_inv
  refine ⟨t, xs, rfl, .inl (.inl (.inl h1)), wE_mono q fun u H2 q => ?_⟩
  obtain ⟨e, d2, m, q⟩ := q
  have l1 := h3.len
  refine ⟨?_, fun p np => q _ _ (same_new np) (.new np ((m _ h3).snoc d2))⟩
  rw [List.length_append, sizeLine_eq, List.length_singleton]
  omega
end Lw
namespace Lw
open PySem PySem.Spec PyProof.Rows L2 NdefX LamX
/-! ## dict([(key, True), ..]), the keys tuples -/
abbrev KE := List Key × Addr
def mT (es : List KE) (acc : List (List Key × V)) : List (List Key × V) := es.foldl (fun acc e => putK acc e.1 (.bl true)) acc
theorem mT_len : ∀ (es : List KE) (acc : List (List Key × V)), (mT es acc).length ≤ acc.length + es.length
  | [], acc => Nat.le_refl _
  | e :: es, acc => by
    have h1 := mT_len es (putK acc e.1 (.bl true))
    have h2 := length_putK acc e.1 (.bl true)
    show (mT es (putK acc e.1 (.bl true))).length ≤ _
    rw [List.length_cons]
    omega
theorem mT_kt {H : Hp} : ∀ {es : List KE} {acc : List (List Key × V)} {xs : List (List Key × Addr × Value)}, (∀ e ∈ es, H e.2 = some (.tup (e.1.map kV))) → KT H acc xs → KT H (mT es acc) (storedAllH xs (es.map fun e => (e.1, e.2, Value.bool true)))
  | [], _, _, _, r => r
  | e :: es, acc, xs, h, r => mT_kt (es := es) (fun b hb => h b (List.mem_cons_of_mem _ hb)) (r.put e.1 (h e List.mem_cons_self) (y := .bl true) (u := .bool true) rfl)
def rDictT (K : PySem.W.Frag) : List V → Hp → VK → Prop := fun xs H Q => ∃ (a : Addr) (Ts : List Addr) (es : List KE), xs = [.ref a] ∧ SqL K H a (Ts.map V.ref) ∧ Ts.length = es.length ∧ (∀ (j : Nat) T e, Ts[j]? = some T → es[j]? = some e → H T = some (.tup [.ref e.2, .bl true]) ∧ H e.2 = some (.tup (e.1.map kV))) ∧
  ∀ p, H p = none → Q (.ref p) (upd H p (.dT (mT es [])))
theorem call_dictT {X : Cx} (hc : X.calm = true) (hu : X.A.units + 64 < cLine) : CallR X (.type "dict") (rDictT X.K) := by
  intro pins s σ H xs us Q I r q
  obtain ⟨a, Ts, es, rfl, hq, hlen, hp, q⟩ := q
  obtain ⟨u, rfl, rx⟩ := vals1 r
  cases rx
  obtain ⟨its, rv, pl, hz⟩ := I.list hq
  have ei := refs_at rv
  subst ei
  rw [List.length_map] at hz
  obtain ⟨o, n, ho, hcl, hd, hdat⟩ := pl
  have hmem : ∀ e ∈ es, H e.2 = some (.tup (e.1.map kV)) := fun e he => by
    obtain ⟨j, hj, rfl⟩ := List.mem_iff_getElem.mp he
    exact (hp j (Ts[j]'(by omega)) _ (List.getElem?_eq_getElem _) (List.getElem?_eq_getElem hj)).2
  refine PySem.call_dict_pairsH (knd := tupleKind (mixKind X.prog X.w)) (ps := es.map fun e => (e.1, e.2, Value.bool true)) (PySem.PairArg.list a ((Ts.map Value.ref).toArray) (fun j => Ts.getD j 0) (es.map fun e => (Value.ref e.2, Value.bool true))) (I.ok.hd hc) (by show X.A.units + 1 + 1 < cLine; omega)
    ⟨⟨o, n, ho, hcl, hd, hdat⟩, by simp [hlen], fun j k v hj => ?_⟩ ⟨by simp, fun i key v hi => ?_⟩ (fun h' hk x hx => ?_) (by rw [List.length_map, ← hlen]; exact hz) fun h' tk hd' hk => ?_
  · obtain ⟨hj1, hj2⟩ := List.getElem?_eq_some_iff.mp hj
    rw [List.length_map] at hj1
    rw [List.getElem_map] at hj2
    cases hj2
    have hT : j < Ts.length := by omega
    obtain ⟨t1, t2⟩ := hp j Ts[j] es[j] (List.getElem?_eq_getElem hT) (List.getElem?_eq_getElem hj1)
    obtain ⟨its, rv, tp, _⟩ := I.tuple (.inl (.inl t1))
    obtain ⟨u, y, rfl, ru, ry⟩ := vals2 rv
    cases ru
    cases ry
    refine ⟨by simp [hT], .inl ?_⟩
    have e : Ts.getD j 0 = Ts[j] := by simp [hT]
    show s.heap.IsTuple (Ts.getD j 0) _
    rw [e]
    exact tp
  · obtain ⟨hj1, hj2⟩ := List.getElem?_eq_some_iff.mp hi
    rw [List.length_map] at hj1
    rw [List.getElem_map] at hj2
    cases hj2
    exact ⟨es[i].1, es[i].2, by simp [hj1], rfl⟩
  · obtain ⟨e, he, rfl⟩ := List.mem_map.mp hx
    obtain ⟨o, items, n, h1, h2, h3, h4⟩ := key_of (P := X.prog) (w := X.w) I.hok (hmem e he)
    exact ⟨o, items, n, hk _ _ (Nat.ne_of_lt (Heap.lt_size h1)) (by simp) h1, h2, h3, h4⟩
  · have hm : (s.heap.objs.size == sysModules) = false := beq_eq_false_iff_ne.mpr (Nat.ne_of_gt I.big)
    have hl : (mT es []).length ≤ sizeLine := by
      have := mT_len es []
      rw [List.length_nil, Nat.zero_add, ← hlen] at this
      omega
    have np : H s.heap.objs.size = none := I.hok.fresh (Nat.le_refl _)
    obtain ⟨o2, es2, ep2, g1, g2, g3, g4, _, g5⟩ := hd'
    refine ⟨.ref s.heap.objs.size, _, I.laid (t' := tk) (o := .dT (mT es [])) (fun b o e => hk b o (by simp) e) (Nat.le_refl _) ⟨hl, hm, _, (mT_kt hmem .nil).keeps fun b ys e => ?_, o2, es2, ep2, g1, g2, g3, g4, g5⟩, rfl, q _ np⟩
    rw [upd_ne (ne_of_none e np)]
    exact e
end Lw
namespace Lw
open PySem PySem.Spec PyProof.Rows L2 NdefX LamX
/-! ## sorted(d), the keys of d pairs of ints -/
def rSortDT : List V → Hp → VK → Prop := fun xs H Q => ∃ (a : Addr) (kvs : List (List Key × V)) (k : V → Int × Int), xs = [.ref a] ∧ H a = some (.dT kvs) ∧ kvs.length ≤ 1000 ∧ (∀ bs, IsKeys H kvs bs → ∀ b ∈ bs, H b = some (.tup [.int (k (.ref b)).1, .int (k (.ref b)).2])) ∧
  ∀ bs ys p, IsKeys H kvs bs → SrtO.Srtd (ltP k) ys → SrtO.Stb (ltP k) ys (bs.map V.ref) → H p = none → Q (.ref p) (upd H p (.lst ys))
theorem call_sortDT {X : Cx} (hc : X.calm = true) : CallR X (.builtin "sorted") rSortDT := by
  intro pins s σ H xs us Q I r q
  obtain ⟨a, kvs, k, rfl, hd, hl, hkey, q⟩ := q
  obtain ⟨u, rfl, rx⟩ := vals1 r
  cases rx
  obtain ⟨z, lo, ks, pr, o, es, ep, ho, hx, hdt, he, hn⟩ := (show ObjOk X.prog X.w H s.heap a (.dT kvs) from I.hok a _ hd)
  have l1 : es.size = ks.length := size_of_entries he
  have l2 : kvs.length = ks.length := Paired.length pr
  have hbs := isKeys_of pr
  refine Calls.call_function_entry PyProof.Rows.kind_sorted PyProof.Rows.plain_sorted PyProof.Rows.entry_sorted (PyProof.Rows.args_sorted1 _) ?_
  unfold Builtin.«sorted»
  refine wpAny_bind (m := checkCount "sorted" 1 1 _) (wpAny_pure ?_)
  refine wpAny_bind (PySem.W.kdu_collect (A := X.A.in1) (kdl_raw lo hx hdt) (I.ok.hd hc) ho (by rw [sizeLine_eq]; omega) fun g tk acc hk it => ?_)
  have eb : acc.toList = (ks.map fun x => x.2.1).map Value.ref := by
    rw [List.map_map]
    have hal : acc.toList.length = ks.length := by rw [Array.length_toList, it.1]; exact l1
    refine List.ext_getElem? fun j => ?_
    rw [List.getElem?_map]
    cases hj : acc.toList[j]? with
    | none =>
      have := List.getElem?_eq_none_iff.mp hj
      rw [List.getElem?_eq_none (by omega)]
      rfl
    | some v =>
      obtain ⟨en, hen, hv⟩ := it.2 j v (by rw [← Array.getElem?_toList]; exact hj)
      have qe := entry_at he j
      rw [hen] at qe
      cases hb : ks[j]? with
      | none =>
        rw [hb] at qe
        cases qe
      | some b =>
        rw [hb] at qe
        have e2 : en = entryOfKey (tupleKind (mixKind X.prog X.w)) b := Option.some.inj qe
        rw [hv, e2]
        rfl
  generalize hbd : (ks.map fun x => x.2.1) = bs at hbs eb
  have lbs : bs.length ≤ 1000 := by
    rw [← hbd, List.length_map]
    omega
  rw [eb]
  have I1 : Inv X pins σ H { s with heap := g, toks := tk } := I.kept hk
  have hsz : (bs.map Value.ref).length ≤ sizeLine := by rw [List.length_map, sizeLine_eq]; omega
  refine wpAny_bind (wpAny_newList ?_ hsz)
  have hoL : (g.push (seqObj "list" (bs.map Value.ref).toArray 0)).get? g.objs.size = some (seqObj "list" (bs.map Value.ref).toArray 0) := Heap.get?_push_size _ rfl
  have hp : ∀ v ∈ bs.map Value.ref, Srt.IsPair (g.push (seqObj "list" (bs.map Value.ref).toArray 0)) v (k (backV v)).1 (k (backV v)).2 := fun v hv => by
    obtain ⟨b, hb, rfl⟩ := List.mem_map.mp hv
    obtain ⟨_, its2, r2, o2, ho2, hc2, n2, hd2⟩ := I1.hok _ _ (hkey bs hbs b hb)
    obtain ⟨u1, u2, rfl, ri, rj⟩ := vals2 r2
    obtain ⟨t1, rfl⟩ := ri
    obtain ⟨t2, rfl⟩ := rj
    exact ⟨b, o2, t1, t2, n2, rfl, Heap.get?_push_of_some _ ho2, hc2, hd2⟩
  show wpAny _ _ _ _ _ { s with heap := g.push (seqObj "list" (bs.map Value.ref).toArray 0), toks := tk }
  refine wpAny_bind (wpAny_holding (wpAny_call_entry PyProof.Rows.slot_list_sort ⟨_, hoL, rfl⟩ PyProof.Rows.entry_list_sort
    (SrtO.list_sort_ord (s := { s with heap := g.push (seqObj "list" (bs.map Value.ref).toArray 0), toks := tk }) (SrtO.swo_lex fun u => k (backV u)) hoL hsz (fun h2 => SrtO.pairs_sortableO (by omega) hp fun o3 e => ?_) fun out h1 h2 => ⟨_, rfl, ?_⟩) (PyProof.Rows.args_list_sort _)))
  · have e' := e.symm.trans hoL
    cases e'
    exact fun c => absurd (Value.type.inj c) (by decide)
  · have h3 : ∀ u ∈ out, ∃ a, u = Value.ref a := fun u hu => by
      obtain ⟨b, _, e⟩ := List.mem_map.mp (h2.perm.mem_iff.mp hu)
      exact ⟨b, e.symm⟩
    have hbk : SrtO.Stb (ltP k) (out.map backV) (bs.map V.ref) := by
      have e : bs.map V.ref = (bs.map Value.ref).map backV := by
        rw [List.map_map]
        rfl
      rw [e]
      exact SrtO.Stb.map (ltP_swo k) backV h2
    have hlen : (out.map backV).length ≤ sizeLine := by
      rw [hbk.len, List.length_map, sizeLine_eq]
      omega
    obtain ⟨e9, he9⟩ := PyProof.Rows.sortedHeap_at (vs := bs.map Value.ref) (out := out.toArray) hoL
    refine wpAny_pure ⟨_, rfl, .ref g.objs.size, upd H g.objs.size (.lst (out.map backV)), I1.laid (t' := tk) (fun b u e => ?_) (Nat.le_refl _) (show ObjOk X.prog X.w _ _ _ (.lst (out.map backV)) from ⟨hlen, out, e9, vals_back h3, he9⟩), rfl, q bs _ _ hbs (SrtO.srtd_map h1) hbk (I1.hok.fresh (Nat.le_refl _))⟩
    have hb : b < g.objs.size := Heap.lt_size e
    rw [PyProof.Rows.sortedHeap_old (Nat.ne_of_lt hb) (by rw [size_push']; exact Nat.lt_succ_of_lt hb)]
    exact Heap.get?_push_of_some _ e
section
variable {X : Cx} {σ : L2.St} {H : Hp} {Q : VK} {QT : Bool → Hp → Prop} {pos pos' p p2 apos : Pos} {a b value : Expr} {j : Nat} {O : Prm} {st : Stmt} {sts : List Stmt} {D : Ends}
/-- isinstance(a, C), C an own class, a of it -/
theorem isi_own {y : Str} {C : Addr} (hm : X.mg "isinstance" = none) (hT : X.mg y = some (.ref C)) (q : wE X a σ H fun v H1 => TyX X.K H1 v (.ref C) ∧ Q (.bl true) H1) (hg : Gl X "isinstance" := by rfl) (hgy : Gl X y := by rfl) (hdy : (y == ("__debug__" : Str)) = false := by decide)
    (h1 : starEach [a, .Name y p2] X.env = (false, eval a X.env) :: starEach [.Name y p2] X.env := by rfl) (h2 : starEach [.Name y p2] X.env = (false, eval (.Name y p2) X.env) :: starEach [] X.env := by rfl) : wE X (.Call (.Name "isinstance" p) [a, .Name y p2] [] pos) σ H Q := by
  refine bi2 call_isi hm (wE_mono q fun v H1 q => ?_) (by decide +kernel) hg (by decide) (by decide) h1 h2
  refine gc (v := .ref C) hT rfl ⟨v, .ref C, .ref C, .ref C, true, rfl, .own C, q.1, ?_, q.2⟩ hgy hdy
  unfold PySem.W.kitOne
  simp
/-- a list is locked from now on -/
theorem wS_lock {d : Addr} {u : HO} (h : H d = some u) (mu : Mut (some u)) (q : ∀ od, wS X sts D σ (upd H d (.frz od u))) : wS X sts D σ H := fun pins s I => let ⟨od, I2⟩ := I.lock h mu; q od pins s I2
/-- d[k] = v -/
theorem w1_dput (hr : Room j X.A) (q : wE X value σ H fun v H1 => wE X a σ H1 fun x H2 => wE X b σ H2 fun y H3 => ∃ p H4, x = .ref p ∧ DPut H3 p y v H4 ∧ D.nx σ H4) (hs : swapsWith value (some (.Subscript a b pos')) pos.line X.env = pure false := by rfl) : w1 X (.Assign [.Subscript a b pos'] value pos) D σ H :=
  w1_of (ps_dput (by have := hr.units; omega) wE_pe wE_pe wE_pe hs) q
/-- d[k] -/
theorem dget (hr : Room j X.A) (q : wE X a σ H fun x H1 => wE X b σ H1 fun y H2 => ∃ p v, x = .ref p ∧ DGet H2 p y (some v) ∧ Q v H2) (hs : NoSl b := by exact fun _ _ => rfl) : wE X (.Subscript a b pos) σ H Q := wE_of (pe_dget (by have := hr.units; omega) wE_pe wE_pe hs) q
end
end Lw
namespace Lw
open PySem PySem.Spec PyProof.Rows L2 NdefX LamX
/-! ## a dict that is a set of pairs -/
abbrev kk (a b : Nat) : List Key := [Sum.inl (a : Int), Sum.inl (b : Int)]
theorem kk_inj {a b c d : Nat} (h : kk a b = kk c d) : a = c ∧ b = d := by
  injection h with h1 h2
  injection h2 with h2 _
  injection h1 with h1
  injection h2 with h2
  omega
structure PrD (kvs : List (List Key × V)) (R : Nat → Nat → Prop) : Prop where
  ex : ∃ ps : Steps, kvs = ps.map (fun p => (kk p.1 p.2, .bl true)) ∧ ps.Nodup ∧ ∀ a b, (a, b) ∈ ps ↔ R a b
theorem PrD.get {kvs : List (List Key × V)} {R : Nat → Nat → Prop} (h : PrD kvs R) {a b : Nat} : valV kvs (kk a b) = none ↔ ¬ R a b := by
  obtain ⟨ps, rfl, nd, hm⟩ := h.ex
  rw [← hm]
  clear hm nd h
  induction ps with
  | nil => simp [valV]
  | cons p r ih =>
    rw [List.map_cons]
    by_cases e : kk p.1 p.2 = kk a b
    · rw [valV_pos e]
      obtain ⟨e1, e2⟩ := kk_inj e
      obtain ⟨x, y⟩ := p
      simp only at e1 e2
      subst e1 e2
      simp
    · rw [valV_neg e, ih, List.mem_cons]
      have : (a, b) ≠ p := fun z => e (by rw [← z])
      simp [this]
open Classical in
theorem PrD.some {kvs : List (List Key × V)} {R : Nat → Nat → Prop} (h : PrD kvs R) {a b : Nat} : (valV kvs (kk a b)).isSome = decide (R a b) := by
  cases e : valV kvs (kk a b) with
  | none => rw [decide_eq_false (h.get.mp e)]; rfl
  | some v =>
    have : R a b := Classical.byContradiction fun z => by rw [h.get.mpr z] at e; cases e
    rw [decide_eq_true this]
    rfl
theorem PrD.put {kvs : List (List Key × V)} {R : Nat → Nat → Prop} (h : PrD kvs R) (a b : Nat) : PrD (putK kvs (kk a b) (.bl true)) (fun x y => R x y ∨ (x = a ∧ y = b)) := by
  by_cases hr : R a b
  · have e : putK kvs (kk a b) (.bl true) = kvs := by
      obtain ⟨ps, rfl, nd, hm⟩ := h.ex
      have hm2 := (hm a b).mpr hr
      have ha : ((ps.map fun p => (kk p.1 p.2, V.bl true)).any fun kv => decide (kv.1 = kk a b)) = true := List.any_eq_true.mpr ⟨(kk a b, V.bl true), List.mem_map.mpr ⟨(a, b), hm2, rfl⟩, decide_eq_true rfl⟩
      unfold putK
      rw [if_pos ha, List.map_map]
      refine List.map_congr_left fun p _ => ?_
      show (if kk p.1 p.2 = kk a b then (kk p.1 p.2, V.bl true) else (kk p.1 p.2, V.bl true)) = _
      split <;> rfl
    rw [e]
    obtain ⟨ps, e1, nd, hm⟩ := h.ex
    refine ⟨ps, e1, nd, fun x y => (hm x y).trans ⟨.inl, fun z => z.elim id fun ⟨e1, e2⟩ => by rw [e1, e2]; exact hr⟩⟩
  · rw [putK_new _ (h.get.mpr hr)]
    obtain ⟨ps, rfl, nd, hm⟩ := h.ex
    refine ⟨ps ++ [(a, b)], by rw [List.map_append]; rfl, ?_, fun x y => ?_⟩
    · rw [List.nodup_append]
      refine ⟨nd, by simp, fun p hp q hq e => ?_⟩
      subst e
      rw [List.mem_singleton.mp hq] at hp
      exact hr ((hm a b).mp hp)
    · rw [List.mem_append, hm, List.mem_singleton, Prod.mk.injEq]
theorem PrD.len {kvs : List (List Key × V)} {R : Nat → Nat → Prop} (h : PrD kvs R) {n : Nat} (hb : ∀ a b, R a b → a < n ∧ b < n) : kvs.length ≤ n * n := by
  obtain ⟨ps, rfl, nd, hm⟩ := h.ex
  rw [List.length_map]
  have := List.Nodup.length_le_of_subset nd (l₂ := (List.range n).flatMap fun a => (List.range n).map fun b => (a, b)) fun p hp => by
    obtain ⟨a, b⟩ := p
    obtain ⟨h1, h2⟩ := hb a b ((hm a b).mp hp)
    exact List.mem_flatMap.mpr ⟨a, List.mem_range.mpr h1, List.mem_map.mpr ⟨b, List.mem_range.mpr h2, rfl⟩⟩
  refine Nat.le_trans this ?_
  have : ∀ l : List Nat, (l.flatMap fun a => (List.range n).map fun b => (a, b)).length = l.length * n := by
    intro l
    induction l with
    | nil => simp
    | cons a l ih => rw [List.flatMap_cons, List.length_append, ih, List.length_map, List.length_range, List.length_cons, Nat.succ_mul, Nat.add_comm]
  rw [this, List.length_range]
  exact Nat.le_refl _
theorem PrD.imp {kvs : List (List Key × V)} {R S : Nat → Nat → Prop} (h : PrD kvs R) (e : ∀ a b, R a b ↔ S a b) : PrD kvs S := by
  obtain ⟨ps, e1, nd, hm⟩ := h.ex
  exact ⟨ps, e1, nd, fun a b => (hm a b).trans (e a b)⟩
theorem mT_prD : ∀ (es : List KE) (ps : Steps) (acc : List (List Key × V)) (R : Nat → Nat → Prop), es.map (·.1) = ps.map (fun p => kk p.1 p.2) → PrD acc R → PrD (mT es acc) (fun a b => R a b ∨ (a, b) ∈ ps)
  | [], [], acc, R, _, h => h.imp fun a b => by simp
  | [], _ :: _, _, _, e, _ => by simp at e
  | _ :: _, [], _, _, e, _ => by simp at e
  | e :: es, p :: ps, acc, R, h, hp => by
    rw [List.map_cons, List.map_cons] at h
    injection h with h1 h2
    have := mT_prD es ps (putK acc e.1 (.bl true)) _ h2 (by rw [h1]; exact hp.put p.1 p.2)
    refine PrD.imp this fun a b => ?_
    obtain ⟨x, y⟩ := p
    simp only [List.mem_cons, Prod.mk.injEq]
    constructor
    · rintro ((h | h) | h)
      · exact .inl h
      · exact .inr (.inl h)
      · exact .inr (.inr h)
    · rintro (h | h | h)
      · exact .inl (.inl h)
      · exact .inl (.inr h)
      · exact .inr h
theorem prD_nil : PrD [] (fun _ _ => False) := ⟨[], rfl, List.nodup_nil, fun a b => by simp⟩
/-- the list of (pair, True) taken apart -/
theorem pr_split {H : Hp} : ∀ {vs : List V} {ps : Steps}, DtA H vs (ps.map fun p => .tuple [ePr p, .bool true]) → ∃ (Ts : List Addr) (es : List KE), vs = Ts.map V.ref ∧ Ts.length = es.length ∧ es.map (·.1) = ps.map (fun p => kk p.1 p.2) ∧
    ∀ (j : Nat) T e, Ts[j]? = some T → es[j]? = some e → H T = some (.tup [.ref e.2, .bl true]) ∧ H e.2 = some (.tup (e.1.map kV))
  | _, [], .nil => ⟨[], [], rfl, rfl, rfl, fun j T e h => by simp at h⟩
  | _, p :: ps, .cons r t => by
    obtain ⟨Ts, es, rfl, h1, h2, h3⟩ := pr_split t
    obtain ⟨T, xs, rfl, hT, hx⟩ := r.tup_inv
    cases hx with
    | cons h4 h5 =>
      cases h5 with
      | cons h6 h7 =>
        cases h7
        obtain ⟨b, ys, rfl, hb, hy⟩ := h4.tup_inv
        rw [h6.bl_inv] at hT
        have ey := hy.ints_inv (ns := [(p.1 : Int), (p.2 : Int)])
        subst ey
        refine ⟨T :: Ts, (kk p.1 p.2, b) :: es, rfl, congrArg (· + 1) h1, by rw [List.map_cons, List.map_cons, h2], fun j T' e e1 e2 => ?_⟩
        cases j with
        | zero =>
          cases e1
          cases e2
          exact ⟨hT, hb⟩
        | succ j => exact h3 j T' e (by simpa using e1) (by simpa using e2)
/-- a permutation of data -/
theorem perm_dt {H : Hp} {xs ys : List V} (h : ys.Perm xs) : ∀ ps : Steps, DtA H xs (ps.map ePr) → ∃ qs : Steps, qs.Perm ps ∧ DtA H ys (qs.map ePr) := by
  induction h with
  | nil => exact fun ps d => ⟨ps, .refl _, d⟩
  | cons x _ ih =>
    intro ps d
    match ps, d with
    | p :: ps, .cons r t =>
      obtain ⟨qs, h1, h2⟩ := ih ps t
      exact ⟨p :: qs, h1.cons p, .cons r h2⟩
  | swap x y l =>
    intro ps d
    match ps, d with
    | p :: q :: ps, .cons r (.cons r2 t) => exact ⟨q :: p :: ps, .swap p q ps, .cons r2 (.cons r t)⟩
  | trans _ _ ih1 ih2 =>
    intro ps d
    obtain ⟨qs, h1, h2⟩ := ih2 ps d
    obtain ⟨rs, h3, h4⟩ := ih1 qs h2
    exact ⟨rs, h3.trans h1, h4⟩
theorem pairs_of_srtd {H : Hp} : ∀ {vs : List V} {ps : Steps}, DtA H vs (ps.map ePr) → ps.Nodup → SrtO.Srtd (ltP (pairAt H)) vs → ps.Pairwise ltP2
  | [], [], .nil, _, _ => List.Pairwise.nil
  | v :: vs, p :: ps, .cons r t, nd, h => by
    obtain ⟨h1, h2⟩ := List.pairwise_cons.mp h
    obtain ⟨n1, n2⟩ := List.nodup_cons.mp nd
    refine List.pairwise_cons.mpr ⟨fun q hq => ?_, pairs_of_srtd t n2 h2⟩
    obtain ⟨j, hj, rfl⟩ := List.mem_iff_getElem.mp hq
    obtain ⟨y, hy, dy⟩ := t.getD (i := j) (y := ePr ps[j]) (by simp [hj])
    have e := h1 y (List.mem_of_getElem? hy)
    have e : SrtO.lexB (pairAt H y) (pairAt H v) = false := e
    rw [(pairAt_eq r).1, (pairAt_eq dy).1] at e
    have e := SrtO.lexB_no.mp e
    have ne : p ≠ ps[j] := fun z => n1 (z ▸ hq)
    have ne2 : ¬ (p.1 = ps[j].1 ∧ p.2 = ps[j].2) := fun z => ne (Prod.ext z.1 z.2)
    unfold ltP2
    simp only at e
    omega
theorem keys_dt {H : Hp} : ∀ {ps : Steps} {bs : List Addr}, IsKeys H (ps.map fun p => (kk p.1 p.2, V.bl true)) bs → DtA H (bs.map V.ref) (ps.map ePr)
  | [], _, .nil => .nil
  | p :: ps, _, .cons h t => .cons (.tup h (.cons (.int _) (.cons (.int _) .nil))) (keys_dt t)
section
variable {X : Cx} {σ : L2.St} {H : Hp} {Q : VK} {QT : Bool → Hp → Prop} {p pos pos' tp : Pos} {a b c value : Expr} {j k : Nat} {R : Nat → Nat → Prop} {d : Addr}
/-- dict([(pair, True), ..]) -/
theorem dict_pr (hr : Room j X.A) (hc : X.calm = true) (hm : X.mg "dict" = none) (q : wE X a σ H fun v H1 => ∃ ps : Steps, Ls H1 v (ps.map fun p => .tuple [ePr p, .bool true]) ∧ ∀ l kvs, H1 l = none → PrD kvs (fun a b => (a, b) ∈ ps) → Q (.ref l) (upd H1 l (.dT kvs)))
    (hg : Gl X "dict" := by rfl) (h1 : starEach [a] X.env = (false, eval a X.env) :: starEach [] X.env := by rfl) : wE X (.Call (.Name "dict" p) [a] [] pos) σ H Q := by
  refine ty1 (call_dictT hc hr.units) hm (wE_mono q fun v H1 q => ?_) (by decide +kernel) hg (by decide) (by decide) h1
  obtain ⟨ps, d, q⟩ := q
  obtain ⟨t, xs, rfl, h1, h2⟩ := d.sq (K := X.K)
  obtain ⟨Ts, es, rfl, e1, e2, e3⟩ := pr_split h2
  exact ⟨t, Ts, es, rfl, h1, e1, e3, fun l nl => q l _ nl ((mT_prD es ps [] _ e2 prD_nil).imp fun a b => by simp)⟩
open Classical in
/-- (a, b) in d -/
theorem in_pr (hr : Room j X.A) {kvs : List (List Key × V)} (hc : ∀ H Q, Q (.ref d) H → wE X c σ H Q) (q : wE X a σ H fun x H1 => wE X b σ H1 fun y H2 => ∃ m n : Nat, x = .int (m : Int) ∧ y = .int (n : Int) ∧ H2 d = some (.dT kvs) ∧ PrD kvs R ∧ ∀ H3, Sm H2 H3 → QT (decide (R m n)) H3)
    (h1 : starEach [a, b] X.env = (false, eval a X.env) :: starEach [b] X.env := by rfl) (h2 : starEach [b] X.env = (false, eval b X.env) :: starEach [] X.env := by rfl) (hm : behindInMarks CmpOp.In c = false := by rfl) : wT X (.Compare (.Tuple [a, b] k tp) [.In] [c] pos) σ H QT := by
  refine tdin hr (wE_of (pe_tup (pa_cons wE_pe (pa_cons wE_pe pa_nil h2) h1)) (wE_mono q fun x H1 q => wE_mono q fun y H2 q => ?_)) hm
  obtain ⟨m, n, rfl, rfl, hd, hp, q⟩ := q
  refine ⟨by show 2 ≤ sizeLine; decide, fun t nt => hc _ _ ⟨d, _, rfl, .inr ⟨kvs, kk m n, t, .inl (same_new nt _ _ hd), rfl, upd_same, rfl⟩, ?_⟩⟩
  rw [hp.some]
  exact q _ (same_new nt)
/-- d[a, b] = True -/
theorem put_pr (hr : Room j X.A) {kvs : List (List Key × V)} {D : Ends} (hv : ∀ H Q, Q (.bl true) H → wE X value σ H Q) (hc : ∀ H Q, Q (.ref d) H → wE X c σ H Q) (hl : kvs.length ≤ 1000)
    (q : wE X a σ H fun x H1 => wE X b σ H1 fun y H2 => ∃ m n : Nat, x = .int (m : Int) ∧ y = .int (n : Int) ∧ H2 d = some (.dT kvs) ∧ PrD kvs R ∧ ∀ H3 ls, Sm H2 H3 → PrD ls (fun x y => R x y ∨ (x = m ∧ y = n)) → D.nx σ (upd H3 d (.dT ls)))
    (h1 : starEach [a, b] X.env = (false, eval a X.env) :: starEach [b] X.env := by rfl) (h2 : starEach [b] X.env = (false, eval b X.env) :: starEach [] X.env := by rfl) (hs : swapsWith value (some (.Subscript c (.Tuple [a, b] k tp) pos')) pos.line X.env = pure false := by rfl) : w1 X (.Assign [.Subscript c (.Tuple [a, b] k tp) pos'] value pos) D σ H := by
  refine w1_dput hr (hv _ _ (hc _ _ (wE_of (pe_tup (pa_cons wE_pe (pa_cons wE_pe pa_nil h2) h1)) (wE_mono q fun x H1 q => wE_mono q fun y H2 q => ?_)))) hs
  obtain ⟨m, n, rfl, rfl, hd, hp, q⟩ := q
  exact ⟨by show 2 ≤ sizeLine; decide, fun t nt => ⟨d, _, rfl, .inr ⟨kvs, kk m n, t, same_new nt _ _ hd, rfl, upd_same, by rw [sizeLine_eq]; omega, rfl⟩, q _ _ (same_new nt) (hp.put m n)⟩⟩
/-- sorted(d) -/
theorem sorted_pr (hc : X.calm = true) (hm : X.mg "sorted" = none) (q : wE X a σ H fun v H1 => ∃ d kvs, v = .ref d ∧ H1 d = some (.dT kvs) ∧ PrD kvs R ∧ kvs.length ≤ 1000 ∧ ∀ (l : Addr) (vs : List V) (qs : Steps), H1 l = none → DtA (upd H1 l (.lst vs)) vs (qs.map ePr) → qs.Pairwise ltP2 → (∀ a b, (a, b) ∈ qs ↔ R a b) → Q (.ref l) (upd H1 l (.lst vs)))
    (hg : Gl X "sorted" := by rfl) (h1 : starEach [a] X.env = (false, eval a X.env) :: starEach [] X.env := by rfl) : wE X (.Call (.Name "sorted" p) [a] [] pos) σ H Q := by
  refine bi1 (call_sortDT hc) hm (wE_mono q fun v H1 q => ?_) (by decide +kernel) hg (by decide) (by decide) h1
  obtain ⟨d, kvs, rfl, hd, hp, hl, q⟩ := q
  obtain ⟨ps, rfl, nd, hmm⟩ := hp.ex
  refine ⟨d, _, pairAt H1, rfl, hd, hl, fun bs hb b hbm => ?_, fun bs ys l hb s1 s2 nl => ?_⟩
  · obtain ⟨e, he, de⟩ := (keys_dt hb).mem (List.mem_map.mpr ⟨b, hbm, rfl⟩)
    obtain ⟨p, hp, rfl⟩ := List.mem_map.mp he
    obtain ⟨e1, t, e2, e3⟩ := pairAt_eq de
    rw [e1]
    cases e2
    exact e3
  · obtain ⟨qs, h1, h2⟩ := perm_dt s2.perm ps (keys_dt hb)
    exact q l ys qs nl (h2.mono (.new nl)) (pairs_of_srtd h2 (h1.nodup_iff.mpr nd) s1) fun a b => h1.mem_iff.trans (hmm a b)
end
end Lw
namespace Lw
open Classical
/-- at most -/
def Le (ss : Steps) (a b : Nat) : Prop := a = b ∨ TC ss a b
/-- goals x, y of a, b go well together -/
noncomputable def kp (ss : Steps) (a b x y : Nat) : Bool := if TC ss a b then decide (Le ss x y) else (!decide (TC ss b a) || decide (Le ss y x))
noncomputable def cf (ss : Steps) (row : List Nat) (g : Nat) : Bool := (List.range row.length).all fun o => kp ss o row.length (row.getD o 0) g
/-- the moves of the first k places -/
noncomputable def mv (n : Nat) (ss : Steps) : Nat → List (List Nat)
  | 0 => [[]]
  | k + 1 => (mv n ss k).flatMap fun row => ((List.range n).filter (cf ss row)).map fun g => row ++ [g]
theorem mv_row {n : Nat} {ss : Steps} : ∀ {k : Nat} {row : List Nat}, row ∈ mv n ss k → row.length = k ∧ ∀ x ∈ row, x < n
  | 0, row, h => by
    rw [mv, List.mem_singleton] at h
    subst h
    exact ⟨rfl, fun x hx => absurd hx (by simp)⟩
  | k + 1, row, h => by
    rw [mv, List.mem_flatMap] at h
    obtain ⟨r, hr, h⟩ := h
    obtain ⟨g, hg, rfl⟩ := List.mem_map.mp h
    obtain ⟨h1, h2⟩ := mv_row hr
    have hg2 := List.mem_range.mp (List.mem_filter.mp hg).1
    refine ⟨by rw [List.length_append, h1]; rfl, fun x hx => ?_⟩
    rcases List.mem_append.mp hx with hx | hx
    · exact h2 x hx
    · rw [List.mem_singleton.mp hx]
      exact hg2
theorem flatMap_len {α β : Type} {f : α → List β} {m : Nat} : ∀ {l : List α}, (∀ a ∈ l, (f a).length ≤ m) → (l.flatMap f).length ≤ l.length * m
  | [], _ => by simp
  | a :: l, h => by
    rw [List.flatMap_cons, List.length_append, List.length_cons, Nat.succ_mul]
    have := h a List.mem_cons_self
    have := flatMap_len (l := l) fun b hb => h b (List.mem_cons_of_mem _ hb)
    omega
theorem mv_len {n : Nat} {ss : Steps} : ∀ k, (mv n ss k).length ≤ n ^ k
  | 0 => by simp [mv]
  | k + 1 => by
    rw [mv]
    refine Nat.le_trans (flatMap_len (m := n) fun r _ => ?_) ?_
    · rw [List.length_map]
      refine Nat.le_trans (List.length_filter_le _ _) ?_
      rw [List.length_range]
      exact Nat.le_refl _
    · rw [Nat.pow_succ]
      exact Nat.mul_le_mul_right _ (mv_len k)
theorem mv_small {n : Nat} {ss : Steps} (h : n ≤ 6) {k : Nat} (hk : k ≤ n) : (mv n ss k).length ≤ 46656 := by
  refine Nat.le_trans (mv_len k) ?_
  refine Nat.le_trans (Nat.pow_le_pow_left h k) ?_
  refine Nat.le_trans (Nat.pow_le_pow_right (by decide) (show k ≤ 6 by omega)) ?_
  decide
/-- the places that stay -/
def fixd (l : List Nat) : List Nat := (List.range l.length).filter fun i => decide (l.getD i 0 = i)
/-- moves without one -/
noncomputable def rst (n : Nat) (ss : Steps) : List (List Nat) := (mv n ss n).filter fun m => decide (fixd m = [])
/-- a move -/
structure Mv (n : Nat) (ss : Steps) (l : List Nat) : Prop where
  len : l.length = n
  bd : ∀ x ∈ l, x < n
  up : ∀ p ∈ ss, Le ss (l.getD p.1 0) (l.getD p.2 0)
/-- one behind another: two, then one -/
def beh (one two : List Nat) : List Nat := two.map fun g => one.getD g 0
/-- a move done often -/
def dn (n : Nat) (move : List Nat) : Nat → List Nat
  | 0 => List.range n
  | k + 1 => beh move (dn n move k)
end Lw
namespace Lw
open PySem PySem.Spec PyProof.Rows L2 NdefX LamX
def topS (i : Nat) : Stmt := PySem.Challenge.pw_stillorders_k30_whole_moves_behind_moves.main.body.getD i (.Pass ⟨0, 0, 0, 0⟩)
theorem dec_tt {p : Prop} [Decidable p] (h : p) : decide p = true := decide_eq_true h
section
variable {P : Program} {w : World} {K : PySem.W.Frag} {mg : Str → Option Value} {base : Heap}
/-! is_whole: of an int -/
abbrev s_is_whole : Stmt := topS 7
theorem sc_is_whole : FnScope ["value"] ["value"] (defScope s_is_whole) := ⟨rfl, rfl, rfl, by decide +kernel, rfl, by decide +kernel, by decide +kernel⟩
def sp_is_whole : Spn := fun vs H Q => ∃ i, vs = [.int i] ∧ Q (.bl true) H
theorem fn_is_whole {f : Addr} {fd : FuncData} (B : Bi mg) (F : Fun K "is_whole" "is_whole" s_is_whole f fd) : FnOk P w K mg base (L2.CX P w) 1 f fd ["value"] (nn sp_is_whole) := by
  refine fn_w F sc_is_whole (fun vs H Q h => ?_) fun cdv A outer s H vs Q E hr h => ?_
  · obtain ⟨i, rfl, _⟩ := h
    rfl
  · obtain ⟨i, rfl, q⟩ := h
    refine wS_one (w1_ret ?_)
    refine wE_and ?_
    refine isi (T := "int") (U := "int") (r := true) B.isinstance B.int (by decide +kernel) (by decide +kernel) ?_
    refine nm 0 ?_
    refine ⟨.base (.int i), true, rfl, ?_⟩
    refine iteT (wE_one ?_)
    refine wE_not ?_
    refine isi (T := "bool") (U := "int") (r := false) B.isinstance B.bool (by decide +kernel) (by decide +kernel) ?_
    refine nm 0 ?_
    exact ⟨.base (.int i), false, rfl, q⟩
abbrev s_is_between : Stmt := topS 8
theorem sc_is_between : FnScope ["value", "least", "most"] ["value", "least", "most"] (defScope s_is_between) := ⟨rfl, rfl, rfl, by decide +kernel, rfl, by decide +kernel, by decide +kernel⟩
def sp_is_between : Spn := fun vs H Q => ∃ i a b : Int, vs = [.int i, .int a, .int b] ∧ Q (.bl (decide (a ≤ i ∧ i ≤ b))) H
theorem fn_is_between {f : Addr} {fd : FuncData} (D1 : Df P w K mg base 1 "is_whole" sp_is_whole) (F : Fun K "is_between" "is_between" s_is_between f fd) : FnOk P w K mg base (L2.CX P w) 2 f fd ["value", "least", "most"] (nn sp_is_between) := by
  refine fn_w F sc_is_between (fun vs H Q h => ?_) fun cdv A outer s H vs Q E hr h => ?_
  · obtain ⟨i, a, b, rfl, _⟩ := h
    rfl
  · obtain ⟨i, a, b, rfl, q⟩ := h
    refine wS_one (w1_ret ?_)
    refine wE_and ?_
    refine call1 D1 hr ?_
    refine nm 0 ?_
    refine ⟨i, rfl, true, rfl, iteT (wE_one ?_)⟩
    refine wE_chain op_le op_le (by with_unfolding_all rfl) ?_
    refine nm 1 ?_
    refine nm 0 ?_
    refine ⟨a, i, rfl, rfl, _, rfl, ite2 (fun h => ?_) fun h => ?_⟩
    · refine nm 2 ?_
      refine ⟨i, b, rfl, rfl, ?_⟩
      exact qb (Q := Q) (by simp [of_decide_eq_true h]) q
    · exact qb (Q := Q) (decide_eq_false fun z => h (decide_eq_true z.1)).symm q
end
end Lw
namespace Lw
open PySem PySem.Spec PyProof.Rows L2 NdefX LamX
section
variable {P : Program} {w : World} {K : PySem.W.Frag} {mg : Str → Option Value} {base : Heap} {O : Prm}
abbrev s_is_tuple_of : Stmt := topS 9
theorem sc_is_tuple_of : FnScope ["value", "many"] ["value", "many"] (defScope s_is_tuple_of) := ⟨rfl, rfl, rfl, by decide +kernel, rfl, by decide +kernel, by decide +kernel⟩
def sp_is_tuple_of : Spn := fun vs H Q => ∃ v ds m, vs = [v, .int m] ∧ Dt H v (.tuple ds) ∧ Q (.bl (decide ((ds.length : Int) = m))) H
theorem fn_is_tuple_of {f : Addr} {fd : FuncData} (B : Bi mg) (F : Fun K "is_tuple_of" "is_tuple_of" s_is_tuple_of f fd) : FnOk P w K mg base (L2.CX P w) 1 f fd ["value", "many"] (nn sp_is_tuple_of) := by
  refine fn_w F sc_is_tuple_of (fun vs H Q h => ?_) fun cdv A outer s H vs Q E hr h => ?_
  · obtain ⟨v, ds, m, rfl, _⟩ := h
    rfl
  · obtain ⟨v, ds, m, rfl, d, q⟩ := h
    refine wS_one (w1_ret (wE_and ?_))
    refine isi (T := "tuple") (U := "tuple") (r := true) B.isinstance B.tuple (by decide +kernel) (by decide +kernel) ?_
    refine nm 0 ⟨isTup d, true, rfl, iteT (wE_one (eq_int (len_tup B.len ?_)))⟩
    exact nm 0 ⟨_, d, nm 1 ⟨_, _, rfl, rfl, q⟩⟩
abbrev s_is_places : Stmt := topS 14
theorem sc_is_places : FnScope ["value"] ["value"] (defScope s_is_places) := ⟨rfl, rfl, rfl, by decide +kernel, rfl, by decide +kernel, by decide +kernel⟩
def sp_is_places : Spn := fun vs H Q => ∃ i : Int, vs = [.int i] ∧ Q (.bl (decide (1 ≤ i ∧ i ≤ 6))) H
theorem fn_is_places {f : Addr} {fd : FuncData} (D1 : Df P w K mg base 2 "is_between" sp_is_between) (m6 : ∃ t, mg "MOST_PLACES" = some (.int 6 t)) (F : Fun K "is_places" "is_places" s_is_places f fd) : FnOk P w K mg base (L2.CX P w) 3 f fd ["value"] (nn sp_is_places) := by
  refine fn_w F sc_is_places (fun vs H Q h => ?_) fun cdv A outer s H vs Q E hr h => ?_
  · obtain ⟨i, rfl, _⟩ := h
    rfl
  · obtain ⟨i, rfl, q⟩ := h
    obtain ⟨t, m6⟩ := m6
    refine wS_one (w1_ret (call3 D1 hr ?_))
    exact nm 0 (wE_int (gc (v := .int 6) m6 ⟨_, rfl⟩ ⟨i, 1, 6, rfl, q⟩))
abbrev s_is_pair : Stmt := topS 15
theorem sc_is_pair : FnScope ["places", "value", "place"] ["places", "value"] (defScope s_is_pair) := ⟨rfl, rfl, rfl, by decide +kernel, rfl, by decide +kernel, by decide +kernel⟩
/-- of a pair of places, not the same -/
def sp_is_pair (O : Prm) : Spn := fun vs H Q => ∃ (n : Nat) (v : V) (p : Nat × Nat), vs = [.int (n : Int), v] ∧ Dt H v (ePr p) ∧ p.1 < n ∧ p.2 < n ∧ p.1 ≠ p.2 ∧ ∀ H', Ex O nA H H' → Q (.bl true) H'
theorem fn_is_pair {f : Addr} {fd : FuncData} (B : Bi mg) (D1 : Df P w K mg base 1 "is_tuple_of" sp_is_tuple_of) (D2 : Df P w K mg base 2 "is_between" sp_is_between) (F : Fun K "is_pair" "is_pair" s_is_pair f fd) : FnOk P w K mg base (L2.CX P w) 3 f fd ["places", "value"] (nn (sp_is_pair O)) := by
  refine fn_w F sc_is_pair (fun vs H Q h => ?_) fun cdv A outer s H vs Q E hr h => ?_
  · obtain ⟨n, v, p, rfl, _⟩ := h
    rfl
  · obtain ⟨n, v, p, rfl, d, h1, h2, h3, q⟩ := h
    refine wS_cons (w1_if (or2 (wT_not ?_)))
    refine wT_val (by intro _; rfl) (call2 D1 hr (nm 1 (wE_int ⟨v, _, 2, rfl, d, true, rfl, ?_⟩)))
    refine iteF (wT_not (wT_val (by intro _; rfl) (all_ls rfl B.all ?_)))
    refine wE_lcN (O := O) (i := 2) (x := "place") rfl sc_is_pair.nd (by intro _; rfl) (blkOk_by (N := ["places", "value", "place"]) (sc := defScope s_is_pair) (by decide +kernel)) (fun _ _ _ _ _ => pg_name sc_is_pair.nd rfl (Or.inl rfl))
      (src_tup (nm 1 ⟨.refl _, d⟩)) (by simp) (fun _ _ => some (.bool true)) (fun k d' v' Ha e1 ex dv => ?_) fun l H' us _ ex hl hD => ?_
    · obtain ⟨m, rfl, hm⟩ : ∃ m : Nat, d' = .int (m : Int) ∧ m < n := by
        match k, e1 with
        | 0, e1 => exact ⟨p.1, (Option.some.inj e1).symm, h1⟩
        | 1, e1 => exact ⟨p.2, (Option.some.inj e1).symm, h2⟩
        | k + 2, e1 => simp at e1
      rw [dv.int_inv]
      refine turn_nil fun s H0 C cl fp => ?_
      refine call3 D2 hr (nm 2 (wE_int (sub_int' (nm 0 (wE_int ⟨_, _, rfl, rfl, _, _, _, rfl, .refl _, _, rfl, ?_⟩)))))
      rw [decide_eq_true (show (0 : Int) ≤ (m : Int) ∧ (m : Int) ≤ (n : Int) - 1 by omega)]
      exact .bl _
    · refine ⟨[true, true], .of hl hD, true, rfl, ?_⟩
      refine iteF (wS_nil (wS_one (w1_ret ?_)))
      refine ne_int (ix_t ?_)
      refine nm 1 (wE_int ⟨_, _, _, d.mono ex.im, rfl, atI_nat' (i := 0) rfl, fun y hy => ?_⟩)
      rw [hy.int_inv]
      refine ix_t (nm 1 (wE_int ⟨_, _, _, d.mono ex.im, rfl, atI_nat' (i := 1) rfl, fun y hy => ?_⟩))
      rw [hy.int_inv]
      refine ⟨_, _, rfl, rfl, ?_⟩
      rw [decide_eq_false (fun z : (p.1 : Int) = (p.2 : Int) => h3 (Int.ofNat.inj z))]
      exact q _ ex
end
end Lw
namespace Lw
open PySem PySem.Spec PyProof.Rows L2 NdefX LamX
theorem rowAt {U : List (List Nat)} {i : Nat} {d : PyData} (h : (U.map eNs)[i]? = some d) : i < U.length ∧ d = eNs (U.getD i []) := by
  obtain ⟨h1, h2⟩ := List.getElem?_eq_some_iff.mp h
  rw [List.length_map] at h1
  refine ⟨h1, ?_⟩
  rw [← h2]
  simp [h1]
section
variable {P : Program} {w : World} {K : PySem.W.Frag} {mg : Str → Option Value} {base : Heap} {O : Prm}
abbrev s_has_ring : Stmt := topS 18
theorem sc_has_ring : FnScope ["upward", "place", "above"] ["upward"] (defScope s_has_ring) := ⟨rfl, rfl, rfl, by decide +kernel, rfl, by decide +kernel, by decide +kernel⟩
def sp_has_ring (O : Prm) : Spn := fun vs H Q => ∃ (v : V) (U : List (List Nat)), vs = [v] ∧ LsAt nA H v (U.map eNs) ∧ U.length ≤ 6 ∧ ∀ H', Ex O nA H H' → Q (.bl (hasRing U)) H'
theorem fn_has_ring {f : Addr} {fd : FuncData} (B : Bi mg) (F : Fun K "has_ring" "has_ring" s_has_ring f fd) : FnOk P w K mg base (L2.CX P w) 1 f fd ["upward"] (nn (sp_has_ring O)) := by
  refine fn_w F sc_has_ring (fun vs H Q h => ?_) fun cdv A outer s H vs Q E hr h => ?_
  · obtain ⟨v, U, rfl, _⟩ := h
    rfl
  · obtain ⟨v, U, rfl, d, hU, q⟩ := h
    refine wS_one (w1_ret (any_ls rfl B.any ?_))
    refine wE_lcP (O := O) (i := 1) (j := 2) (x := "place") (y := "above") (by decide) rfl sc_has_ring.nd (by intro _; rfl) (blkOk_by (N := ["upward", "place", "above"]) (sc := defScope s_has_ring) (by decide +kernel)) (fun _ _ _ _ _ => pg_tup rfl (pgs_cons (pg_name sc_has_ring.nd rfl (Or.inl rfl)) (pgs_cons (pg_name sc_has_ring.nd rfl (Or.inl rfl)) pgs_nil)))
      (src_enumL (by rfl) B.enumerate (by rfl) (nm 0 ⟨.refl _, d⟩)) (by rw [eEn_len, List.length_map]; omega) (fun n _ => some (.bool (decide (n ∈ U.getD n [])))) (fun k d' v' Ha e1 ex dv => ?_) fun l H' us _ ex hl hD => ?_
    · have hk : k < (U.map eNs).length := by
        have := (List.getElem?_eq_some_iff.mp e1).1
        rwa [eEn_len] at this
      have e2 : (U.map eNs)[k]? = some ((U.map eNs)[k]) := List.getElem?_eq_getElem hk
      obtain ⟨h1, h2⟩ := rowAt e2
      rw [eEn_get e2] at e1
      rw [h2] at e1
      cases e1
      refine ⟨_, _, rfl, fun u w' du dw => turn_nil fun s H0 C cl fp => ?_⟩
      rw [du.int_inv]
      rw [eNs_map] at dw
      refine in_t (nm 1 (nm 2 ⟨_, _, rfl, dw, .refl _, _, rfl, ?_⟩))
      have e : decide ((k : Int) ∈ (U.getD k []).map fun n : Nat => (n : Int)) = decide (k ∈ U.getD k []) := by simp only [mem_cast]
      rw [e]
      exact .bl _
    · refine ⟨(List.range U.length).map fun i => decide (i ∈ U.getD i []), .of hl ?_, ?_⟩
      · rw [kept_all (g := fun i => .bool (decide (i ∈ U.getD i []))) fun _ _ _ => rfl, eEn_len, List.length_map] at hD
        rw [List.map_map]
        exact hD
      · refine qb ?_ (q _ ex)
        unfold hasRing
        rw [List.any_map]
        rfl
abbrev s_steps_by : Stmt := topS 19
abbrev n_steps_by : List Str := ["upward", "found", "low", "above", "high", "other"]
theorem sc_steps_by : FnScope n_steps_by ["upward"] (defScope s_steps_by) := ⟨rfl, rfl, rfl, by decide +kernel, rfl, by decide +kernel, by decide +kernel⟩
def sp_steps_by (O : Prm) : Spn := fun vs H Q => ∃ (v : V) (U : List (List Nat)), vs = [v] ∧ LsAt nA H v (U.map eNs) ∧ U.length ≤ 6 ∧ Rows U ∧ ∀ H' y, Ex O nA H H' → Dt H' y (ePs (stp U)) → Q y H'
/-- one row's steps -/
def stp1 (U : List (List Nat)) (l : Nat) : Steps := ((U.getD l []).filter fun h => !((U.getD l []).any fun o => decide (h ∈ U.getD o []))).map fun h => (l, h)
theorem stp_take (U : List (List Nat)) (n : Nat) : (List.range (n + 1)).flatMap (stp1 U) = (List.range n).flatMap (stp1 U) ++ stp1 U n := by
  rw [List.range_succ, List.flatMap_append]
  simp
theorem stp_eq (U : List (List Nat)) : stp U = (List.range U.length).flatMap (stp1 U) := rfl
theorem row_len {U : List (List Nat)} (R : Rows U) {l : Nat} (h : l < U.length) (hU : U.length ≤ 6) : (U.getD l []).length ≤ 6 := by
  have h1 := R.asc _ (getD_mem h)
  have h2 := R.bd _ (getD_mem h)
  have h3 : (U.getD l []).Nodup := h1.imp fun h => Nat.ne_of_lt h
  have := List.Nodup.length_le_of_subset h3 (l₂ := List.range U.length) fun x hx => List.mem_range.mpr (h2 x hx)
  rw [List.length_range] at this
  omega
theorem natAt {l : List Nat} {k : Nat} {d : PyData} (h : (l.map eN)[k]? = some d) : d = .int ((l.getD k 0 : Nat) : Int) ∧ l.getD k 0 ∈ l := by
  have hk : k < l.length := by
    have := (List.getElem?_eq_some_iff.mp h).1
    rwa [List.length_map] at this
  rw [List.getElem?_map, List.getElem?_eq_getElem hk] at h
  have e3 : l.getD k 0 = l[k] := by simp [hk]
  rw [e3]
  exact ⟨(Option.some.inj h).symm, List.getElem_mem hk⟩
theorem getD_of {l : List Nat} {k a : Nat} (h : l[k]? = some a) : l.getD k 0 = a := by simp [h]
theorem rowGet {U : List (List Nat)} {i : Nat} (h : i < U.length) : (U.map eNs)[i]? = some (eNs (U.getD i [])) := by
  simp [h]
theorem map_getD {l : List Nat} : (List.range l.length).map (fun k => l.getD k 0) = l := by
  apply List.ext_getElem
  · simp
  · intro n h1 h2
    simp [h2]
theorem any_getD {l : List Nat} {p : Nat → Bool} : ((List.range l.length).any fun k => p (l.getD k 0)) = l.any p := by
  have : (List.range l.length).any (fun k => p (l.getD k 0)) = ((List.range l.length).map fun k => l.getD k 0).any p := by
    rw [List.any_map]
    rfl
  rw [this, map_getD]
theorem stp1_len (U : List (List Nat)) (i : Nat) : (stp1 U i).length ≤ (U.getD i []).length := by
  unfold stp1
  rw [List.length_map]
  exact List.length_filter_le _ _
theorem stps_len {U : List (List Nat)} {n0 : Nat} (h : ∀ j, j < n0 → (U.getD j []).length ≤ 6) : ∀ n, n ≤ n0 → ((List.range n).flatMap (stp1 U)).length ≤ 6 * n
  | 0, _ => by simp
  | n + 1, hn => by
    rw [stp_take, List.length_append]
    have := stps_len h n (by omega)
    have := stp1_len U n
    have := h n (by omega)
    omega
theorem fn_steps_by {f : Addr} {fd : FuncData} (B : Bi mg) (F : Fun K "steps_by" "steps_by" s_steps_by f fd) : FnOk P w K mg base (L2.CX P w) 1 f fd ["upward"] (nn (sp_steps_by O)) := by
  refine fn_w F sc_steps_by (fun vs H Q h => ?_) fun cdv A outer s H vs Q E hr h => ?_
  · obtain ⟨v, U, rfl, _⟩ := h
    rfl
  · obtain ⟨v, U, rfl, d, hU, R, q⟩ := h
    -- found = []
    refine wS_cons (w1_set 1 sc_steps_by.nd rfl (.inl rfl) rfl (.inl rfl) (lst0 fun fo nf => ?_))
    have m0 : Ex O nA H (upd H fo (.lst [])) := .new nf
    have d0 : LsAt (· = fo) (upd H fo (.lst [])) v (U.map eNs) := (d.one nf).mono (O := O) (.new nf)
    -- for low, above in enumerate(upward)
    refine wS_cons (w1_for (O := O) (A := (· = fo)) (ds := eEn (U.map eNs)) .never rfl (by intro _; rfl) (src_enumL (by rfl) B.enumerate (by rfl) (nm 0 ⟨.refl _, d0⟩)) fun H2 m2 => ?_)
    have h2 : H2 fo = some (.lst []) := m2.cel _ _ upd_same (fun z => z)
    refine ⟨fun n σ' H' => ∃ y2 y3 vs, σ' = [some v, some (.ref fo), y2, y3, none, none] ∧ Ex O (· = fo) H2 H' ∧ H' fo = some (.lst vs) ∧ n ≤ U.length ∧ DtA H' vs (((List.range n).flatMap (stp1 U)).map ePr),
      ⟨none, none, [], rfl, .refl _, h2, Nat.zero_le _, .nil⟩, fun i σ' H' p => ?_, fun i σ' H' Hb p sm => ?_, fun i d' x σ' H' e1 p dx => ?_, fun σ' H' p => ?_⟩
    · obtain ⟨_, _, _, _, m, _⟩ := p
      exact m
    · obtain ⟨y2, y3, vs, e, m, h, l, dd⟩ := p
      exact ⟨y2, y3, vs, e, m.trans (.same sm), sm _ _ h, l, dd.mono (.same sm)⟩
    · obtain ⟨y2, y3, vs, rfl, m, h, l, dd⟩ := p
      have hi : i < (U.map eNs).length := by
        have := (List.getElem?_eq_some_iff.mp e1).1
        rwa [eEn_len] at this
      have e2 : (U.map eNs)[i]? = some ((U.map eNs)[i]) := List.getElem?_eq_getElem hi
      obtain ⟨g1, g2⟩ := rowAt e2
      rw [eEn_get e2, g2] at e1
      cases e1
      have hU' : Ls H' v (U.map eNs) := ((d0.mono (m2.mono fun _ z => z.elim)).mono m).ls
      have hrow := eNs_map (U.getD i [])
      have hlen := row_len R g1 hU
      refine wG_pair 2 3 rfl sc_steps_by.nd rfl rfl (.inr rfl) (.inr rfl) (.inl rfl) (.inl rfl) dx rfl rfl rfl rfl fun u w' du dw => ?_
      rw [du.int_inv]
      refine wS_one (w1_expr rfl (extend (nm 1 ⟨fo, vs, rfl, h, ?_⟩)))
      refine wE_lcN (O := O) (i := 4) (x := "high") rfl sc_steps_by.nd (by intro _; rfl) (blkOk_by (N := n_steps_by) (sc := defScope s_steps_by) (by decide +kernel)) (fun _ _ _ _ _ => pg_name sc_steps_by.nd rfl (Or.inr rfl))
        (src_tup (nm 3 ⟨.refl _, dw⟩)) (by rw [List.length_map]; omega) (fun k d => if (!((U.getD i []).any fun o => decide ((U.getD i []).getD k 0 ∈ U.getD o []))) = true then some (ePr (i, (U.getD i []).getD k 0)) else none) (fun k d' v' Ha e1 ex dv => ?_) fun r H3 us nr ex hl hD => ?_
      · have hk : k < (U.getD i []).length := by
          have := (List.getElem?_eq_some_iff.mp e1).1
          rwa [List.length_map] at this
        have ed := (natAt e1).1
        generalize (U.getD i []).getD k 0 = hh at ed ⊢
        subst ed
        rw [dv.int_inv]
        refine turn_one (k := !((U.getD i []).any fun o => decide (hh ∈ U.getD o []))) (fun s H0 C cl fp => ?_) (fun z => by rw [z]; rfl) fun z H5 m5 s H0 C cl fp => ?_
        · refine wT_not (wT_val (by intro _; rfl) (any_ls rfl B.any ?_))
          refine wE_lcN (O := O) (i := 5) (x := "other") rfl sc_steps_by.nd (by intro _; rfl) (blk_in (N := n_steps_by) (sc := defScope s_steps_by) (by decide +kernel) rfl) (fun _ _ _ _ _ => pg_name sc_steps_by.nd rfl (Or.inl rfl))
            (src_tup (nm 3 ⟨.refl _, dw.mono ex.im⟩)) (by rw [List.length_map]; omega) (fun k _ => some (.bool (decide (hh ∈ U.getD ((U.getD i []).getD k 0) [])))) (fun k2 d2 v2 Hc e2 ex2 dv2 => ?_) fun r2 H4 us2 nr2 ex3 hl2 hD2 => ?_
          · obtain ⟨rfl, hk2⟩ := natAt e2
            have hb := R.bd _ (getD_mem g1) _ hk2
            rw [dv2.int_inv]
            refine turn_nil fun s1 H01 C1 cl1 fp1 => in_t (nm 4 (ix_l (nm 0 (nm 5 ⟨_, _, _, (hU'.mono ex).mono ex2, rfl, atI_nat' (rowGet hb), fun y dy => ?_⟩))))
            rw [eNs_map] at dy
            refine ⟨_, _, rfl, dy, .refl _, _, rfl, ?_⟩
            simp only [mem_cast]
            exact .bl _
          · refine ⟨(List.range (U.getD i []).length).map fun k => decide (hh ∈ U.getD ((U.getD i []).getD k 0) []), .of hl2 ?_, ?_⟩
            · rw [kept_all (g := fun k => .bool (decide (hh ∈ U.getD ((U.getD i []).getD k 0) []))) fun _ _ _ => rfl, List.length_map] at hD2
              rw [List.map_map]
              exact hD2
            · refine ⟨_, rfl, ?_, ex3⟩
              rw [List.any_map]
              exact congrArg (!·) (any_getD (l := U.getD i []) (p := fun o => decide (hh ∈ U.getD o [])))
        · refine tup2 (nm 2 (nm 4 ⟨_, _, .int _, .int _, fun y H6 s6 d6 => ⟨m5.trans (.same s6), _, ?_, d6⟩⟩))
          rw [if_pos z]
          rfl
      · have e3 := hD.len
        have e4 : kept (fun k d => if (!((U.getD i []).any fun o => decide ((U.getD i []).getD k 0 ∈ U.getD o []))) = true then some (ePr (i, (U.getD i []).getD k 0)) else none) (List.map eN (U.getD i [])) (List.map eN (U.getD i [])).length = (stp1 U i).map ePr := by
          rw [kept_fil' (f := fun h => ePr (i, h)) (c := fun h => !((U.getD i []).any fun o => decide (h ∈ U.getD o []))) fun n a e => by rw [getD_of e]]
          unfold stp1
          rw [List.map_map]
          rfl
        have e5 := hD.len
        have e6 := dd.len
        rw [e4] at hD e5
        refine ⟨vs, r, us, ex.cel _ _ h (fun z => z), rfl, hl, ?_, ?_⟩
        · rw [e5, e6, List.length_map, List.length_map]
          have := stp1_len U i
          have := stps_len (U := U) (fun j hj => row_len R (by omega) hU) i (Nat.le_of_lt g1)
          omega
        · have i1 := Im.lst (o := .lst (vs ++ us)) (ex.cel _ _ h (fun z => z))
          refine ⟨_, _, vs ++ us, rfl, (m.trans (ex.mono fun _ z => z.elim)).trans (Ex.atA rfl (ex.cel _ _ h (fun z => z))), upd_same, g1, ?_⟩
          rw [stp_take, List.map_append]
          exact ((dd.mono ex.im).mono i1).app (hD.mono i1)
    · obtain ⟨y2, y3, vs, rfl, m, h, l, dd⟩ := p
      rw [eEn_len, List.length_map] at dd
      refine wS_one (w1_ret (tup_ls B.tuple (sorted_same B.sorted (nm 1 ⟨stp U, .of h dd, stp_asc R, fun l2 us nl du => ?_⟩))))
      refine ⟨_, .of upd_same du, fun y H3 sm dy => q H3 y ?_ dy⟩
      exact ((m0.trans m2).glue m fun p hp => .inl (hp ▸ nf)).trans ((Ex.new nl).trans (.same sm))
end
end Lw
namespace Lw
open PySem PySem.Spec PyProof.Rows L2 NdefX LamX
/-! ## plain: seeking upward -/
/-- pairs as an order of n places has them -/
structure Vs (n : Nat) (ss : Steps) : Prop where
  bd : ∀ p ∈ ss, p.1 < n ∧ p.2 < n
  asc : ss.Pairwise ltP2
  len : ss.length ≤ 100
theorem Vs.nodup {n : Nat} {ss : Steps} (v : Vs n ss) : ss.Nodup := v.asc.imp fun {a b} h e => by
  subst e
  unfold ltP2 at h
  omega
/-- what is new at x, S seen -/
def fresh (ss : Steps) (x : Nat) (S : List Nat) : List Nat := (ss.filter fun q => decide (q.1 = x) && !decide (q.2 ∈ S)).map (·.2)
theorem mem_fresh {ss : Steps} {x h : Nat} {S : List Nat} : h ∈ fresh ss x S ↔ (x, h) ∈ ss ∧ h ∉ S := by
  unfold fresh
  simp only [List.mem_map, List.mem_filter, Bool.and_eq_true, decide_eq_true_eq, Bool.not_eq_true', decide_eq_false_iff_not]
  constructor
  · rintro ⟨⟨a, b⟩, ⟨h1, h2, h3⟩, h4⟩
    simp only at h2 h4 h3
    subst h2 h4
    exact ⟨h1, h3⟩
  · rintro ⟨h1, h2⟩
    exact ⟨(x, h), ⟨h1, rfl, h2⟩, rfl⟩
theorem nodup_fresh {n : Nat} {ss : Steps} {x : Nat} {S : List Nat} (v : Vs n ss) : (fresh ss x S).Nodup := by
  unfold fresh
  rw [List.Nodup, List.pairwise_map]
  refine List.Pairwise.imp_of_mem ?_ (List.Pairwise.filter _ v.asc)
  intro a b ha hb h e
  have h1 := (List.mem_filter.mp ha).2
  have h2 := (List.mem_filter.mp hb).2
  simp only [Bool.and_eq_true, decide_eq_true_eq] at h1 h2
  unfold ltP2 at h
  omega
/-- how far the seeking is: S seen from p, a of p :: S looked at -/
structure Sk (n : Nat) (ss : Steps) (p a : Nat) (S : List Nat) : Prop where
  nd : S.Nodup
  tc : ∀ x ∈ S, TC ss p x
  le : a ≤ S.length + 1
  cl : ∀ i x h, i < a → (p :: S)[i]? = some x → (x, h) ∈ ss → h ∈ S
theorem tc_bd {n : Nat} {ss : Steps} (v : Vs n ss) {p q : Nat} (h : TC ss p q) : q < n := by
  cases h with
  | base h => exact (v.bd _ h).2
  | step _ h => exact (v.bd _ h).2
theorem Sk.len {n : Nat} {ss : Steps} (v : Vs n ss) {p a : Nat} {S : List Nat} (k : Sk n ss p a S) : S.length ≤ n := by
  have := List.Nodup.length_le_of_subset k.nd (l₂ := List.range n) fun x hx => List.mem_range.mpr (tc_bd v (k.tc x hx))
  rwa [List.length_range] at this
theorem Sk.zero {n : Nat} {ss : Steps} {p : Nat} : Sk n ss p 0 [] := ⟨List.nodup_nil, fun _ h => absurd h (by simp), by simp, fun i x h hi _ _ => absurd hi (by omega)⟩
theorem Sk.next {n : Nat} {ss : Steps} (v : Vs n ss) {p a x : Nat} {S : List Nat} (k : Sk n ss p a S) (h : (p :: S)[a]? = some x) : Sk n ss p (a + 1) (S ++ fresh ss x S) := by
  have ha : a < (p :: S).length := (List.getElem?_eq_some_iff.mp h).1
  refine ⟨?_, ?_, ?_, ?_⟩
  · rw [List.nodup_append]
    refine ⟨k.nd, nodup_fresh v, fun y hy z hz e => ?_⟩
    subst e
    exact (mem_fresh.mp hz).2 hy
  · intro y hy
    rcases List.mem_append.mp hy with hy | hy
    · exact k.tc y hy
    · have e := (mem_fresh.mp hy).1
      match a, h with
      | 0, h =>
        simp at h
        subst h
        exact .base e
      | a + 1, h =>
        have : x ∈ S := List.mem_of_getElem? (by simpa using h)
        exact .step (k.tc x this) e
  · rw [List.length_append]
    rw [List.length_cons] at ha
    omega
  · intro i y z hi e1 e2
    rw [List.mem_append]
    by_cases hia : i < a
    · have e3 : (p :: S)[i]? = some y := by
        rw [← List.cons_append, List.getElem?_append_left (by omega)] at e1
        exact e1
      exact .inl (k.cl i y z hia e3 e2)
    · obtain rfl : i = a := by omega
      rw [← List.cons_append, List.getElem?_append_left ha, h] at e1
      cases e1
      by_cases hz : z ∈ S
      · exact .inl hz
      · exact .inr (mem_fresh.mpr ⟨e2, hz⟩)
theorem Sk.all {n : Nat} {ss : Steps} {p a : Nat} {S : List Nat} (k : Sk n ss p a S) (h : a = S.length + 1) {x : Nat} (t : TC ss p x) : x ∈ S := by
  induction t with
  | base e => exact k.cl 0 p _ (by omega) rfl e
  | step _ e ih =>
    obtain ⟨i, hi, e1⟩ := List.mem_iff_getElem.mp ih
    exact k.cl (i + 1) _ _ (by omega) (by rw [List.getElem?_cons_succ, List.getElem?_eq_getElem hi, e1]) e
theorem Sk.perm {n : Nat} {ss : Steps} (v : Vs n ss) {p a : Nat} {S : List Nat} (k : Sk n ss p a S) (h : a = S.length + 1) : S.Perm (upw n ss p) := by
  refine (List.perm_ext_iff_of_nodup k.nd ?_).mpr fun x => ?_
  · exact (List.Pairwise.filter _ List.pairwise_lt_range).imp fun h => Nat.ne_of_lt h
  · rw [mem_upw]
    exact ⟨fun z => ⟨tc_bd v (k.tc x z), k.tc x z⟩, fun z => k.all h z.2⟩
theorem Sk.sorted {n : Nat} {ss : Steps} (v : Vs n ss) {p a : Nat} {S : List Nat} (k : Sk n ss p a S) (h : a = S.length + 1) {ys : List Int} (e : ys.Perm (S.map fun n : Nat => (n : Int))) (hs : ys.Pairwise (· ≤ ·)) : ys = (upw n ss p).map fun n : Nat => (n : Int) := by
  have e2 : ys.Perm ((upw n ss p).map fun n : Nat => (n : Int)) := e.trans ((k.perm v h).map _)
  refine e2.eq_of_pairwise (le := (· ≤ ·)) (fun a b _ _ h1 h2 => Int.le_antisymm h1 h2) hs ?_
  rw [List.pairwise_map]
  exact (List.Pairwise.filter _ List.pairwise_lt_range).imp fun {a b} h => by omega
end Lw
namespace Lw
open PySem PySem.Spec PyProof.Rows L2 NdefX LamX
section
variable {P : Program} {w : World} {K : PySem.W.Frag} {mg : Str → Option Value} {base : Heap} {O : Prm}
abbrev s_upward_by : Stmt := topS 17
abbrev n_upward_by : List Str := ["places", "pairs", "found", "place", "seen", "line", "at", "fresh", "low", "high"]
theorem sc_upward_by : FnScope n_upward_by ["places", "pairs"] (defScope s_upward_by) := ⟨rfl, rfl, rfl, by decide +kernel, rfl, by decide +kernel, by decide +kernel⟩
def sp_upward_by (O : Prm) : Spn := fun vs H Q => ∃ (n : Nat) (v : V) (ss : Steps), vs = [.int (n : Int), v] ∧ Dt H v (ePs ss) ∧ n ≤ 6 ∧ Lw.Vs n ss ∧ ∀ H' l us, H l = none → Ex O nA H H' → H' l = some (.lst us) → DtA H' us ((upL n ss).map eNs) → Q (.ref l) H'
theorem upL_take {n : Nat} {ss : Steps} {i : Nat} (h : i < n) : ((upL n ss).map eNs).take (i + 1) = ((upL n ss).map eNs).take i ++ [eNs (upw n ss i)] := by
  rw [List.take_add_one]
  congr 1
  rw [List.getElem?_map]
  unfold upL
  simp [h]
theorem cat_l {X : Cx} {σ : L2.St} {H : Hp} {Q : VK} {pos : Pos} {a b : Expr} (q : wE X a σ H fun v H1 => wE X b σ H1 fun u H2 => ∃ l r xs zs, v = .ref l ∧ u = .ref r ∧ H2 l = some (.lst xs) ∧ H2 r = some (.lst zs) ∧ xs.length + zs.length ≤ 1000000 ∧ ∀ p, H2 p = none → Q (.ref p) (upd H2 p (.lst (xs ++ zs)))) : wE X (.BinOp a .Add b pos) σ H Q := by
  refine wE_op op_cat (wE_mono q fun v H1 q => wE_mono q fun u H2 q => ?_)
  obtain ⟨l, r, xs, zs, h1, h2, h3, h4, h5, q⟩ := q
  exact ⟨l, r, xs, zs, h1, h2, h3, h4, by rw [sizeLine_eq]; omega, q⟩
theorem kTrue_get {S : List Nat} {h : Nat} : (valV (kTrue (S.map fun n : Nat => (n : Int))) (Sum.inl (h : Int))).isSome = decide (h ∈ S) := by
  rw [valV_kTrue]
  by_cases z : h ∈ S
  · rw [if_pos (mem_cast.mpr z), decide_eq_true z]
    rfl
  · rw [if_neg (fun y => z (mem_cast.mp y)), decide_eq_false z]
    rfl
theorem dec_nat {a b : Nat} : decide ((a : Int) = (b : Int)) = decide (a = b) := by
  by_cases h : a = b
  · subst h
    simp
  · rw [decide_eq_false h, decide_eq_false (show ¬ (a : Int) = (b : Int) by omega)]
theorem prAt {l : Steps} {k : Nat} {d : PyData} (h : (l.map ePr)[k]? = some d) : d = ePr (l.getD k (0, 0)) ∧ l.getD k (0, 0) ∈ l := by
  have hk : k < l.length := by
    have := (List.getElem?_eq_some_iff.mp h).1
    rwa [List.length_map] at this
  rw [List.getElem?_map, List.getElem?_eq_getElem hk] at h
  have e3 : l.getD k (0, 0) = l[k] := by simp [hk]
  rw [e3]
  exact ⟨(Option.some.inj h).symm, List.getElem_mem hk⟩
theorem prGet {l : Steps} {k : Nat} {a : Nat × Nat} (h : l[k]? = some a) : l.getD k (0, 0) = a := by simp [h]
theorem fn_upward_by {f : Addr} {fd : FuncData} (B : Bi mg) (F : Fun K "upward_by" "upward_by" s_upward_by f fd) : FnOk P w K mg base (L2.CX P w) 1 f fd ["places", "pairs"] (nn (sp_upward_by O)) := by
  refine fn_w F sc_upward_by (fun vs H Q h => ?_) fun cdv A outer s H vs Q E hr h => ?_
  · obtain ⟨n, v, ss, rfl, _⟩ := h
    rfl
  · obtain ⟨n, v, ss, rfl, dv, hn, vv, q⟩ := h
    refine wS_cons (w1_set 2 sc_upward_by.nd rfl (.inl rfl) rfl (.inl rfl) (lst0 fun fo nf => ?_))
    have m0 : Ex O nA H (upd H fo (.lst [])) := .new nf
    refine wS_cons (w1_for (O := O) (A := (· = fo)) (ds := eRg n) .never rfl (by intro _; rfl) (src_range (by rfl) B.range (by rfl) (nm 0 ⟨.refl _, rfl⟩) (by omega)) fun H2 m2 => ?_)
    have h2 : H2 fo = some (.lst []) := m2.cel _ _ upd_same (fun z => z)
    refine ⟨fun i σ' H' => ∃ y3 y4 y5 y6 y7 vs, σ' = [some (.int (n : Int)), some v, some (.ref fo), y3, y4, y5, y6, y7, none, none] ∧ Ex O (· = fo) H2 H' ∧ H' fo = some (.lst vs) ∧ i ≤ n ∧ DtA H' vs (((upL n ss).map eNs).take i),
      ⟨none, none, none, none, none, [], rfl, .refl _, h2, Nat.zero_le _, .nil⟩, fun i σ' H' p => ?_, fun i σ' H' Hb p sm => ?_, fun i d' x σ' H' e1 p dx => ?_, fun σ' H' p => ?_⟩
    · obtain ⟨_, _, _, _, _, _, _, m, _⟩ := p
      exact m
    · obtain ⟨y3, y4, y5, y6, y7, vs, e, m, h, l, dd⟩ := p
      exact ⟨y3, y4, y5, y6, y7, vs, e, m.trans (.same sm), sm _ _ h, l, dd.mono (.same sm)⟩
    · obtain ⟨y3, y4, y5, y6, y7, vs, rfl, m, h, l, dd⟩ := p
      have hi : i < n := by
        have := (List.getElem?_eq_some_iff.mp e1).1
        rwa [eRg_len] at this
      rw [eRg_get hi] at e1
      cases e1
      rw [dx.int_inv]
      refine wG_name 3 sc_upward_by.nd rfl (.inl rfl) (.inl rfl) ?_
      -- seen, line, at = {}, [place], 0
      refine wS_cons (w1_set3 4 5 6 sc_upward_by.nd (dct0 fun se ns => lst1 (nm 3 fun li nl => wE_int fun tt nt => ?_)))
      have md : Ex O nA H' (upd (upd (upd H' se (.dK [])) li (.lst [.int (i : Int)])) tt (.tup [.ref se, .ref li, .int 0])) := ((Ex.new ns).trans (.new nl)).trans (.new nt)
      have dv' : Dt H' v (ePs ss) := dv.mono ((m0.trans m2).im.trans m.im)
      have hse : (upd (upd (upd H' se (.dK [])) li (.lst [.int (i : Int)])) tt (.tup [.ref se, .ref li, .int 0])) se = some (.dK []) := same_new nt _ _ (same_new nl _ _ upd_same)
      have hli : (upd (upd (upd H' se (.dK [])) li (.lst [.int (i : Int)])) tt (.tup [.ref se, .ref li, .int 0])) li = some (.lst [.int (i : Int)]) := same_new nt _ _ upd_same
      generalize (upd (upd (upd H' se (.dK [])) li (.lst [.int (i : Int)])) tt (.tup [.ref se, .ref li, .int 0])) = H3 at md hse hli ⊢
      refine wS_cons (w1_while .never (fun k σ3 H4 => ∃ (a : Nat) (S : List Nat) (lx : Addr) (z7 : Option L2.V), k = n + 1 - a ∧ σ3 = [some (.int (n : Int)), some v, some (.ref fo), some (.int (i : Int)), some (.ref se), some (.ref lx), some (.int (a : Int)), z7, none, none] ∧ Ex O nA H' H4 ∧ H4 se = some (.dK (kTrue (S.map fun n : Nat => (n : Int)))) ∧ H4 lx = some (.lst ((i :: S).map fun n : Nat => .int (n : Int))) ∧ Sk n ss i a S) (n + 1) ?_ ?_)
      · exact ⟨0, [], li, y7, rfl, rfl, md, hse, hli, .zero⟩
      · rintro k σ3 H4 ⟨a, S, lx, z7, rfl, rfl, m4, hS, hL, sk⟩
        have hx : H4 lx = some (.lst (((i :: S).map fun n : Nat => (n : Int)).map V.int)) := by
          rw [hL, List.map_map]
          rfl
        have dL : Ls H4 (.ref lx) (((i :: S).map fun n : Nat => (n : Int)).map PyData.int) := .of hx (DtA.ints _)
        refine tlt_int (nm 6 (len_ls B.len (nm 5 ⟨_, dL, _, _, rfl, rfl, ?_⟩)))
        rw [List.length_map, List.length_map]
        by_cases hlt : a < (i :: S).length
        · rw [decide_eq_true (show (a : Int) < ((i :: S).length : Int) by omega), if_pos rfl]
          have hSl := sk.len vv
          have hgx : (i :: S)[a]? = some ((i :: S)[a]) := List.getElem?_eq_getElem hlt
          generalize (i :: S)[a] = x at hgx
          refine ⟨_, fun σ' H'' p => ⟨n + 1 - (a + 1), by rw [List.length_cons] at hlt; omega, a + 1, p⟩, ?_⟩
          refine wS_cons (w1_setLcP (O := O.p) (i := 8) (j := 9) (x := "low") (y := "high") 7 (by decide) rfl sc_upward_by.nd rfl rfl rfl (by intro _; rfl) (blkOk_by (N := n_upward_by) (sc := defScope s_upward_by) (by decide +kernel)) (fun _ _ _ _ _ => pg_tup rfl (pgs_cons (pg_name sc_upward_by.nd rfl (Or.inl rfl)) (pgs_cons (pg_name sc_upward_by.nd rfl (Or.inl rfl)) pgs_nil)))
            (src_tup (nm 1 ⟨.refl _, dv'.mono m4.im⟩)) (by rw [List.length_map]; have := vv.len; omega) (fun k _ => if (decide ((ss.getD k (0, 0)).1 = x) && !decide ((ss.getD k (0, 0)).2 ∈ S)) = true then some (eN (ss.getD k (0, 0)).2) else none) (fun k d' v' Ha e1 ex dv => ?_) fun r H5 us nr ex hl hD => ?_)
          · obtain ⟨e2, e3⟩ := prAt e1
            subst e2
            generalize ss.getD k (0, 0) = qq at e3 dv ⊢
            refine ⟨_, _, rfl, fun u w' du dw => ?_⟩
            rw [du.int_inv, dw.int_inv]
            refine turn_one (k := decide (qq.1 = x) && !decide (qq.2 ∈ S)) (fun s H0 C cl fp => ?_) (fun z => by rw [z]; rfl) fun z H6 m6 s H0 C cl fp => ?_
            · refine and2v (k := decide (qq.1 = x)) (l := !decide (qq.2 ∈ S)) (teq_int (nm 8 (ix_l (nm 5 (nm 6 ⟨_, _, _, dL.mono ex, rfl, atI_nat' (z := .int (x : Int)) ?_, fun y dy => ⟨_, _, rfl, dy.int_inv, ?_, ?_⟩⟩)))))
              · rw [List.getElem?_map, List.getElem?_map, hgx]
                rfl
              · exact dec_nat
              · have fin : Ex O.p nA Ha Ha := .refl _
                by_cases z : qq.1 = x
                · rw [decide_eq_true z, if_pos rfl]
                  refine tdnin (k := 0) hr (nm 9 (nm 4 ⟨se, _, rfl, .inl ⟨_, .inl (qq.2 : Int), .inl (ex.cel _ _ hS ⟨fun z => z, ?_⟩), rfl, rfl⟩, ?_⟩))
                  · exact .inl True.intro
                  · rw [kTrue_get]
                    exact ⟨rfl, rfl, fin⟩
                · rw [decide_eq_false z, if_neg Bool.false_ne_true]
                  exact ⟨rfl, fin⟩
            · refine nm 9 ⟨m6, _, ?_, .int _⟩
              rw [if_pos z]
              rfl
          · have e4 : kept (fun k _ => if (decide ((ss.getD k (0, 0)).1 = x) && !decide ((ss.getD k (0, 0)).2 ∈ S)) = true then some (eN (ss.getD k (0, 0)).2) else none) (ss.map ePr) (ss.map ePr).length = (fresh ss x S).map eN := by
              rw [kept_fil' (f := fun q => eN q.2) (c := fun q => decide (q.1 = x) && !decide (q.2 ∈ S)) fun n a e => by rw [prGet e]]
              unfold fresh
              rw [List.map_map]
              rfl
            rw [e4] at hD
            have hS5 : H5 se = some (.dK (kTrue (S.map fun n : Nat => (n : Int)))) := ex.cel _ _ hS ⟨fun z => z, .inl True.intro⟩
            have hL5 := ex.cel _ _ hx (fun z => z)
            have m5 : Ex O nA H' H5 := m4.trans ex.wk
            have sk2 := sk.next vv hgx
            have hl2 := sk2.len vv
            rw [List.length_append] at hl2
            refine wS_cons (w1_expr rfl (update (nm 4 ⟨se, rfl, ⟨_, hS5⟩, ?_⟩)))
            refine wE_dcT (O := O.p) (i := 9) (x := "high") rfl sc_upward_by.nd (by intro _; rfl) (blkOk_by (N := n_upward_by) (sc := defScope s_upward_by) (by decide +kernel)) (fun _ _ _ _ _ => pg_name sc_upward_by.nd rfl (Or.inl rfl))
              (src_list (nm 7 ⟨.refl _, .of hl hD⟩)) (by omega) (nodup_fresh vv) (fun n Ha Q q s H0 C cl fp => nm 9 q) (fun n Ha Q q s H0 C cl fp => wE_bl q) fun dp H6 nd6 ex6 h6 => ?_
            have hS6 := ex6.cel _ _ hS5 ⟨fun z => z, .inl True.intro⟩
            have hL6 := ex6.cel _ _ hL5 (fun z => z)
            have hl6 := ex6.cel _ _ hl (fun z => z)
            have m6 : Ex O nA H' H6 := m5.trans ex6.wk
            have sd : se ≠ dp := fun z => by rw [z, nd6] at hS5; cases hS5
            refine ⟨dp, _, _, rfl, sd, hS6, h6, ?_, ?_⟩
            · unfold kTrue
              simp only [List.length_map]
              omega
            · have hh : ∀ z ∈ (fresh ss x S).map (fun n : Nat => (n : Int)), z ∉ S.map fun n : Nat => (n : Int) := by
                intro z hz hz2
                obtain ⟨c, hc, rfl⟩ := List.mem_map.mp hz
                exact (mem_fresh.mp hc).2 (mem_cast.mp hz2)
              have hnd : ((fresh ss x S).map fun n : Nat => (n : Int)).Nodup := by
                rw [List.Nodup, List.pairwise_map]
                exact (nodup_fresh vv).imp fun h e => h (Int.ofNat.inj e)
              rw [merge_kTrue hh hnd, ← List.map_append]
              have m7 : Ex O nA H' (upd H6 se (.dK (kTrue ((S ++ fresh ss x S).map fun n : Nat => (n : Int))))) := m6.own ns hS6 (fun _ z => by cases z) (fun _ _ z => by cases z) (fun _ z => by cases z) (fun _ z => by unfold CodeO at z; cases z)
              have n1 : lx ≠ se := fun z => by rw [z, hS6] at hL6; cases hL6
              have n2 : r ≠ se := fun z => by rw [z, hS6] at hl6; cases hl6
              have hL7 : (upd H6 se (.dK (kTrue ((S ++ fresh ss x S).map fun n : Nat => (n : Int))))) lx = some (.lst (((i :: S).map fun n : Nat => (n : Int)).map V.int)) := by rw [upd_ne n1]; exact hL6
              have hl7 : (upd H6 se (.dK (kTrue ((S ++ fresh ss x S).map fun n : Nat => (n : Int))))) r = some (.lst us) := by rw [upd_ne n2]; exact hl6
              have hS7 : (upd H6 se (.dK (kTrue ((S ++ fresh ss x S).map fun n : Nat => (n : Int))))) se = some (.dK (kTrue ((S ++ fresh ss x S).map fun n : Nat => (n : Int)))) := upd_same
              generalize (upd H6 se (.dK (kTrue ((S ++ fresh ss x S).map fun n : Nat => (n : Int))))) = H7 at m7 hL7 hl7 hS7 ⊢
              have eus : us = ((fresh ss x S).map fun n : Nat => (n : Int)).map V.int := DtA.ints_inv (ns := (fresh ss x S).map fun n : Nat => (n : Int)) (H := H5) (by rw [List.map_map]; exact hD)
              refine wS_one (w1_set2 5 6 sc_upward_by.nd (cat_l (nm 5 (nm 7 ⟨lx, r, _, _, rfl, rfl, hL7, hl7, ?_, fun l8 n8 => ?_⟩))))
              · rw [eus]
                simp only [List.length_map, List.length_cons]
                omega
              · refine add_int' (nm 6 (wE_int ⟨_, _, rfl, rfl, fun t9 n9 => ?_⟩))
                refine ⟨_, l8, _, rfl, rfl, (m7.trans (.new n8)).trans (.new n9), same_new n9 _ _ (same_new n8 _ _ hS7), ?_, sk2⟩
                refine same_new n9 _ _ ?_
                rw [upd_same, eus, ← List.map_append, ← List.map_append, List.map_map]
                rfl
        · rw [decide_eq_false (show ¬ (a : Int) < ((i :: S).length : Int) by omega), if_neg Bool.false_ne_true]
          have hSl := sk.len vv
          have ea : a = S.length + 1 := by
            have := sk.le
            rw [List.length_cons] at hlt
            omega
          have hf4 : H4 fo = some (.lst vs) := m4.cel _ _ h (fun z => z)
          refine wS_one (w1_expr rfl (append (nm 2 ⟨fo, vs, rfl, hf4, ?_⟩)))
          refine tup_ls B.tuple (sorted_dki rfl B.sorted (nm 4 ⟨se, _, rfl, hS, by rw [List.length_map]; omega, fun ys p9 hp hy n9 => ?_⟩))
          have ey := sk.sorted vv ea hp hy
          subst ey
          refine ⟨_, .of upd_same (DtA.ints _), fun y H9 s9 dy => ?_⟩
          have m9 : Ex O nA H' H9 := (m4.trans (.new n9)).trans (.same s9)
          have hf9 : H9 fo = some (.lst vs) := m9.cel _ _ h (fun z => z)
          refine ⟨vs, hf9, by have := dd.len; rw [List.length_take] at this; omega, ?_⟩
          have i9 := Im.lst (o := .lst (vs ++ [y])) hf9
          refine ⟨_, _, _, _, _, vs ++ [y], rfl, (m.trans (m9.mono fun _ z => z.elim)).trans (Ex.atA rfl hf9), upd_same, hi, ?_⟩
          rw [upL_take hi]
          refine ((dd.mono m9.im).mono i9).snoc ?_
          rw [eNs_map]
          exact dy.mono i9
    · obtain ⟨y3, y4, y5, y6, y7, vs, rfl, m, h, l, dd⟩ := p
      rw [eRg_len] at dd
      refine wS_one (w1_ret (nm 2 (q H' fo vs nf ?_ h ?_)))
      · exact (m0.trans m2).glue m fun p hp => .inl (hp ▸ nf)
      · have : ((upL n ss).map eNs).take n = (upL n ss).map eNs := List.take_of_length_le (by rw [List.length_map, upL_len]; exact Nat.le_refl _)
        rw [this] at dd
        exact dd
end
end Lw
namespace Lw
open PySem PySem.Spec PyProof.Rows L2 NdefX LamX
section
variable {X : Cx} {σ : L2.St} {H : Hp} {Q : VK} {QT : Bool → Hp → Prop} {pos p2 : Pos} {a b : Expr}
/-- t[:i] -/
theorem slice_to (q : wE X a σ H fun v H1 => wE X b σ H1 fun u H2 => ∃ (ds : List PyData) (n : Nat), Dt H2 v (.tuple ds) ∧ u = .int (n : Int) ∧ n ≤ ds.length ∧ ∀ y H3, Sm H2 H3 → Dt H3 y (.tuple (ds.take n)) → Q y H3) : wE X (.Subscript a (.Slice none (some b) none p2) pos) σ H Q := by
  refine wE_of (pe_slice sl_tupA wE_pe po_none (po_some wE_pe)) (wE_mono q fun v H1 q => ?_)
  show wE X b σ H1 _
  refine wE_mono q fun u H2 qq => ?_
  obtain ⟨ds, n, d, rfl, hn, qf⟩ := qq
  obtain ⟨t, xs, rfl, h1, h2⟩ := d.tup_inv
  have hl := h2.len
  have e0 : HT.sIx xs.length 0 none = 0 := rfl
  have e1 : HT.sIx xs.length xs.length (some (n : Int)) = n := by rw [HT.sIx_nat]; omega
  refine ⟨_, rfl, t, xs, rfl, .inl (.inl h1), fun h => ?_, fun h p np => ?_⟩
  · have : n = ds.length := by omega
    refine qf _ _ (fun _ _ z => z) ?_
    rw [this, List.take_length]
    exact d
  · refine qf _ _ (same_new np) ?_
    have e : cutV xs none (some (n : Int)) = xs.take n := by
      unfold cutV
      rw [e0, e1]
      rfl
    rw [e]
    exact .new np (h2.take n)
/-- (a, b) < (c, d) -/
theorem lt_pr (hr : Room 0 X.A) (q : wE X a σ H fun v H1 => wE X b σ H1 fun u H2 => ∃ p r : Nat × Nat, Dt H2 v (ePr p) ∧ Dt H2 u (ePr r) ∧ (ltP2 p r → Q (.bl true) H2) ∧ (¬ ltP2 p r → Q (.bl false) H2)) (hm : behindInMarks CmpOp.Lt b = false := by exact nomark _) : wE X (.Compare a [.Lt] [b] pos) σ H Q := by
  refine wE_cmp (op_ltT hr.units0) hm (wE_mono q fun v H1 q => wE_mono q fun u H2 q => ?_)
  obtain ⟨p, r, d1, d2, q1, q2⟩ := q
  obtain ⟨s, xs, rfl, h1, h2⟩ := d1.tup_inv
  obtain ⟨t, ys, rfl, h3, h4⟩ := d2.tup_inv
  have e1 := h2.ints_inv (ns := [(p.1 : Int), (p.2 : Int)])
  have e2 := h4.ints_inv (ns := [(r.1 : Int), (r.2 : Int)])
  subst e1 e2
  refine ⟨s, t, _, _, rfl, rfl, .inl (.inl h1), .inl (.inl h3), ?_⟩
  have e : HT.lexLt [(p.1 : Int), (p.2 : Int)] [(r.1 : Int), (r.2 : Int)] = true ↔ ltP2 p r := by
    unfold HT.lexLt HT.lexLt HT.lexLt ltP2
    by_cases h : p.1 = r.1
    · rw [if_pos (by omega)]
      by_cases h2 : p.2 = r.2
      · rw [if_pos (by omega)]
        exact ⟨(fun z => by cases z), (fun z => by omega)⟩
      · rw [if_neg (by omega), decide_eq_true_eq]
        omega
    · rw [if_neg (by omega), decide_eq_true_eq]
      omega
  by_cases h : ltP2 p r
  · rw [e.mpr h]
    exact q1 h
  · rw [Bool.eq_false_iff.mpr fun z => h (e.mp z)]
    exact q2 h
end
section
variable {P : Program} {w : World} {K : PySem.W.Frag} {mg : Str → Option Value} {base : Heap} {O : Prm}
abbrev s_first_wrong : Stmt := topS 10
abbrev n_first_wrong : List Str := ["value", "is_right", "index", "each"]
theorem sc_first_wrong : FnScope n_first_wrong ["value", "is_right"] (defScope s_first_wrong) := ⟨rfl, rfl, rfl, by decide +kernel, rfl, by decide +kernel, by decide +kernel⟩
/-- nothing is found wrong -/
theorem body_first_wrong {X : Cx} {s' : Shared} {H2 : Hp} {g f k : Addr} {cdg : Value} {q : Str} {sp : Spn} {v : V} {ds : List PyData} {Q : VK} (B : Bi X.mg) (L : LamRule (gCx X s' H2 n_first_wrong "first_wrong" (defScope s_first_wrong) g cdg) "is_right" 1 f k q sp)
    (hk : H2 k = some (CodeO k q)) (d : Dt H2 v (.tuple ds)) (hl : ds.length ≤ 1000) (hsp : ∀ i d x H' y (Q : VK), ds[i]? = some d → Ex O nA H2 H' → Dt H' x d → Dt H' y (.tuple (ds.take i)) → (∀ H'', Ex O nA H' H'' → Q (.bl true) H'') → sp [x, y] H' Q)
    (hQ : ∀ H', Ex O nA H2 H' → Q .non H') : wS (gCx X s' H2 n_first_wrong "first_wrong" (defScope s_first_wrong) g cdg) (defBody s_first_wrong) { nx := fun _ H' => Q .non H', rt := Q } (L2.start n_first_wrong [v, .ref f]) H2 := by
  refine wS_cons (w1_for (O := O) (A := nA) (ds := eEn ds) .never rfl (by intro _; rfl) (src_enumT (by rfl) B.enumerate (by rfl) (nm 0 ⟨.refl _, d⟩)) fun H3 m3 => ?_)
  refine ⟨fun i σ' H' => ∃ y2 y3, σ' = [some v, some (.ref f), y2, y3] ∧ Ex O nA H3 H', ⟨none, none, rfl, .refl _⟩, fun i σ' H' p => ?_, fun i σ' H' Hb p sm => ?_, fun i d' x σ' H' e1 p dx => ?_, fun σ' H' p => ?_⟩
  · obtain ⟨_, _, _, m⟩ := p
    exact m
  · obtain ⟨y2, y3, e, m⟩ := p
    exact ⟨y2, y3, e, m.trans (.same sm)⟩
  · obtain ⟨y2, y3, rfl, m⟩ := p
    have hi : i < ds.length := by
      have := (List.getElem?_eq_some_iff.mp e1).1
      rwa [eEn_len] at this
    have e2 : ds[i]? = some ds[i] := List.getElem?_eq_getElem hi
    rw [eEn_get e2] at e1
    cases e1
    have m2 : Ex O nA H2 H' := m3.trans m
    refine wG_pair 2 3 rfl sc_first_wrong.nd rfl rfl (.inl rfl) (.inl rfl) (.inl rfl) (.inl rfl) dx rfl rfl rfl rfl fun u w' du dw => ?_
    rw [du.int_inv]
    refine wS_one (w1_if (wT_not (wT_val (by intro _; rfl) ?_)))
    refine L _ _ _ _ _ _ _ rfl rfl rfl (nm 3 (slice_to (nm 0 (nm 2 ⟨ds, i, d.mono m2.im, rfl, Nat.le_of_lt hi, fun y H4 s4 dy => ?_⟩))))
    have m4 : Ex O nA H2 H4 := m2.trans (.same s4)
    refine ⟨m4.cel _ _ hk True.intro, hsp i _ _ _ _ _ e2 m4 (dw.mono (.same s4)) dy fun H5 m5 => ⟨true, rfl, ?_⟩⟩
    exact iteF (wS_nil ⟨_, _, rfl, (m.trans (.same s4)).trans m5⟩)
  · obtain ⟨y2, y3, rfl, m⟩ := p
    exact wS_one (w1_ret (wE_non (hQ _ (m3.trans m))))
abbrev s_wrong_pair : Stmt := topS 16
theorem sc_wrong_pair : FnScope ["places", "value"] ["places", "value"] (defScope s_wrong_pair) := ⟨rfl, rfl, rfl, by decide +kernel, rfl, by decide +kernel, by decide +kernel⟩
abbrev qLam : Str := "wrong_pair.<locals>.<lambda>"
/-- of pairs in order: nothing wrong -/
def sp_wrong_pair (O : Prm) : Spn := fun vs H Q => ∃ (n : Nat) (v : V) (ss : Steps), vs = [.int (n : Int), v] ∧ Dt H v (ePs ss) ∧ Vs n ss ∧ (∀ p ∈ ss, p.1 ≠ p.2) ∧ Tabs O.T H ∧ ∀ H', Ex O nA H H' → Q .non H'
/-- what the lambda is asked -/
def sp_lam (O : Prm) : L2.St → Spn := fun σ vs H Q => ∃ (n : Nat) (x y : V) (p : Nat × Nat) (ah : Steps), σ[0]? = some (some (.int (n : Int))) ∧ vs = [x, y] ∧ Dt H x (ePr p) ∧ Dt H y (ePs ah) ∧ p.1 < n ∧ p.2 < n ∧ p.1 ≠ p.2 ∧ (∀ r, ah.getLast? = some r → ltP2 r p) ∧ ∀ H', Ex O nA H H' → Q (.bl true) H'
theorem at_last {ah : Steps} {r : Nat × Nat} (h : ah.getLast? = some r) : atI (ah.map ePr) (-1) = some (ePr r) := by
  obtain ⟨l, rfl⟩ := List.getLast?_eq_some_iff.mp h
  rw [List.map_append]
  exact atI_last _ _
theorem fn_wrong_pair {f g c tb : Addr} {fd fdg : FuncData} (B : Bi mg) (D1 : Df P w K mg base 3 "is_pair" (sp_is_pair O)) (Fg : Fun K "first_wrong" "first_wrong" s_first_wrong g fdg) (hg : mg "first_wrong" = some (.ref g)) (TB : TabB base mg c tb) (hT : O.T = [(tb, qLam)])
    (F : Fun K "wrong_pair" "wrong_pair" s_wrong_pair f fd) (hc : fd.code = .ref c) : FnOk P w K mg base (L2.CX P w) 6 f fd ["places", "value"] (nn (sp_wrong_pair O)) := by
  obtain ⟨oc, od, kV, doc, pm, an, cdv, ct, osl, rfl, lk, hcd⟩ := F.ex
  refine fn_of lk hcd sc_wrong_pair (fun vs H Q _ h => ?_) fun A outer s H vs Q E hr h => ⟨_, wS_pss.nox, ?_⟩
  · obtain ⟨n, v, ss, rfl, _⟩ := h
    rfl
  · obtain ⟨n, v, ss, rfl, d, vv, hne, tT, q⟩ := h
    have hc : cdv = .ref c := hc
    subst hc
    refine wS_one (w1_ret ?_)
    refine wE_lamcall (T := O.T) (n := 3) (Ng := n_first_wrong) (Nl := ["pair", "ahead", "places"]) (ps := ["pair", "ahead"]) (frn := ["places"]) (js := [0]) (sp := sp_lam O) Fg hg sc_first_wrong (nscope_by (by decide +kernel)) (ndef_free (sc := defScope s_wrong_pair) (fr := ["places"]) (by decide +kernel)) (ndef_fr (sc := defScope s_wrong_pair) (by decide +kernel)) rfl TB rfl (by rw [hT]; exact List.mem_singleton.mpr rfl) (by rw [hT]; exact fun p hp e => by rw [List.mem_singleton.mp hp]; rfl) hr ?_ ?_
    · intro σ f k A outer s0 H0 vs Q hr h
      obtain ⟨n, x, y, p, ah, hs, rfl, dx, dy, h1, h2, h3, h4, q⟩ := h
      have e0 : slotAt σ 0 = some (.int (n : Int)) := slotAt_of hs
      have e1 : startF ["pair", "ahead", "places"] [x, y] ([0].map (slotAt σ)) = [some x, some y, some (.int (n : Int))] := by
        show [some x, some y] ++ ([slotAt σ 0] ++ _) = _
        rw [e0]
        rfl
      rw [e1]
      refine wE_and (call2 D1 hr (nm 2 (nm 0 ⟨n, _, p, rfl, dx, h1, h2, h3, fun H1 m1 => ⟨true, rfl, iteT (wE_one ?_)⟩⟩)))
      refine wE_or (eq_d hr (nm 1 (tup0 fun l nl => ⟨_, _, 3, 3, ((dy.mono m1.im).mono (.new nl)).dp, (Dt.new nl .nil).dp, fl_ps, fl_tuple (fun _ z => absurd z (by simp)), by decide, by decide, ?_⟩)))
      have ee : PyData.eqv (ePs ah) (.tuple []) = decide (ah = []) := eqv_ps (m := [])
      rw [ee]
      refine ⟨_, rfl, ?_⟩
      by_cases hz : ah = []
      · rw [decide_eq_true hz, if_pos rfl]
        exact q _ (m1.trans (.new nl))
      · rw [decide_eq_false hz, if_neg Bool.false_ne_true]
        have m2 := m1.trans (Ex.new nl (o := .tup []))
        obtain ⟨r, hl⟩ : ∃ r, ah.getLast? = some r := by
          cases e : ah.getLast? with
          | none => exact absurd (List.getLast?_eq_none_iff.mp e) hz
          | some r => exact ⟨r, rfl⟩
        refine wE_one (lt_pr (hr.mono (by decide)) (ix_t (nm 1 ?_)))
        refine wE_un un_neg (wE_int ⟨1, rfl, _, _, _, (dy.mono m2.im), rfl, at_last hl, fun z dz => ?_⟩)
        refine nm 0 ⟨r, p, dz, dx.mono m2.im, fun _ => q _ m2, fun z => absurd (h4 r hl) z⟩
    · refine nm 1 ⟨tT, fun H2 eN dm T2 s' cdg f2 k hr2 L hk => ?_⟩
      have m2 : Ex O nA H H2 := .ofN eN dm T2
      refine body_first_wrong (O := O) B L hk (d.mono m2.im) (by rw [List.length_map]; have := vv.len; omega) (fun i d' x H' y Q' e1 m3 dx dy hq => ?_) fun H3 m3 => q _ (m2.trans m3)
      obtain ⟨e2, e3⟩ := prAt e1
      subst e2
      have hb := vv.bd _ e3
      rw [← List.map_take] at dy
      refine ⟨n, x, y, ss.getD i (0, 0), ss.take i, rfl, rfl, dx, dy, hb.1, hb.2, hne _ e3, fun r hr3 => ?_, hq⟩
      have hi : i < ss.length := by
        have := (List.getElem?_eq_some_iff.mp e1).1
        rwa [List.length_map] at this
      have e4 : ss.getD i (0, 0) = ss[i] := by simp [hi]
      rw [e4]
      obtain ⟨j, hj, rfl⟩ := List.mem_iff_getElem.mp (List.mem_of_getLast? hr3)
      rw [List.length_take] at hj
      rw [List.getElem_take]
      exact List.pairwise_iff_getElem.mp vv.asc j i (by omega) hi (by omega)
end
end Lw
namespace Lw
open PySem PySem.Spec PyProof.Rows L2 NdefX LamX
/-- the pairs are the steps of an order of n places -/
structure Vo (n : Nat) (ss : Steps) : Prop where
  vs : Vs n ss
  lo : 1 ≤ n
  hi : n ≤ 6
  ne : ∀ p ∈ ss, p.1 ≠ p.2
  ring : hasRing (upL n ss) = false
  red : stp (upL n ss) = ss
section
variable {X : Cx} {σ : L2.St} {H : Hp} {Q : VK} {QT : Bool → Hp → Prop} {pos pos' p apos : Pos} {a b value : Expr} {j : Nat} {O : Prm}
/-- a is not None -/
theorem tnotN (q : wE X a σ H fun v H1 => QT (!decide (v = .non)) H1) : wT X (.Compare a [.IsNot] [.Constant .none j pos'] pos) σ H QT := wT_cmp op_notN (by exact nomark _) (wE_mono q fun v H1 q => wE_non ⟨rfl, _, rfl, q⟩)
/-- e.f -/
theorem fld {f : Str} (q : wE X a σ H fun x H1 => ∃ p C dx fs v, x = .ref p ∧ H1 p = some (.ins C dx fs) ∧ Cls X.K C ∧ NoAttr X.K C f ∧ fs.lookup f = some v ∧ Q v H1) (hb : attributeBase a f X.env (eval a X.env) = eval a X.env := by rfl) : wE X (.Attribute a f pos) σ H Q := wE_of (pe_fld wE_pe hb) q
/-- e.f = value -/
theorem w1_fld {f : Str} {D : Ends} (q : wE X value σ H fun y H1 => wE X a σ H1 fun x H2 => ∃ p C dx fs, x = .ref p ∧ H2 p = some (.ins C dx fs) ∧ Cls X.K C ∧ NoAttr X.K C f ∧ fs.length < 1000 ∧ D.nx σ (upd H2 p (.ins C dx (putF f y fs)))) (hs : swapsWith value (some (.Attribute a f pos')) pos.line X.env = pure false := by rfl) :
    w1 X (.Assign [.Attribute a f pos'] value pos) D σ H := w1_of (ps_fld wE_pe wE_pe hs) q
end
section
variable {P : Program} {w : World} {K : PySem.W.Frag} {mg : Str → Option Value} {base : Heap} {O : Prm}
abbrev s_make_order : Stmt := topS 20
theorem sc_make_order : FnScope ["places", "pairs", "upward"] ["places", "pairs"] (defScope s_make_order) := ⟨rfl, rfl, rfl, by decide +kernel, rfl, by decide +kernel, by decide +kernel⟩
def sp_make_order (O : Prm) : Spn := fun vs H Q => ∃ (n : Nat) (v : V) (ss : Steps), vs = [.int (n : Int), v] ∧ Dt H v (ePs ss) ∧ Vo n ss ∧ ∀ H', Ex O nA H H' → Q (.bl true) H'
theorem fn_make_order {f : Addr} {fd : FuncData} (B : Bi mg) (D1 : Df P w K mg base 1 "upward_by" (sp_upward_by O)) (D2 : Df P w K mg base 1 "has_ring" (sp_has_ring O)) (D3 : Df P w K mg base 1 "steps_by" (sp_steps_by O)) (F : Fun K "make_order" "make_order" s_make_order f fd) : FnOk P w K mg base (L2.CX P w) 6 f fd ["places", "pairs"] (nn (sp_make_order O)) := by
  refine fn_w F sc_make_order (fun vs H Q h => ?_) fun cdv A outer s H vs Q E hr h => ?_
  · obtain ⟨n, v, ss, rfl, _⟩ := h
    rfl
  · obtain ⟨n, v, ss, rfl, d, vo, q⟩ := h
    refine wS_cons (w1_set 2 sc_make_order.nd rfl (.inl rfl) rfl (.inl rfl) (call2 D1 hr (nm 0 (nm 1 ⟨n, v, ss, rfl, d, vo.hi, vo.vs, fun H1 l us nl m1 hl dl => ?_⟩))))
    refine wS_one (w1_ret (wE_and (wE_not (call1 D2 hr (nm 2 ⟨_, upL n ss, rfl, .of hl dl, ?_, fun H2 m2 => ⟨_, rfl, _, rfl, ?_⟩⟩)))))
    · rw [upL_len]
      exact vo.hi
    · rw [vo.ring]
      refine iteT (wE_one (eq_d hr (call1 D3 hr (nm 2 ⟨_, upL n ss, rfl, .of (m2.cel _ _ hl fun z => z) (dl.mono m2.im), ?_, rows_upL, fun H3 y m3 dy => ?_⟩))))
      · rw [upL_len]
        exact vo.hi
      · refine tup_tup B.tuple (nm 1 ⟨_, d.mono ((m1.trans m2).trans m3).im, ?_⟩)
        refine ⟨_, _, 3, 3, dy.dp, (d.mono ((m1.trans m2).trans m3).im).dp, fl_ps, fl_ps, by decide, by decide, ?_⟩
        rw [eqv_ps, vo.red, decide_eq_true rfl]
        exact q _ ((m1.trans m2).trans m3)
abbrev s_check_pairs : Stmt := topS 21
theorem sc_check_pairs : FnScope ["places", "pairs", "wrong"] ["places", "pairs"] (defScope s_check_pairs) := ⟨rfl, rfl, rfl, by decide +kernel, rfl, by decide +kernel, by decide +kernel⟩
theorem fn_check_pairs {f : Addr} {fd : FuncData} (B : Bi mg) (D1 : Df P w K mg base 6 "wrong_pair" (sp_wrong_pair O)) (F : Fun K "check_pairs" "check_pairs" s_check_pairs f fd) : FnOk P w K mg base (L2.CX P w) 7 f fd ["places", "pairs"] (nn (sp_wrong_pair O)) := by
  refine fn_w F sc_check_pairs (fun vs H Q h => ?_) fun cdv A outer s H vs Q E hr h => ?_
  · obtain ⟨n, v, ss, rfl, _⟩ := h
    rfl
  · obtain ⟨n, v, ss, rfl, d, vv, ne, tT, q⟩ := h
    refine wS_cons (w1_if (wT_not (wT_val (by intro _; rfl) ?_)))
    refine isi (T := "tuple") (U := "tuple") (r := true) B.isinstance B.tuple (by decide +kernel) (by decide +kernel) (nm 1 ⟨isTup d, true, rfl, ?_⟩)
    refine iteF (wS_nil ?_)
    refine wS_cons (w1_set 2 sc_check_pairs.nd rfl (.inl rfl) rfl (.inl rfl) (call2 D1 hr (nm 0 (nm 1 ⟨n, v, ss, rfl, d, vv, ne, tT, fun H1 m1 => ?_⟩))))
    refine wS_one (w1_if (tnotN (nm 2 ?_)))
    exact iteF (wS_nil (q _ m1))
/-! ### Order -/
abbrev s_init : Stmt := (C8.clsBody (topS 22)).getD 0 (.Pass ⟨0, 0, 0, 0⟩)
theorem sc_init : FnScope ["self", "places", "steps"] ["self", "places", "steps"] (defScope s_init) := ⟨rfl, rfl, rfl, by decide +kernel, rfl, by decide +kernel, by decide +kernel⟩
/-- what the class is known to have -/
structure OCls (K : PySem.W.Frag) (C : Addr) : Prop where
  cls : Cls K C
  n1 : NoAttr K C "places"
  n2 : NoAttr K C "steps"
  n3 : NoAttr K C "kept"
def sp_init (O : Prm) : Spn := fun vs H Q => ∃ (H0 : Hp) (x dx : Addr) (n : Nat) (v : V) (ss : Steps), vs = [.ref x, .int (n : Int), v] ∧ H = upd (upd H0 dx (.own x)) x (.ins O.C dx []) ∧ H0 x = none ∧ H0 dx = none ∧ dx ≠ x ∧ Dt H0 v (ePs ss) ∧ Vo n ss ∧ Tabs O.T H0 ∧ ∀ H' d, H0 d = none → Ex O nA H0 H' → OrdNew O H' (.ref x) n ss d → Q .non H'
theorem fn_init {f : Addr} {fd : FuncData} {dvs : List V} (cl : OCls K O.C) (D1 : Df P w K mg base 3 "is_places" sp_is_places) (D2 : Df P w K mg base 7 "check_pairs" (sp_wrong_pair O)) (D3 : Df P w K mg base 6 "make_order" (sp_make_order O))
    (F : FunD K "__init__" "Order.__init__" (defArgs s_init) (defBody s_init) (defScope s_init) dvs [] f fd) : FnOk P w K mg base (L2.CX P w) 8 f fd ["self", "places", "steps"] (nn (sp_init O)) := by
  refine FunD.ok F sc_init (fun vs H Q _ h => ?_) fun cdv A outer s H vs Q E hr h => ⟨_, wS_pss.nox, ?_⟩
  · obtain ⟨H0, x, dx, n, v, ss, rfl, _⟩ := h
    rfl
  · obtain ⟨H0, x, dx, n, v, ss, rfl, rfl, nx, ndx, hne, d, vo, tT, q⟩ := h
    have n1 : (upd H0 dx (.own x)) x = none := by
      rw [upd_ne (Ne.symm hne)]
      exact nx
    have m0 : Ex O nA H0 (upd (upd H0 dx (.own x)) x (.ins O.C dx [])) := (Ex.new ndx).trans (.new n1)
    have hx : (upd (upd H0 dx (.own x)) x (.ins O.C dx [])) x = some (.ins O.C dx []) := upd_same
    generalize (upd (upd H0 dx (.own x)) x (.ins O.C dx [])) = H1 at m0 hx ⊢
    refine wS_cons (w1_if (wT_not (wT_val (by intro _; rfl) (call1 D1 hr (nm 1 ⟨n, rfl, true && decide (1 ≤ (n : Int) ∧ (n : Int) ≤ 6), rfl, ?_⟩)))))
    rw [decide_eq_true (show 1 ≤ (n : Int) ∧ (n : Int) ≤ 6 from ⟨by have := vo.lo; omega, by have := vo.hi; omega⟩)]
    refine iteF (wS_nil ?_)
    refine wS_cons (w1_expr rfl (call2 D2 hr (nm 1 (nm 2 ⟨n, v, ss, rfl, d.mono m0.im, vo.vs, vo.ne, m0.tab tT, fun H2 m2 => ?_⟩))))
    refine wS_cons (w1_if (wT_not (wT_val (by intro _; rfl) (call2 D3 hr (nm 1 (nm 2 ⟨n, v, ss, rfl, d.mono (m0.trans m2).im, vo, fun H3 m3 => ⟨true, rfl, ?_⟩⟩))))))
    refine iteF (wS_nil ?_)
    have m4 : Ex O nA H0 H3 := (m0.trans m2).trans m3
    have hx3 : H3 x = some (.ins O.C dx []) := (m2.trans m3).cel _ _ hx (.inl rfl)
    have ow : ∀ {Hz fs gs}, Ex O nA H0 Hz → Hz x = some (.ins O.C dx fs) → Ex O nA H0 (upd Hz x (.ins O.C dx gs)) := fun a h => a.own nx h (fun _ z => by cases z) (fun _ _ z => by cases z) (fun _ z => by cases z) (fun _ z => by unfold CodeO at z; cases z)
    refine wS_cons (w1_fld (nm 1 (nm 0 ⟨x, _, dx, _, rfl, hx3, cl.cls, cl.n1, by decide, ?_⟩)))
    have m5 := ow (gs := putF "places" (.int (n : Int)) []) m4 hx3
    refine wS_cons (w1_fld (nm 2 (nm 0 ⟨x, _, dx, _, rfl, upd_same, cl.cls, cl.n2, (by show 1 < 1000; decide), ?_⟩)))
    have m6 := ow (gs := putF "steps" v (putF "places" (.int (n : Int)) [])) m5 upd_same
    refine wS_one (w1_fld (dct0 fun d2 nd => nm 0 ⟨x, _, dx, _, rfl, same_new nd _ _ upd_same, cl.cls, cl.n3, (by show 2 < 1000; decide), ?_⟩))
    have m7 := m6.trans (Ex.new nd (o := .dK []))
    have m8 := ow (gs := putF "kept" (.ref d2) (putF "steps" v (putF "places" (.int (n : Int)) []))) m7 (same_new nd _ _ upd_same)
    refine q _ d2 (m6.dom _ nd) m8 ⟨x, dx, v, rfl, upd_same, d.mono m8.im, ?_⟩
    have hne2 : d2 ≠ x := fun z => by
      rw [z, upd_same] at nd
      cases nd
    rw [upd_ne hne2, upd_same]
/-- the class is made by its __init__ -/
structure OMk (P : Program) (w : World) (K : PySem.W.Frag) (mg : Str → Option Value) (base : Heap) (O : Prm) : Prop where
  cls : OCls K O.C
  at_ : mg "Order" = some (.ref O.C)
  ex : ∃ (f : Addr) (fd : FuncData), Mk K O.C f ∧ FnOk P w K mg base (L2.CX P w) 8 f fd ["self", "places", "steps"] (nn (sp_init O)) ∧ Binds K fd ["self", "places", "steps"] []
end
section
variable {X : Cx} {σ : L2.St} {H : Hp} {Q : VK} {p pos : Pos} {a b : Expr} {j : Nat} {O : Prm}
/-- Order(a, b) -/
theorem mkOrder (M : OMk X.prog X.w X.K X.mg X.base O) (hr : Room j X.A) (q : wE X a σ H fun v H1 => wE X b σ H1 fun u H2 => ∃ (n : Nat) (ss : Steps), v = .int (n : Int) ∧ Dt H2 u (ePs ss) ∧ Vo n ss ∧ Tabs O.T H2 ∧ ∀ y H3 d, H2 d = none → Ex O nA H2 H3 → OrdNew O H3 y n ss d → Q y H3)
    (hj : 9 ≤ j := by decide) (hg : Gl X "Order" := by rfl) (h1 : starEach [a, b] X.env = (false, eval a X.env) :: starEach [b] X.env := by rfl) (h2 : starEach [b] X.env = (false, eval b X.env) :: starEach [] X.env := by rfl) : wE X (.Call (.Name "Order" p) [a, b] [] pos) σ H Q := by
  obtain ⟨f, fd, mk, F, bd⟩ := M.ex
  refine wE_of (pe_make mk F (hr.mono hj) hg M.at_ bd .nil passL (pa_cons wE_pe (pa_cons wE_pe pa_nil h2) h1) (by decide) h1 (by rw [h2]; rfl)) ?_
  refine wE_mono q fun v H1 q => wE_mono q fun u H2 q => ?_
  obtain ⟨n, ss, rfl, d, vo, tT, q⟩ := q
  intro x dx nx ndx hne
  exact ⟨H2, x, dx, n, u, ss, rfl, rfl, nx, ndx, hne, d, vo, tT, fun H3 d hd m3 o3 => ⟨rfl, q _ _ d hd m3 o3⟩⟩
end
end Lw
namespace Lw
/-- ways over the places below m -/
inductive PI (ps : Steps) (m : Nat) : Nat → Nat → Prop
  | base {a b : Nat} : (a, b) ∈ ps → PI ps m a b
  | step {a k b : Nat} : PI ps m a k → k < m → PI ps m k b → PI ps m a b
theorem PI.succ {ps : Steps} {m a b : Nat} (h : PI ps (m + 1) a b) : PI ps m a b ∨ (PI ps m a m ∧ PI ps m m b) := by
  induction h with
  | base h => exact .inl (.base h)
  | @step a k b h1 hk h2 ih1 ih2 =>
    by_cases e : k = m
    · subst e
      refine .inr ⟨?_, ?_⟩
      · rcases ih1 with h | h
        · exact h
        · exact h.1
      · rcases ih2 with h | h
        · exact h
        · exact h.2
    · have hk : k < m := by omega
      rcases ih1 with h1 | h1
      · rcases ih2 with h2 | h2
        · exact .inl (.step h1 hk h2)
        · exact .inr ⟨.step h1 hk h2.1, h2.2⟩
      · rcases ih2 with h2 | h2
        · exact .inr ⟨h1.1, .step h1.2 hk h2⟩
        · exact .inr ⟨h1.1, h2.2⟩
theorem PI.zero {ps : Steps} {a b : Nat} (h : PI ps 0 a b) : (a, b) ∈ ps := by
  cases h with
  | base h => exact h
  | step _ hk _ => exact absurd hk (by omega)
theorem PI.of {ps : Steps} {n : Nat} (hb : ∀ p ∈ ps, p.1 < n ∧ p.2 < n) {a b : Nat} (h : TC ps a b) : PI ps n a b ∧ b < n := by
  induction h with
  | base h => exact ⟨.base h, (hb _ h).2⟩
  | step _ h ih => exact ⟨.step ih.1 ih.2 (.base h), (hb _ h).2⟩
theorem TC.bd {ps : Steps} {n : Nat} (hb : ∀ p ∈ ps, p.1 < n ∧ p.2 < n) {a b : Nat} (h : TC ps a b) : a < n ∧ b < n := by
  induction h with
  | base h => exact hb _ h
  | step _ h ih => exact ⟨ih.1, (hb _ h).2⟩
/-- the relation that the closing has reached -/
structure Clo (ps : Steps) (m : Nat) (R : Nat → Nat → Prop) : Prop where
  snd : ∀ a b, R a b → TC ps a b
  cpl : ∀ a b, PI ps m a b → R a b
/-- within one turn of mid: R0 at its start; the pairs before (l, h) are looked at -/
structure ClT (ps : Steps) (n m l h : Nat) (R0 R : Nat → Nat → Prop) : Prop where
  snd : ∀ a b, R a b → TC ps a b
  sub : ∀ a b, R0 a b → R a b
  row : ∀ a b, a < l → b < n → R0 a m → R0 m b → R a b
  cur : ∀ b, b < h → R0 l m → R0 m b → R l b
theorem ClT.zero {ps : Steps} {n m : Nat} {R : Nat → Nat → Prop} (c : Clo ps m R) : ClT ps n m 0 0 R R := ⟨c.snd, fun _ _ h => h, fun _ _ h => absurd h (by omega), fun _ h => absurd h (by omega)⟩
theorem ClT.yes {ps : Steps} {n m l h : Nat} {R0 R : Nat → Nat → Prop} (c : ClT ps n m l h R0 R) (h1 : R l m) (h2 : R m h) : ClT ps n m l (h + 1) R0 (fun x y => R x y ∨ (x = l ∧ y = h)) := by
  refine ⟨fun a b z => ?_, fun a b z => .inl (c.sub a b z), fun a b ha hb e1 e2 => .inl (c.row a b ha hb e1 e2), fun b hb e1 e2 => ?_⟩
  · rcases z with z | ⟨rfl, rfl⟩
    · exact c.snd a b z
    · exact (c.snd _ _ h1).trans (c.snd _ _ h2)
  · by_cases e : b = h
    · exact .inr ⟨rfl, e⟩
    · exact .inl (c.cur b (by omega) e1 e2)
theorem ClT.no {ps : Steps} {n m l h : Nat} {R0 R : Nat → Nat → Prop} (c : ClT ps n m l h R0 R) (h1 : ¬ (R l m ∧ R m h)) : ClT ps n m l (h + 1) R0 R := by
  refine ⟨c.snd, c.sub, c.row, fun b hb e1 e2 => ?_⟩
  by_cases e : b = h
  · subst e
    exact absurd ⟨c.sub _ _ e1, c.sub _ _ e2⟩ h1
  · exact c.cur b (by omega) e1 e2
theorem ClT.next {ps : Steps} {n m l : Nat} {R0 R : Nat → Nat → Prop} (c : ClT ps n m l n R0 R) : ClT ps n m (l + 1) 0 R0 R := by
  refine ⟨c.snd, c.sub, fun a b ha hb e1 e2 => ?_, fun b hb => absurd hb (by omega)⟩
  by_cases e : a = l
  · subst e
    exact c.cur b hb e1 e2
  · exact c.row a b (by omega) hb e1 e2
theorem ClT.done {ps : Steps} {n m : Nat} {R0 R : Nat → Nat → Prop} (hb : ∀ p ∈ ps, p.1 < n ∧ p.2 < n) (c0 : Clo ps m R0) (c : ClT ps n m n 0 R0 R) : Clo ps (m + 1) R := by
  refine ⟨c.snd, fun a b h => ?_⟩
  rcases h.succ with h | ⟨h1, h2⟩
  · exact c.sub _ _ (c0.cpl _ _ h)
  · have e1 := c0.cpl _ _ h1
    have e2 := c0.cpl _ _ h2
    exact c.row a b (TC.bd hb (c0.snd _ _ e1)).1 (TC.bd hb (c0.snd _ _ e2)).2 e1 e2
theorem Clo.all {ps : Steps} {n : Nat} {R : Nat → Nat → Prop} (hb : ∀ p ∈ ps, p.1 < n ∧ p.2 < n) (c : Clo ps n R) (a b : Nat) : R a b ↔ TC ps a b := ⟨c.snd a b, fun h => c.cpl _ _ (PI.of hb h).1⟩
theorem Clo.start {ps : Steps} : Clo ps 0 (fun a b => (a, b) ∈ ps) := ⟨fun _ _ h => .base h, fun _ _ h => h.zero⟩
end Lw
namespace Lw
/-! the reduction of an acyclic relation is the steps of an order -/
theorem tc_pos {ps : Steps} {pos : Nat → Nat} (hp : ∀ p ∈ ps, pos p.1 < pos p.2) {a b : Nat} (h : TC ps a b) : pos a < pos b := by
  induction h with
  | base h => exact hp _ h
  | step _ h ih => exact Nat.lt_trans ih (hp _ h)
/-- ss are the covers of ps -/
structure Cov (n : Nat) (ps ss : Steps) : Prop where
  asc : ss.Pairwise ltP2
  mem : ∀ a b, (a, b) ∈ ss ↔ TC ps a b ∧ ∀ m, ¬ (TC ps a m ∧ TC ps m b)
theorem Cov.tc {n : Nat} {ps ss : Steps} (c : Cov n ps ss) {pos : Nat → Nat} (hp : ∀ p ∈ ps, pos p.1 < pos p.2) {a b : Nat} : TC ss a b ↔ TC ps a b := by
  constructor
  · intro h
    induction h with
    | base h => exact ((c.mem _ _).mp h).1
    | step _ h ih => exact ih.trans ((c.mem _ _).mp h).1
  · intro h
    have key : ∀ k a b, pos b - pos a ≤ k → TC ps a b → TC ss a b := by
      intro k
      induction k with
      | zero =>
        intro a b hk h
        have := tc_pos hp h
        omega
      | succ k ih =>
        intro a b hk h
        by_cases e : ∃ m, TC ps a m ∧ TC ps m b
        · obtain ⟨m, h1, h2⟩ := e
          have p1 := tc_pos hp h1
          have p2 := tc_pos hp h2
          exact (ih a m (by omega) h1).trans (ih m b (by omega) h2)
        · exact .base ((c.mem _ _).mpr ⟨h, fun m z => e ⟨m, z⟩⟩)
    exact key _ a b (Nat.le_refl _) h
theorem asc_ext {l m : Steps} (h1 : l.Pairwise ltP2) (h2 : m.Pairwise ltP2) (h : ∀ x, x ∈ l ↔ x ∈ m) : l = m := by
  have irr : ∀ {a b : Nat × Nat}, ltP2 a b → a ≠ b := fun {a b} h e => by
    subst e
    unfold ltP2 at h
    omega
  have p : l.Perm m := (List.perm_ext_iff_of_nodup (h1.imp irr) (h2.imp irr)).mpr h
  refine p.eq_of_pairwise (le := ltP2) (fun a b _ _ x y => ?_) h1 h2
  unfold ltP2 at x y
  exact Prod.ext (by omega) (by omega)
theorem len_sq {n : Nat} {ss : Steps} (nd : ss.Nodup) (hb : ∀ p ∈ ss, p.1 < n ∧ p.2 < n) : ss.length ≤ n * n := by
  have := List.Nodup.length_le_of_subset nd (l₂ := (List.range n).flatMap fun a => (List.range n).map fun b => (a, b)) fun p hp => by
    obtain ⟨h1, h2⟩ := hb p hp
    exact List.mem_flatMap.mpr ⟨p.1, List.mem_range.mpr h1, List.mem_map.mpr ⟨p.2, List.mem_range.mpr h2, rfl⟩⟩
  refine Nat.le_trans this ?_
  have : ∀ l : List Nat, (l.flatMap fun a => (List.range n).map fun b => (a, b)).length = l.length * n := by
    intro l
    induction l with
    | nil => simp
    | cons a l ih => rw [List.flatMap_cons, List.length_append, ih, List.length_map, List.length_range, List.length_cons, Nat.succ_mul, Nat.add_comm]
  rw [this, List.length_range]
  exact Nat.le_refl _
theorem Cov.vo {n : Nat} {ps ss : Steps} (c : Cov n ps ss) (h1 : 1 ≤ n) (h6 : n ≤ 6) (hb : ∀ p ∈ ps, p.1 < n ∧ p.2 < n) {pos : Nat → Nat} (hp : ∀ p ∈ ps, pos p.1 < pos p.2) : Vo n ss := by
  have bd : ∀ p ∈ ss, p.1 < n ∧ p.2 < n := fun p h => TC.bd hb ((c.mem p.1 p.2).mp h).1
  have nd : ss.Nodup := c.asc.imp fun {a b} h e => by
    subst e
    unfold ltP2 at h
    omega
  have no : ∀ a, ¬ TC ps a a := fun a h => Nat.lt_irrefl _ (tc_pos hp h)
  refine ⟨⟨bd, c.asc, ?_⟩, h1, h6, fun p h e => ?_, ?_, ?_⟩
  · have := len_sq nd bd
    have := Nat.mul_le_mul h6 h6
    omega
  · have := ((c.mem p.1 p.2).mp h).1
    rw [e] at this
    exact no _ this
  · unfold hasRing
    rw [List.any_eq_false]
    intro i hi
    rw [List.mem_range, upL_len] at hi
    rw [upL_get hi, decide_eq_true_eq, mem_upw, c.tc hp]
    exact fun z => no _ z.2
  · refine asc_ext (stp_asc rows_upL) c.asc fun x => ?_
    obtain ⟨l, h⟩ := x
    rw [mem_stp, upL_len, c.mem]
    constructor
    · rintro ⟨h1, h2, h3⟩
      rw [upL_get h1, mem_upw, c.tc hp] at h2
      refine ⟨h2.2, fun m ⟨z1, z2⟩ => ?_⟩
      have hm := (TC.bd hb z1).2
      refine h3 m ?_ ?_
      · rw [upL_get h1, mem_upw, c.tc hp]
        exact ⟨hm, z1⟩
      · rw [upL_get hm, mem_upw, c.tc hp]
        exact ⟨h2.1, z2⟩
    · rintro ⟨h1, h2⟩
      obtain ⟨b1, b2⟩ := TC.bd hb h1
      refine ⟨b1, ?_, fun o ho z => ?_⟩
      · rw [upL_get b1, mem_upw, c.tc hp]
        exact ⟨b2, h1⟩
      · rw [upL_get b1, mem_upw, c.tc hp] at ho
        rw [upL_get ho.1, mem_upw, c.tc hp] at z
        exact h2 o ⟨ho.2, z.2⟩
/-- all pairs of the closure, in order -/
noncomputable def tcl (n : Nat) (ps : Steps) : Steps := (List.range n).flatMap fun a => (upw n ps a).map fun b => (a, b)
theorem tcl_asc {n : Nat} {ps : Steps} : (tcl n ps).Pairwise ltP2 := by
  unfold tcl
  rw [List.flatMap_def, List.pairwise_flatten]
  refine ⟨fun l hl => ?_, ?_⟩
  · obtain ⟨i, hi, rfl⟩ := List.mem_map.mp hl
    rw [List.pairwise_map]
    exact (List.Pairwise.filter _ List.pairwise_lt_range).imp fun h => .inr ⟨rfl, h⟩
  · rw [List.pairwise_map]
    refine List.pairwise_lt_range.imp fun {a b} h => ?_
    intro x hx y hy
    obtain ⟨_, _, rfl⟩ := List.mem_map.mp hx
    obtain ⟨_, _, rfl⟩ := List.mem_map.mp hy
    exact .inl h
theorem mem_tcl {n : Nat} {ps : Steps} (hb : ∀ p ∈ ps, p.1 < n ∧ p.2 < n) {a b : Nat} : (a, b) ∈ tcl n ps ↔ TC ps a b := by
  unfold tcl
  simp only [List.mem_flatMap, List.mem_range, List.mem_map, mem_upw, Prod.mk.injEq]
  constructor
  · rintro ⟨i, hi, x, ⟨h1, h2⟩, rfl, rfl⟩
    exact h2
  · intro h
    obtain ⟨h1, h2⟩ := TC.bd hb h
    exact ⟨a, h1, b, ⟨h2, h⟩, rfl, rfl⟩
open Classical in
/-- what lies between -/
noncomputable def betw (n : Nat) (ps : Steps) (p : Nat × Nat) : List Nat := (List.range n).filter fun m => decide (TC ps p.1 m) && decide (TC ps m p.2)
open Classical in
noncomputable def covs (n : Nat) (ps : Steps) : Steps := (tcl n ps).filter fun p => decide (betw n ps p = [])
open Classical in
theorem cov_covs {n : Nat} {ps : Steps} (hb : ∀ p ∈ ps, p.1 < n ∧ p.2 < n) : Cov n ps (covs n ps) := by
  refine ⟨tcl_asc.filter _, fun a b => ?_⟩
  unfold covs betw
  rw [List.mem_filter, mem_tcl hb, decide_eq_true_eq, List.filter_eq_nil_iff]
  refine and_congr_right fun _ => ⟨fun h m z => ?_, fun h m _ z => ?_⟩
  · refine h m (List.mem_range.mpr (TC.bd hb z.1).2) ?_
    rw [Bool.and_eq_true, decide_eq_true_eq, decide_eq_true_eq]
    exact z
  · rw [Bool.and_eq_true, decide_eq_true_eq, decide_eq_true_eq] at z
    exact h m z
end Lw
namespace Lw
open PySem PySem.Spec PyProof.Rows L2 NdefX LamX
section
variable {X : Cx} {σ : L2.St} {H : Hp} {Q : VK} {QT : Bool → Hp → Prop} {pos pos' p p2 apos : Pos} {a b value : Expr} {j : Nat} {O : Prm} {st : Stmt} {sts : List Stmt} {D : Ends}
/-- order.places, order.steps -/
theorem o_places {n : Nat} {ss : Steps} (cl : OCls X.K O.C) (q : wE X a σ H fun x H1 => OrdAt O H1 x n ss ∧ Q (.int (n : Int)) H1) (hb : attributeBase a "places" X.env (eval a X.env) = eval a X.env := by rfl) : wE X (.Attribute a "places" pos) σ H Q := by
  refine fld (wE_mono q fun x H1 q => ?_) hb
  obtain ⟨⟨p, dx, t, d, kvs, rfl, h1, _⟩, q⟩ := q
  exact ⟨p, _, dx, _, _, rfl, h1, cl.cls, cl.n1, rfl, q⟩
theorem o_steps {n : Nat} {ss : Steps} (cl : OCls X.K O.C) (q : wE X a σ H fun x H1 => OrdAt O H1 x n ss ∧ ∀ t, Dt H1 t (ePs ss) → Q t H1) (hb : attributeBase a "steps" X.env (eval a X.env) = eval a X.env := by rfl) : wE X (.Attribute a "steps" pos) σ H Q := by
  refine fld (wE_mono q fun x H1 q => ?_) hb
  obtain ⟨⟨p, dx, t, d, kvs, rfl, h1, h2, _⟩, q⟩ := q
  exact ⟨p, _, dx, _, _, rfl, h1, cl.cls, cl.n2, rfl, q t h2⟩
theorem o_kept {p0 dx d : Addr} {t : V} {n : Nat} (cl : OCls X.K O.C) (q : wE X a σ H fun x H1 => x = .ref p0 ∧ H1 p0 = some (.ins O.C dx (oFs n t d)) ∧ Q (.ref d) H1) (hb : attributeBase a "kept" X.env (eval a X.env) = eval a X.env := by rfl) : wE X (.Attribute a "kept" pos) σ H Q := by
  refine fld (wE_mono q fun x H1 q => ?_) hb
  obtain ⟨rfl, h1, q⟩ := q
  exact ⟨p0, _, dx, _, _, rfl, h1, cl.cls, cl.n3, rfl, q⟩
end
section
variable {P : Program} {w : World} {K : PySem.W.Frag} {mg : Str → Option Value} {base : Heap} {O : Prm}
/-- the type of an order -/
def OTy (K : PySem.W.Frag) (C : Addr) : Prop := ∀ (H : Hp) (p dx : Addr) (fs : List (Str × V)), H p = some (.ins C dx fs) → TyX K H (.ref p) (.ref C)
abbrev s_check_order : Stmt := topS 23
theorem sc_check_order : FnScope ["value"] ["value"] (defScope s_check_order) := ⟨rfl, rfl, rfl, by decide +kernel, rfl, by decide +kernel, by decide +kernel⟩
def sp_check_order (O : Prm) : Spn := fun vs H Q => ∃ (v : V) (n : Nat) (ss : Steps), vs = [v] ∧ OrdAt O H v n ss ∧ Q .non H
theorem fn_check_order {f : Addr} {fd : FuncData} (B : Bi mg) (M : OMk P w K mg base O) (ty : OTy K O.C) (F : Fun K "check_order" "check_order" s_check_order f fd) : FnOk P w K mg base (L2.CX P w) 1 f fd ["value"] (nn (sp_check_order O)) := by
  refine fn_w F sc_check_order (fun vs H Q h => ?_) fun cdv A outer s H vs Q E hr h => ?_
  · obtain ⟨v, n, ss, rfl, _⟩ := h
    rfl
  · obtain ⟨v, n, ss, rfl, o, q⟩ := h
    obtain ⟨p, dx, t, d, kvs, rfl, h1, _⟩ := o
    refine wS_one (w1_if (wT_not (wT_val (by intro _; rfl) (isi_own B.isinstance M.at_ (nm 0 ⟨ty _ _ _ _ h1, true, rfl, ?_⟩)))))
    exact iteF (wS_nil q)
abbrev s_places_of : Stmt := topS 25
theorem sc_places_of : FnScope ["order", "place"] ["order"] (defScope s_places_of) := ⟨rfl, rfl, rfl, by decide +kernel, rfl, by decide +kernel, by decide +kernel⟩
def sp_places_of (O : Prm) : Spn := fun vs H Q => ∃ (v : V) (n : Nat) (ss : Steps), vs = [v] ∧ OrdAt O H v n ss ∧ n ≤ 6 ∧ ∀ H' y, Ex O nA H H' → Dt H' y (eNs (List.range n)) → Q y H'
theorem fn_places_of {f : Addr} {fd : FuncData} (B : Bi mg) (cl : OCls K O.C) (F : Fun K "places_of" "places_of" s_places_of f fd) : FnOk P w K mg base (L2.CX P w) 1 f fd ["order"] (nn (sp_places_of O)) := by
  refine fn_w F sc_places_of (fun vs H Q h => ?_) fun cdv A outer s H vs Q E hr h => ?_
  · obtain ⟨v, n, ss, rfl, _⟩ := h
    rfl
  · obtain ⟨v, n, ss, rfl, o, hn, q⟩ := h
    refine wS_one (w1_ret (tup_ls B.tuple ?_))
    refine wE_lcN (O := O) (i := 1) (x := "place") rfl sc_places_of.nd (by intro _; rfl) (blkOk_by (N := ["order", "place"]) (sc := defScope s_places_of) (by decide +kernel)) (fun _ _ _ _ _ => pg_name sc_places_of.nd rfl (Or.inl rfl))
      (src_range (by rfl) B.range (by rfl) (o_places cl (nm 0 ⟨o, .refl _, rfl⟩)) (by omega)) (by rw [eRg_len]; omega) (fun _ d => some d) (fun k d' v' Ha e1 ex dv => ?_) fun l H' us nl ex hl hD => ?_
    · exact turn_nil fun s H0 C cl fp => nm 1 ⟨.refl _, _, rfl, dv⟩
    · refine ⟨_, .of hl hD, fun y H2 s2 dy => q _ _ (ex.trans (.same s2)) ?_⟩
      have e : kept (fun _ d => some d) (eRg n) (eRg n).length = (List.range n).map eN := by
        unfold eRg
        exact kept_map' fun _ _ _ => rfl
      rw [e] at dy
      exact dy
abbrev s_is_place : Stmt := topS 26
theorem sc_is_place : FnScope ["order", "value"] ["order", "value"] (defScope s_is_place) := ⟨rfl, rfl, rfl, by decide +kernel, rfl, by decide +kernel, by decide +kernel⟩
def sp_is_place (O : Prm) : Spn := fun vs H Q => ∃ (v : V) (i : Int) (n : Nat) (ss : Steps), vs = [v, .int i] ∧ OrdAt O H v n ss ∧ Q (.bl (decide (0 ≤ i ∧ i ≤ (n : Int) - 1))) H
theorem fn_is_place {f : Addr} {fd : FuncData} (cl : OCls K O.C) (D1 : Df P w K mg base 2 "is_between" sp_is_between) (F : Fun K "is_place" "is_place" s_is_place f fd) : FnOk P w K mg base (L2.CX P w) 3 f fd ["order", "value"] (nn (sp_is_place O)) := by
  refine fn_w F sc_is_place (fun vs H Q h => ?_) fun cdv A outer s H vs Q E hr h => ?_
  · obtain ⟨v, i, n, ss, rfl, _⟩ := h
    rfl
  · obtain ⟨v, i, n, ss, rfl, o, q⟩ := h
    exact wS_one (w1_ret (call3 D1 hr (nm 1 (wE_int (sub_int' (o_places cl (nm 0 ⟨o, wE_int ⟨_, _, rfl, rfl, _, _, _, rfl, q⟩⟩)))))))
abbrev s_upward_of : Stmt := topS 27
theorem sc_upward_of : FnScope ["order"] ["order"] (defScope s_upward_of) := ⟨rfl, rfl, rfl, by decide +kernel, rfl, by decide +kernel, by decide +kernel⟩
def sp_upward_of (O : Prm) : Spn := fun vs H Q => ∃ (v : V) (n : Nat) (ss : Steps), vs = [v] ∧ OrdAt O H v n ss ∧ Vo n ss ∧ ∀ H' y, Ex O nA H H' → FrzL H' y ((upL n ss).map eNs) → Q y H'
theorem fn_upward_of {f : Addr} {fd : FuncData} {ws : List Str} (cl : OCls K O.C) (np : ¬ O.pu) (mm : ∀ n ss, O.mm n ss "upward" = some ((upL n ss).map eNs)) (hw : ∀ n ss z ds, O.mm n ss z = some ds → z ∈ ws) (hl : ws.length ≤ 50) (mU : ∃ t, mg "UPWARD" = some (.str "upward" t))
    (D1 : Df P w K mg base 1 "upward_by" (sp_upward_by O.p)) (F : Fun K "upward_of" "upward_of" s_upward_of f fd) : FnOk P w K mg base (L2.CX P w) 2 f fd ["order"] (nn (sp_upward_of O)) := by
  refine fn_w F sc_upward_of (fun vs H Q h => ?_) fun cdv A outer s H vs Q E hr h => ?_
  · obtain ⟨v, n, ss, rfl, _⟩ := h
    rfl
  · obtain ⟨v, n, ss, rfl, o, vo, q⟩ := h
    obtain ⟨tU, mU⟩ := mU
    obtain ⟨p, dx, t, d, kvs, rfl, h1, h2, h3, h4, h5, h6⟩ := o
    refine wS_cons (w1_if (tdnin hr (gc (v := .str "upward") mU ⟨_, rfl⟩ (o_kept cl (nm 0 ⟨rfl, h1, d, _, rfl, .inl ⟨kvs, .inr "upward", .inl h3, rfl, rfl⟩, ?_⟩)))))
    cases hv : valV kvs (Sum.inr ("upward" : Str)) with
    | some y =>
      refine iteF (wS_nil (wS_one (w1_ret (dget hr (o_kept cl (nm 0 ⟨rfl, h1, gc (v := .str "upward") mU ⟨_, rfl⟩ ⟨d, y, rfl, .inl ⟨kvs, .inr "upward", .inl h3, rfl, hv.symm⟩, ?_⟩⟩))))))
      obtain ⟨z, ds, e1, e2, e3⟩ := h6 _ _ hv
      cases e1
      rw [mm] at e2
      cases e2
      exact q _ _ (.refl _) e3
    | none =>
      refine iteT (wS_one (w1_dput hr (call2 D1 hr (o_places (n := n) (ss := ss) cl (nm 0 ⟨⟨p, dx, t, d, kvs, rfl, h1, h2, h3, h4, h5, h6⟩, o_steps (n := n) (ss := ss) cl (nm 0 ⟨⟨p, dx, t, d, kvs, rfl, h1, h2, h3, h4, h5, h6⟩, fun t' dt' => ?_⟩)⟩)))))
      refine ⟨n, t', ss, rfl, dt', vo.hi, vo.vs, fun H1 l us nl ex hl1 dl => ?_⟩
      have hp1 : H1 p = some (.ins O.C dx (oFs n t d)) := ex.cel _ _ h1 (.inl rfl)
      have hd1 : H1 d = some (.dK kvs) := ex.cel _ _ h3 ⟨fun z => z, .inl True.intro⟩
      have hlen := h6.len (hw n ss) h4.1
      refine o_kept cl (nm 0 ⟨rfl, hp1, gc (v := .str "upward") mU ⟨_, rfl⟩ ⟨d, _, rfl, .inl ⟨kvs, .inr "upward", hd1, rfl, by rw [sizeLine_eq]; omega, rfl⟩, ?_⟩⟩)
      have ndl : d ≠ l := fun e => by rw [e, hl1] at hd1; cases hd1
      have npl : p ≠ l := fun e => by rw [e, hl1] at hp1; cases hp1
      have npd : p ≠ d := fun e => by rw [e, hd1] at hp1; cases hp1
      refine wS_lock (d := l) (u := .lst us) (by rw [upd_ne (Ne.symm ndl)]; exact hl1) True.intro fun od => ?_
      have fin := Ex.keep (z := "upward") (od := od) np ex.wk nl hp1 (h2.mono ex.im) hd1 h4 h5 hl1 dl (mm n ss)
      refine wS_one (w1_ret (dget hr (o_kept (dx := dx) (t := t) (n := n) cl (nm 0 ⟨rfl, by rw [upd_ne npl, upd_ne npd]; exact hp1, gc (v := .str "upward") mU ⟨_, rfl⟩ ⟨d, .ref l, rfl, .inl ⟨_, .inr "upward", .inl (by rw [upd_ne ndl, upd_same]), rfl, ?_⟩, ?_⟩⟩))))
      · rw [valV_put, if_pos rfl]
      · exact q _ _ fin ⟨l, od, us, rfl, upd_same, (dl.mono (.dK hd1)).mono (.lst (by rw [upd_ne (Ne.symm ndl)]; exact hl1))⟩
abbrev s_is_below_by : Stmt := topS 28
theorem sc_is_below_by : FnScope ["order", "low", "high"] ["order", "low", "high"] (defScope s_is_below_by) := ⟨rfl, rfl, rfl, by decide +kernel, rfl, by decide +kernel, by decide +kernel⟩
open Classical in
/-- of two places -/
def sp_below (O : Prm) (r : Nat → Steps → Nat → Nat → Prop) : Spn := fun vs H Q => ∃ (v : V) (a b n : Nat) (ss : Steps), vs = [v, .int (a : Int), .int (b : Int)] ∧ OrdAt O H v n ss ∧ Vo n ss ∧ a < n ∧ b < n ∧ ∀ H', Ex O nA H H' → Q (.bl (decide (r n ss a b))) H'
theorem fn_is_below_by {f : Addr} {fd : FuncData} (D1 : Df P w K mg base 2 "upward_of" (sp_upward_of O)) (F : Fun K "is_below_by" "is_below_by" s_is_below_by f fd) : FnOk P w K mg base (L2.CX P w) 3 f fd ["order", "low", "high"] (nn (sp_below O fun _ ss a b => TC ss a b)) := by
  refine fn_w F sc_is_below_by (fun vs H Q h => ?_) fun cdv A outer s H vs Q E hr h => ?_
  · obtain ⟨v, a, b, n, ss, rfl, _⟩ := h
    rfl
  · obtain ⟨v, a, b, n, ss, rfl, o, vo, ha, hb, q⟩ := h
    refine wS_one (w1_ret (in_t (nm 2 (ix_l (call1 D1 hr (nm 0 ⟨v, n, ss, rfl, o, vo, fun H1 y m1 dy => nm 1 ⟨_, _, _, (LsAt.frz (A := nA) dy).ls, rfl, atI_nat' (z := eNs (upw n ss a)) ?_, fun z dz => ?_⟩⟩))))))
    · unfold upL
      simp [ha]
    · rw [eNs_map] at dz
      refine ⟨_, _, rfl, dz, qb ?_ (q _ m1)⟩
      exact decide_eq_decide.mpr (mem_cast.trans (mem_upw.trans ⟨And.right, fun z => ⟨hb, z⟩⟩))
abbrev s_is_at_most : Stmt := topS 29
theorem sc_is_at_most : FnScope ["order", "low", "high"] ["order", "low", "high"] (defScope s_is_at_most) := ⟨rfl, rfl, rfl, by decide +kernel, rfl, by decide +kernel, by decide +kernel⟩
open Classical in
theorem fn_is_at_most {f : Addr} {fd : FuncData} (D1 : Df P w K mg base 3 "is_below_by" (sp_below O fun _ ss a b => TC ss a b)) (F : Fun K "is_at_most" "is_at_most" s_is_at_most f fd) : FnOk P w K mg base (L2.CX P w) 4 f fd ["order", "low", "high"] (nn (sp_below O fun _ ss a b => Le ss a b)) := by
  refine fn_w F sc_is_at_most (fun vs H Q h => ?_) fun cdv A outer s H vs Q E hr h => ?_
  · obtain ⟨v, a, b, n, ss, rfl, _⟩ := h
    rfl
  · obtain ⟨v, a, b, n, ss, rfl, o, vo, ha, hb, q⟩ := h
    refine wS_one (w1_ret (wE_or (eq_int (nm 1 (nm 2 ⟨_, _, rfl, rfl, _, rfl, ?_⟩)))))
    rw [dec_nat]
    by_cases h : a = b
    · rw [decide_eq_true h, if_pos rfl]
      exact qb (Eq.symm (decide_eq_true (show Le ss a b from .inl h))) (q _ (.refl _))
    · rw [decide_eq_false h, if_neg Bool.false_ne_true]
      refine wE_one (call3 D1 hr (nm 0 (nm 1 (nm 2 ⟨v, a, b, n, ss, rfl, o, vo, ha, hb, fun H1 m1 => qb ?_ (q _ m1)⟩))))
      exact decide_eq_decide.mpr ⟨fun z => .inr z, fun z => z.resolve_left h⟩
end
end Lw
namespace Lw
open PySem PySem.Spec PyProof.Rows L2 NdefX LamX
/-! ## what is kept: d[W] = a new list; return d[W] -/
section
variable {X : Cx} {σ : L2.St} {H H0 : Hp} {Q : VK} {pos pw pa pv pp pw2 pa2 pr ps ps2 : Pos} {a a2 value : Expr} {j : Nat} {O : Prm} {D : Ends} {W z : Str} {t : Tok} {v : V} {n : Nat} {ss : Steps} {ws : List Str}
/-- what the package keeps under words -/
structure Kp (O : Prm) (ws : List Str) : Prop where
  np : ¬ O.pu
  hw : ∀ n ss z ds, O.mm n ss z = some ds → z ∈ ws
  hl : ws.length ≤ 50
theorem wS_kept (hr : Room j X.A) (cl : OCls X.K O.C) (kp : Kp O ws) (mW : X.mg W = some (.str z t)) (o : OrdAt O H0 v n ss) (ho : ∀ H Q, Q v H → wE X a σ H Q) (ho2 : ∀ H Q, Q v H → wE X a2 σ H Q)
    (q : wE X value σ H fun y H1 => ∃ l us ds, y = .ref l ∧ H0 l = none ∧ Ex O nA H0 H1 ∧ H1 l = some (.lst us) ∧ DtA H1 us ds ∧ O.mm n ss z = some ds ∧ ∀ H3, Ex O nA H0 H3 → FrzL H3 (.ref l) ds → D.rt (.ref l) H3)
    (hg : Gl X W := by rfl) (hdW : (W == ("__debug__" : Str)) = false := by decide) (hb : attributeBase a "kept" X.env (eval a X.env) = eval a X.env := by rfl) (hb2 : attributeBase a2 "kept" X.env (eval a2 X.env) = eval a2 X.env := by rfl)
    (hs : swapsWith value (some (.Subscript (.Attribute a "kept" pa) (.Name W pw) ps)) pos.line X.env = pure false := by rfl) :
    wS X [.Assign [.Subscript (.Attribute a "kept" pa) (.Name W pw) ps] value pos] { D with nx := wS X [.Return (some (.Subscript (.Attribute a2 "kept" pa2) (.Name W pw2) ps2)) pr] D } σ H := by
  refine wS_one (w1_dput hr (wE_mono q fun y H1 q => ?_) hs)
  obtain ⟨l, us, ds, rfl, nl, ex, hl1, dl, mm, q⟩ := q
  obtain ⟨p, dx, t', d, kvs, rfl, h1, h2, h3, h4, h5, h6⟩ := ex.ord _ _ _ o
  have hlen := h6.len (kp.hw n ss) h4.1
  have hk := kp.hl
  refine o_kept (dx := dx) (t := t') (n := n) cl (ho _ _ ⟨rfl, h1, gc (v := .str z) mW ⟨_, rfl⟩ ⟨d, _, rfl, .inl ⟨kvs, .inr z, h3, rfl, by rw [sizeLine_eq]; omega, rfl⟩, ?_⟩ hg hdW⟩) hb
  have ndl : d ≠ l := fun e => by rw [e, hl1] at h3; cases h3
  have npl : p ≠ l := fun e => by rw [e, hl1] at h1; cases h1
  have npd : p ≠ d := fun e => by rw [e, h3] at h1; cases h1
  refine wS_lock (d := l) (u := .lst us) (by rw [upd_ne (Ne.symm ndl)]; exact hl1) True.intro fun od => ?_
  have fin := Ex.keep (z := z) (od := od) kp.np ex nl h1 h2 h3 h4 h5 hl1 dl mm
  refine wS_one (w1_ret (dget hr (o_kept (dx := dx) (t := t') (n := n) cl (ho2 _ _ ⟨rfl, by rw [upd_ne npl, upd_ne npd]; exact h1, gc (v := .str z) mW ⟨_, rfl⟩ ⟨d, .ref l, rfl, .inl ⟨_, .inr z, .inl (by rw [upd_ne ndl, upd_same]), rfl, ?_⟩, ?_⟩ hg hdW⟩) hb2)))
  · rw [valV_put, if_pos rfl]
  · exact q _ fin ⟨l, od, us, rfl, upd_same, (dl.mono (.dK h3)).mono (.lst (by rw [upd_ne (Ne.symm ndl)]; exact hl1))⟩
/-- if W not in order.kept: body; return order.kept[W] -/
theorem wS_memo {body : List Stmt} {ds : List PyData} {pc pi : Pos} {a1 : Expr} {pa1 pw1 : Pos} (hr : Room j X.A) (cl : OCls X.K O.C) (mW : X.mg W = some (.str z t)) (o : OrdAt O H v n ss) (mm : O.mm n ss z = some ds) (ho1 : ∀ H Q, Q v H → wE X a1 σ H Q) (ho2 : ∀ H Q, Q v H → wE X a2 σ H Q)
    (q1 : ∀ y, FrzL H y ds → D.rt y H) (q2 : wS X body { D with nx := wS X [.Return (some (.Subscript (.Attribute a2 "kept" pa2) (.Name W pw2) ps2)) pr] D } σ H)
    (hg : Gl X W := by rfl) (hdW : (W == ("__debug__" : Str)) = false := by decide) (hb1 : attributeBase a1 "kept" X.env (eval a1 X.env) = eval a1 X.env := by rfl) (hb2 : attributeBase a2 "kept" X.env (eval a2 X.env) = eval a2 X.env := by rfl) (hm : behindInMarks CmpOp.NotIn (.Attribute a1 "kept" pa1) = false := by rfl) :
    wS X [.If (.Compare (.Name W pw1) [.NotIn] [.Attribute a1 "kept" pa1] pc) body [] pi, .Return (some (.Subscript (.Attribute a2 "kept" pa2) (.Name W pw2) ps2)) pr] D σ H := by
  obtain ⟨p, dx, t', d, kvs, rfl, h1, h2, h3, h4, h5, h6⟩ := o
  refine wS_cons (w1_if (tdnin hr (gc (v := .str z) mW ⟨_, rfl⟩ (o_kept (dx := dx) (t := t') (n := n) cl (ho1 _ _ ⟨rfl, h1, d, _, rfl, .inl ⟨kvs, .inr z, .inl h3, rfl, rfl⟩, ?_⟩) hb1) hg hdW) hm))
  cases hv : valV kvs (Sum.inr z) with
  | some y =>
    refine iteF (wS_nil (wS_one (w1_ret (dget hr (o_kept (dx := dx) (t := t') (n := n) cl (ho2 _ _ ⟨rfl, h1, gc (v := .str z) mW ⟨_, rfl⟩ ⟨d, y, rfl, .inl ⟨kvs, .inr z, .inl h3, rfl, hv.symm⟩, ?_⟩ hg hdW⟩) hb2)))))
    obtain ⟨z', ds', e1, e2, e3⟩ := h6 _ _ hv
    cases e1
    rw [mm] at e2
    cases e2
    exact q1 _ e3
  | none => exact iteT q2
end
section
variable {P : Program} {w : World} {K : PySem.W.Frag} {mg : Str → Option Value} {base : Heap} {O : Prm}
open Classical
abbrev s_keeps_pair : Stmt := topS 33
theorem sc_keeps_pair : FnScope ["order", "one", "other", "goals"] ["order", "one", "other", "goals"] (defScope s_keeps_pair) := ⟨rfl, rfl, rfl, by decide +kernel, rfl, by decide +kernel, by decide +kernel⟩
def sp_keeps_pair (O : Prm) : Spn := fun vs H Q => ∃ (v g : V) (a b x y n : Nat) (ss : Steps), vs = [v, .int (a : Int), .int (b : Int), g] ∧ OrdAt O H v n ss ∧ Vo n ss ∧ a < n ∧ b < n ∧ x < n ∧ y < n ∧ Dt H g (ePr (x, y)) ∧ ∀ H', Ex O nA H H' → Q (.bl (kp ss a b x y)) H'
abbrev Below (P : Program) (w : World) (K : PySem.W.Frag) (mg : Str → Option Value) (base : Heap) (O : Prm) : Prop := Df P w K mg base 3 "is_below_by" (sp_below O fun _ ss a b => TC ss a b)
abbrev AtMost (P : Program) (w : World) (K : PySem.W.Frag) (mg : Str → Option Value) (base : Heap) (O : Prm) : Prop := Df P w K mg base 4 "is_at_most" (sp_below O fun _ ss a b => Le ss a b)
theorem fn_keeps_pair {f : Addr} {fd : FuncData} (D1 : Below P w K mg base O) (D2 : AtMost P w K mg base O) (F : Fun K "keeps_pair" "keeps_pair" s_keeps_pair f fd) : FnOk P w K mg base (L2.CX P w) 5 f fd ["order", "one", "other", "goals"] (nn (sp_keeps_pair O)) := by
  refine fn_w F sc_keeps_pair (fun vs H Q h => ?_) fun cdv A outer s H vs Q E hr h => ?_
  · obtain ⟨v, g, a, b, x, y, n, ss, rfl, _⟩ := h
    rfl
  · obtain ⟨v, g, a, b, x, y, n, ss, rfl, o, vo, ha, hb, hx, hy, dg, q⟩ := h
    refine wS_cons (w1_if (wT_val (by intro _; rfl) (call3 D1 hr (nm 0 (nm 1 (nm 2 ⟨v, a, b, n, ss, rfl, o, vo, ha, hb, fun H1 m1 => ⟨_, rfl, ?_⟩⟩))))))
    by_cases h : TC ss a b
    · have e : kp ss a b x y = decide (Le ss x y) := by unfold kp; rw [if_pos h]
      rw [decide_eq_true h]
      refine iteT (wS_one (w1_ret (call3 D2 hr (nm 0 ?_))))
      refine ix_t (nm 3 (wE_int ⟨_, _, _, dg.mono m1.im, rfl, atI_nat' (i := 0) rfl, fun u hu => ?_⟩))
      rw [hu.int_inv]
      refine ix_t (nm 3 (wE_int ⟨_, _, _, dg.mono m1.im, rfl, atI_nat' (i := 1) rfl, fun u hu => ?_⟩))
      rw [hu.int_inv]
      exact ⟨v, x, y, n, ss, rfl, m1.ord _ _ _ o, vo, hx, hy, fun H2 m2 => qb e.symm (q _ (m1.trans m2))⟩
    · have e : kp ss a b x y = (!decide (TC ss b a) || decide (Le ss y x)) := by unfold kp; rw [if_neg h]
      rw [decide_eq_false h]
      refine iteF (wS_nil (wS_one (w1_ret (wE_or (wE_not (call3 D1 hr (nm 0 (nm 2 (nm 1 ⟨v, b, a, n, ss, rfl, m1.ord _ _ _ o, vo, hb, ha, fun H2 m2 => ⟨_, rfl, _, rfl, ?_⟩⟩)))))))))
      have m3 := m1.trans m2
      by_cases h2 : TC ss b a
      · rw [decide_eq_true h2] at e ⊢
        refine iteF (wE_one (call3 D2 hr (nm 0 ?_)))
        refine ix_t (nm 3 (wE_int ⟨_, _, _, dg.mono m3.im, rfl, atI_nat' (i := 1) rfl, fun u hu => ?_⟩))
        rw [hu.int_inv]
        refine ix_t (nm 3 (wE_int ⟨_, _, _, dg.mono m3.im, rfl, atI_nat' (i := 0) rfl, fun u hu => ?_⟩))
        rw [hu.int_inv]
        exact ⟨v, y, x, n, ss, rfl, m3.ord _ _ _ o, vo, hy, hx, fun H4 m4 => qb (by rw [e]; rfl) (q _ (m3.trans m4))⟩
      · rw [decide_eq_false h2] at e ⊢
        refine iteT (qb ?_ (q _ m3))
        rw [e]
        rfl
theorem rowAt1 {row : List Nat} {k : Nat} (h : k < row.length) : (row.map eN)[k]? = some (.int ((row.getD k 0 : Nat) : Int)) := by
  simp [h, eN]
theorem getD_in {row : List Nat} {k : Nat} (h : k < row.length) : row.getD k 0 ∈ row := by
  have e : row.getD k 0 = row[k] := by simp [h]
  rw [e]
  exact List.getElem_mem h
abbrev s_can_follow : Stmt := topS 34
theorem sc_can_follow : FnScope ["order", "row", "goal", "place", "other"] ["order", "row", "goal"] (defScope s_can_follow) := ⟨rfl, rfl, rfl, by decide +kernel, rfl, by decide +kernel, by decide +kernel⟩
def sp_can_follow (O : Prm) : Spn := fun vs H Q => ∃ (v r : V) (row : List Nat) (g n : Nat) (ss : Steps), vs = [v, r, .int (g : Int)] ∧ OrdAt O H v n ss ∧ Vo n ss ∧ Dt H r (eNs row) ∧ row.length < n ∧ (∀ x ∈ row, x < n) ∧ g < n ∧ ∀ H', Ex O nA H H' → Q (.bl (cf ss row g)) H'
theorem fn_can_follow {f : Addr} {fd : FuncData} (B : Bi mg) (D1 : Df P w K mg base 5 "keeps_pair" (sp_keeps_pair O)) (F : Fun K "can_follow" "can_follow" s_can_follow f fd) : FnOk P w K mg base (L2.CX P w) 6 f fd ["order", "row", "goal"] (nn (sp_can_follow O)) := by
  refine fn_w F sc_can_follow (fun vs H Q h => ?_) fun cdv A outer s H vs Q E hr h => ?_
  · obtain ⟨v, r, row, g, n, ss, rfl, _⟩ := h
    rfl
  · obtain ⟨v, r, row, g, n, ss, rfl, o, vo, dr, hl, hb, hg, q⟩ := h
    have hn := vo.hi
    refine wS_cons (w1_set 3 sc_can_follow.nd rfl (.inr rfl) rfl (.inl rfl) (len_tup B.len (nm 1 ⟨_, dr, ?_⟩)))
    rw [List.length_map]
    refine wS_one (w1_ret (all_ls rfl B.all ?_))
    refine wE_lcN (O := O) (i := 4) (x := "other") rfl sc_can_follow.nd (by intro _; rfl) (blkOk_by (N := ["order", "row", "goal", "place", "other"]) (sc := defScope s_can_follow) (by decide +kernel)) (fun _ _ _ _ _ => pg_name sc_can_follow.nd rfl (Or.inl rfl))
      (src_range (by rfl) B.range (by rfl) (nm 3 ⟨.refl _, rfl⟩) (by omega)) (by rw [eRg_len]; omega) (fun k _ => some (.bool (kp ss k row.length (row.getD k 0) g))) (fun k d' v' Ha e1 ex dv => ?_) fun l H' us _ ex hl2 hD => ?_
    · have hk : k < row.length := by
        have := (List.getElem?_eq_some_iff.mp e1).1
        rwa [eRg_len] at this
      rw [eRg_get hk] at e1
      cases e1
      rw [dv.int_inv]
      refine turn_nil fun s H0 C cl fp => call4 D1 hr (nm 0 (nm 4 (nm 3 (tup2 (ix_t (nm 1 (nm 4 ⟨_, _, _, dr.mono ex.im, rfl, atI_nat' (rowAt1 hk), fun u hu => nm 2 ⟨_, _, hu, .int _, fun y H3 s3 dy => ?_⟩⟩)))))))
      exact ⟨v, y, k, row.length, row.getD k 0, g, n, ss, rfl, (ex.ord _ _ _ o).same s3, vo, by omega, hl, hb _ (getD_in hk), hg, dy, fun H4 m4 => ⟨(Ex.same s3).trans m4, _, rfl, .bl _⟩⟩
    · refine ⟨(List.range row.length).map fun k => kp ss k row.length (row.getD k 0) g, .of hl2 ?_, ?_⟩
      · rw [kept_all (g := fun k => .bool (kp ss k row.length (row.getD k 0) g)) fun _ _ _ => rfl, eRg_len] at hD
        rw [List.map_map]
        exact hD
      · refine qb ?_ (q _ ex)
        unfold cf
        rw [List.all_map]
        rfl
end
end Lw
namespace Lw
open PySem PySem.Spec PyProof.Rows L2 NdefX LamX
section
variable {P : Program} {w : World} {K : PySem.W.Frag} {mg : Str → Option Value} {base : Heap} {O : Prm} {ws : List Str}
open Classical
theorem mvAt {n : Nat} {ss : Steps} {k i : Nat} {d : PyData} (h : ((mv n ss k).map eNs)[i]? = some d) : d = eNs ((mv n ss k).getD i []) ∧ (mv n ss k).getD i [] ∈ mv n ss k := by
  obtain ⟨h1, h2⟩ := rowAt h
  exact ⟨h2, getD_mem h1⟩
theorem rngAt {n k : Nat} {d : PyData} (h : ((List.range n).map eN)[k]? = some d) : d = .int (k : Int) ∧ k < n := by
  obtain ⟨h1, h2⟩ := natAt h
  have hk : k < n := by
    have := (List.getElem?_eq_some_iff.mp h).1
    rwa [List.length_map, List.length_range] at this
  refine ⟨?_, hk⟩
  rw [h1]
  simp [hk]
/-- the inner clause -/
theorem kept_cf {n : Nat} {ss : Steps} {row : List Nat} : kept (fun q _ => if cf ss row q = true then some (eNs (row ++ [q])) else none) ((List.range n).map eN) ((List.range n).map eN).length = (((List.range n).filter (cf ss row)).map fun g => row ++ [g]).map eNs := by
  rw [kept_fil' (f := fun q => eNs (row ++ [q])) (c := fun q => cf ss row q) fun k a e => ?_]
  · rw [List.map_map]
    rfl
  · obtain ⟨h1, h2⟩ := List.getElem?_eq_some_iff.mp e
    rw [List.getElem_range] at h2
    rw [h2]
theorem kept2_rows {n : Nat} {ss : Steps} {l : List (List Nat)} : ∀ m, m ≤ l.length → kept2 (fun p _ q _ => if cf ss (l.getD p []) q = true then some (eNs (l.getD p [] ++ [q])) else none) (l.map eNs) ((List.range n).map eN) m = ((l.take m).flatMap fun row => ((List.range n).filter (cf ss row)).map fun g => row ++ [g]).map eNs
  | 0, _ => by simp [kept2]
  | m + 1, hm => by
    have e : (l.map eNs)[m]? = some (eNs (l.getD m [])) := rowGet (by omega)
    have et : l.take (m + 1) = l.take m ++ [l.getD m []] := by
      rw [List.take_add_one]
      congr 1
      simp [show m < l.length by omega]
    rw [kept2_succ e, kept2_rows m (by omega), kept_cf, et, List.flatMap_append, List.map_append]
    simp
abbrev s_all_moves_by : Stmt := topS 35
abbrev n_all_moves_by : List Str := ["order", "found", "place", "row", "goal"]
theorem sc_all_moves_by : FnScope n_all_moves_by ["order"] (defScope s_all_moves_by) := ⟨rfl, rfl, rfl, by decide +kernel, rfl, by decide +kernel, by decide +kernel⟩
def sp_list (O : Prm) (f : Nat → Steps → List PyData) : Spn := fun vs H Q => ∃ (v : V) (n : Nat) (ss : Steps), vs = [v] ∧ OrdAt O H v n ss ∧ Vo n ss ∧ ∀ H' y, Ex O nA H H' → FrzL H' y (f n ss) → Q y H'
theorem fn_all_moves_by {f : Addr} {fd : FuncData} (cl : OCls K O.C) (kp : Kp O ws) (mm : ∀ n ss, O.mm n ss "moves" = some ((mv n ss n).map eNs)) (mM : ∃ t, mg "MOVES" = some (.str "moves" t)) (D1 : Df P w K mg base 1 "places_of" (sp_places_of O)) (D2 : Df P w K mg base 6 "can_follow" (sp_can_follow O))
    (F : Fun K "all_moves_by" "all_moves_by" s_all_moves_by f fd) : FnOk P w K mg base (L2.CX P w) 7 f fd ["order"] (nn (sp_list O fun n ss => (mv n ss n).map eNs)) := by
  refine fn_w F sc_all_moves_by (fun vs H Q h => ?_) fun cdv A outer s H vs Q E hr h => ?_
  · obtain ⟨v, n, ss, rfl, _⟩ := h
    rfl
  · obtain ⟨v, n, ss, rfl, o, vo, q⟩ := h
    obtain ⟨tM, mM⟩ := mM
    have hn := vo.hi
    refine wS_memo hr cl mM o (mm n ss) (fun H Q q => nm 0 q) (fun H Q q => nm 0 q) (fun y dy => q _ _ (.refl _) dy) ?_
    refine wS_cons (w1_set 1 sc_all_moves_by.nd rfl (.inl rfl) rfl (.inl rfl) (lst1 (tup0 fun t0 n0 l0 nl0 => ?_)))
    have m0 : Ex O nA H (upd (upd H t0 (.tup [])) l0 (.lst [.ref t0])) := (Ex.new n0).trans (.new nl0)
    refine wS_cons (w1_for (O := O) (A := nA) (ds := (List.range n).map eN) .never rfl (by intro _; rfl) (src_tup (call1 D1 hr (nm 0 ⟨v, n, ss, rfl, m0.ord _ _ _ o, hn, fun H1 y m1 dy => ⟨m1, dy⟩⟩))) fun H2 m2 => ?_)
    refine ⟨fun i σ' H' => ∃ y2 l us, σ' = [some v, some (.ref l), y2, none, none] ∧ Ex O nA H2 H' ∧ H l = none ∧ H' l = some (.lst us) ∧ i ≤ n ∧ DtA H' us ((mv n ss i).map eNs),
      ⟨none, l0, [.ref t0], rfl, .refl _, (Ex.new (O := O) (A := nA) (o := .tup []) n0).dom _ nl0, m2.cel _ _ upd_same (fun z => z), Nat.zero_le _, ?_⟩, fun i σ' H' p => ?_, fun i σ' H' Hb p sm => ?_, fun i d' x σ' H' e1 p dx => ?_, fun σ' H' p => ?_⟩
    · exact (DtA.cons (.tup (same_new nl0 _ _ upd_same) .nil) .nil : DtA _ [.ref t0] [.tuple []]).mono m2.im
    · obtain ⟨_, _, _, _, m, _⟩ := p
      exact m
    · obtain ⟨y2, l, us, e, m, nl, h, hi, dd⟩ := p
      exact ⟨y2, l, us, e, m.trans (.same sm), nl, sm _ _ h, hi, dd.mono (.same sm)⟩
    · obtain ⟨y2, l, us, rfl, m, nl, h, hi, dd⟩ := p
      obtain ⟨rfl, hin⟩ := rngAt e1
      have ml : Ex O nA H H' := (m0.trans m2).trans m
      have oo := ml.ord _ _ _ o
      have hsm := mv_small (ss := ss) hn (k := i) (by omega)
      refine wG_name 2 sc_all_moves_by.nd rfl (.inl rfl) (.inl rfl) ?_
      refine wS_one (w1_setLc2 (O := O) (i := 3) (j := 4) (x := "row") (x1 := "goal") (ds := (mv n ss i).map eNs) (es := (List.range n).map eN) 1 (by decide) rfl sc_all_moves_by.nd rfl rfl rfl (by intro _; rfl) (by intro _ _; rfl) (blkOk_by (N := n_all_moves_by) (sc := defScope s_all_moves_by) (by decide +kernel)) (fun _ _ _ _ _ => pg_name sc_all_moves_by.nd rfl (Or.inl rfl)) (fun _ _ _ _ _ => pg_name sc_all_moves_by.nd rfl (Or.inl rfl))
        (src_list (nm 1 ⟨.refl _, .of h dd⟩)) ?_ (fun p _ q _ => if cf ss ((mv n ss i).getD p []) q = true then some (eNs ((mv n ss i).getD p [] ++ [q])) else none) (fun p d v' Ha e1 ex dv A s H0 C cl2 fp => ?_) (fun p d v' k e u Ha e1 e2 ex dv du => ?_) fun r H3 us2 nr ex3 hl3 hD3 => ?_)
      · rw [List.length_map, List.length_map, List.length_range]
        exact Nat.lt_of_le_of_lt (Nat.mul_le_mul hsm hn) (by decide)
      · exact src_tup (call1 D1 hr (nm 0 ⟨v, n, ss, rfl, ex.ord _ _ _ oo, hn, fun H1 y m1 dy => ⟨m1, dy⟩⟩))
      · obtain ⟨e3, hrow⟩ := mvAt e1
        obtain ⟨e4, hk⟩ := rngAt e2
        subst e3 e4
        generalize (mv n ss i).getD p [] = row at hrow dv ⊢
        obtain ⟨h1, h2⟩ := mv_row hrow
        rw [du.int_inv]
        refine turn_one (k := cf ss row k) (fun s H0 C cl fp => ?_) (fun z => by rw [z]; rfl) fun z H5 m5 s H0 C cl fp => ?_
        · exact wT_val (by intro _; rfl) (call3 D2 hr (nm 0 (nm 3 (nm 4 ⟨v, v', row, k, n, ss, rfl, ex.ord _ _ _ oo, vo, dv, by omega, h2, hk, fun H6 m6 => ⟨_, rfl, rfl, m6⟩⟩))))
        · refine tup_star (nm 3 ⟨_, dv.mono m5.im, by rw [List.length_map]; omega, nm 4 ⟨_, .int _, fun _ z => z, fun y H6 s6 dy => ⟨m5.trans (.same s6), _, ?_, dy⟩⟩⟩)
          rw [if_pos z]
          show some (PyData.tuple _) = _
          rw [List.map_append]
          rfl
      · have e5 := kept2_rows (n := n) (ss := ss) (l := mv n ss i) (mv n ss i).length (Nat.le_refl _)
        rw [List.length_map, e5, List.take_length] at hD3
        exact ⟨_, r, us2, rfl, m.trans ex3, ml.dom _ nr, hl3, hin, hD3⟩
    · obtain ⟨y2, l, us, rfl, m, nl, h, hi, dd⟩ := p
      rw [List.length_map, List.length_range] at dd
      have ml : Ex O nA H H' := (m0.trans m2).trans m
      refine wS_kept (H0 := H) hr cl kp mM o (fun H Q q => nm 0 q) (fun H Q q => nm 0 q) (nm 1 ⟨l, us, _, rfl, nl, ml, h, dd, mm n ss, fun H3 m3 dy => q _ _ m3 dy⟩)
end
end Lw
namespace Lw
open PySem PySem.Spec PyProof.Rows L2 NdefX LamX
section
variable {P : Program} {w : World} {K : PySem.W.Frag} {mg : Str → Option Value} {base : Heap} {O : Prm} {ws : List Str}
open Classical
abbrev s_is_move_by : Stmt := topS 36
abbrev n_is_move_by : List Str := ["order", "value", "goal", "low", "high"]
theorem sc_is_move_by : FnScope n_is_move_by ["order", "value"] (defScope s_is_move_by) := ⟨rfl, rfl, rfl, by decide +kernel, rfl, by decide +kernel, by decide +kernel⟩
/-- of a move: some value r -/
def sp_move (O : Prm) (f : V) : Spn := fun vs H Q => ∃ (v r : V) (l : List Nat) (n : Nat) (ss : Steps), vs = [v, r] ∧ OrdAt O H v n ss ∧ Vo n ss ∧ Dt H r (eNs l) ∧ Mv n ss l ∧ ∀ H', Ex O nA H H' → Q f H'
theorem fn_is_move_by {f : Addr} {fd : FuncData} (B : Bi mg) (cl : OCls K O.C) (D1 : Df P w K mg base 1 "is_tuple_of" sp_is_tuple_of) (D2 : Df P w K mg base 3 "is_place" (sp_is_place O)) (D3 : AtMost P w K mg base O) (F : Fun K "is_move_by" "is_move_by" s_is_move_by f fd) : FnOk P w K mg base (L2.CX P w) 5 f fd ["order", "value"] (nn (sp_move O (.bl true))) := by
  refine fn_w F sc_is_move_by (fun vs H Q h => ?_) fun cdv A outer s H vs Q E hr h => ?_
  · obtain ⟨v, r, l, n, ss, rfl, _⟩ := h
    rfl
  · obtain ⟨v, r, l, n, ss, rfl, o, vo, dr, mvd, q⟩ := h
    have hn := vo.hi
    have hl := mvd.len
    refine wS_cons (w1_if (or2 (wT_not (wT_val (by intro _; rfl) (call2 D1 hr (nm 1 (o_places cl (nm 0 ⟨o, r, _, _, rfl, dr, true, ?_, ?_⟩))))))))
    · rw [List.length_map, hl, decide_eq_true rfl]
    refine iteF (wT_not (wT_val (by intro _; rfl) (all_ls rfl B.all ?_)))
    refine wE_lcN (O := O) (i := 2) (x := "goal") rfl sc_is_move_by.nd (by intro _; rfl) (blkOk_by (N := n_is_move_by) (sc := defScope s_is_move_by) (by decide +kernel)) (fun _ _ _ _ _ => pg_name sc_is_move_by.nd rfl (Or.inl rfl))
      (src_tup (nm 1 ⟨.refl _, dr⟩)) (by rw [List.length_map]; omega) (fun _ _ => some (.bool true)) (fun k d' v' Ha e1 ex dv => ?_) fun z1 H1 us1 _ m1 hl1 hD1 => ?_
    · obtain ⟨rfl, hm⟩ := natAt e1
      have hb := mvd.bd _ hm
      rw [dv.int_inv]
      refine turn_nil fun s H0 C cl2 fp => call2 D2 hr (nm 0 (nm 2 ⟨v, _, n, ss, rfl, ex.ord _ _ _ o, .refl _, _, rfl, ?_⟩))
      rw [decide_eq_true (show (0 : Int) ≤ ((l.getD k 0 : Nat) : Int) ∧ ((l.getD k 0 : Nat) : Int) ≤ (n : Int) - 1 by omega)]
      exact .bl _
    refine ⟨(List.range l.length).map fun _ => true, .of hl1 ?_, true, ?_, ?_⟩
    · rw [kept_all (g := fun _ => .bool true) fun _ _ _ => rfl, List.length_map] at hD1
      rw [List.map_map]
      exact hD1
    · congr 1
      simp
    refine iteF (wS_nil (wS_one (w1_ret (all_ls rfl B.all ?_))))
    refine wE_lcP (O := O) (i := 3) (j := 4) (x := "low") (y := "high") (by decide) rfl sc_is_move_by.nd (by intro _; rfl) (blkOk_by (N := n_is_move_by) (sc := defScope s_is_move_by) (by decide +kernel)) (fun _ _ _ _ _ => pg_tup rfl (pgs_cons (pg_name sc_is_move_by.nd rfl (Or.inl rfl)) (pgs_cons (pg_name sc_is_move_by.nd rfl (Or.inl rfl)) pgs_nil)))
      (src_tup (o_steps cl (nm 0 ⟨m1.ord _ _ _ o, fun t dt => ⟨.refl _, dt⟩⟩))) (by rw [List.length_map]; have := vo.vs.len; omega) (fun _ _ => some (.bool true)) (fun k d' v' Ha e1 ex dv => ?_) fun z2 H2 us2 _ m2 hl2 hD2 => ?_
    · obtain ⟨rfl, hp⟩ := prAt e1
      generalize ss.getD k (0, 0) = p at hp dv ⊢
      have hb := vo.vs.bd _ hp
      have mm := m1.trans ex
      refine ⟨_, _, rfl, fun u w' du dw => ?_⟩
      rw [du.int_inv, dw.int_inv]
      refine turn_nil fun s H0 C cl2 fp => call3 D3 hr (nm 0 (ix_t (nm 1 (nm 3 ⟨_, _, _, dr.mono mm.im, rfl, atI_nat' (rowAt1 (row := l) (k := p.1) (by omega)), fun y1 h1 => ?_⟩))))
      rw [h1.int_inv]
      refine ix_t (nm 1 (nm 4 ⟨_, _, _, dr.mono mm.im, rfl, atI_nat' (rowAt1 (row := l) (k := p.2) (by omega)), fun y2 h2 => ?_⟩))
      rw [h2.int_inv]
      refine ⟨v, _, _, n, ss, rfl, mm.ord _ _ _ o, vo, mvd.bd _ (getD_in (by omega)), mvd.bd _ (getD_in (by omega)), fun H6 m6 => ⟨m6, _, rfl, ?_⟩⟩
      rw [decide_eq_true (mvd.up _ hp)]
      exact .bl _
    · refine ⟨(List.range ss.length).map fun _ => true, .of hl2 ?_, qb ?_ (q _ (m1.trans m2))⟩
      · rw [kept_all (g := fun _ => .bool true) fun _ _ _ => rfl, List.length_map] at hD2
        rw [List.map_map]
        exact hD2
      · simp
abbrev s_fixed_by : Stmt := topS 37
theorem sc_fixed_by : FnScope ["order", "move", "place"] ["order", "move"] (defScope s_fixed_by) := ⟨rfl, rfl, rfl, by decide +kernel, rfl, by decide +kernel, by decide +kernel⟩
def sp_fixed (O : Prm) (c : Nat → Steps → List Nat → Prop) : Spn := fun vs H Q => ∃ (v r : V) (l : List Nat) (n : Nat) (ss : Steps), vs = [v, r] ∧ OrdAt O H v n ss ∧ Vo n ss ∧ Dt H r (eNs l) ∧ c n ss l ∧ ∀ H' y, Ex O nA H H' → Dt H' y (eNs (fixd l)) → Q y H'
theorem fn_fixed_by {f : Addr} {fd : FuncData} (B : Bi mg) (D1 : Df P w K mg base 1 "places_of" (sp_places_of O)) (F : Fun K "fixed_by" "fixed_by" s_fixed_by f fd) : FnOk P w K mg base (L2.CX P w) 2 f fd ["order", "move"] (nn (sp_fixed O fun n _ l => l.length = n)) := by
  refine fn_w F sc_fixed_by (fun vs H Q h => ?_) fun cdv A outer s H vs Q E hr h => ?_
  · obtain ⟨v, r, l, n, ss, rfl, _⟩ := h
    rfl
  · obtain ⟨v, r, l, n, ss, rfl, o, vo, dr, hl, q⟩ := h
    have hn := vo.hi
    refine wS_one (w1_ret (tup_ls B.tuple ?_))
    refine wE_lcN (O := O) (i := 2) (x := "place") rfl sc_fixed_by.nd (by intro _; rfl) (blkOk_by (N := ["order", "move", "place"]) (sc := defScope s_fixed_by) (by decide +kernel)) (fun _ _ _ _ _ => pg_name sc_fixed_by.nd rfl (Or.inl rfl))
      (src_tup (call1 D1 hr (nm 0 ⟨v, n, ss, rfl, o, hn, fun H1 y m1 dy => ⟨m1, dy⟩⟩))) (by rw [List.length_map, List.length_range]; omega) (fun k _ => if decide (l.getD k 0 = k) = true then some (eN k) else none) (fun k d' v' Ha e1 ex dv => ?_) fun z1 H1 us1 _ m1 hl1 hD1 => ?_
    · obtain ⟨rfl, hk⟩ := rngAt e1
      rw [dv.int_inv]
      refine turn_one (k := decide (l.getD k 0 = k)) (fun s H0 C cl2 fp => ?_) (fun z => by rw [z]; rfl) fun z H5 m5 s H0 C cl2 fp => ?_
      · refine teq_int (ix_t (nm 1 (nm 2 ⟨_, _, _, dr.mono ex.im, rfl, atI_nat' (rowAt1 (row := l) (k := k) (by omega)), fun y1 h1 => nm 2 ⟨_, _, h1.int_inv, rfl, ?_⟩⟩)))
        exact ⟨dec_nat, .refl _⟩
      · refine nm 2 ⟨m5, _, ?_, .int _⟩
        rw [if_pos z]
        rfl
    · refine ⟨_, .of hl1 hD1, fun y H2 s2 dy => q _ _ (m1.trans (.same s2)) ?_⟩
      have e : kept (fun k _ => if decide (l.getD k 0 = k) = true then some (eN k) else none) ((List.range n).map eN) ((List.range n).map eN).length = (fixd l).map eN := by
        rw [kept_fil' (f := eN) (c := fun i => decide (l.getD i 0 = i)) fun i a e => ?_]
        · unfold fixd
          rw [hl]
        · obtain ⟨h1, h2⟩ := List.getElem?_eq_some_iff.mp e
          rw [List.getElem_range] at h2
          rw [h2]
      rw [e] at dy
      exact dy
abbrev s_count_moves_by : Stmt := topS 38
theorem sc_count_moves_by : FnScope ["order"] ["order"] (defScope s_count_moves_by) := ⟨rfl, rfl, rfl, by decide +kernel, rfl, by decide +kernel, by decide +kernel⟩
def sp_count (O : Prm) (f : Nat → Steps → Nat) : Spn := fun vs H Q => ∃ (v : V) (n : Nat) (ss : Steps), vs = [v] ∧ OrdAt O H v n ss ∧ Vo n ss ∧ ∀ H', Ex O nA H H' → Q (.int (f n ss : Int)) H'
abbrev MvL (P : Program) (w : World) (K : PySem.W.Frag) (mg : Str → Option Value) (base : Heap) (O : Prm) : Prop := Df P w K mg base 7 "all_moves_by" (sp_list O fun n ss => (mv n ss n).map eNs)
theorem fn_count_moves_by {f : Addr} {fd : FuncData} (B : Bi mg) (D1 : MvL P w K mg base O) (F : Fun K "count_moves_by" "count_moves_by" s_count_moves_by f fd) : FnOk P w K mg base (L2.CX P w) 8 f fd ["order"] (nn (sp_count O fun n ss => (mv n ss n).length)) := by
  refine fn_w F sc_count_moves_by (fun vs H Q h => ?_) fun cdv A outer s H vs Q E hr h => ?_
  · obtain ⟨v, n, ss, rfl, _⟩ := h
    rfl
  · obtain ⟨v, n, ss, rfl, o, vo, q⟩ := h
    refine wS_one (w1_ret (len_ls B.len (call1 D1 hr (nm 0 ⟨v, n, ss, rfl, o, vo, fun H1 y m1 dy => ⟨_, (LsAt.frz (A := nA) dy).ls, ?_⟩⟩))))
    rw [List.length_map]
    exact q _ m1
theorem rowsGet {l : List (List Nat)} {i : Nat} {a : List Nat} (h : l[i]? = some a) : l.getD i [] = a := by simp [h]
abbrev s_all_restless : Stmt := topS 39
theorem sc_all_restless : FnScope ["order", "move"] ["order"] (defScope s_all_restless) := ⟨rfl, rfl, rfl, by decide +kernel, rfl, by decide +kernel, by decide +kernel⟩
theorem fn_all_restless {f : Addr} {fd : FuncData} (cl : OCls K O.C) (kp : Kp O ws) (mm : ∀ n ss, O.mm n ss "restless" = some ((rst n ss).map eNs)) (mM : ∃ t, mg "RESTLESS" = some (.str "restless" t)) (D1 : MvL P w K mg base O) (D2 : Df P w K mg base 2 "fixed_by" (sp_fixed O fun n _ l => l.length = n))
    (F : Fun K "all_restless" "all_restless" s_all_restless f fd) : FnOk P w K mg base (L2.CX P w) 8 f fd ["order"] (nn (sp_list O fun n ss => (rst n ss).map eNs)) := by
  refine fn_w F sc_all_restless (fun vs H Q h => ?_) fun cdv A outer s H vs Q E hr h => ?_
  · obtain ⟨v, n, ss, rfl, _⟩ := h
    rfl
  · obtain ⟨v, n, ss, rfl, o, vo, q⟩ := h
    obtain ⟨tM, mM⟩ := mM
    refine wS_memo hr cl mM o (mm n ss) (fun H Q q => nm 0 q) (fun H Q q => nm 0 q) (fun y dy => q _ _ (.refl _) dy) ?_
    refine wS_kept (H0 := H) hr cl kp mM o (fun H Q q => nm 0 q) (fun H Q q => nm 0 q) ?_
    refine wE_lcN (O := O) (i := 1) (x := "move") rfl sc_all_restless.nd (by intro _; rfl) (blkOk_by (N := ["order", "move"]) (sc := defScope s_all_restless) (by decide +kernel)) (fun _ _ _ _ _ => pg_name sc_all_restless.nd rfl (Or.inl rfl))
      (src_list (call1 D1 hr (nm 0 ⟨v, n, ss, rfl, o, vo, fun H1 y m1 dy => ⟨m1, .frz dy⟩⟩))) (by rw [List.length_map]; have := mv_small (ss := ss) vo.hi (Nat.le_refl n); omega) (fun k _ => if decide (fixd ((mv n ss n).getD k []) = []) = true then some (eNs ((mv n ss n).getD k [])) else none) (fun k d' v' Ha e1 ex dv => ?_) fun z1 H1 us1 nz m1 hl1 hD1 => ?_
    · obtain ⟨rfl, hm⟩ := mvAt e1
      generalize (mv n ss n).getD k [] = row at hm dv ⊢
      obtain ⟨h1, h2⟩ := mv_row hm
      refine turn_one (k := decide (fixd row = [])) (fun s H0 C cl2 fp => ?_) (fun z => by rw [z]; rfl) fun z H5 m5 s H0 C cl2 fp => ?_
      · refine teq_d hr (call2 D2 hr (nm 0 (nm 1 ⟨v, v', row, n, ss, rfl, ex.ord _ _ _ o, vo, dv, h1, fun H6 y m6 dy => tup0 fun l nl => ⟨_, _, 2, 2, (dy.mono (.new nl)).dp, (Dt.new nl .nil).dp, fl_ns, fl_tuple (fun _ z => absurd z (by simp)), by decide, by decide, ?_⟩⟩)))
        exact ⟨eqv_ns (m := []), m6.trans (.new nl)⟩
      · refine nm 1 ⟨m5, _, ?_, dv.mono m5.im⟩
        rw [if_pos z]
    · refine ⟨z1, us1, _, rfl, nz, m1, hl1, hD1, ?_, fun H3 m3 dy => q _ _ m3 ?_⟩
      · rw [mm]
        congr 1
        rw [kept_fil' (f := eNs) (c := fun m => decide (fixd m = [])) fun i a e => by rw [rowsGet e]]
        rfl
      · rw [kept_fil' (f := eNs) (c := fun m => decide (fixd m = [])) fun i a e => by rw [rowsGet e]] at dy
        exact dy
end
end Lw
namespace Lw
open PySem PySem.Spec PyProof.Rows L2 NdefX LamX
section
variable {P : Program} {w : World} {K : PySem.W.Frag} {mg : Str → Option Value} {base : Heap} {O : Prm} {ws : List Str}
open Classical
abbrev s_check_move : Stmt := topS 40
theorem sc_check_move : FnScope ["order", "move"] ["order", "move"] (defScope s_check_move) := ⟨rfl, rfl, rfl, by decide +kernel, rfl, by decide +kernel, by decide +kernel⟩
theorem fn_check_move {f : Addr} {fd : FuncData} (D1 : Df P w K mg base 5 "is_move_by" (sp_move O (.bl true))) (F : Fun K "check_move" "check_move" s_check_move f fd) : FnOk P w K mg base (L2.CX P w) 6 f fd ["order", "move"] (nn (sp_move O .non)) := by
  refine fn_w F sc_check_move (fun vs H Q h => ?_) fun cdv A outer s H vs Q E hr h => ?_
  · obtain ⟨v, r, l, n, ss, rfl, _⟩ := h
    rfl
  · obtain ⟨v, r, l, n, ss, rfl, o, vo, dr, mvd, q⟩ := h
    refine wS_one (w1_if (wT_not (wT_val (by intro _; rfl) (call2 D1 hr (nm 0 (nm 1 ⟨v, r, l, n, ss, rfl, o, vo, dr, mvd, fun H1 m1 => ⟨true, rfl, ?_⟩⟩))))))
    exact iteF (wS_nil (q _ m1))
abbrev CheckO (P : Program) (w : World) (K : PySem.W.Frag) (mg : Str → Option Value) (base : Heap) (O : Prm) : Prop := Df P w K mg base 1 "check_order" (sp_check_order O)
abbrev s_check_moved : Stmt := topS 41
theorem sc_check_moved : FnScope ["order", "move"] ["order", "move"] (defScope s_check_moved) := ⟨rfl, rfl, rfl, by decide +kernel, rfl, by decide +kernel, by decide +kernel⟩
theorem fn_check_moved {f : Addr} {fd : FuncData} (D0 : CheckO P w K mg base O) (D1 : Df P w K mg base 6 "check_move" (sp_move O .non)) (F : Fun K "check_moved" "check_moved" s_check_moved f fd) : FnOk P w K mg base (L2.CX P w) 7 f fd ["order", "move"] (nn (sp_move O .non)) := by
  refine fn_w F sc_check_moved (fun vs H Q h => ?_) fun cdv A outer s H vs Q E hr h => ?_
  · obtain ⟨v, r, l, n, ss, rfl, _⟩ := h
    rfl
  · obtain ⟨v, r, l, n, ss, rfl, o, vo, dr, mvd, q⟩ := h
    refine wS_cons (w1_expr rfl (call1 D0 hr (nm 0 ⟨v, n, ss, rfl, o, ?_⟩)))
    exact wS_one (w1_expr rfl (call2 D1 hr (nm 0 (nm 1 ⟨v, r, l, n, ss, rfl, o, vo, dr, mvd, fun H1 m1 => q _ m1⟩))))
abbrev s_is_move : Stmt := topS 42
theorem sc_is_move : FnScope ["order", "value"] ["order", "value"] (defScope s_is_move) := ⟨rfl, rfl, rfl, by decide +kernel, rfl, by decide +kernel, by decide +kernel⟩
theorem fn_is_move {f : Addr} {fd : FuncData} (D0 : CheckO P w K mg base O) (D1 : Df P w K mg base 5 "is_move_by" (sp_move O (.bl true))) (F : Fun K "is_move" "is_move" s_is_move f fd) : FnOk P w K mg base (L2.CX P w) 6 f fd ["order", "value"] (nn (sp_move O (.bl true))) := by
  refine fn_w F sc_is_move (fun vs H Q h => ?_) fun cdv A outer s H vs Q E hr h => ?_
  · obtain ⟨v, r, l, n, ss, rfl, _⟩ := h
    rfl
  · obtain ⟨v, r, l, n, ss, rfl, o, vo, dr, mvd, q⟩ := h
    refine wS_cons (w1_expr rfl (call1 D0 hr (nm 0 ⟨v, n, ss, rfl, o, ?_⟩)))
    exact wS_one (w1_ret (call2 D1 hr (nm 0 (nm 1 ⟨v, r, l, n, ss, rfl, o, vo, dr, mvd, fun H1 m1 => q _ m1⟩))))
abbrev s_count_moves : Stmt := topS 43
theorem sc_count_moves : FnScope ["order"] ["order"] (defScope s_count_moves) := ⟨rfl, rfl, rfl, by decide +kernel, rfl, by decide +kernel, by decide +kernel⟩
theorem fn_count_moves {f : Addr} {fd : FuncData} (D0 : CheckO P w K mg base O) (D1 : Df P w K mg base 8 "count_moves_by" (sp_count O fun n ss => (mv n ss n).length)) (F : Fun K "count_moves" "count_moves" s_count_moves f fd) : FnOk P w K mg base (L2.CX P w) 9 f fd ["order"] (nn (sp_count O fun n ss => (mv n ss n).length)) := by
  refine fn_w F sc_count_moves (fun vs H Q h => ?_) fun cdv A outer s H vs Q E hr h => ?_
  · obtain ⟨v, n, ss, rfl, _⟩ := h
    rfl
  · obtain ⟨v, n, ss, rfl, o, vo, q⟩ := h
    refine wS_cons (w1_expr rfl (call1 D0 hr (nm 0 ⟨v, n, ss, rfl, o, ?_⟩)))
    exact wS_one (w1_ret (call1 D1 hr (nm 0 ⟨v, n, ss, rfl, o, vo, fun H1 m1 => q _ m1⟩)))
abbrev s_count_restless : Stmt := topS 44
theorem sc_count_restless : FnScope ["order"] ["order"] (defScope s_count_restless) := ⟨rfl, rfl, rfl, by decide +kernel, rfl, by decide +kernel, by decide +kernel⟩
theorem fn_count_restless {f : Addr} {fd : FuncData} (B : Bi mg) (D0 : CheckO P w K mg base O) (D1 : Df P w K mg base 8 "all_restless" (sp_list O fun n ss => (rst n ss).map eNs)) (F : Fun K "count_restless" "count_restless" s_count_restless f fd) : FnOk P w K mg base (L2.CX P w) 9 f fd ["order"] (nn (sp_count O fun n ss => (rst n ss).length)) := by
  refine fn_w F sc_count_restless (fun vs H Q h => ?_) fun cdv A outer s H vs Q E hr h => ?_
  · obtain ⟨v, n, ss, rfl, _⟩ := h
    rfl
  · obtain ⟨v, n, ss, rfl, o, vo, q⟩ := h
    refine wS_cons (w1_expr rfl (call1 D0 hr (nm 0 ⟨v, n, ss, rfl, o, ?_⟩)))
    refine wS_one (w1_ret (len_ls B.len (call1 D1 hr (nm 0 ⟨v, n, ss, rfl, o, vo, fun H1 y m1 dy => ⟨_, (LsAt.frz (A := nA) dy).ls, ?_⟩⟩))))
    rw [List.length_map]
    exact q _ m1
abbrev s_left_still : Stmt := topS 45
theorem sc_left_still : FnScope ["order", "move"] ["order", "move"] (defScope s_left_still) := ⟨rfl, rfl, rfl, by decide +kernel, rfl, by decide +kernel, by decide +kernel⟩
theorem fn_left_still {f : Addr} {fd : FuncData} (D0 : Df P w K mg base 7 "check_moved" (sp_move O .non)) (D1 : Df P w K mg base 2 "fixed_by" (sp_fixed O fun n _ l => l.length = n)) (F : Fun K "left_still" "left_still" s_left_still f fd) : FnOk P w K mg base (L2.CX P w) 8 f fd ["order", "move"] (nn (sp_fixed O Mv)) := by
  refine fn_w F sc_left_still (fun vs H Q h => ?_) fun cdv A outer s H vs Q E hr h => ?_
  · obtain ⟨v, r, l, n, ss, rfl, _⟩ := h
    rfl
  · obtain ⟨v, r, l, n, ss, rfl, o, vo, dr, mvd, q⟩ := h
    refine wS_cons (w1_expr rfl (call2 D0 hr (nm 0 (nm 1 ⟨v, r, l, n, ss, rfl, o, vo, dr, mvd, fun H1 m1 => ?_⟩))))
    exact wS_one (w1_ret (call2 D1 hr (nm 0 (nm 1 ⟨v, r, l, n, ss, rfl, m1.ord _ _ _ o, vo, dr.mono m1.im, mvd.len, fun H2 y m2 dy => q _ _ (m1.trans m2) dy⟩))))
/-! ### again -/
abbrev s_staying_of : Stmt := topS 47
theorem sc_staying_of : FnScope ["order"] ["order"] (defScope s_staying_of) := ⟨rfl, rfl, rfl, by decide +kernel, rfl, by decide +kernel, by decide +kernel⟩
theorem fn_staying_of {f : Addr} {fd : FuncData} (D1 : Df P w K mg base 1 "places_of" (sp_places_of O)) (F : Fun K "staying_of" "staying_of" s_staying_of f fd) : FnOk P w K mg base (L2.CX P w) 2 f fd ["order"] (nn (sp_places_of O)) := by
  refine fn_w F sc_staying_of (fun vs H Q h => ?_) fun cdv A outer s H vs Q E hr h => ?_
  · obtain ⟨v, n, ss, rfl, _⟩ := h
    rfl
  · obtain ⟨v, n, ss, rfl, o, hn, q⟩ := h
    exact wS_one (w1_ret (call1 D1 hr (nm 0 ⟨v, n, ss, rfl, o, hn, q⟩)))
abbrev s_behind : Stmt := topS 48
theorem sc_behind : FnScope ["move", "later", "place"] ["move", "later"] (defScope s_behind) := ⟨rfl, rfl, rfl, by decide +kernel, rfl, by decide +kernel, by decide +kernel⟩
def sp_behind (O : Prm) : Spn := fun vs H Q => ∃ (u r : V) (two one : List Nat), vs = [u, r] ∧ Dt H u (eNs two) ∧ Dt H r (eNs one) ∧ two.length ≤ 1000 ∧ (∀ x ∈ two, x < one.length) ∧ ∀ H' y, Ex O nA H H' → Dt H' y (eNs (beh one two)) → Q y H'
theorem kept_beh {one two : List Nat} : kept (fun k _ => some (eN (one.getD (two.getD k 0) 0))) (two.map eN) (two.map eN).length = (beh one two).map eN := by
  rw [kept_map' (f := fun g => eN (one.getD g 0)) fun i a e => by rw [getD_of e]]
  unfold beh
  rw [List.map_map]
  rfl
theorem fn_behind {f : Addr} {fd : FuncData} (B : Bi mg) (F : Fun K "behind" "behind" s_behind f fd) : FnOk P w K mg base (L2.CX P w) 1 f fd ["move", "later"] (nn (sp_behind O)) := by
  refine fn_w F sc_behind (fun vs H Q h => ?_) fun cdv A outer s H vs Q E hr h => ?_
  · obtain ⟨u, r, two, one, rfl, _⟩ := h
    rfl
  · obtain ⟨u, r, two, one, rfl, du, dr, hl, hb, q⟩ := h
    refine wS_one (w1_ret (tup_ls B.tuple ?_))
    refine wE_lcN (O := O) (i := 2) (x := "place") rfl sc_behind.nd (by intro _; rfl) (blkOk_by (N := ["move", "later", "place"]) (sc := defScope s_behind) (by decide +kernel)) (fun _ _ _ _ _ => pg_name sc_behind.nd rfl (Or.inl rfl))
      (src_tup (nm 0 ⟨.refl _, du⟩)) (by rw [List.length_map]; omega) (fun k _ => some (eN (one.getD (two.getD k 0) 0))) (fun k d' v' Ha e1 ex dv => ?_) fun z1 H1 us1 _ m1 hl1 hD1 => ?_
    · obtain ⟨rfl, hm⟩ := natAt e1
      rw [dv.int_inv]
      exact turn_nil fun s H0 C cl2 fp => ix_t (nm 1 (nm 2 ⟨_, _, _, dr.mono ex.im, rfl, atI_nat' (rowAt1 (hb _ hm)), fun y1 h1 => ⟨.refl _, _, rfl, h1⟩⟩))
    · refine ⟨_, .of hl1 hD1, fun y H2 s2 dy => q _ _ (m1.trans (.same s2)) ?_⟩
      rw [kept_beh] at dy
      exact dy
abbrev s_done_by : Stmt := topS 49
abbrev n_done_by : List Str := ["order", "move", "times", "found", "turn"]
theorem sc_done_by : FnScope n_done_by ["order", "move", "times"] (defScope s_done_by) := ⟨rfl, rfl, rfl, by decide +kernel, rfl, by decide +kernel, by decide +kernel⟩
def sp_done (O : Prm) : Spn := fun vs H Q => ∃ (v r : V) (l : List Nat) (t n : Nat) (ss : Steps), vs = [v, r, .int (t : Int)] ∧ OrdAt O H v n ss ∧ Vo n ss ∧ Dt H r (eNs l) ∧ Mv n ss l ∧ t ≤ 99 ∧ ∀ H' y, Ex O nA H H' → Dt H' y (eNs (dn n l t)) → Q y H'
theorem dn_row {n : Nat} {ss : Steps} {l : List Nat} (h : Mv n ss l) : ∀ t, (dn n l t).length = n ∧ ∀ x ∈ dn n l t, x < n
  | 0 => ⟨List.length_range, fun x hx => List.mem_range.mp hx⟩
  | t + 1 => by
    obtain ⟨h1, h2⟩ := dn_row h t
    refine ⟨by rw [dn, beh, List.length_map, h1], fun x hx => ?_⟩
    rw [dn, beh] at hx
    obtain ⟨g, hg, rfl⟩ := List.mem_map.mp hx
    exact h.bd _ (getD_in (by rw [h.len]; exact h2 g hg))
theorem fn_done_by {f : Addr} {fd : FuncData} (B : Bi mg) (D1 : Df P w K mg base 2 "staying_of" (sp_places_of O)) (D2 : Df P w K mg base 1 "behind" (sp_behind O)) (F : Fun K "done_by" "done_by" s_done_by f fd) : FnOk P w K mg base (L2.CX P w) 3 f fd ["order", "move", "times"] (nn (sp_done O)) := by
  refine fn_w F sc_done_by (fun vs H Q h => ?_) fun cdv A outer s H vs Q E hr h => ?_
  · obtain ⟨v, r, l, t, n, ss, rfl, _⟩ := h
    rfl
  · obtain ⟨v, r, l, t, n, ss, rfl, o, vo, dr, mvd, ht, q⟩ := h
    have hn := vo.hi
    refine wS_cons (w1_set 3 sc_done_by.nd rfl (.inl rfl) rfl (.inl rfl) (call1 D1 hr (nm 0 ⟨v, n, ss, rfl, o, hn, fun H1 y m1 dy => ?_⟩)))
    refine wS_cons (w1_for (O := O) (A := nA) (ds := eRg t) .never rfl (by intro _; rfl) (src_range (by rfl) B.range (by rfl) (nm 2 ⟨.refl _, rfl⟩) (by omega)) fun H2 m2 => ?_)
    refine ⟨fun i σ' H' => ∃ y2 y, σ' = [some v, some r, some (.int (t : Int)), some y, y2] ∧ Ex O nA H2 H' ∧ i ≤ t ∧ Dt H' y (eNs (dn n l i)),
      ⟨none, y, rfl, .refl _, Nat.zero_le _, dy.mono m2.im⟩, fun i σ' H' p => ?_, fun i σ' H' Hb p sm => ?_, fun i d' x σ' H' e1 p dx => ?_, fun σ' H' p => ?_⟩
    · obtain ⟨_, _, _, m, _⟩ := p
      exact m
    · obtain ⟨y2, y, e, m, hi, dd⟩ := p
      exact ⟨y2, y, e, m.trans (.same sm), hi, dd.mono (.same sm)⟩
    · obtain ⟨y2, y, rfl, m, hi, dd⟩ := p
      have hi2 : i < t := by
        have := (List.getElem?_eq_some_iff.mp e1).1
        rwa [eRg_len] at this
      obtain ⟨h1, h2⟩ := dn_row mvd i
      refine wG_name 4 sc_done_by.nd rfl (.inl rfl) (.inl rfl) ?_
      refine wS_one (w1_set 3 sc_done_by.nd rfl (.inl rfl) rfl (.inl rfl) (call2 D2 hr (nm 3 (nm 1 ⟨y, r, dn n l i, l, rfl, dd, dr.mono ((m1.trans m2).trans m).im, by omega, fun x hx => by rw [mvd.len]; exact h2 x hx, fun H4 y4 m4 d4 => ?_⟩))))
      exact ⟨_, y4, rfl, m.trans m4, hi2, d4⟩
    · obtain ⟨y2, y, rfl, m, hi, dd⟩ := p
      rw [eRg_len] at dd
      exact wS_one (w1_ret (nm 3 (q _ _ ((m1.trans m2).trans m) dd)))
abbrev s_check_moving : Stmt := topS 52
theorem sc_check_moving : FnScope ["order", "move"] ["order", "move"] (defScope s_check_moving) := ⟨rfl, rfl, rfl, by decide +kernel, rfl, by decide +kernel, by decide +kernel⟩
theorem fn_check_moving {f : Addr} {fd : FuncData} (D0 : CheckO P w K mg base O) (D1 : Df P w K mg base 6 "check_move" (sp_move O .non)) (F : Fun K "check_moving" "check_moving" s_check_moving f fd) : FnOk P w K mg base (L2.CX P w) 7 f fd ["order", "move"] (nn (sp_move O .non)) := by
  refine fn_w F sc_check_moving (fun vs H Q h => ?_) fun cdv A outer s H vs Q E hr h => ?_
  · obtain ⟨v, r, l, n, ss, rfl, _⟩ := h
    rfl
  · obtain ⟨v, r, l, n, ss, rfl, o, vo, dr, mvd, q⟩ := h
    refine wS_cons (w1_expr rfl (call1 D0 hr (nm 0 ⟨v, n, ss, rfl, o, ?_⟩)))
    exact wS_one (w1_expr rfl (call2 D1 hr (nm 0 (nm 1 ⟨v, r, l, n, ss, rfl, o, vo, dr, mvd, fun H1 m1 => q _ m1⟩))))
abbrev s_done : Stmt := topS 53
theorem sc_done : FnScope ["order", "move", "times"] ["order", "move", "times"] (defScope s_done) := ⟨rfl, rfl, rfl, by decide +kernel, rfl, by decide +kernel, by decide +kernel⟩
theorem fn_done {f : Addr} {fd : FuncData} (D0 : Df P w K mg base 7 "check_moving" (sp_move O .non)) (D1 : Df P w K mg base 2 "is_between" sp_is_between) (D2 : Df P w K mg base 3 "done_by" (sp_done O)) (mT : ∃ t, mg "MOST_TIMES" = some (.int 99 t)) (F : Fun K "done" "done" s_done f fd) : FnOk P w K mg base (L2.CX P w) 8 f fd ["order", "move", "times"] (nn (sp_done O)) := by
  refine fn_w F sc_done (fun vs H Q h => ?_) fun cdv A outer s H vs Q E hr h => ?_
  · obtain ⟨v, r, l, t, n, ss, rfl, _⟩ := h
    rfl
  · obtain ⟨v, r, l, t, n, ss, rfl, o, vo, dr, mvd, ht, q⟩ := h
    obtain ⟨tT, mT⟩ := mT
    refine wS_cons (w1_expr rfl (call2 D0 hr (nm 0 (nm 1 ⟨v, r, l, n, ss, rfl, o, vo, dr, mvd, fun H1 m1 => ?_⟩))))
    refine wS_cons (w1_if (wT_not (wT_val (by intro _; rfl) (call3 D1 hr (nm 2 (wE_int (gc (v := .int 99) mT ⟨_, rfl⟩ ⟨_, 0, 99, rfl, _, rfl, ?_⟩)))))))
    rw [decide_eq_true (show (0 : Int) ≤ (t : Int) ∧ (t : Int) ≤ 99 by omega)]
    refine iteF (wS_nil (wS_one (w1_ret (call3 D2 hr (nm 0 (nm 1 (nm 2 ⟨v, r, l, t, n, ss, rfl, m1.ord _ _ _ o, vo, dr.mono m1.im, mvd, ht, fun H2 y m2 dy => q _ _ (m1.trans m2) dy⟩)))))))
end
end Lw
namespace Lw
open PySem PySem.Spec PyProof.Rows L2 NdefX LamX
section
variable {X : Cx} {σ : L2.St} {H : Hp} {Q : VK} {QT : Bool → Hp → Prop} {pos pos' p p2 apos : Pos} {a b c value : Expr} {j : Nat} {O : Prm} {D : Ends}
theorem tgt_int (q : wE X a σ H fun v H1 => wE X b σ H1 fun u H2 => ∃ i j : Int, v = .int i ∧ u = .int j ∧ QT (decide (j < i)) H2) (hm : behindInMarks CmpOp.Gt b = false := by exact nomark _) : wT X (.Compare a [.Gt] [b] pos) σ H QT := by
  refine wT_cmp op_gt hm (wE_mono q fun v H1 q => wE_mono q fun u H2 q => ?_)
  obtain ⟨i, j, rfl, rfl, q⟩ := q
  exact ⟨i, j, rfl, rfl, _, rfl, q⟩
theorem tge_int (q : wE X a σ H fun v H1 => wE X b σ H1 fun u H2 => ∃ i j : Int, v = .int i ∧ u = .int j ∧ QT (decide (j ≤ i)) H2) (hm : behindInMarks CmpOp.GtE b = false := by exact nomark _) : wT X (.Compare a [.GtE] [b] pos) σ H QT := by
  refine wT_cmp op_ge hm (wE_mono q fun v H1 q => wE_mono q fun u H2 q => ?_)
  obtain ⟨i, j, rfl, rfl, q⟩ := q
  exact ⟨i, j, rfl, rfl, _, rfl, q⟩
theorem mul_int' (q : wE X a σ H fun v H1 => wE X b σ H1 fun u H2 => ∃ i j : Int, v = .int i ∧ u = .int j ∧ CMul i j ∧ Q (.int (i * j)) H2) : wE X (.BinOp a .Mult b pos) σ H Q := wE_op op_mul q
theorem mod_int' (q : wE X a σ H fun v H1 => wE X b σ H1 fun u H2 => ∃ i j : Int, v = .int i ∧ u = .int j ∧ 0 < j ∧ Q (.int (i % j)) H2) : wE X (.BinOp a .Mod b pos) σ H Q := wE_op op_mod q
theorem fdiv_int' (q : wE X a σ H fun v H1 => wE X b σ H1 fun u H2 => ∃ i j : Int, v = .int i ∧ u = .int j ∧ CDiv i j ∧ Q (.int (i / j)) H2) : wE X (.BinOp a .FloorDiv b pos) σ H Q := wE_op op_fdiv q
theorem pow_int' (q : wE X a σ H fun v H1 => wE X b σ H1 fun u H2 => ∃ i j : Int, v = .int i ∧ u = .int j ∧ CPow i j ∧ Q (.int (i ^ j.toNat)) H2) : wE X (.BinOp a .Pow b pos) σ H Q := wE_op op_pow q
/-- int(a) of an int -/
theorem int_of (hm : X.mg "int" = none) (q : wE X a σ H fun v H1 => ∃ i : Int, v = .int i ∧ Q (.int i) H1) (hg : Gl X "int" := by rfl) (h1 : starEach [a] X.env = (false, eval a X.env) :: starEach [] X.env := by rfl) : wE X (.Call (.Name "int" p) [a] [] pos) σ H Q := by
  refine ty1 call_int1 hm (wE_mono q fun v H1 q => ?_) (by decide +kernel) hg (by decide) (by decide) h1
  obtain ⟨i, rfl, q⟩ := q
  exact .inl ⟨i, rfl, q⟩
theorem abs_of (hm : X.mg "abs" = none) (q : wE X a σ H fun v H1 => ∃ i : Int, v = .int i ∧ ∀ k, Q (.int k) H1) (hg : Gl X "abs" := by rfl) (h1 : starEach [a] X.env = (false, eval a X.env) :: starEach [] X.env := by rfl) : wE X (.Call (.Name "abs" p) [a] [] pos) σ H Q := by
  refine bi1 call_abs hm (wE_mono q fun v H1 q => ?_) (by decide +kernel) hg (by decide) (by decide) h1
  obtain ⟨i, rfl, q⟩ := q
  exact ⟨i, rfl, q _⟩
theorem divmod_of (hm : X.mg "divmod" = none) (q : wE X a σ H fun v H1 => wE X b σ H1 fun u H2 => ∃ i j : Int, v = .int i ∧ u = .int j ∧ CDiv i j ∧ ∀ p, H2 p = none → Q (.ref p) (upd H2 p (.tup [.int (i / j), .int (i % j)]))) (hg : Gl X "divmod" := by rfl) (h1 : starEach [a, b] X.env = (false, eval a X.env) :: starEach [b] X.env := by rfl) (h2 : starEach [b] X.env = (false, eval b X.env) :: starEach [] X.env := by rfl) :
    wE X (.Call (.Name "divmod" p) [a, b] [] pos) σ H Q := by
  refine bi2 call_divmod hm (wE_mono q fun v H1 q => wE_mono q fun u H2 q => ?_) (by decide +kernel) hg (by decide) (by decide) h1 h2
  obtain ⟨i, j, rfl, rfl, q⟩ := q
  exact ⟨i, j, rfl, q⟩
/-- l[i] = v -/
theorem w1_lput (q : wE X value σ H fun v H1 => wE X a σ H1 fun x H2 => wE X b σ H2 fun y H3 => ∃ p xs k j, x = .ref p ∧ y = .int k ∧ H3 p = some (.lst xs) ∧ ixN xs.length k = some j ∧ D.nx σ (upd H3 p (.lst (xs.set j v)))) (hs : swapsWithSole [.Subscript a b pos'] value pos.line X.env = pure false := by rfl) (hw : swappedStores [.Subscript a b pos'] value X.env = pure none := by rfl)
    (h1 : (assignEach [.Subscript a b pos'] X.env).map (·.2) = [assign (.Subscript a b pos') X.env] := by rfl)
    (ha : ∀ v, assign (.Subscript a b pos') X.env v = (do
      let ov ← holding [v] (eval a X.env)
      let iv ← holding [v, ov] (eval b X.env)
      standAt pos'
      holding [v, ov, iv] (setItem ov iv v)
      release [v, ov, iv] []) := by intro _; rfl) : w1 X (.Assign [.Subscript a b pos'] value pos) D σ H :=
  w1_of (ps_asg wE_pe (pg_sub wE_pe wE_pe set_list ha) hs hw h1) q
/-- [a, b, c] -/
theorem lst3 (q : wE X a σ H fun v H1 => wE X b σ H1 fun u H2 => wE X c σ H2 fun t H3 => ∀ l, H3 l = none → Q (.ref l) (upd H3 l (.lst [v, u, t]))) (h1 : starEach [a, b, c] X.env = (false, eval a X.env) :: starEach [b, c] X.env := by rfl) (h2 : starEach [b, c] X.env = (false, eval b X.env) :: starEach [c] X.env := by rfl) (h3 : starEach [c] X.env = (false, eval c X.env) :: starEach [] X.env := by rfl) :
    wE X (.List [a, b, c] pos) σ H Q := wE_of (pe_lst (pa_cons wE_pe (pa_cons wE_pe (pa_cons wE_pe pa_nil h3) h2) h1)) (wE_mono q fun v H1 q => wE_mono q fun u H2 q => wE_mono q fun t H3 q => ⟨by show 3 ≤ sizeLine; decide, q⟩)
end
/-- the well at p -/
def WellAt (H : Hp) (p : Addr) : Prop := ∃ a b c : Int, H p = some (.lst [.int a, .int b, .int c])
theorem WellAt.ls {H : Hp} {p : Addr} {a b c : Int} (h : H p = some (.lst [.int a, .int b, .int c])) : Ls H (.ref p) [.int a, .int b, .int c] := .of h (.cons (.int _) (.cons (.int _) (.cons (.int _) .nil)))
section
variable {P : Program} {w : World} {K : PySem.W.Frag} {mg : Str → Option Value} {base : Heap} {O : Prm}
abbrev s_take : Stmt := topS 56
theorem sc_take : FnScope ["well", "many", "digit"] ["well", "many"] (defScope s_take) := ⟨rfl, rfl, rfl, by decide +kernel, rfl, by decide +kernel, by decide +kernel⟩
def sp_take (O : Prm) : Spn := fun vs H Q => ∃ (p : Addr) (m : Nat), vs = [.ref p, .int (m : Int)] ∧ WellAt H p ∧ 1 ≤ m ∧ m ≤ 1000000 ∧ ∀ H' (r : Nat), Ex O (· = p) H H' → WellAt H' p → r < m → Q (.int (r : Int)) H'
theorem fn_take {f : Addr} {fd : FuncData} (B : Bi mg) (F : Fun K "_law_take" "_law_take" s_take f fd) : FnOk P w K mg base (L2.CX P w) 1 f fd ["well", "many"] (nn (sp_take O)) := by
  refine fn_w F sc_take (fun vs H Q h => ?_) fun cdv A outer s H vs Q E hr h => ?_
  · obtain ⟨p, m, rfl, _⟩ := h
    rfl
  · obtain ⟨p, m, rfl, ⟨a, b, c, h0⟩, h1, h2, q⟩ := h
    have mod_nat : ∀ x : Int, ∃ r : Nat, x % (m : Int) = (r : Int) ∧ r < m := fun x => ⟨(x % (m : Int)).toNat, by have := Int.emod_nonneg x (show (m : Int) ≠ 0 by omega); omega, by have := Int.emod_lt_of_pos x (show (0 : Int) < (m : Int) by omega); have := Int.emod_nonneg x (show (m : Int) ≠ 0 by omega); omega⟩
    have at0 : ∀ {x y z : Int}, atI [PyData.int x, .int y, .int z] 0 = some (.int x) := rfl
    have at1 : ∀ {x y z : Int}, atI [PyData.int x, .int y, .int z] 1 = some (.int y) := rfl
    have at2 : ∀ {x y z : Int}, atI [PyData.int x, .int y, .int z] 2 = some (.int z) := rfl
    refine wS_cons (w1_if (tgt_int (ix_l (nm 0 (wE_int ⟨_, 0, _, WellAt.ls h0, rfl, at0, fun y dy => wE_int ⟨_, 0, dy.int_inv, rfl, ?_⟩⟩)))))
    by_cases ha : 0 < a
    · rw [decide_eq_true ha]
      refine iteT (wS_cons (w1_of (ps_asg wE_pe (pg_tup rfl (pgs_cons (pg_sub wE_pe wE_pe set_list) (pgs_cons (pg_name (i := 2) sc_take.nd rfl (Or.inl rfl)) pgs_nil)))) ?_))
      refine divmod_of B.divmod (ix_l (nm 0 (wE_int ⟨_, 0, _, WellAt.ls h0, rfl, at0, fun y dy => nm 1 ⟨a, m, dy.int_inv, rfl, ⟨by omega, by omega⟩, fun t nt => ?_⟩⟩)))
      have h3 := same_new (o := .tup [.int (a / (m : Int)), .int (a % (m : Int))]) nt _ _ h0
      refine ⟨t, _, rfl, .inl (.inl upd_same), rfl, _, _, rfl, nm 0 (wE_int ⟨p, _, 0, 0, rfl, rfl, h3, rfl, ?_⟩)⟩
      refine ⟨_, _, rfl, rfl, wS_one (w1_ret (nm 2 ?_))⟩
      obtain ⟨r, e1, e2⟩ := mod_nat a
      rw [e1]
      rw [e1] at h3
      exact q _ r ((Ex.new nt).trans (Ex.atA rfl h3)) ⟨_, _, _, upd_same⟩ e2
    · rw [decide_eq_false ha]
      refine iteF (wS_nil ?_)
      refine wS_cons (w1_lput (add_int' (ix_l (nm 0 (wE_int ⟨_, 2, _, WellAt.ls h0, rfl, at2, fun y dy => wE_int ⟨_, 1, dy.int_inv, rfl, nm 0 (wE_int ⟨p, _, 2, 2, rfl, rfl, h0, rfl, ?_⟩)⟩⟩)))))
      have h3 : (upd H p (.lst [.int a, .int b, .int (c + 1)])) p = some (.lst [.int a, .int b, .int (c + 1)]) := upd_same
      have m3 : Ex O (· = p) H (upd H p (.lst [.int a, .int b, .int (c + 1)])) := .atA rfl h0
      show wS _ _ _ _ (upd H p (.lst [.int a, .int b, .int (c + 1)]))
      generalize (upd H p (.lst [.int a, .int b, .int (c + 1)])) = H3 at h3 m3
      refine wS_cons (w1_lput (mod_int' (int_of B.int (add_int' (add_int' (mul_int' ?_))))))
      refine ix_l (nm 0 (wE_int ⟨_, 1, _, WellAt.ls h3, rfl, at1, fun y dy => wE_int ⟨_, 69621, dy.int_inv, rfl, .inr ⟨by decide, by decide⟩, ?_⟩⟩))
      refine mul_int' (ix_l (nm 0 (wE_int ⟨_, 2, _, WellAt.ls h3, rfl, at2, fun y dy => wE_int ⟨_, 30011, dy.int_inv, rfl, .inr ⟨by decide, by decide⟩, ?_⟩⟩)))
      refine ⟨_, _, rfl, rfl, wE_int ⟨_, _, rfl, rfl, _, rfl, wE_int ⟨_, _, rfl, rfl, by decide, nm 0 (wE_int ⟨p, _, 1, 1, rfl, rfl, h3, rfl, ?_⟩)⟩⟩⟩
      generalize (b * 69621 + (c + 1) * 30011 + 7) % 2147483587 = b2
      have h4 : (upd H3 p (.lst [.int a, .int b2, .int (c + 1)])) p = some (.lst [.int a, .int b2, .int (c + 1)]) := upd_same
      have m4 : Ex O (· = p) H3 (upd H3 p (.lst [.int a, .int b2, .int (c + 1)])) := .atA rfl h3
      show wS _ _ _ _ (upd H3 p (.lst [.int a, .int b2, .int (c + 1)]))
      generalize (upd H3 p (.lst [.int a, .int b2, .int (c + 1)])) = H4 at h4 m4
      refine wS_one (w1_ret (mod_int' (int_of B.int (add_int' (fdiv_int' ?_)))))
      refine ix_l (nm 0 (wE_int ⟨_, 1, _, WellAt.ls h4, rfl, at1, fun y dy => wE_int ⟨_, 256, dy.int_inv, rfl, ⟨by decide, by decide⟩, ?_⟩⟩))
      refine ix_l (nm 0 (wE_int ⟨_, 2, _, WellAt.ls h4, rfl, at2, fun y dy => ⟨_, _, rfl, dy.int_inv, _, rfl, nm 1 ⟨_, (m : Int), rfl, rfl, by omega, ?_⟩⟩⟩))
      obtain ⟨r, e1, e2⟩ := mod_nat (b2 / 256 + (c + 1))
      rw [e1]
      exact q _ r (m3.trans m4) ⟨_, _, _, h4⟩ e2
abbrev s_of : Stmt := topS 57
theorem sc_of : FnScope ["well", "things"] ["well", "things"] (defScope s_of) := ⟨rfl, rfl, rfl, by decide +kernel, rfl, by decide +kernel, by decide +kernel⟩
def sp_of (O : Prm) : Spn := fun vs H Q => ∃ (p : Addr) (v : V) (ds : List PyData), vs = [.ref p, v] ∧ WellAt H p ∧ LsAt (· = p) H v ds ∧ 1 ≤ ds.length ∧ ds.length ≤ 1000000 ∧ ∀ H' y d, Ex O (· = p) H H' → WellAt H' p → d ∈ ds → Dt H' y d → Q y H'
theorem fn_of_ {f : Addr} {fd : FuncData} (B : Bi mg) (D1 : Df P w K mg base 1 "_law_take" (sp_take O)) (F : Fun K "_law_of" "_law_of" s_of f fd) : FnOk P w K mg base (L2.CX P w) 2 f fd ["well", "things"] (nn (sp_of O)) := by
  refine fn_w F sc_of (fun vs H Q h => ?_) fun cdv A outer s H vs Q E hr h => ?_
  · obtain ⟨p, v, ds, rfl, _⟩ := h
    rfl
  · obtain ⟨p, v, ds, rfl, hw, d, h1, h2, q⟩ := h
    refine wS_one (w1_ret (ix_l (nm 1 (call2 D1 hr (nm 0 (len_ls B.len (nm 1 ⟨ds, d.ls, p, ds.length, rfl, hw, h1, h2, fun H1 r m1 w1 hlt => ?_⟩)))))))
    have e : ds[r]? = some ds[r] := List.getElem?_eq_getElem hlt
    exact ⟨ds, r, ds[r], (d.mono m1).ls, rfl, atI_nat' e, fun y dy => q _ _ _ m1 w1 (List.getElem_mem hlt) dy⟩
end
end Lw
namespace Lw
open PySem PySem.Spec PyProof.Rows L2 NdefX LamX
section
variable {P : Program} {w : World} {K : PySem.W.Frag} {mg : Str → Option Value} {base : Heap} {O : Prm}
open Classical
/-- pairs: a list of them, or a tuple -/
def PrsAt (H : Hp) (v : V) (ps : Steps) : Prop := LsAt nA H v (ps.map ePr) ∨ Dt H v (ePs ps)
theorem PrsAt.mono {H H' : Hp} {v : V} {ps : Steps} (m : Ex O nA H H') (h : PrsAt H v ps) : PrsAt H' v ps := h.imp (LsAt.mono m) fun d => d.mono m.im
theorem src_prs {X : Cx} {tg e : Expr} {σ : L2.St} {H : Hp} {ps : Steps} (h : ∃ v, (∀ Q, Q v H → wE X e σ H Q) ∧ PrsAt H v ps) : Src O nA X tg e σ H (ps.map ePr) := by
  obtain ⟨v, he, h⟩ := h
  rcases h with h | h
  · exact src_list (he _ ⟨.refl _, h⟩)
  · exact src_tup (he _ ⟨.refl _, h⟩)
abbrev s_below : Stmt := topS 60
abbrev n_below : List Str := ["places", "pairs", "found", "mid", "low", "high", "pair"]
theorem sc_below : FnScope n_below ["places", "pairs"] (defScope s_below) := ⟨rfl, rfl, rfl, by decide +kernel, rfl, by decide +kernel, by decide +kernel⟩
def sp_lbelow (O : Prm) : Spn := fun vs H Q => ∃ (n : Nat) (v : V) (ps : Steps), vs = [.int (n : Int), v] ∧ PrsAt H v ps ∧ n ≤ 6 ∧ (∀ p ∈ ps, p.1 < n ∧ p.2 < n) ∧ ps.length ≤ 1000 ∧ ∀ H' d kvs, H d = none → Ex O nA H H' → H' d = some (.dT kvs) → PrD kvs (TC ps) → kvs.length ≤ 36 → Q (.ref d) H'
theorem fn_below {f : Addr} {fd : FuncData} (B : Bi mg) (F : Fun K "_law_below" "_law_below" s_below f fd) : FnOk P w K mg base (L2.CX P w) 1 f fd ["places", "pairs"] (nn (sp_lbelow O)) := by
  refine fn_w F sc_below (fun vs H Q h => ?_) fun cdv A outer s H vs Q E hr h => ?_
  · obtain ⟨n, v, ps, rfl, _⟩ := h
    rfl
  · obtain ⟨n, v, ps, rfl, dp, hn, hb, hl, q⟩ := h
    have small : ∀ {kvs R}, PrD kvs R → (∀ a b, R a b → TC ps a b) → kvs.length ≤ 36 := fun {kvs R} h s => by
      have := h.len (n := n) fun a b z => TC.bd hb (s a b z)
      have := Nat.mul_le_mul hn hn
      omega
    refine wS_cons (w1_set 2 sc_below.nd rfl (.inl rfl) rfl (.inl rfl) (dict_pr hr rfl B.dict ?_))
    refine wE_lcN (O := O) (i := 6) (x := "pair") rfl sc_below.nd (by intro _; rfl) (blkOk_by (N := n_below) (sc := defScope s_below) (by decide +kernel)) (fun _ _ _ _ _ => pg_name sc_below.nd rfl (Or.inl rfl))
      (src_prs ⟨v, fun Q q => nm 1 q, dp⟩) (by rw [List.length_map]; omega) (fun _ d => some (.tuple [d, .bool true])) (fun k d' v' Ha e1 ex dv => ?_) fun l H1 us nl ex1 hl1 hD => ?_
    · exact turn_nil fun s H0 C cl fp => tup2 (nm 6 (wE_bl ⟨_, _, dv, .bl true, fun y H3 s3 dy => ⟨.same s3, _, rfl, dy⟩⟩))
    rw [kept_map' (F := fun _ d => some (.tuple [d, .bool true])) (enc := ePr) (f := fun p => .tuple [ePr p, .bool true]) (l := ps) fun _ _ _ => rfl] at hD
    refine ⟨ps, .of hl1 hD, fun fo kvs0 nf0 hp0 => ?_⟩
    have nf : H fo = none := ex1.dom _ nf0
    have m1 : Ex O nA H (upd H1 fo (.dT kvs0)) := ex1.trans (.new nf0)
    refine wS_cons (w1_for (O := O) (A := (· = fo)) (ds := eRg n) .never rfl (by intro _; rfl) (src_range (by rfl) B.range (by rfl) (nm 0 ⟨.refl _, rfl⟩) (by omega)) fun H2 m2 => ?_)
    have h2 : H2 fo = some (.dT kvs0) := m2.cel _ _ upd_same (fun z => z)
    refine ⟨fun i σ' H' => ∃ y3 y4 y5 kvs R, σ' = [some (.int (n : Int)), some v, some (.ref fo), y3, y4, y5, none] ∧ Ex O (· = fo) H2 H' ∧ H' fo = some (.dT kvs) ∧ PrD kvs R ∧ Clo ps i R,
      ⟨none, none, none, kvs0, _, rfl, .refl _, h2, hp0, Clo.start⟩, fun i σ' H' p => ?_, fun i σ' H' Hb p sm => ?_, fun i d' x σ' H' e1 p dx => ?_, fun σ' H' p => ?_⟩
    · obtain ⟨_, _, _, _, _, _, m, _⟩ := p
      exact m
    · obtain ⟨y3, y4, y5, kvs, R, e, m, h, hp, c⟩ := p
      exact ⟨y3, y4, y5, kvs, R, e, m.trans (.same sm), sm _ _ h, hp, c⟩
    · obtain ⟨y3, y4, y5, kvs, R0, rfl, m, h, hp, c0⟩ := p
      have hi : i < n := by
        have := (List.getElem?_eq_some_iff.mp e1).1
        rwa [eRg_len] at this
      rw [eRg_get hi] at e1
      cases e1
      rw [dx.int_inv]
      refine wG_name 3 sc_below.nd rfl (.inl rfl) (.inl rfl) ?_
      refine wS_one (w1_for (O := O) (A := (· = fo)) (ds := eRg n) .never rfl (by intro _; rfl) (src_range (by rfl) B.range (by rfl) (nm 0 ⟨.refl _, rfl⟩) (by omega)) fun H3 m3 => ?_)
      have h3 : H3 fo = some (.dT kvs) := m3.cel _ _ h (fun z => z)
      refine ⟨fun j σ' H' => ∃ y4 y5 kvs R, σ' = [some (.int (n : Int)), some v, some (.ref fo), some (.int (i : Int)), y4, y5, none] ∧ Ex O (· = fo) H3 H' ∧ H' fo = some (.dT kvs) ∧ PrD kvs R ∧ ClT ps n i j 0 R0 R,
        ⟨y4, y5, kvs, R0, rfl, .refl _, h3, hp, ClT.zero c0⟩, fun j σ' H' p => ?_, fun j σ' H' Hb p sm => ?_, fun j d' x σ' H' e1 p dx => ?_, fun σ' H' p => ?_⟩
      · obtain ⟨_, _, _, _, _, m, _⟩ := p
        exact m
      · obtain ⟨y4, y5, kvs, R, e, m, h, hp, c⟩ := p
        exact ⟨y4, y5, kvs, R, e, m.trans (.same sm), sm _ _ h, hp, c⟩
      · obtain ⟨y4, y5, kvs1, R1, rfl, m4, h4, hp1, c1⟩ := p
        have hj : j < n := by
          have := (List.getElem?_eq_some_iff.mp e1).1
          rwa [eRg_len] at this
        rw [eRg_get hj] at e1
        cases e1
        rw [dx.int_inv]
        refine wG_name 4 sc_below.nd rfl (.inl rfl) (.inl rfl) ?_
        refine wS_one (w1_for (O := O) (A := (· = fo)) (ds := eRg n) .never rfl (by intro _; rfl) (src_range (by rfl) B.range (by rfl) (nm 0 ⟨.refl _, rfl⟩) (by omega)) fun H5 m5 => ?_)
        have h5 : H5 fo = some (.dT kvs1) := m5.cel _ _ h4 (fun z => z)
        refine ⟨fun k σ' H' => ∃ y5 kvs R, σ' = [some (.int (n : Int)), some v, some (.ref fo), some (.int (i : Int)), some (.int (j : Int)), y5, none] ∧ Ex O (· = fo) H5 H' ∧ H' fo = some (.dT kvs) ∧ PrD kvs R ∧ ClT ps n i j k R0 R,
          ⟨y5, kvs1, R1, rfl, .refl _, h5, hp1, c1⟩, fun k σ' H' p => ?_, fun k σ' H' Hb p sm => ?_, fun k d' x σ' H' e1 p dx => ?_, fun σ' H' p => ?_⟩
        · obtain ⟨_, _, _, _, m, _⟩ := p
          exact m
        · obtain ⟨y5, kvs, R, e, m, h, hp, c⟩ := p
          exact ⟨y5, kvs, R, e, m.trans (.same sm), sm _ _ h, hp, c⟩
        · obtain ⟨y5, kvs2, R2, rfl, m6, h6, hp2, c2⟩ := p
          have hk : k < n := by
            have := (List.getElem?_eq_some_iff.mp e1).1
            rwa [eRg_len] at this
          rw [eRg_get hk] at e1
          cases e1
          rw [dx.int_inv]
          refine wG_name 5 sc_below.nd rfl (.inl rfl) (.inl rfl) ?_
          refine wS_one (w1_if (and2 (in_pr (R := R2) hr (fun H Q q => nm 2 q) (nm 4 (nm 3 ⟨j, i, rfl, rfl, h6, hp2, fun H7 s7 => ?_⟩)))))
          have h7 := s7 _ _ h6
          by_cases e1 : R2 j i
          · rw [decide_eq_true e1]
            refine iteT (in_pr (R := R2) hr (fun H Q q => nm 2 q) (nm 3 (nm 5 ⟨i, k, rfl, rfl, h7, hp2, fun H8 s8 => ?_⟩)))
            have h8 := s8 _ _ h7
            have m8 : Ex O (· = fo) H5 H8 := (m6.trans (.same s7)).trans (.same s8)
            by_cases e2 : R2 i k
            · rw [decide_eq_true e2]
              refine iteT (wS_one (put_pr hr (fun H Q q => wE_bl q) (fun H Q q => nm 2 q) (by have := small hp2 c2.snd; omega) (nm 4 (nm 5 ⟨j, k, rfl, rfl, h8, hp2, fun H9 ls s9 hp9 => ?_⟩))))
              exact ⟨_, ls, _, rfl, (m8.trans (.same s9)).trans (Ex.atD rfl (s9 _ _ h8)), upd_same, hp9, c2.yes e1 e2⟩
            · rw [decide_eq_false e2]
              exact iteF (wS_nil ⟨_, kvs2, R2, rfl, m8, h8, hp2, c2.no fun z => e2 z.2⟩)
          · rw [decide_eq_false e1]
            exact iteF (iteF (wS_nil ⟨_, kvs2, R2, rfl, m6.trans (.same s7), h7, hp2, c2.no fun z => e1 z.1⟩))
        · obtain ⟨y5, kvs2, R2, rfl, m6, h6, hp2, c2⟩ := p
          rw [eRg_len] at c2
          exact ⟨_, y5, kvs2, R2, rfl, (m4.trans (m5.mono fun _ z => z.elim)).trans m6, h6, hp2, c2.next⟩
      · obtain ⟨y4, y5, kvs1, R1, rfl, m4, h4, hp1, c1⟩ := p
        rw [eRg_len] at c1
        exact ⟨_, y4, y5, kvs1, R1, rfl, (m.trans (m3.mono fun _ z => z.elim)).trans m4, h4, hp1, c1.done hb c0⟩
    · obtain ⟨y3, y4, y5, kvs, R, rfl, m, h, hp, c⟩ := p
      rw [eRg_len] at c
      refine wS_one (w1_ret (nm 2 (q H' fo kvs nf ?_ h (hp.imp (c.all hb)) (small hp c.snd))))
      exact (m1.trans m2).glue m fun p hp => .inl (hp ▸ nf)
end
end Lw
namespace Lw
open PySem PySem.Spec PyProof.Rows L2 NdefX LamX
theorem eqv_nil {ds : List PyData} : PyData.eqv (.list ds) (.list []) = decide (ds = []) := by
  cases ds <;> rfl
theorem eqv_nilT {ds : List PyData} : PyData.eqv (.tuple ds) (.tuple []) = decide (ds = []) := by
  cases ds <;> rfl
section
variable {P : Program} {w : World} {K : PySem.W.Frag} {mg : Str → Option Value} {base : Heap} {O : Prm}
open Classical
abbrev s_closed : Stmt := topS 59
abbrev n_closed : List Str := ["places", "pairs", "below", "steps", "low", "high", "mid"]
theorem sc_closed : FnScope n_closed ["places", "pairs"] (defScope s_closed) := ⟨rfl, rfl, rfl, by decide +kernel, rfl, by decide +kernel, by decide +kernel⟩
/-- an order as the law has it -/
abbrev eOrd (n : Nat) (ss : Steps) : PyData := .tuple [.int (n : Int), ePs ss]
def sp_closed (O : Prm) : Spn := fun vs H Q => ∃ (n : Nat) (v : V) (ps : Steps), vs = [.int (n : Int), v] ∧ PrsAt H v ps ∧ 1 ≤ n ∧ n ≤ 6 ∧ (∀ p ∈ ps, p.1 < n ∧ p.2 < n) ∧ ps.length ≤ 1000 ∧ (∃ pos : Nat → Nat, ∀ p ∈ ps, pos p.1 < pos p.2) ∧
  ∀ H' y ss, Ex O nA H H' → Dt H' y (eOrd n ss) → Vo n ss → Q y H'
theorem fn_closed {f : Addr} {fd : FuncData} (B : Bi mg) (D1 : Df P w K mg base 1 "_law_below" (sp_lbelow O)) (F : Fun K "_law_closed" "_law_closed" s_closed f fd) : FnOk P w K mg base (L2.CX P w) 2 f fd ["places", "pairs"] (nn (sp_closed O)) := by
  refine fn_w F sc_closed (fun vs H Q h => ?_) fun cdv A outer s H vs Q E hr h => ?_
  · obtain ⟨n, v, ps, rfl, _⟩ := h
    rfl
  · obtain ⟨n, v, ps, rfl, dp, hn1, hn, hb, hl, hpos, q⟩ := h
    refine wS_cons (w1_set 2 sc_closed.nd rfl (.inr rfl) rfl (.inl rfl) (call2 D1 hr (nm 0 (nm 1 ⟨n, v, ps, rfl, dp, hn, hb, hl, fun H1 d kvs nd m1 hd hp hk => ?_⟩))))
    refine wS_cons (w1_set 3 sc_closed.nd rfl (.inl rfl) rfl (.inl rfl) (lst0 fun fo nf0 => ?_))
    have nf : H fo = none := m1.dom _ nf0
    have m2 : Ex O nA H (upd H1 fo (.lst [])) := m1.trans (.new nf0)
    have hd2 : (upd H1 fo (.lst [])) d = some (.dT kvs) := same_new nf0 _ _ hd
    have hf2 : (upd H1 fo (.lst [])) fo = some (.lst []) := upd_same
    show wS _ _ _ _ (upd H1 fo (.lst []))
    generalize (upd H1 fo (.lst [])) = H2 at m2 hd2 hf2
    have hsm : (tcl n ps).length ≤ 36 := by
      have := len_sq (n := n) (ss := tcl n ps) (tcl_asc.imp fun {a b} h e => by subst e; unfold ltP2 at h; omega) fun p h => TC.bd hb ((mem_tcl hb).mp h)
      have := Nat.mul_le_mul hn hn
      omega
    refine wS_cons (w1_for (O := O) (A := (· = fo)) (ds := (tcl n ps).map ePr) .never rfl (by intro _; rfl) (src_list (sorted_pr (R := TC ps) rfl B.sorted (nm 2 ⟨d, kvs, rfl, hd2, hp, by omega, fun l vs qs nl dl ha hm => ?_⟩))) fun H3 m3 => ?_)
    · have e : qs = tcl n ps := asc_ext ha tcl_asc fun x => by
        obtain ⟨a, b⟩ := x
        rw [hm, mem_tcl hb]
      subst e
      exact ⟨.new nl, .of upd_same dl (fun z => by rw [z, hf2] at nl; cases nl)⟩
    have hd3 : H3 d = some (.dT kvs) := m3.cel _ _ hd2 (fun z => z)
    have hf3 : H3 fo = some (.lst []) := m3.cel _ _ hf2 (fun z => z)
    have ndf : d ≠ fo := fun z => by rw [z, hf3] at hd3; cases hd3
    refine ⟨fun i σ' H' => ∃ y4 y5 us, σ' = [some (.int (n : Int)), some v, some (.ref d), some (.ref fo), y4, y5, none] ∧ Ex O (· = fo) H3 H' ∧ H' fo = some (.lst us) ∧ us.length ≤ i ∧ i ≤ (tcl n ps).length ∧ DtA H' us ((((tcl n ps).take i).filter fun p => decide (betw n ps p = [])).map ePr),
      ⟨none, none, [], rfl, .refl _, hf3, Nat.le_refl _, Nat.zero_le _, .nil⟩, fun i σ' H' p => ?_, fun i σ' H' Hb p sm => ?_, fun i d' x σ' H' e1 p dx => ?_, fun σ' H' p => ?_⟩
    · obtain ⟨_, _, _, _, m, _⟩ := p
      exact m
    · obtain ⟨y4, y5, us, e, m, h, l1, l2, dd⟩ := p
      exact ⟨y4, y5, us, e, m.trans (.same sm), sm _ _ h, l1, l2, dd.mono (.same sm)⟩
    · obtain ⟨y4, y5, us, rfl, m, h, l1, l2, dd⟩ := p
      have hi : i < (tcl n ps).length := by
        have := (List.getElem?_eq_some_iff.mp e1).1
        rwa [List.length_map] at this
      obtain ⟨e2, hmem⟩ := prAt e1
      have et : (tcl n ps).take (i + 1) = (tcl n ps).take i ++ [(tcl n ps).getD i (0, 0)] := by
        rw [List.take_add_one]
        congr 1
        simp [hi]
      generalize (tcl n ps).getD i (0, 0) = pr at e2 hmem et
      subst e2
      have hd4 : H' d = some (.dT kvs) := m.cel _ _ hd3 ndf
      refine wG_pair 4 5 rfl sc_closed.nd rfl rfl (.inr rfl) (.inr rfl) (.inl rfl) (.inl rfl) dx rfl rfl rfl rfl fun u w' du dw => ?_
      rw [du.int_inv, dw.int_inv]
      refine wS_one (w1_if (teq_d hr ?_))
      refine wE_lcN (O := O) (i := 6) (x := "mid") rfl sc_closed.nd (by intro _; rfl) (blkOk_by (N := n_closed) (sc := defScope s_closed) (by decide +kernel)) (fun _ _ _ _ _ => pg_name sc_closed.nd rfl (Or.inl rfl))
        (src_range (by rfl) B.range (by rfl) (nm 0 ⟨.refl _, rfl⟩) (by omega)) (by rw [eRg_len]; omega) (fun k _ => if (decide (TC ps pr.1 k) && decide (TC ps k pr.2)) = true then some (.int 1) else none) (fun k d' v' Ha e1 ex dv => ?_) fun r H5 us2 nr ex hl5 hD => ?_
      · have hk : k < n := by
          have := (List.getElem?_eq_some_iff.mp e1).1
          rwa [eRg_len] at this
        rw [eRg_get hk] at e1
        cases e1
        rw [dv.int_inv]
        have hda := ex.cel _ _ hd4 (fun z => z)
        refine turn_one (k := decide (TC ps pr.1 k) && decide (TC ps k pr.2)) (fun s H0 C cl fp => ?_) (fun z => by rw [z]; rfl) fun z H6 m6 s H0 C cl fp => ?_
        · refine and2v (k := decide (TC ps pr.1 k)) (l := decide (TC ps k pr.2)) (in_pr (R := TC ps) hr (fun H Q q => nm 2 q) (nm 4 (nm 6 ⟨pr.1, k, rfl, rfl, hda, hp, fun H7 s7 => ⟨rfl, ?_⟩⟩)))
          by_cases e1 : TC ps pr.1 k
          · rw [decide_eq_true e1, if_pos rfl]
            exact in_pr (R := TC ps) hr (fun H Q q => nm 2 q) (nm 6 (nm 5 ⟨k, pr.2, rfl, rfl, s7 _ _ hda, hp, fun H8 s8 => ⟨rfl, rfl, (Ex.same s7).trans (.same s8)⟩⟩))
          · rw [decide_eq_false e1, if_neg Bool.false_ne_true]
            exact ⟨rfl, .same s7⟩
        · refine wE_int ⟨m6, _, ?_, .int 1⟩
          rw [if_pos z]
      · have e4 : kept (fun k _ => if (decide (TC ps pr.1 k) && decide (TC ps k pr.2)) = true then some (.int 1) else none) (eRg n) (eRg n).length = (betw n ps pr).map fun _ => .int 1 := by
          unfold eRg
          rw [kept_fil' (f := fun _ => .int 1) (c := fun k => decide (TC ps pr.1 k) && decide (TC ps k pr.2)) fun i a e => ?_]
          · rfl
          · obtain ⟨h1, h2⟩ := List.getElem?_eq_some_iff.mp e
            rw [List.getElem_range] at h2
            rw [h2]
        rw [e4] at hD
        refine lst0 fun l9 n9 => ⟨_, .list [], 2, 2, ((Ls.of hl5 hD).mono (O := O) (.new n9)).dp, (Ls.of (ds := []) upd_same .nil).dp, fl_list (fun z hz => by obtain ⟨_, _, rfl⟩ := List.mem_map.mp hz; exact fl_int), fl_list (fun _ z => absurd z (by simp)), by decide, by decide, ?_⟩
        rw [eqv_nil]
        have e5 : decide (((betw n ps pr).map fun _ => PyData.int 1) = []) = decide (betw n ps pr = []) := decide_eq_decide.mpr List.map_eq_nil_iff
        rw [e5]
        have m9 : Ex O nA H' (upd H5 l9 (.lst [])) := ex.trans (.new n9)
        have hf9 := m9.cel _ _ h (fun z => z)
        by_cases hz : betw n ps pr = []
        · rw [decide_eq_true hz]
          refine iteT (wS_one (w1_expr rfl (append (nm 3 ⟨fo, us, rfl, hf9, tup2 (nm 4 (nm 5 ⟨_, _, .int _, .int _, fun y H10 s10 dy => ⟨us, s10 _ _ hf9, by omega, ?_⟩⟩))⟩))))
          have m10 : Ex O nA H' H10 := m9.trans (.same s10)
          have i10 := Im.lst (o := .lst (us ++ [y])) (s10 _ _ hf9)
          refine ⟨_, _, us ++ [y], rfl, (m.trans (m10.mono fun _ z => z.elim)).trans (Ex.atA rfl (s10 _ _ hf9)), upd_same, ?_, hi, ?_⟩
          · rw [List.length_append, List.length_singleton]
            omega
          · rw [et, List.filter_append, List.map_append]
            have e6 : [pr].filter (fun p => decide (betw n ps p = [])) = [pr] := by simp [hz]
            rw [e6]
            exact ((dd.mono m10.im).mono i10).snoc (dy.mono i10)
        · rw [decide_eq_false hz]
          refine iteF (wS_nil ⟨_, _, us, rfl, m.trans (m9.mono fun _ z => z.elim), hf9, by omega, hi, ?_⟩)
          rw [et, List.filter_append]
          have e6 : [pr].filter (fun p => decide (betw n ps p = [])) = [] := by simp [hz]
          rw [e6, List.append_nil]
          exact dd.mono m9.im
    · obtain ⟨y4, y5, us, rfl, m, h, l1, l2, dd⟩ := p
      rw [List.length_map, List.take_length] at dd
      obtain ⟨pos, hpos⟩ := hpos
      have m9 : Ex O nA H H' := (m2.trans m3).glue m fun p hp => .inl (hp ▸ nf)
      refine wS_one (w1_ret (tup2 (nm 0 (tup_ls B.tuple (nm 3 ⟨_, .of h dd, fun y H6 s6 dy => ⟨_, _, .int _, dy, fun z H7 s7 dz => ?_⟩⟩)))))
      exact q H7 z (covs n ps) ((m9.trans (.same s6)).trans (.same s7)) dz ((cov_covs hb).vo hn1 hn hb hpos)
end
end Lw
namespace Lw
open PySem PySem.Spec PyProof.Rows L2 NdefX LamX
/-! ## a comprehension whose turns draw from the well -/
theorem WellAt.upd {H : Hp} {p q : Addr} {u : HO} (h : WellAt H p) (n : q ≠ p) : WellAt (upd H q u) p := by
  obtain ⟨a, b, c, h⟩ := h
  exact ⟨a, b, c, by rw [upd_ne (Ne.symm n)]; exact h⟩
theorem WellAt.mono {O : Prm} {H H' : Hp} {p : Addr} (m : Ex O nA H H') (h : WellAt H p) : WellAt H' p := by
  obtain ⟨a, b, c, h⟩ := h
  exact ⟨a, b, c, m.cel _ _ h fun z => z⟩
theorem WellAt.sm {H H' : Hp} {p : Addr} (m : Sm H H') (h : WellAt H p) : WellAt H' p := by
  obtain ⟨a, b, c, h⟩ := h
  exact ⟨a, b, c, m _ _ h⟩
section
variable {O : Prm} {X : Cx} {tg iter elt : Expr} {ifs : List Expr} {scope : Scope} {σ : L2.St} {H : Hp} {ds : List PyData} {pos : Pos} {x : Str} {Q : VK} {i : Nat} {p : Addr}
theorem wE_lcW (hc : X.calm = true) (hN : X.N.Nodup) (hf : ∀ z, foldedSetIterable iter X.env z = pure z) (ok : BlkOk X.N X.env.scope scope [(x, i)])
    (hg : ∀ s H C cl fp, PG (Bk X scope s H C cl fp) tg (gName i)) (src : Src O (· = p) X tg iter σ H ds) (hz : ds.length ≤ 1000000) (hw : WellAt H p) (S : Nat → List PyData → Prop) (h0 : S 0 [])
    (hs : ∀ (n : Nat) d v Ha, ds[n]? = some d → Ex O (· = p) H Ha → WellAt Ha p → Dt Ha v d → bTs X scope ifs (σ.set i (some v)) Ha fun b H3 =>
      if b = true then bE X scope elt (σ.set i (some v)) H3 fun y H4 => Ex O (· = p) Ha H4 ∧ WellAt H4 p ∧ ∃ z, (∀ L, S n L → S (n + 1) (L ++ [z])) ∧ Dt H4 y z else Ex O (· = p) Ha H3 ∧ WellAt H3 p ∧ ∀ L, S n L → S (n + 1) L)
    (k : ∀ l H' vs L, H l = none → Ex O (· = p) H H' → WellAt H' p → H' l = some (.lst vs) → DtA H' vs L → S ds.length L → L.length ≤ ds.length → Q (.ref l) H') :
    wE X (.ListComp elt [⟨tg, iter, ifs, 0⟩] scope pos) σ H Q := by
  refine wE_of (pe_lc (own := [(x, i)]) hc hN wI_pi ok hg bTs_pts bE_pe hf) ?_
  refine src _ fun J H2 Y ex wk hY D nD => ?_
  have nD0 : H D = none := ex.dom _ nD
  have w2 : WellAt H2 p := hw.mono ex
  have nDp : D ≠ p := fun z => by
    obtain ⟨a, b, c, h⟩ := w2
    rw [z, h] at nD
    cases nD
  have exA : Ex O (· = p) H H2 := ex.mono fun _ z => z.elim
  have ow : ∀ {Hz vs u}, Ex O (· = p) H2 Hz → Hz D = some (.lst vs) → Ex O (· = p) H2 (upd Hz D u) := fun a h => a.own nD h (fun _ z => by cases z) (fun _ _ z => by cases z) (fun _ z => by cases z) (fun _ z => by unfold CodeO at z; cases z)
  refine lc_it wk (fun n Ha => Ex O (· = p) H2 Ha ∧ WellAt Ha p ∧ ∃ acc L, Ha D = some (.lst acc) ∧ DtA Ha acc L ∧ S n L ∧ L.length ≤ n) ⟨.new nD, w2.upd nDp, [], [], upd_same, .nil, h0, Nat.le_refl _⟩ (fun n Ha _ q => q.1) (fun n v Ha Hb hn q y => ?_) fun Ha q => ?_
  · obtain ⟨m, wa, acc, L, hD, hA, hS, hL⟩ := q
    obtain ⟨sm, d, e1, e2⟩ := hY n Ha v Hb hn m y
    have mb : Ex O (· = p) H2 Hb := m.trans (.same sm)
    have hDb := sm _ _ hD
    have hAb := hA.mono (Im.same sm)
    have hl : acc.length < sizeLine := by
      rw [hAb.len, sizeLine_eq]
      omega
    have e0 : (wipe σ [i]).set i (some v) = σ.set i (some v) := by
      show (σ.set i none).set i (some v) = _
      rw [set_set_eq]
    show wipe ((wipe σ [i]).set i (some v)) [i] = wipe σ [i] ∧ bTs X scope ifs ((wipe σ [i]).set i (some v)) Hb _
    rw [e0]
    refine ⟨?_, bTs_mono (fun b H3 q => ?_) (hs n d v Hb e1 (exA.trans mb) (wa.sm sm) e2)⟩
    · show (σ.set i (some v)).set i none = σ.set i none
      rw [set_set_eq]
    cases b with
    | true =>
      rw [if_pos rfl] at q ⊢
      show bE X scope elt ((wipe σ [i]).set i (some v)) H3 _
      rw [e0]
      refine bE_mono (fun y H5 q => ?_) q
      obtain ⟨m5, w5, z, hz5, dz⟩ := q
      have hD5 : H5 D = some (.lst acc) := m5.cel _ _ hDb nDp
      have i5 : Im H5 (upd H5 D (.lst (acc ++ [y]))) := .lst hD5
      refine ⟨acc, hD5, hl, ow (mb.trans m5) hD5, w5.upd nDp, _, L ++ [z], upd_same, ((hAb.mono m5.im).mono i5).snoc (dz.mono i5), hz5 L hS, ?_⟩
      rw [List.length_append, List.length_singleton]
      omega
    | false =>
      rw [if_neg Bool.false_ne_true] at q ⊢
      obtain ⟨m5, w5, hz5⟩ := q
      exact ⟨mb.trans m5, w5, acc, L, m5.cel _ _ hDb nDp, hAb.mono m5.im, hz5 L hS, by omega⟩
  · obtain ⟨m, wa, acc, L, hD, hA, hS, hL⟩ := q
    exact k D Ha acc L nD0 (exA.trans m) wa hD hA hS hL
end
section
variable {X : Cx} {σ : L2.St} {H : Hp} {Q : VK} {p pos apos : Pos} {a b : Expr}
/-- xs.pop(i) -/
theorem popAt (q : wE X a σ H fun v H1 => ∃ l vs, v = .ref l ∧ H1 l = some (.lst vs) ∧ wE X b σ H1 fun u H2 => ∃ (xs : List V) (i : Nat) (y : V), u = .int (i : Int) ∧ H2 l = some (.lst xs) ∧ i ≤ 1000000 ∧ xs[i]? = some y ∧ Q y (upd H2 l (.lst (xs.eraseIdx i))))
    (hbase : attributeBase a "pop" X.env (eval a X.env) = eval a X.env := by rfl)
    (hfew : ((backTo pos (starEach [b] X.env)).all (fun x => !x.1) && (backToKw pos (keywordEach [] X.env)).all (fun x => x.1.isSome) && decide ([b].length + ([] : List Keyword).length + (if ([] : List Keyword).isEmpty then 0 else 1) < 30)) = true := by rfl)
    (hline : (apos.endLine == pos.line) = true := by rfl) (hs : starEach [b] X.env = (false, eval b X.env) :: starEach [] X.env := by rfl) : wE X (.Call (.Attribute a "pop" apos) [b] [] pos) σ H Q := by
  refine wE_of (pe_bm PySem.F.plainAttrs_list PySem.F.slot_list_pop PySem.F.type_list_pop mt_popAt wE_pe (pa_cons wE_pe pa_nil hs) hbase hfew hline hs (by rfl)) (wE_mono q fun v H1 q => ?_)
  obtain ⟨l, vs, rfl, h1, q⟩ := q
  refine ⟨.inl ⟨rfl, _, .inl (.inl h1)⟩, wE_mono q fun u H2 q => ?_⟩
  obtain ⟨xs, i, y, rfl, h2, hi, hy, q⟩ := q
  have hlt : i < xs.length := (List.getElem?_eq_some_iff.mp hy).1
  refine ⟨l, xs, (i : Int), i, y, rfl, rfl, h2, by omega, by omega, ?_, hy, q⟩
  unfold seqIndex?
  simp
  omega
end
end Lw
namespace Lw
open PySem PySem.Spec PyProof.Rows L2 NdefX LamX
section
variable {X : Cx} {σ : L2.St} {H : Hp} {Q : VK} {p pos p2 pos2 : Pos} {a : Expr}
theorem rg_nat (n : Nat) : rgV 0 (n : Int) = (List.range n).map fun k : Nat => .int (k : Int) := by
  unfold rgV
  simp
/-- list(range(a)), tuple(range(a)) -/
theorem list_rg (hc : X.calm = true) (hl : X.mg "list" = none) (hr : X.mg "range" = none) (q : wE X a σ H fun v H1 => ∃ n : Nat, v = .int (n : Int) ∧ n ≤ 1000 ∧ ∀ l, H1 l = none → Q (.ref l) (upd H1 l (.lst ((List.range n).map fun k : Nat => .int (k : Int)))))
    (hg : Gl X "list" := by rfl) (hg2 : Gl X "range" := by rfl) (h1 : starEach [a] X.env = (false, eval a X.env) :: starEach [] X.env := by rfl) (h2 : starEach [.Call (.Name "range" p2) [a] [] pos2] X.env = (false, eval (.Call (.Name "range" p2) [a] [] pos2) X.env) :: starEach [] X.env := by rfl) : wE X (.Call (.Name "list" p) [.Call (.Name "range" p2) [a] [] pos2] [] pos) σ H Q := by
  refine wE_of (pe_listRg hc hg hl (prg_1 hg2 hr wE_pe h1) h2) (wE_mono q fun v H1 q => ?_)
  obtain ⟨n, rfl, hn, q⟩ := q
  refine ⟨(n : Int), rfl, ?_, fun l nl => ?_⟩
  · unfold RgOk
    omega
  · rw [rg_nat]
    exact q l nl
theorem tuple_rg (hc : X.calm = true) (hl : X.mg "tuple" = none) (hr : X.mg "range" = none) (q : wE X a σ H fun v H1 => ∃ n : Nat, v = .int (n : Int) ∧ n ≤ 1000 ∧ ∀ y H2, Sm H1 H2 → Dt H2 y (eNs (List.range n)) → Q y H2)
    (hg : Gl X "tuple" := by rfl) (hg2 : Gl X "range" := by rfl) (h1 : starEach [a] X.env = (false, eval a X.env) :: starEach [] X.env := by rfl) (h2 : starEach [.Call (.Name "range" p2) [a] [] pos2] X.env = (false, eval (.Call (.Name "range" p2) [a] [] pos2) X.env) :: starEach [] X.env := by rfl) : wE X (.Call (.Name "tuple" p) [.Call (.Name "range" p2) [a] [] pos2] [] pos) σ H Q := by
  refine wE_of (pe_tupRg hc hg hl (prg_1 hg2 hr wE_pe h1) h2) (wE_mono q fun v H1 q => ?_)
  obtain ⟨n, rfl, hn, q⟩ := q
  refine ⟨(n : Int), rfl, ?_, fun l nl => ?_⟩
  · unfold RgOk
    omega
  · rw [rg_nat]
    refine q _ _ (same_new nl) (.new nl ?_)
    have := DtA.ints (H := H1) ((List.range n).map fun k : Nat => (k : Int))
    rw [List.map_map, List.map_map] at this
    exact this
end
/-- numbers as a list's items -/
abbrev vN (l : List Nat) : List V := l.map fun k : Nat => .int (k : Int)
theorem vN_dt {H : Hp} {l : List Nat} : DtA H (vN l) (l.map eN) := by
  have := DtA.ints (H := H) (l.map fun k : Nat => (k : Int))
  rw [List.map_map, List.map_map] at this
  exact this
theorem vN_erase {l : List Nat} : ∀ {r : Nat}, (vN l).eraseIdx r = vN (l.eraseIdx r) := by
  induction l with
  | nil => intro r; rfl
  | cons a l ih =>
    intro r
    cases r with
    | zero => rfl
    | succ r =>
      show _ :: (vN l).eraseIdx r = _ :: vN (l.eraseIdx r)
      rw [ih]
/-- pairs of M's numbers, upward in M -/
def Good (M : List Nat) (q : Nat × Nat) : Prop := ∃ lo hi, lo < hi ∧ hi < M.length ∧ q = (M.getD lo 0, M.getD hi 0)
theorem Good.pos {M : List Nat} (nd : M.Nodup) {q : Nat × Nat} (g : Good M q) : M.idxOf q.1 < M.idxOf q.2 := by
  obtain ⟨lo, hi, h1, h2, rfl⟩ := g
  have e1 : M.getD lo 0 = M[lo] := by simp [show lo < M.length by omega]
  have e2 : M.getD hi 0 = M[hi] := by simp [h2]
  simp only [e1, e2]
  rw [nd.idxOf_getElem, nd.idxOf_getElem]
  exact h1
section
variable {P : Program} {w : World} {K : PySem.W.Frag} {mg : Str → Option Value} {base : Heap} {O : Prm}
abbrev s_order : Stmt := topS 58
abbrev n_order : List Str := ["well", "most", "places", "often", "left", "numbers", "pairs", "turn", "high", "low"]
theorem sc_order : FnScope n_order ["well", "most"] (defScope s_order) := ⟨rfl, rfl, rfl, by decide +kernel, rfl, by decide +kernel, by decide +kernel⟩
def sp_order (O : Prm) : Spn := fun vs H Q => ∃ (p : Addr) (m : Nat), vs = [.ref p, .int (m : Int)] ∧ WellAt H p ∧ 1 ≤ m ∧ m ≤ 6 ∧ ∀ H' y n ss, Ex O (· = p) H H' → WellAt H' p → Dt H' y (eOrd n ss) → Vo n ss → n ≤ m → Q y H'
/-- how the numbers lie -/
structure Dr (n i : Nat) (L M : List Nat) : Prop where
  ln : L.length = n - i
  mn : M.length = i
  ld : L.Nodup
  md : M.Nodup
  lb : ∀ x ∈ L, x < n ∧ x ∉ M
  mb : ∀ x ∈ M, x < n
theorem Dr.zero {n : Nat} : Dr n 0 (List.range n) [] := ⟨by simp, rfl, List.nodup_range, List.nodup_nil, fun x h => ⟨List.mem_range.mp h, by simp⟩, fun _ h => absurd h (by simp)⟩
theorem Dr.next {n i r x : Nat} {L M : List Nat} (d : Dr n i L M) (h : L[r]? = some x) (hi : i < n) : Dr n (i + 1) (L.eraseIdx r) (M ++ [x]) := by
  obtain ⟨hr, hx⟩ := List.getElem?_eq_some_iff.mp h
  have hm : x ∈ L := hx ▸ List.getElem_mem hr
  refine ⟨?_, ?_, d.ld.sublist (List.eraseIdx_sublist ..), ?_, fun y hy => ?_, fun y hy => ?_⟩
  · rw [List.length_eraseIdx_of_lt hr, d.ln]
    omega
  · rw [List.length_append, d.mn]
    rfl
  · rw [List.nodup_append]
    refine ⟨d.md, by simp, fun a ha b hb e => ?_⟩
    rw [List.mem_singleton.mp hb] at e
    rw [e] at ha
    exact (d.lb x hm).2 ha
  · have hy2 := List.mem_of_mem_eraseIdx hy
    refine ⟨(d.lb y hy2).1, fun z => ?_⟩
    rcases List.mem_append.mp z with z | z
    · exact (d.lb y hy2).2 z
    · rw [List.mem_singleton.mp z, ← hx] at hy
      obtain ⟨k, hk1, hk2⟩ := List.mem_eraseIdx_iff_getElem.mp hy
      obtain ⟨hk3, hk4⟩ := hk2
      exact hk3 ((List.getElem_inj d.ld).mp hk4)
  · rcases List.mem_append.mp hy with hy | hy
    · exact d.mb y hy
    · rw [List.mem_singleton.mp hy]
      exact (d.lb x hm).1
theorem fn_order {f : Addr} {fd : FuncData} (B : Bi mg) (D1 : Df P w K mg base 1 "_law_take" (sp_take O)) (D2 : Df P w K mg base 2 "_law_closed" (sp_closed O)) (F : Fun K "_law_order" "_law_order" s_order f fd) : FnOk P w K mg base (L2.CX P w) 3 f fd ["well", "most"] (nn (sp_order O)) := by
  refine fn_w F sc_order (fun vs H Q h => ?_) fun cdv A outer s H vs Q E hr h => ?_
  · obtain ⟨p, m, rfl, _⟩ := h
    rfl
  · obtain ⟨p, m, rfl, hw, hm1, hm6, q⟩ := h
    refine wS_cons (w1_set2 2 3 sc_order.nd (add_int' (wE_int (call2 D1 hr (nm 0 (nm 1 ⟨p, m, rfl, hw, hm1, by omega, fun H1 r1 m1 w1 hlt1 => ⟨1, _, rfl, rfl, ?_⟩⟩))))))
    refine add_int' (wE_int (call2 D1 hr (nm 0 (wE_int ⟨p, 4, rfl, w1, by decide, by decide, fun H2 r2 m2 w2 hlt2 => ⟨1, _, rfl, rfl, fun t nt => ?_⟩⟩))))
    have en : (1 : Int) + (r1 : Int) = ((1 + r1 : Nat) : Int) := by omega
    have eo : (1 : Int) + (r2 : Int) = ((1 + r2 : Nat) : Int) := by omega
    rw [en, eo]
    have hn1 : 1 ≤ 1 + r1 := by omega
    have hn6 : 1 + r1 ≤ 6 := by omega
    have hnm : 1 + r1 ≤ m := by omega
    have m3 : Ex O (· = p) H (upd H2 t (.tup [.int ((1 + r1 : Nat) : Int), .int ((1 + r2 : Nat) : Int)])) := (m1.trans m2).trans (.new nt)
    have w3 : WellAt (upd H2 t (.tup [.int ((1 + r1 : Nat) : Int), .int ((1 + r2 : Nat) : Int)])) p := w2.sm (same_new nt)
    show wS _ _ _ _ (upd H2 t (.tup [.int ((1 + r1 : Nat) : Int), .int ((1 + r2 : Nat) : Int)]))
    generalize (upd H2 t (.tup [.int ((1 + r1 : Nat) : Int), .int ((1 + r2 : Nat) : Int)])) = H3 at m3 w3
    generalize 1 + r1 = n at hn1 hn6 hnm
    generalize 1 + r2 = often
    clear w1 w2 hlt1 hlt2 m1 m2 nt en eo
    refine wS_cons (w1_set3 4 5 6 sc_order.nd (list_rg rfl B.list B.range (nm 2 ⟨n, rfl, by omega, fun ll n1 => lst0 fun nl n2 => lst0 fun pp n3 t nt => ?_⟩)))
    have hl1 : (upd H3 ll (.lst (vN (List.range n)))) ll = some (.lst (vN (List.range n))) := upd_same
    have m4 : Ex O (· = p) H (upd H3 ll (.lst (vN (List.range n)))) := m3.trans (.new n1)
    have w4 : WellAt (upd H3 ll (.lst (vN (List.range n)))) p := w3.sm (same_new n1)
    have nl1 : H ll = none := m3.dom _ n1
    change (upd H3 ll (.lst (vN (List.range n)))) nl = none at n2
    have hl2 := same_new (o := .lst []) n2 _ _ hl1
    have hn2 : (upd (upd H3 ll (.lst (vN (List.range n)))) nl (.lst [])) nl = some (.lst []) := upd_same
    have m5 := m4.trans (Ex.new (o := .lst []) n2)
    have w5 := w4.sm (same_new (o := .lst []) n2)
    have nl2 : H nl = none := m4.dom _ n2
    have s6 : Sm (upd (upd H3 ll (.lst (vN (List.range n)))) nl (.lst [])) (upd (upd (upd (upd H3 ll (.lst (vN (List.range n)))) nl (.lst [])) pp (.lst [])) t (.tup [.ref ll, .ref nl, .ref pp])) := fun b o e => same_new nt _ _ (same_new n3 _ _ e)
    have hp6 : (upd (upd (upd (upd H3 ll (.lst (vN (List.range n)))) nl (.lst [])) pp (.lst [])) t (.tup [.ref ll, .ref nl, .ref pp])) pp = some (.lst []) := same_new nt _ _ upd_same
    have hl6 := s6 _ _ hl2
    have hn6' := s6 _ _ hn2
    have m6 := m5.trans (.same s6)
    have w6 := w5.sm s6
    show wS _ _ _ _ (upd (upd (upd (upd H3 ll (.lst (vN (List.range n)))) nl (.lst [])) pp (.lst [])) t (.tup [.ref ll, .ref nl, .ref pp]))
    generalize (upd (upd (upd (upd H3 ll (.lst (vN (List.range n)))) nl (.lst [])) pp (.lst [])) t (.tup [.ref ll, .ref nl, .ref pp])) = H6 at s6 hp6 hl6 hn6' m6 w6
    have dln : ll ≠ nl := fun z => by rw [← z, hl1] at n2; cases n2
    have dlp : ll ≠ p := fun z => by obtain ⟨a, b, c, h⟩ := w3; rw [z, h] at n1; cases n1
    have dnp : nl ≠ p := fun z => by obtain ⟨a, b, c, h⟩ := w4; rw [z, h] at n2; cases n2
    have dpl : pp ≠ ll := fun z => by rw [z] at n3; rw [hl2] at n3; cases n3
    have dpn : pp ≠ nl := fun z => by rw [z] at n3; rw [hn2] at n3; cases n3
    have dpp : pp ≠ p := fun z => by obtain ⟨a, b, c, h⟩ := w5; rw [z, h] at n3; cases n3
    clear hl1 hn2 hl2 m4 m5 w4 w5 n2 n3 nt s6 n1
    -- the first loop: numbers drawn
    refine wS_cons (w1_for (O := O) (A := fun q => q = p ∨ q = ll ∨ q = nl) (ds := eRg n) .never rfl (by intro _; rfl) (src_range (by rfl) B.range (by rfl) (nm 2 ⟨.refl _, rfl⟩) (by omega)) fun H7 m7 => ?_)
    have cel7 : ∀ {b vs}, H6 b = some (.lst vs) → H7 b = some (.lst vs) := fun h => m7.cel _ _ h fun z => z
    refine ⟨fun i σ' H' => ∃ y7 L M, σ' = [some (.ref p), some (.int (m : Int)), some (.int (n : Int)), some (.int (often : Int)), some (.ref ll), some (.ref nl), some (.ref pp), y7, none, none] ∧ Ex O (fun q => q = p ∨ q = ll ∨ q = nl) H7 H' ∧ WellAt H' p ∧ H' ll = some (.lst (vN L)) ∧ H' nl = some (.lst (vN M)) ∧ i ≤ n ∧ Dr n i L M,
      ⟨none, List.range n, [], rfl, .refl _, w6.mono m7, cel7 hl6, cel7 hn6', Nat.zero_le _, .zero⟩, fun i σ' H' q => ?_, fun i σ' H' Hb q sm => ?_, fun i d' x σ' H' e1 q dx => ?_, fun σ' H' q => ?_⟩
    · obtain ⟨_, _, _, _, mm, _⟩ := q
      exact mm
    · obtain ⟨y7, L, M, e, mm, ww, h1, h2, l1, dr⟩ := q
      exact ⟨y7, L, M, e, mm.trans (.same sm), ww.sm sm, sm _ _ h1, sm _ _ h2, l1, dr⟩
    · obtain ⟨y7, L, M, rfl, mm, ww, h1, h2, l1, dr⟩ := q
      have hi : i < n := by
        have := (List.getElem?_eq_some_iff.mp e1).1
        rwa [eRg_len] at this
      refine wG_name 7 sc_order.nd rfl (.inl rfl) (.inl rfl) ?_
      have hL : L.length = n - i := dr.ln
      refine wS_one (w1_expr rfl (append (nm 5 ⟨nl, _, rfl, h2, popAt (nm 4 ⟨ll, _, rfl, h1, call2 D1 hr (nm 0 (len_ls B.len (nm 4 ⟨_, .of h1 vN_dt, p, L.length, by rw [List.length_map], ww, by omega, by omega, fun H8 r m8 w8 hlt => ?_⟩)))⟩)⟩)))
      have h18 : H8 ll = some (.lst (vN L)) := m8.cel _ _ h1 dlp
      have h28 : H8 nl = some (.lst (vN M)) := m8.cel _ _ h2 dnp
      have hx : L[r]? = some L[r] := List.getElem?_eq_getElem hlt
      refine ⟨vN L, r, .int (L[r] : Int), rfl, h18, by omega, by simp [hlt], vN M, by rw [upd_ne (Ne.symm dln)]; exact h28, ?_, ?_⟩
      · rw [List.length_map, dr.mn]
        omega
      · have g1 : Ex O (fun q => q = p ∨ q = ll ∨ q = nl) H' H8 := m8.mono fun _ z => .inl z
        have h28' : (upd H8 ll (.lst ((vN L).eraseIdx r))) nl = some (.lst (vN M)) := by rw [upd_ne (Ne.symm dln)]; exact h28
        refine ⟨_, L.eraseIdx r, M ++ [L[r]], rfl, ((mm.trans g1).trans (Ex.atA (.inr (.inl rfl)) h18)).trans (Ex.atA (.inr (.inr rfl)) h28'), (w8.upd dlp).upd dnp, ?_, ?_, hi, dr.next hx hi⟩
        · rw [upd_ne dln, upd_same, vN_erase]
        · rw [upd_same]
          unfold vN
          rw [List.map_append]
          rfl
    · obtain ⟨y7, L, M, rfl, mm, ww, h1, h2, l1, dr⟩ := q
      rw [eRg_len] at dr
      have m8 : Ex O (· = p) H H' := (m6.trans (m7.mono fun _ z => z.elim)).glue mm fun q hq => by
        rcases hq with rfl | rfl | rfl
        · exact .inr rfl
        · exact .inl nl1
        · exact .inl nl2
      have hpp : H' pp = some (.lst []) := mm.cel _ _ (cel7 hp6) (fun z => z.elim dpp fun z => z.elim dpl dpn)
      clear mm cel7 m7 m6 hp6 hl6 hn6' w6 m3 w3
      refine wS_cons (w1_for (O := O) (A := (· = p)) (ds := eRg n) .never rfl (by intro _; rfl) (src_range (by rfl) B.range (by rfl) (nm 2 ⟨.refl _, rfl⟩) (by omega)) fun H9 m9 => ?_)
      refine ⟨fun i σ' H' => ∃ y8 pl us PP, σ' = [some (.ref p), some (.int (m : Int)), some (.int (n : Int)), some (.int (often : Int)), some (.ref ll), some (.ref nl), some (.ref pl), y7, y8, none] ∧ Ex O (· = p) H9 H' ∧ WellAt H' p ∧ H' nl = some (.lst (vN M)) ∧ H' pl = some (.lst us) ∧ DtA H' us (PP.map ePr) ∧ i ≤ n ∧ PP.length ≤ 6 * i ∧ (∀ z ∈ PP, Good M z) ∧ pl ≠ p,
        ⟨none, pp, [], [], rfl, .refl _, ww.mono m9, m9.cel _ _ h2 (fun z => z), m9.cel _ _ hpp (fun z => z), .nil, Nat.zero_le _, Nat.zero_le _, fun _ z => absurd z (by simp), dpp⟩, fun i σ' H' q => ?_, fun i σ' H' Hb q sm => ?_, fun i d' x σ' H' e1 q dx => ?_, fun σ' H' qq => ?_⟩
      · obtain ⟨_, _, _, _, _, mm, _⟩ := q
        exact mm
      · obtain ⟨y8, pl, us, PP, e, mm, ww, hh2, hh3, dd, l1, l2, gg, np⟩ := q
        exact ⟨y8, pl, us, PP, e, mm.trans (.same sm), ww.sm sm, sm _ _ hh2, sm _ _ hh3, dd.mono (.same sm), l1, l2, gg, np⟩
      · obtain ⟨y8, pl, us, PP, rfl, mm, ww, hh2, hh3, dd, l1, l2, gg, np⟩ := q
        have hi : i < n := by
          have := (List.getElem?_eq_some_iff.mp e1).1
          rwa [eRg_len] at this
        rw [eRg_get hi] at e1
        cases e1
        rw [dx.int_inv]
        refine wG_name 8 sc_order.nd rfl (.inr rfl) (.inl rfl) ?_
        refine wS_one (w1_set 6 sc_order.nd rfl (.inl rfl) rfl (.inl rfl) (cat_l (nm 6 ?_)))
        refine wE_lcW (O := O) (p := p) (i := 9) (x := "low") rfl sc_order.nd (by intro _; rfl) (blkOk_by (N := n_order) (sc := defScope s_order) (by decide +kernel)) (fun _ _ _ _ _ => pg_name sc_order.nd rfl (Or.inl rfl))
          (src_range (by rfl) B.range (by rfl) (nm 8 ⟨.refl _, rfl⟩) (by omega)) (by rw [eRg_len]; omega) ww (fun _ L => ∃ S : Steps, L = S.map ePr ∧ ∀ z ∈ S, Good M z) ⟨[], rfl, fun _ z => absurd z (by simp)⟩ (fun k d' v' Ha e1 ex wa dv s H0 C cl fp => ?_) fun l2 H10 vs2 L2' nl10 m10 w10 hl10 dl10 hS hLn => ?_
        · have hk : k < i := by
            have := (List.getElem?_eq_some_iff.mp e1).1
            rwa [eRg_len] at this
          rw [eRg_get hk] at e1
          cases e1
          rw [dv.int_inv]
          refine wTs_one (tlt_int (call2 D1 hr (nm 0 (wE_int ⟨p, 5, rfl, wa, by decide, by decide, fun H11 r m11 w11 hr11 => nm 3 ⟨_, _, rfl, rfl, ?_⟩⟩))))
          by_cases hz : (r : Int) < (often : Int)
          · rw [decide_eq_true hz, if_pos rfl]
            intro s H0 C cl fp
            have hn11 : H11 nl = some (.lst (vN M)) := m11.cel _ _ (ex.cel _ _ hh2 dnp) dnp
            have hM : M.length = n := dr.mn
            refine tup2 (ix_l (nm 5 (nm 9 ⟨_, _, _, .of hn11 vN_dt, rfl, atI_nat' (rowAt1 (row := M) (k := k) (by omega)), fun y1 d1 => ?_⟩)))
            refine ix_l (nm 5 (nm 8 ⟨_, _, _, .of hn11 vN_dt, rfl, atI_nat' (rowAt1 (row := M) (k := i) (by omega)), fun y2 d2 => ⟨_, _, d1, d2, fun y H12 s12 dy => ⟨m11.trans (.same s12), w11.sm s12, ePr (M.getD k 0, M.getD i 0), ?_, dy⟩⟩⟩))
            rintro L ⟨S, rfl, hS⟩
            refine ⟨S ++ [(M.getD k 0, M.getD i 0)], by rw [List.map_append]; rfl, fun z hz => ?_⟩
            rcases List.mem_append.mp hz with hz | hz
            · exact hS z hz
            · rw [List.mem_singleton.mp hz]
              exact ⟨k, i, hk, by omega, rfl⟩
          · rw [decide_eq_false hz, if_neg Bool.false_ne_true]
            exact ⟨m11, w11, fun L h => h⟩
        · obtain ⟨S, rfl, hS⟩ := hS
          rw [eRg_len] at hLn
          have hp10 : H10 pl = some (.lst us) := m10.cel _ _ hh3 np
          have e1 := dd.len
          have e2 := dl10.len
          rw [List.length_map] at e1 e2 hLn
          refine ⟨pl, l2, us, vs2, rfl, rfl, hp10, hl10, by omega, fun l3 n3 => ?_⟩
          have w11 : WellAt (upd H10 l3 (.lst (us ++ vs2))) p := w10.sm (same_new n3)
          refine ⟨_, l3, us ++ vs2, PP ++ S, rfl, (mm.trans m10).trans (.new n3), w11, same_new n3 _ _ (m10.cel _ _ hh2 dnp), upd_same, ?_, hi, ?_, ?_, ?_⟩
          · rw [List.map_append]
            exact ((dd.mono m10.im).app dl10).mono (.new n3)
          · rw [List.length_append]
            omega
          · intro z hz
            rcases List.mem_append.mp hz with hz | hz
            · exact gg z hz
            · exact hS z hz
          · intro z
            obtain ⟨a, b, c, hw10⟩ := w10
            rw [z, hw10] at n3
            cases n3
      · obtain ⟨y8, pl, us, PP, rfl, mm, ww, hh2, hh3, dd, l1, l2, gg, np⟩ := qq
        rw [eRg_len] at l2
        have hM : M.length = n := dr.mn
        have m10 : Ex O (· = p) H H' := (m8.trans (m9.mono fun _ z => z.elim)).trans mm
        refine wS_one (w1_ret (call2 D2 hr (nm 2 (nm 6 ⟨n, .ref pl, PP, rfl, .inl (.of hh3 dd), hn1, hn6, fun z hz => ?_, by omega, ⟨fun x => M.idxOf x, fun z hz => (gg z hz).pos dr.md⟩, fun H11 y ss m11 dy vo => q H11 y n ss (m10.trans (m11.mono fun _ z => z.elim)) (ww.mono m11) dy vo hnm⟩))))
        obtain ⟨lo, hi, g1, g2, rfl⟩ := gg z hz
        exact ⟨dr.mb _ (getD_in (by omega)), dr.mb _ (getD_in (by omega))⟩
end
end Lw
namespace Lw
open Classical
/-! moves: the rows are the monotone ones -/
theorem Vo.irr {n : Nat} {ss : Steps} (v : Vo n ss) {a : Nat} : ¬ TC ss a a := fun h => by
  have ha : a < n := (TC.bd v.vs.bd h).1
  have := v.ring
  unfold hasRing at this
  rw [List.any_eq_false] at this
  refine this a (by rw [List.mem_range, upL_len]; exact ha) ?_
  rw [upL_get ha, decide_eq_true_eq, mem_upw]
  exact ⟨ha, h⟩
theorem Le.trans {ss : Steps} {a b c : Nat} (h : Le ss a b) (k : Le ss b c) : Le ss a c := by
  rcases h with rfl | h
  · exact k
  · rcases k with rfl | k
    · exact .inr h
    · exact .inr (h.trans k)
/-- what goes -/
theorem kp_iff {n : Nat} {ss : Steps} (v : Vo n ss) {a b x y : Nat} : kp ss a b x y = true ↔ (TC ss a b → Le ss x y) ∧ (TC ss b a → Le ss y x) := by
  unfold kp
  by_cases h : TC ss a b
  · rw [if_pos h, decide_eq_true_eq]
    have h2 : ¬ TC ss b a := fun z => v.irr (h.trans z)
    exact ⟨fun z => ⟨fun _ => z, fun w => absurd w h2⟩, fun z => z.1 h⟩
  · rw [if_neg h, Bool.or_eq_true, Bool.not_eq_true', decide_eq_false_iff_not, decide_eq_true_eq]
    constructor
    · intro z
      refine ⟨fun w => absurd w h, fun w => ?_⟩
      rcases z with z | z
      · exact absurd w z
      · exact z
    · intro z
      by_cases h2 : TC ss b a
      · exact .inr (z.2 h2)
      · exact .inl h2
/-- monotone on the first places -/
def MonK (ss : Steps) (row : List Nat) : Prop := ∀ a b, a < row.length → b < row.length → TC ss a b → Le ss (row.getD a 0) (row.getD b 0)
theorem getD_lt {l : List Nat} {g a : Nat} (h : a < l.length) : (l ++ [g]).getD a 0 = l.getD a 0 := by
  simp [List.getElem?_append_left h]
theorem getD_last {l : List Nat} {g : Nat} : (l ++ [g]).getD l.length 0 = g := by simp
theorem mono_snoc {n : Nat} {ss : Steps} (v : Vo n ss) {row : List Nat} {g : Nat} : MonK ss (row ++ [g]) ↔ MonK ss row ∧ cf ss row g = true := by
  have hl : (row ++ [g]).length = row.length + 1 := by simp
  constructor
  · intro h
    refine ⟨fun a b ha hb t => ?_, ?_⟩
    · have := h a b (by omega) (by omega) t
      rwa [getD_lt ha, getD_lt hb] at this
    · unfold cf
      rw [List.all_eq_true]
      intro o ho
      have ho := List.mem_range.mp ho
      rw [kp_iff v]
      refine ⟨fun t => ?_, fun t => ?_⟩
      · have := h o row.length (by omega) (by omega) t
        rwa [getD_lt ho, getD_last] at this
      · have := h row.length o (by omega) (by omega) t
        rwa [getD_lt ho, getD_last] at this
  · rintro ⟨h1, h2⟩ a b ha hb t
    unfold cf at h2
    rw [List.all_eq_true] at h2
    by_cases ea : a < row.length
    · by_cases eb : b < row.length
      · rw [getD_lt ea, getD_lt eb]
        exact h1 a b ea eb t
      · obtain rfl : b = row.length := by omega
        rw [getD_lt ea, getD_last]
        exact ((kp_iff v).mp (h2 a (List.mem_range.mpr ea))).1 t
    · obtain rfl : a = row.length := by omega
      by_cases eb : b < row.length
      · rw [getD_lt eb, getD_last]
        exact ((kp_iff v).mp (h2 b (List.mem_range.mpr eb))).2 t
      · obtain rfl : b = row.length := by omega
        exact absurd t v.irr
theorem mem_mvk {n : Nat} {ss : Steps} (v : Vo n ss) : ∀ {k : Nat} {row : List Nat}, row ∈ mv n ss k ↔ row.length = k ∧ (∀ x ∈ row, x < n) ∧ MonK ss row
  | 0, row => by
    rw [mv, List.mem_singleton]
    constructor
    · rintro rfl
      exact ⟨rfl, fun x hx => absurd hx (by simp), fun a b ha => absurd ha (by simp)⟩
    · exact fun h => List.length_eq_zero_iff.mp h.1
  | k + 1, row => by
    rw [mv, List.mem_flatMap]
    constructor
    · rintro ⟨r, hr, h⟩
      obtain ⟨g, hg, rfl⟩ := List.mem_map.mp h
      obtain ⟨h1, h2, h3⟩ := (mem_mvk v).mp hr
      obtain ⟨g1, g2⟩ := List.mem_filter.mp hg
      refine ⟨by rw [List.length_append, h1]; rfl, fun x hx => ?_, (mono_snoc v).mpr ⟨h3, g2⟩⟩
      rcases List.mem_append.mp hx with hx | hx
      · exact h2 x hx
      · rw [List.mem_singleton.mp hx]
        exact List.mem_range.mp g1
    · rintro ⟨h1, h2, h3⟩
      have hne : row ≠ [] := fun z => by rw [z] at h1; cases h1
      have e := List.dropLast_concat_getLast hne
      rw [← e] at h1 h2 h3 ⊢
      obtain ⟨m1, m2⟩ := (mono_snoc v).mp h3
      refine ⟨row.dropLast, (mem_mvk v).mpr ⟨?_, fun x hx => h2 x (List.mem_append_left _ hx), m1⟩, List.mem_map.mpr ⟨row.getLast hne, List.mem_filter.mpr ⟨List.mem_range.mpr (h2 _ (List.mem_append_right _ (List.mem_singleton.mpr rfl))), m2⟩, rfl⟩⟩
      rw [List.length_append, List.length_singleton] at h1
      omega
theorem Mv.mono {n : Nat} {ss : Steps} {l : List Nat} (m : Mv n ss l) {a b : Nat} (h : TC ss a b) : Le ss (l.getD a 0) (l.getD b 0) := by
  induction h with
  | base h => exact m.up _ h
  | step _ h ih => exact ih.trans (m.up _ h)
theorem mem_mv {n : Nat} {ss : Steps} (v : Vo n ss) {l : List Nat} : l ∈ mv n ss n ↔ Mv n ss l := by
  rw [mem_mvk v]
  constructor
  · rintro ⟨h1, h2, h3⟩
    refine ⟨h1, h2, fun p hp => ?_⟩
    obtain ⟨b1, b2⟩ := v.vs.bd p hp
    exact h3 _ _ (by omega) (by omega) (.base hp)
  · intro m
    exact ⟨m.len, m.bd, fun a b _ _ t => m.mono t⟩
theorem getD_map {l : List Nat} {f : Nat → Nat} {i : Nat} (h : i < l.length) : (l.map f).getD i 0 = f (l.getD i 0) := by simp [h]
theorem Mv.le {n : Nat} {ss : Steps} {l : List Nat} (m : Mv n ss l) {a b : Nat} (h : Le ss a b) : Le ss (l.getD a 0) (l.getD b 0) := by
  rcases h with rfl | h
  · exact .inl rfl
  · exact m.mono h
theorem getD_memN {l : List Nat} {i : Nat} (h : i < l.length) : l.getD i 0 ∈ l := by
  have e : l.getD i 0 = l[i] := by simp [h]
  rw [e]
  exact List.getElem_mem h
theorem Mv.beh {n : Nat} {ss : Steps} (v : Vo n ss) {one two : List Nat} (m1 : Mv n ss one) (m2 : Mv n ss two) : Mv n ss (beh one two) := by
  refine ⟨by unfold Lw.beh; rw [List.length_map, m2.len], fun x hx => ?_, fun p hp => ?_⟩
  · unfold Lw.beh at hx
    obtain ⟨g, hg, rfl⟩ := List.mem_map.mp hx
    exact m1.bd _ (getD_memN (by rw [m1.len]; exact m2.bd g hg))
  · obtain ⟨b1, b2⟩ := v.vs.bd p hp
    unfold Lw.beh
    rw [getD_map (by rw [m2.len]; exact b1), getD_map (by rw [m2.len]; exact b2)]
    exact m1.le (m2.up p hp)
theorem range_getD {n i : Nat} (h : i < n) : (List.range n).getD i 0 = i := by simp [h]
theorem Mv.id {n : Nat} {ss : Steps} (v : Vo n ss) : Mv n ss (List.range n) := ⟨List.length_range, fun x hx => List.mem_range.mp hx, fun p hp => by
  obtain ⟨b1, b2⟩ := v.vs.bd p hp
  rw [range_getD b1, range_getD b2]
  exact .inr (.base hp)⟩
theorem Mv.dn {n : Nat} {ss : Steps} (v : Vo n ss) {l : List Nat} (m : Mv n ss l) : ∀ t, Mv n ss (dn n l t)
  | 0 => .id v
  | t + 1 => m.beh v (Mv.dn v m t)
theorem Mv.const {n : Nat} {ss : Steps} (v : Vo n ss) {g : Nat} (h : g < n) : Mv n ss (List.replicate n g) := ⟨List.length_replicate, fun x hx => by rw [List.eq_of_mem_replicate hx]; exact h, fun p hp => by
  obtain ⟨b1, b2⟩ := v.vs.bd p hp
  have e : ∀ {i}, i < n → (List.replicate n g).getD i 0 = g := fun {i} hi => by simp [hi]
  rw [e b1, e b2]
  exact .inl rfl⟩
theorem mem_fixd {l : List Nat} {i : Nat} : i ∈ fixd l ↔ i < l.length ∧ l.getD i 0 = i := by
  unfold fixd
  rw [List.mem_filter, List.mem_range, decide_eq_true_eq]
theorem fix_beh {n : Nat} {ss : Steps} {one two : List Nat} (m1 : Mv n ss one) (m2 : Mv n ss two) {i : Nat} (h1 : i ∈ fixd one) (h2 : i ∈ fixd two) : i ∈ fixd (beh one two) := by
  obtain ⟨a1, a2⟩ := mem_fixd.mp h1
  obtain ⟨b1, b2⟩ := mem_fixd.mp h2
  refine mem_fixd.mpr ⟨by unfold beh; rw [List.length_map]; exact b1, ?_⟩
  unfold beh
  rw [getD_map b1, b2, a2]
theorem fix_dn {n : Nat} {ss : Steps} (v : Vo n ss) {l : List Nat} (m : Mv n ss l) {i : Nat} (h : i ∈ fixd l) : ∀ t, i ∈ fixd (dn n l t)
  | 0 => by
    have := (mem_fixd.mp h).1
    rw [m.len] at this
    refine mem_fixd.mpr ⟨by rw [dn, List.length_range]; exact this, ?_⟩
    rw [dn, range_getD this]
  | t + 1 => fix_beh m (Mv.dn v m t) h (fix_dn v m h t)
theorem count_rows {l : List (List Nat)} : (l.filter fun m => decide (fixd m = [])).length + (l.filter fun m => !decide (fixd m = [])).length = l.length := by
  induction l with
  | nil => rfl
  | cons a l ih =>
    by_cases h : fixd a = []
    · rw [List.filter_cons_of_pos (by simp [h]), List.filter_cons_of_neg (by simp [h]), List.length_cons, List.length_cons]
      omega
    · rw [List.filter_cons_of_neg (by simp [h]), List.filter_cons_of_pos (by simp [h]), List.length_cons, List.length_cons]
      omega
theorem mv_ne {n : Nat} {ss : Steps} (v : Vo n ss) : 1 ≤ (mv n ss n).length := List.length_pos_of_mem ((mem_mv v).mpr (.id v))
end Lw
namespace Lw
open PySem PySem.Spec PyProof.Rows L2 NdefX LamX
section
variable {X : Cx} {σ : L2.St} {H : Hp} {Q : VK} {QT : Bool → Hp → Prop} {pos p p2 tp : Pos} {a b c : Expr} {j k : Nat} {d : Addr} {R : Nat → Nat → Prop}
/-- t + u, of tuples of data -/
theorem cat_t (q : wE X a σ H fun v H1 => wE X b σ H1 fun u H2 => ∃ ds es : List PyData, Dt H2 v (.tuple ds) ∧ Dt H2 u (.tuple es) ∧ ds.length + es.length ≤ 1000 ∧ ∀ y H3, Sm H2 H3 → Dt H3 y (.tuple (ds ++ es)) → Q y H3) : wE X (.BinOp a .Add b pos) σ H Q := by
  refine wE_op op_catA (wE_mono q fun v H1 q1 => wE_mono q1 fun u H2 q2 => ?_)
  obtain ⟨ds, es, d1, d2, hl, qf⟩ := q2
  obtain ⟨s, xs, rfl, h1, h2⟩ := d1.tup_inv
  obtain ⟨t, ys, rfl, h3, h4⟩ := d2.tup_inv
  have l1 := h2.len
  have l2 := h4.len
  refine ⟨s, t, xs, ys, rfl, rfl, .inl (.inl h1), .inl (.inl h3), by rw [sizeLine_eq]; omega, fun e => ?_, fun _ e => ?_, fun _ _ p np => qf _ _ (same_new np) (.new np (h2.app h4))⟩
  · subst e
    cases h2
    exact qf _ _ (fun _ _ z => z) d2
  · subst e
    cases h4
    rw [List.append_nil] at qf
    exact qf _ _ (fun _ _ z => z) d1
open Classical in
/-- (a, b) not in d -/
theorem nin_pr (hr : Room j X.A) {kvs : List (List Key × V)} (hc : ∀ H Q, Q (.ref d) H → wE X c σ H Q) (q : wE X a σ H fun x H1 => wE X b σ H1 fun y H2 => ∃ m n : Nat, x = .int (m : Int) ∧ y = .int (n : Int) ∧ H2 d = some (.dT kvs) ∧ PrD kvs R ∧ ∀ H3, Sm H2 H3 → QT (!decide (R m n)) H3)
    (h1 : starEach [a, b] X.env = (false, eval a X.env) :: starEach [b] X.env := by rfl) (h2 : starEach [b] X.env = (false, eval b X.env) :: starEach [] X.env := by rfl) (hm : behindInMarks CmpOp.NotIn c = false := by rfl) : wT X (.Compare (.Tuple [a, b] k tp) [.NotIn] [c] pos) σ H QT := by
  refine tdnin hr (wE_of (pe_tup (pa_cons wE_pe (pa_cons wE_pe pa_nil h2) h1)) (wE_mono q fun x H1 q => wE_mono q fun y H2 q => ?_)) hm
  obtain ⟨m, n, rfl, rfl, hd, hp, q⟩ := q
  refine ⟨by show 2 ≤ sizeLine; decide, fun t nt => hc _ _ ⟨d, _, rfl, .inr ⟨kvs, kk m n, t, .inl (same_new nt _ _ hd), rfl, upd_same, rfl⟩, ?_⟩⟩
  rw [hp.some]
  exact q _ (same_new nt)
/-- (a,), of data -/
theorem tupd1 (q : wE X a σ H fun v H1 => ∃ e, Dt H1 v e ∧ ∀ y H2, Sm H1 H2 → Dt H2 y (.tuple [e]) → Q y H2) (h1 : starEach [a] X.env = (false, eval a X.env) :: starEach [] X.env := by rfl) : wE X (.Tuple [a] k pos) σ H Q :=
  tup1 (wE_mono q fun v H1 q l nl => let ⟨e, d, q⟩ := q; q _ _ (same_new nl) (.new nl (.cons d .nil))) h1
theorem and3 {e : Expr} (q : wT X a σ H fun k H1 => if k = true then wT X b σ H1 (fun k H2 => if k = true then wT X e σ H2 QT else QT false H2) else QT false H1) : wT X (.BoolOp .And [a, b, e] pos) σ H QT := by
  refine wT_W (wW_and (wT_mono q fun k H1 q => ?_))
  cases k with
  | true =>
    rw [if_pos rfl] at q ⊢
    refine wW_and (wT_mono q fun k H2 q => ?_)
    cases k with
    | true =>
      rw [if_pos rfl] at q ⊢
      exact wW_and1 q
    | false => exact q
  | false => exact q
open Classical in
/-- (a, b) in d and e != f and (g, h) not in d *)-/
theorem t_bad {c2 e f g h : Expr} {k2 : Nat} {tp2 p3 p4 p5 : Pos} {kvs : List (List Key × V)} {m n x y z t : Nat} (hr : Room j X.A) (hc : ∀ H Q, Q (.ref d) H → wE X c σ H Q) (hc2 : ∀ H Q, Q (.ref d) H → wE X c2 σ H Q) (ha : ∀ H Q, Q (.int (m : Int)) H → wE X a σ H Q) (hb : ∀ H Q, Q (.int (n : Int)) H → wE X b σ H Q) (he : ∀ H Q, Q (.int (x : Int)) H → wE X e σ H Q) (hf : ∀ H Q, Q (.int (y : Int)) H → wE X f σ H Q)
    (hg : ∀ H Q, Q (.int (z : Int)) H → wE X g σ H Q) (hh : ∀ H Q, Q (.int (t : Int)) H → wE X h σ H Q) (hd : H d = some (.dT kvs)) (hp : PrD kvs R) (q : ∀ H3, Sm H H3 → QT (decide (R m n ∧ x ≠ y ∧ ¬ R z t)) H3)
    (h1 : starEach [a, b] X.env = (false, eval a X.env) :: starEach [b] X.env := by rfl) (h2 : starEach [b] X.env = (false, eval b X.env) :: starEach [] X.env := by rfl) (h3 : starEach [g, h] X.env = (false, eval g X.env) :: starEach [h] X.env := by rfl) (h4 : starEach [h] X.env = (false, eval h X.env) :: starEach [] X.env := by rfl)
    (hm1 : behindInMarks CmpOp.In c = false := by rfl) (hm2 : behindInMarks CmpOp.NotEq f = false := by exact nomark _) (hm3 : behindInMarks CmpOp.NotIn c2 = false := by rfl) :
    wT X (.BoolOp .And [.Compare (.Tuple [a, b] k tp) [.In] [c] p3, .Compare e [.NotEq] [f] p4, .Compare (.Tuple [g, h] k2 tp2) [.NotIn] [c2] p5] pos) σ H QT := by
  refine and3 (in_pr (R := R) hr hc (ha _ _ (hb _ _ ⟨m, n, rfl, rfl, hd, hp, fun H1 s1 => ?_⟩)) h1 h2 hm1)
  by_cases r1 : R m n
  · rw [decide_eq_true r1, if_pos rfl]
    refine tne_int (he _ _ (hf _ _ ⟨_, _, rfl, rfl, ?_⟩)) hm2
    rw [dec_nat]
    by_cases r2 : x = y
    · rw [decide_eq_true r2]
      have := q H1 s1
      rw [decide_eq_false (fun w => w.2.1 r2)] at this
      exact this
    · rw [decide_eq_false r2]
      refine nin_pr (R := R) hr hc2 (hg _ _ (hh _ _ ⟨z, t, rfl, rfl, s1 _ _ hd, hp, fun H2 s2 => ?_⟩)) h3 h4 hm3
      have := q H2 fun b o e => s2 _ _ (s1 _ _ e)
      have e9 : decide (R m n ∧ x ≠ y ∧ ¬ R z t) = !decide (R z t) := by
        by_cases r3 : R z t
        · rw [decide_eq_true r3, decide_eq_false (fun w => w.2.2 r3)]
          rfl
        · rw [decide_eq_false r3, decide_eq_true (⟨r1, r2, r3⟩ : R m n ∧ x ≠ y ∧ ¬ R z t)]
          rfl
      rw [e9] at this
      exact this
  · rw [decide_eq_false r1, if_neg Bool.false_ne_true]
    have := q H1 s1
    rw [decide_eq_false (fun w => r1 w.1)] at this
    exact this
end
section
variable {P : Program} {w : World} {K : PySem.W.Frag} {mg : Str → Option Value} {base : Heap} {O : Prm}
open Classical
abbrev s_made : Stmt := topS 61
theorem sc_made : FnScope ["order"] ["order"] (defScope s_made) := ⟨rfl, rfl, rfl, by decide +kernel, rfl, by decide +kernel, by decide +kernel⟩
def sp_made (O : Prm) : Spn := fun vs H Q => ∃ (v : V) (n : Nat) (ss : Steps), vs = [v] ∧ Dt H v (eOrd n ss) ∧ Vo n ss ∧ Tabs O.T H ∧ ∀ H' y d, H d = none → Ex O nA H H' → OrdNew O H' y n ss d → Q y H'
theorem fn_made {f : Addr} {fd : FuncData} (M : OMk P w K mg base O) (F : Fun K "_law_made" "_law_made" s_made f fd) : FnOk P w K mg base (L2.CX P w) 10 f fd ["order"] (nn (sp_made O)) := by
  refine fn_w F sc_made (fun vs H Q h => ?_) fun cdv A outer s H vs Q E hr h => ?_
  · obtain ⟨v, n, ss, rfl, _⟩ := h
    rfl
  · obtain ⟨v, n, ss, rfl, dv, vo, tT, q⟩ := h
    refine wS_one (w1_ret (mkOrder M hr (ix_t (nm 0 (wE_int ⟨_, _, _, dv, rfl, atI_nat' (i := 0) rfl, fun y dy => ?_⟩)))))
    refine ix_t (nm 0 (wE_int ⟨_, _, _, dv, rfl, atI_nat' (i := 1) rfl, fun z dz => ⟨n, ss, dy.int_inv, dz, vo, tT, fun y H3 d hd m o => q _ _ d hd m o⟩⟩))
abbrev s_goes : Stmt := topS 63
abbrev n_goes : List Str := ["below", "row", "place", "goal", "other", "sent"]
theorem sc_goes : FnScope n_goes ["below", "row", "place", "goal"] (defScope s_goes) := ⟨rfl, rfl, rfl, by decide +kernel, rfl, by decide +kernel, by decide +kernel⟩
def sp_goes (O : Prm) : Spn := fun vs H Q => ∃ (d : Addr) (r : V) (row : List Nat) (g n : Nat) (ss : Steps) (kvs : List (List Key × V)), vs = [.ref d, r, .int (row.length : Int), .int (g : Int)] ∧ H d = some (.dT kvs) ∧ PrD kvs (TC ss) ∧ Vo n ss ∧ Dt H r (eNs row) ∧ row.length ≤ 6 ∧ ∀ H', Ex O nA H H' → Q (.bl (cf ss row g)) H'
theorem fn_goes {f : Addr} {fd : FuncData} (B : Bi mg) (F : Fun K "_law_goes" "_law_goes" s_goes f fd) : FnOk P w K mg base (L2.CX P w) 1 f fd ["below", "row", "place", "goal"] (nn (sp_goes O)) := by
  refine fn_w F sc_goes (fun vs H Q h => ?_) fun cdv A outer s H vs Q E hr h => ?_
  · obtain ⟨d, r, row, g, n, ss, kvs, rfl, _⟩ := h
    rfl
  · obtain ⟨d, r, row, g, n, ss, kvs, rfl, hd, hp, vo, dr, hl, q⟩ := h
    have bad : ∀ {k : Nat}, k < row.length → kp ss k row.length (row.getD k 0) g = false → cf ss row g = false := fun {k} hk h => by
      unfold cf
      rw [List.all_eq_false]
      exact ⟨k, List.mem_range.mpr hk, by rw [h]; exact Bool.false_ne_true⟩
    refine wS_cons (w1_for (O := O) (A := nA) (ds := eEn (row.map eN)) .never rfl (by intro _; rfl) (src_enumT (by rfl) B.enumerate (by rfl) (nm 1 ⟨.refl _, dr⟩)) fun H2 m2 => ?_)
    refine ⟨fun i σ' H' => ∃ y4 y5, σ' = [some (.ref d), some r, some (.int (row.length : Int)), some (.int (g : Int)), y4, y5] ∧ Ex O nA H2 H' ∧ ∀ k, k < i → kp ss k row.length (row.getD k 0) g = true,
      ⟨none, none, rfl, .refl _, fun k hk => absurd hk (by omega)⟩, fun i σ' H' p => ?_, fun i σ' H' Hb p sm => ?_, fun i d' x σ' H' e1 p dx => ?_, fun σ' H' p => ?_⟩
    · obtain ⟨_, _, _, m, _⟩ := p
      exact m
    · obtain ⟨y4, y5, e, m, h⟩ := p
      exact ⟨y4, y5, e, m.trans (.same sm), h⟩
    · obtain ⟨y4, y5, rfl, m, hk⟩ := p
      have hi : i < row.length := by
        have := (List.getElem?_eq_some_iff.mp e1).1
        rwa [eEn_len, List.length_map] at this
      rw [eEn_get (rowAt1 hi)] at e1
      cases e1
      have m3 := m2.trans m
      have hd3 : H' d = some (.dT kvs) := m3.cel _ _ hd (fun z => z)
      refine wG_pair 4 5 rfl sc_goes.nd rfl rfl (.inl rfl) (.inl rfl) (.inl rfl) (.inl rfl) dx rfl rfl rfl rfl fun u w' du dw => ?_
      rw [du.int_inv, dw.int_inv]
      have hbad := bad hi
      have hgood : kp ss i row.length (row.getD i 0) g = true → ∀ k, k < i + 1 → kp ss k row.length (row.getD k 0) g = true := fun h k hk2 => by
        by_cases e : k = i
        · rw [e]
          exact h
        · exact hk k (by omega)
      generalize row.getD i 0 = snt at hbad hgood ⊢
      have kpi := kp_iff vo (a := i) (b := row.length) (x := snt) (y := g)
      refine wS_cons (w1_if (t_bad (R := TC ss) (m := i) (n := row.length) (x := snt) (y := g) (z := snt) (t := g) hr (fun H Q q => nm 0 q) (fun H Q q => nm 0 q) (fun H Q q => nm 4 q) (fun H Q q => nm 2 q) (fun H Q q => nm 5 q) (fun H Q q => nm 3 q) (fun H Q q => nm 5 q) (fun H Q q => nm 3 q) hd3 hp fun H5 s5 => ?_))
      have m5 := m3.trans (Ex.same s5)
      by_cases b1 : TC ss i row.length ∧ snt ≠ g ∧ ¬ TC ss snt g
      · rw [decide_eq_true b1]
        refine iteT (wS_one (w1_ret (wE_bl (qb ?_ (q _ m5)))))
        refine (hbad ?_).symm
        exact Bool.eq_false_iff.mpr fun z => ((kpi.mp z).1 b1.1).elim (fun e => b1.2.1 e) fun e => b1.2.2 e
      rw [decide_eq_false b1]
      refine iteF (wS_nil (wS_one (w1_if (t_bad (R := TC ss) (m := row.length) (n := i) (x := snt) (y := g) (z := g) (t := snt) hr (fun H Q q => nm 0 q) (fun H Q q => nm 0 q) (fun H Q q => nm 2 q) (fun H Q q => nm 4 q) (fun H Q q => nm 5 q) (fun H Q q => nm 3 q) (fun H Q q => nm 3 q) (fun H Q q => nm 5 q) (s5 _ _ hd3) hp fun H6 s6 => ?_))))
      have m6 := m5.trans (Ex.same s6)
      by_cases b2 : TC ss row.length i ∧ snt ≠ g ∧ ¬ TC ss g snt
      · rw [decide_eq_true b2]
        refine iteT (wS_one (w1_ret (wE_bl (qb ?_ (q _ m6)))))
        refine (hbad ?_).symm
        exact Bool.eq_false_iff.mpr fun z => ((kpi.mp z).2 b2.1).elim (fun e => b2.2.1 e.symm) fun e => b2.2.2 e
      rw [decide_eq_false b2]
      refine iteF (wS_nil ⟨_, _, rfl, (m.trans (.same s5)).trans (.same s6), hgood (kpi.mpr ⟨fun t => ?_, fun t => ?_⟩)⟩)
      · by_cases e : snt = g
        · exact .inl e
        · exact .inr (Classical.byContradiction fun z => b1 ⟨t, e, z⟩)
      · by_cases e : snt = g
        · exact .inl e.symm
        · exact .inr (Classical.byContradiction fun z => b2 ⟨t, e, z⟩)
    · obtain ⟨y4, y5, rfl, m, hk⟩ := p
      rw [eEn_len, List.length_map] at hk
      refine wS_one (w1_ret (wE_bl (qb ?_ (q _ (m2.trans m)))))
      refine Eq.symm ?_
      unfold cf
      rw [List.all_eq_true]
      exact fun o ho => hk o (List.mem_range.mp ho)
end
end Lw
namespace Lw
open PySem PySem.Spec PyProof.Rows L2 NdefX LamX
section
variable {X : Cx} {σ : L2.St} {H : Hp} {D : Ends} {a b c : Expr} {x y z : Str} {p1 p2 p3 pos pos2 pos3 : Pos} {k k2 : Nat}
/-- x, y = a, b, all names local -/
theorem w1_par2 (i j : Nat) (hij : i ≠ j) (hN : X.N.Nodup) (q : wE X a σ H fun u H1 => wE X b σ H1 fun w H2 => D.nx ((σ.set i (some u)).set j (some w)) H2)
    (hi : X.N[i]? = some x := by rfl) (hj : X.N[j]? = some y := by rfl) (hc : X.calm = true := by rfl) (hx : X.env.scope.names.lookup x = some .local := by rfl) (hy : X.env.scope.names.lookup y = some .local := by rfl)
    (hw : swappedStores [.Tuple [.Name x p1, .Name y p2] k pos] (.Tuple [a, b] k2 pos2) X.env = pure (some [x, y]) := by rfl) (h1 : starEach [a, b] X.env = (false, eval a X.env) :: starEach [b] X.env := by rfl) (h2 : starEach [b] X.env = (false, eval b X.env) :: starEach [] X.env := by rfl) :
    w1 X (.Assign [.Tuple [.Name x p1, .Name y p2] k pos] (.Tuple [a, b] k2 pos2) pos3) D σ H :=
  w1_of (ps_par hc hN hi hj hij hx hy (pa_cons wE_pe (pa_cons wE_pe pa_nil h2) h1) hw) (wE_mono q fun u H1 q => wE_mono q fun w H2 q => ⟨u, w, rfl, q⟩)
theorem w1_par3 (i j l : Nat) (hij : i ≠ j) (hil : i ≠ l) (hjl : j ≠ l) (hN : X.N.Nodup) (q : wE X a σ H fun u H1 => wE X b σ H1 fun w H2 => wE X c σ H2 fun t H3 => D.nx (((σ.set i (some u)).set j (some w)).set l (some t)) H3)
    (hi : X.N[i]? = some x := by rfl) (hj : X.N[j]? = some y := by rfl) (hl : X.N[l]? = some z := by rfl) (hc : X.calm = true := by rfl) (hx : X.env.scope.names.lookup x = some .local := by rfl) (hy : X.env.scope.names.lookup y = some .local := by rfl) (hz : X.env.scope.names.lookup z = some .local := by rfl)
    (hw : swappedStores [.Tuple [.Name x p1, .Name y p2, .Name z p3] k pos] (.Tuple [a, b, c] k2 pos2) X.env = pure (some [x, y, z]) := by rfl) (h1 : starEach [a, b, c] X.env = (false, eval a X.env) :: starEach [b, c] X.env := by rfl) (h2 : starEach [b, c] X.env = (false, eval b X.env) :: starEach [c] X.env := by rfl) (h3 : starEach [c] X.env = (false, eval c X.env) :: starEach [] X.env := by rfl) :
    w1 X (.Assign [.Tuple [.Name x p1, .Name y p2, .Name z p3] k pos] (.Tuple [a, b, c] k2 pos2) pos3) D σ H :=
  w1_of (ps_par3 hc hN hi hj hl hij hil hjl hx hy hz (pa_cons wE_pe (pa_cons wE_pe (pa_cons wE_pe pa_nil h3) h2) h1) hw) (wE_mono q fun u H1 q => wE_mono q fun w H2 q => wE_mono q fun t H3 q => ⟨u, w, t, rfl, q⟩)
end
section
variable {P : Program} {w : World} {K : PySem.W.Frag} {mg : Str → Option Value} {base : Heap} {O : Prm}
open Classical
/-- the rows of one row -/
noncomputable def ext1 (n : Nat) (ss : Steps) (row : List Nat) (k : Nat) : List (List Nat) := ((List.range k).filter (cf ss row)).map fun g => row ++ [g]
noncomputable def extJ (n : Nat) (ss : Steps) (rows : List (List Nat)) : List (List Nat) := rows.flatMap fun row => ext1 n ss row n
theorem ext1_succ {n : Nat} {ss : Steps} {row : List Nat} {k : Nat} : ext1 n ss row (k + 1) = ext1 n ss row k ++ (if cf ss row k = true then [row ++ [k]] else []) := by
  unfold ext1
  rw [List.range_succ, List.filter_append, List.map_append]
  congr 1
  by_cases h : cf ss row k = true
  · rw [if_pos h, List.filter_cons_of_pos h]
    rfl
  · rw [if_neg h, List.filter_cons_of_neg h]
    rfl
theorem ext1_len {n : Nat} {ss : Steps} {row : List Nat} {k : Nat} : (ext1 n ss row k).length ≤ k := by
  unfold ext1
  rw [List.length_map]
  refine Nat.le_trans (List.length_filter_le _ _) ?_
  rw [List.length_range]
  exact Nat.le_refl _
theorem extJ_len {n : Nat} {ss : Steps} {rows : List (List Nat)} : (extJ n ss rows).length ≤ rows.length * n := flatMap_len fun _ _ => ext1_len
abbrev s_moves : Stmt := topS 62
abbrev n_moves : List Str := ["order", "below", "rows", "place", "longer", "row", "goal"]
theorem sc_moves : FnScope n_moves ["order"] (defScope s_moves) := ⟨rfl, rfl, rfl, by decide +kernel, rfl, by decide +kernel, by decide +kernel⟩
def sp_lmoves (O : Prm) : Spn := fun vs H Q => ∃ (v : V) (n : Nat) (ss : Steps), vs = [v] ∧ Dt H v (eOrd n ss) ∧ Vo n ss ∧ ∀ H' l us, H l = none → Ex O nA H H' → H' l = some (.lst us) → DtA H' us ((mv n ss n).map eNs) → Q (.ref l) H'
theorem fn_moves {f : Addr} {fd : FuncData} (B : Bi mg) (D1 : Df P w K mg base 1 "_law_below" (sp_lbelow O)) (D2 : Df P w K mg base 1 "_law_goes" (sp_goes O)) (F : Fun K "_law_moves" "_law_moves" s_moves f fd) : FnOk P w K mg base (L2.CX P w) 2 f fd ["order"] (nn (sp_lmoves O)) := by
  refine fn_w F sc_moves (fun vs H Q h => ?_) fun cdv A outer s H vs Q E hr h => ?_
  · obtain ⟨v, n, ss, rfl, _⟩ := h
    rfl
  · obtain ⟨v, n, ss, rfl, dv, vo, q⟩ := h
    have hn := vo.hi
    refine wS_cons (w1_par2 1 2 (by decide) sc_moves.nd (call2 D1 hr (ix_t (nm 0 (wE_int ⟨_, _, _, dv, rfl, atI_nat' (i := 0) rfl, fun y dy => ?_⟩)))))
    refine ix_t (nm 0 (wE_int ⟨_, _, _, dv, rfl, atI_nat' (i := 1) rfl, fun z dz => ?_⟩))
    refine ⟨n, z, ss, by rw [dy.int_inv], .inr dz, hn, vo.vs.bd, by have := vo.vs.len; omega, fun H1 d kvs nd m1 hd hp _ => ?_⟩
    refine lst1 (tup0 fun t0 n0 l0 nl0 => ?_)
    have m4 : Ex O nA H (upd (upd H1 t0 (.tup [])) l0 (.lst [.ref t0])) := (m1.trans (.new n0)).trans (.new nl0)
    have hd4 : (upd (upd H1 t0 (.tup [])) l0 (.lst [.ref t0])) d = some (.dT kvs) := same_new nl0 _ _ (same_new n0 _ _ hd)
    have hl4 : (upd (upd H1 t0 (.tup [])) l0 (.lst [.ref t0])) l0 = some (.lst [.ref t0]) := upd_same
    have ht4 : (upd (upd H1 t0 (.tup [])) l0 (.lst [.ref t0])) t0 = some (.tup []) := same_new nl0 _ _ upd_same
    have nl : H l0 = none := (m1.trans (Ex.new (o := .tup []) n0)).dom _ nl0
    show wS _ _ _ _ (upd (upd H1 t0 (.tup [])) l0 (.lst [.ref t0]))
    generalize (upd (upd H1 t0 (.tup [])) l0 (.lst [.ref t0])) = H4 at m4 hd4 hl4 ht4
    clear nl0 n0
    refine wS_cons (w1_for (O := O) (A := nA) (ds := eRg n) .never rfl (by intro _; rfl) (src_range (by rfl) B.range (by rfl) (ix_t (nm 0 (wE_int ⟨_, _, _, dv.mono m4.im, rfl, atI_nat' (i := 0) rfl, fun y dy => ⟨.refl _, dy.int_inv⟩⟩))) (by omega)) fun H5 m5 => ?_)
    refine ⟨fun i σ' H' => ∃ y3 y4 y5 y6 rl us, σ' = [some v, some (.ref d), some (.ref rl), y3, y4, y5, y6] ∧ Ex O nA H5 H' ∧ H rl = none ∧ H' rl = some (.lst us) ∧ i ≤ n ∧ DtA H' us ((mv n ss i).map eNs),
      ⟨none, none, none, none, l0, [.ref t0], rfl, .refl _, nl, m5.cel _ _ hl4 (fun z => z), Nat.zero_le _, (DtA.cons (.tup ht4 .nil) .nil : DtA H4 [.ref t0] [.tuple []]).mono m5.im⟩, fun i σ' H' p => ?_, fun i σ' H' Hb p sm => ?_, fun i d' x σ' H' e1 p dx => ?_, fun σ' H' p => ?_⟩
    · obtain ⟨_, _, _, _, _, _, _, m, _⟩ := p
      exact m
    · obtain ⟨y3, y4, y5, y6, rl, us, e, m, nr, h, hi, dd⟩ := p
      exact ⟨y3, y4, y5, y6, rl, us, e, m.trans (.same sm), nr, sm _ _ h, hi, dd.mono (.same sm)⟩
    · obtain ⟨y3, y4, y5, y6, rl, us, rfl, m, nr, h, hi0, dd⟩ := p
      have hi : i < n := by
        have := (List.getElem?_eq_some_iff.mp e1).1
        rwa [eRg_len] at this
      rw [eRg_get hi] at e1
      cases e1
      rw [dx.int_inv]
      have m6 : Ex O nA H H' := (m4.trans m5).trans m
      have hsm := mv_small (ss := ss) hn (k := i) (by omega)
      refine wG_name 3 sc_moves.nd rfl (.inl rfl) (.inl rfl) ?_
      refine wS_cons (w1_set 4 sc_moves.nd rfl (.inl rfl) rfl (.inl rfl) (lst0 fun lo nlo => ?_))
      have m7 : Ex O nA H' (upd H' lo (.lst [])) := .new nlo
      have nlo' : H lo = none := m6.dom _ nlo
      have rne : rl ≠ lo := fun z => by rw [z, nlo] at h; cases h
      have hr7 := m7.cel _ _ h (fun z => z)
      have hlo7 : (upd H' lo (.lst [])) lo = some (.lst []) := upd_same
      have dd7 := dd.mono m7.im
      show wS _ _ _ _ (upd H' lo (.lst []))
      generalize (upd H' lo (.lst [])) = H7 at m7 hr7 hlo7 dd7
      refine wS_cons (w1_for (O := O) (A := (· = lo)) (ds := (mv n ss i).map eNs) .never rfl (by intro _; rfl) (src_list (nm 2 ⟨.refl _, .of hr7 dd7 rne⟩)) fun H8 m8 => ?_)
      refine ⟨fun j σ' H' => ∃ y5 y6 us, σ' = [some v, some (.ref d), some (.ref rl), some (.int (i : Int)), some (.ref lo), y5, y6] ∧ Ex O (· = lo) H8 H' ∧ H' lo = some (.lst us) ∧ j ≤ (mv n ss i).length ∧ DtA H' us ((extJ n ss ((mv n ss i).take j)).map eNs),
        ⟨y5, y6, [], rfl, .refl _, m8.cel _ _ hlo7 (fun z => z), Nat.zero_le _, .nil⟩, fun j σ' H' p => ?_, fun j σ' H' Hb p sm => ?_, fun j d' x σ' H' e1 p dx => ?_, fun σ' H' p => ?_⟩
      · obtain ⟨_, _, _, _, m, _⟩ := p
        exact m
      · obtain ⟨y5, y6, us, e, m, h, hj, dd⟩ := p
        exact ⟨y5, y6, us, e, m.trans (.same sm), sm _ _ h, hj, dd.mono (.same sm)⟩
      · obtain ⟨y5, y6, us1, rfl, m9, h9, hj0, dd9⟩ := p
        obtain ⟨hj, e2⟩ := rowAt e1
        have hmem := getD_mem hj
        subst e2
        have et : (mv n ss i).take (j + 1) = (mv n ss i).take j ++ [(mv n ss i).getD j []] := by
          rw [List.take_add_one]
          congr 1
          simp [hj]
        generalize (mv n ss i).getD j [] = row at hmem et dx
        obtain ⟨hrl, hrb⟩ := mv_row hmem
        have dlo : d ≠ lo := fun z => by
          have := m6.dom _ nlo
          have hd' := ((m5.trans m).cel _ _ hd4 (fun z => z))
          rw [z, nlo] at hd'
          cases hd'
        have hdx : H' d = some (.dT kvs) := by
          have h1 : H7 d = some (.dT kvs) := m7.cel _ _ ((m5.trans m).cel _ _ hd4 (fun z => z)) (fun z => z)
          exact m9.cel _ _ (m8.cel _ _ h1 (fun z => z)) dlo
        refine wG_name 5 sc_moves.nd rfl (.inl rfl) (.inl rfl) ?_
        have m10 : Ex O (· = lo) H H' := ((m6.trans (m7.trans m8)).mono fun _ z => z.elim).trans m9
        refine wS_one (w1_for (O := O) (A := (· = lo)) (ds := eRg n) .never rfl (by intro _; rfl) (src_range (by rfl) B.range (by rfl) (ix_t (nm 0 (wE_int ⟨_, _, _, dv.mono m10.im, rfl, atI_nat' (i := 0) rfl, fun y dy => ⟨.refl _, dy.int_inv⟩⟩))) (by omega)) fun H11 m11 => ?_)
        refine ⟨fun k σ' H' => ∃ y6 us, σ' = [some v, some (.ref d), some (.ref rl), some (.int (i : Int)), some (.ref lo), some x, y6] ∧ Ex O (· = lo) H11 H' ∧ H' lo = some (.lst us) ∧ k ≤ n ∧ DtA H' us ((extJ n ss ((mv n ss i).take j) ++ ext1 n ss row k).map eNs),
          ⟨y6, us1, rfl, .refl _, m11.cel _ _ h9 (fun z => z), Nat.zero_le _, by rw [show ext1 n ss row 0 = [] from rfl, List.append_nil]; exact dd9.mono m11.im⟩, fun k σ' H' p => ?_, fun k σ' H' Hb p sm => ?_, fun k d' x' σ' H' e1 p dx' => ?_, fun σ' H' p => ?_⟩
        · obtain ⟨_, _, _, m, _⟩ := p
          exact m
        · obtain ⟨y6, us, e, m, h, hk, dd⟩ := p
          exact ⟨y6, us, e, m.trans (.same sm), sm _ _ h, hk, dd.mono (.same sm)⟩
        · obtain ⟨y6, us2, rfl, m12, h12, hk0, dd12⟩ := p
          have hk : k < n := by
            have := (List.getElem?_eq_some_iff.mp e1).1
            rwa [eRg_len] at this
          rw [eRg_get hk] at e1
          cases e1
          rw [dx'.int_inv]
          have m13 : Ex O (· = lo) _ _ := (m11.mono (A' := (· = lo)) fun _ z => z.elim).trans m12
          have hd13 := m13.cel _ _ hdx dlo
          have dr13 := dx.mono m13.im
          refine wG_name 6 sc_moves.nd rfl (.inl rfl) (.inl rfl) ?_
          refine wS_one (w1_if (wT_val (by intro _; rfl) (call4 D2 hr (nm 1 (nm 5 (nm 3 (nm 6 ⟨d, x, row, k, n, ss, kvs, by rw [hrl], hd13, hp, vo, dr13, by omega, fun H14 m14 => ⟨_, rfl, ?_⟩⟩)))))))
          have h14 := m14.cel _ _ h12 (fun z => z)
          by_cases hc : cf ss row k = true
          · rw [hc]
            refine iteT (wS_one (w1_expr rfl (append (nm 4 ⟨lo, us2, rfl, h14, cat_t (nm 5 (tupd1 (nm 6 ⟨.int (k : Int), .int _, fun y H15 s15 dy => ⟨row.map eN, [.int (k : Int)], (dr13.mono m14.im).mono (.same s15), dy, by rw [List.length_map, List.length_singleton]; omega, fun z H16 s16 dz => ⟨us2, s16 _ _ (s15 _ _ h14), ?_, ?_⟩⟩⟩)))⟩))))
            · have e1 := dd12.len
              rw [List.length_map, List.length_append] at e1
              have l1 := extJ_len (n := n) (ss := ss) (rows := (mv n ss i).take j)
              have l2 := ext1_len (n := n) (ss := ss) (row := row) (k := k)
              have l3 : ((mv n ss i).take j).length * n ≤ 46656 * 6 := Nat.mul_le_mul (by rw [List.length_take]; omega) hn
              omega
            · have m16 := (m14.trans (.same s15)).trans (.same s16)
              have h16 := s16 _ _ (s15 _ _ h14)
              have i16 := Im.lst (o := .lst (us2 ++ [z])) h16
              refine ⟨_, us2 ++ [z], rfl, (m12.trans (m16.mono fun _ z => z.elim)).trans (Ex.atA rfl h16), upd_same, hk, ?_⟩
              rw [ext1_succ, if_pos hc, ← List.append_assoc, List.map_append]
              refine ((dd12.mono m16.im).mono i16).snoc (Dt.mono i16 ?_)
              show Dt _ _ (.tuple _)
              rw [List.map_append]
              exact dz
          · rw [Bool.eq_false_iff.mpr hc]
            refine iteF (wS_nil ⟨_, us2, rfl, m12.trans (m14.mono fun _ z => z.elim), h14, hk, ?_⟩)
            rw [ext1_succ, if_neg hc, List.append_nil]
            exact dd12.mono m14.im
        · obtain ⟨y6, us2, rfl, m12, h12, hk0, dd12⟩ := p
          rw [eRg_len] at dd12
          refine ⟨some x, y6, us2, rfl, (m9.trans (m11.mono fun _ z => z.elim)).trans m12, h12, hj, ?_⟩
          rw [et]
          unfold extJ at dd12 ⊢
          rw [List.flatMap_append]
          simpa using dd12
      · obtain ⟨y5, y6, us1, rfl, m9, h9, hj0, dd9⟩ := p
        rw [List.length_map, List.take_length] at dd9
        refine wS_one (w1_set 2 sc_moves.nd rfl (.inl rfl) rfl (.inl rfl) (nm 4 ?_))
        refine ⟨_, _, _, _, lo, us1, rfl, m.trans ((m7.trans m8).glue m9 fun p hp => .inl (hp ▸ nlo)), nlo', h9, hi, ?_⟩
        exact dd9
    · obtain ⟨y3, y4, y5, y6, rl, us, rfl, m, nr, h, hi0, dd⟩ := p
      rw [eRg_len] at dd
      exact wS_one (w1_ret (nm 2 (q H' rl us nr ((m4.trans m5).trans m) h dd)))
abbrev s_left : Stmt := topS 64
theorem sc_left : FnScope ["move", "place", "goal"] ["move"] (defScope s_left) := ⟨rfl, rfl, rfl, by decide +kernel, rfl, by decide +kernel, by decide +kernel⟩
def sp_left (O : Prm) : Spn := fun vs H Q => ∃ (r : V) (l : List Nat), vs = [r] ∧ Dt H r (eNs l) ∧ l.length ≤ 1000 ∧ ∀ H' y, Ex O nA H H' → Dt H' y (eNs (fixd l)) → Q y H'
theorem fn_left {f : Addr} {fd : FuncData} (B : Bi mg) (F : Fun K "_law_left" "_law_left" s_left f fd) : FnOk P w K mg base (L2.CX P w) 1 f fd ["move"] (nn (sp_left O)) := by
  refine fn_w F sc_left (fun vs H Q h => ?_) fun cdv A outer s H vs Q E hr h => ?_
  · obtain ⟨r, l, rfl, _⟩ := h
    rfl
  · obtain ⟨r, l, rfl, dr, hl, q⟩ := h
    refine wS_one (w1_ret (tup_ls B.tuple ?_))
    refine wE_lcP (O := O) (i := 1) (j := 2) (x := "place") (y := "goal") (by decide) rfl sc_left.nd (by intro _; rfl) (blkOk_by (N := ["move", "place", "goal"]) (sc := defScope s_left) (by decide +kernel)) (fun _ _ _ _ _ => pg_tup rfl (pgs_cons (pg_name sc_left.nd rfl (Or.inl rfl)) (pgs_cons (pg_name sc_left.nd rfl (Or.inl rfl)) pgs_nil)))
      (src_enumT (by rfl) B.enumerate (by rfl) (nm 0 ⟨.refl _, dr⟩)) (by rw [eEn_len, List.length_map]; omega) (fun k _ => if decide (l.getD k 0 = k) = true then some (eN k) else none) (fun k d' v' Ha e1 ex dv => ?_) fun z1 H1 us1 _ m1 hl1 hD1 => ?_
    · have hk : k < l.length := by
        have := (List.getElem?_eq_some_iff.mp e1).1
        rwa [eEn_len, List.length_map] at this
      rw [eEn_get (rowAt1 hk)] at e1
      cases e1
      refine ⟨_, _, rfl, fun u w' du dw => ?_⟩
      rw [du.int_inv, dw.int_inv]
      refine turn_one (k := decide (l.getD k 0 = k)) (fun s H0 C cl2 fp => ?_) (fun z => by rw [z]; rfl) fun z H5 m5 s H0 C cl2 fp => ?_
      · refine teq_int (nm 1 (nm 2 ⟨_, _, rfl, rfl, ?_, .refl _⟩))
        rw [dec_nat]
        exact decide_eq_decide.mpr eq_comm
      · refine nm 1 ⟨m5, _, ?_, .int _⟩
        rw [if_pos z]
        rfl
    · refine ⟨_, .of hl1 hD1, fun y H2 s2 dy => q _ _ (m1.trans (.same s2)) ?_⟩
      have e : kept (fun k _ => if decide (l.getD k 0 = k) = true then some (eN k) else none) (eEn (l.map eN)) (eEn (l.map eN)).length = (fixd l).map eN := by
        unfold eEn
        rw [kept_fil' (f := eN) (c := fun i => decide (l.getD i 0 = i)) fun i a e => ?_]
        · unfold fixd
          rw [List.length_map]
        · obtain ⟨h1, h2⟩ := List.getElem?_eq_some_iff.mp e
          rw [List.getElem_range] at h2
          rw [h2]
      rw [e] at dy
      exact dy
abbrev s_lbehind : Stmt := topS 65
theorem sc_lbehind : FnScope ["one", "two", "goal"] ["one", "two"] (defScope s_lbehind) := ⟨rfl, rfl, rfl, by decide +kernel, rfl, by decide +kernel, by decide +kernel⟩
def sp_lbehind (O : Prm) : Spn := fun vs H Q => ∃ (u r : V) (one two : List Nat), vs = [u, r] ∧ Dt H u (eNs one) ∧ Dt H r (eNs two) ∧ two.length ≤ 1000 ∧ (∀ x ∈ two, x < one.length) ∧ ∀ H' y, Ex O nA H H' → Dt H' y (eNs (beh one two)) → Q y H'
theorem fn_lbehind {f : Addr} {fd : FuncData} (B : Bi mg) (F : Fun K "_law_behind" "_law_behind" s_lbehind f fd) : FnOk P w K mg base (L2.CX P w) 1 f fd ["one", "two"] (nn (sp_lbehind O)) := by
  refine fn_w F sc_lbehind (fun vs H Q h => ?_) fun cdv A outer s H vs Q E hr h => ?_
  · obtain ⟨u, r, two, one, rfl, _⟩ := h
    rfl
  · obtain ⟨u, r, one, two, rfl, du, dr, hl, hb, q⟩ := h
    refine wS_one (w1_ret (tup_ls B.tuple ?_))
    refine wE_lcN (O := O) (i := 2) (x := "goal") rfl sc_lbehind.nd (by intro _; rfl) (blkOk_by (N := ["one", "two", "goal"]) (sc := defScope s_lbehind) (by decide +kernel)) (fun _ _ _ _ _ => pg_name sc_lbehind.nd rfl (Or.inl rfl))
      (src_tup (nm 1 ⟨.refl _, dr⟩)) (by rw [List.length_map]; omega) (fun k _ => some (eN (one.getD (two.getD k 0) 0))) (fun k d' v' Ha e1 ex dv => ?_) fun z1 H1 us1 _ m1 hl1 hD1 => ?_
    · obtain ⟨rfl, hm⟩ := natAt e1
      rw [dv.int_inv]
      exact turn_nil fun s H0 C cl2 fp => ix_t (nm 0 (nm 2 ⟨_, _, _, du.mono ex.im, rfl, atI_nat' (rowAt1 (hb _ hm)), fun y1 h1 => ⟨.refl _, _, rfl, h1⟩⟩))
    · refine ⟨_, .of hl1 hD1, fun y H2 s2 dy => q _ _ (m1.trans (.same s2)) ?_⟩
      rw [kept_beh] at dy
      exact dy
end
end Lw
namespace Lw
open PySem PySem.Spec PyProof.Rows L2 NdefX LamX
section
variable {P : Program} {w : World} {K : PySem.W.Frag} {mg : Str → Option Value} {base : Heap} {O : Prm}
abbrev s_well : Stmt := topS 55
abbrev n_well : List Str := ["script", "lap", "own", "stir", "each"]
theorem sc_well : FnScope n_well ["script", "lap"] (defScope s_well) := ⟨rfl, rfl, rfl, by decide +kernel, rfl, by decide +kernel, by decide +kernel⟩
/-- the script is a list of ints -/
def ScrAt (K : PySem.W.Frag) (H : Hp) (a : Addr) (ns : List Int) : Prop := SqL K H a (ns.map V.int)
def sp_well (O : Prm) : Spn := fun vs H Q => ∃ (a : Addr) (ns : List Int) (lap : Nat), vs = [.ref a, .int (lap : Int)] ∧ ScrAt O.K H a ns ∧ lap ≤ 100 ∧ ns.length ≤ 1000000 ∧ ∀ H' l, H l = none → Ex O nA H H' → WellAt H' l → Q (.ref l) H'
theorem fn_well {f : Addr} {fd : FuncData} (hK : O.K = K) (B : Bi mg) (F : Fun K "_law_well" "_law_well" s_well f fd) : FnOk P w K mg base (L2.CX P w) 1 f fd ["script", "lap"] (nn (sp_well O)) := by
  refine fn_w F sc_well (fun vs H Q h => ?_) fun cdv A outer s H vs Q E hr h => ?_
  · obtain ⟨a, ns, lap, rfl, _⟩ := h
    rfl
  · obtain ⟨a, ns, lap, rfl, hs, hl, hz, q⟩ := h
    subst hK
    have hs : SqL O.K H a (ns.map V.int) := hs
    refine wS_cons (w1_set 2 sc_well.nd rfl (.inl rfl) rfl (.inl rfl) (wE_if (tlt_int (nm 1 ?_))))
    refine bi1 call_len_seq B.len (nm 0 ⟨a, _, rfl, .inl hs, lap, _, rfl, rfl, ?_⟩) PySem.boot_len (by rfl) (by decide) (by decide) (by rfl)
    rw [List.length_map]
    -- from own on
    have rest : ∀ i : Int, wS (cxOf (L2.CX P w) P w O.K mg base n_well "_law_well" (defScope s_well) f cdv A outer s H E).nox ((defBody s_well).drop 1) { nx := fun _ H' => Q .non H', rt := Q } [some (.ref a), some (.int (lap : Int)), some (.int i), none, none] H := by
      intro i
      refine wS_cons (w1_set 3 sc_well.nd rfl (.inl rfl) rfl (.inl rfl) (add_int' (wE_int (mul_int' (wE_int (nm 1 ⟨7919, _, rfl, rfl, .inl ⟨by decide, by decide⟩, 40503, _, rfl, rfl, ?_⟩))))))
      refine wS_cons (w1_for (O := O) (A := nA) (ds := ((ns.take 9) ++ [i]).map PyData.int) .never rfl (by intro _; rfl) (src_list (cat_l ?_)) fun H2 m2 => ?_)
      · refine wE_of (pe_slice sl_list wE_pe po_none (po_some wE_pe)) (nm 0 (wE_int ⟨9, rfl, a, _, rfl, hs, fun l1 n1 => ?_⟩))
        refine lst1 (nm 2 fun l2 n2 => ?_)
        have hc : cutV (ns.map V.int) none (some 9) = (ns.take 9).map V.int := by
          have e1 : HT.sIx (ns.map V.int).length (ns.map V.int).length (some (9 : Int)) = min 9 ns.length := by
            rw [List.length_map]
            exact HT.sIx_nat _ _ 9
          unfold cutV
          rw [e1]
          show (((ns.map V.int).drop 0).take (min 9 ns.length - 0)) = _
          rw [List.drop_zero, Nat.sub_zero, ← List.map_take, ← List.take_eq_take_min]
        rw [hc] at n2 ⊢
        refine ⟨l1, l2, _, _, rfl, rfl, same_new n2 _ _ upd_same, upd_same, ?_, fun p np => ⟨((Ex.new n1).trans (.new n2)).trans (.new np), .of upd_same ?_⟩⟩
        · rw [List.length_map, List.length_take, List.length_singleton]
          omega
        · rw [show (ns.take 9).map V.int ++ [V.int i] = ((ns.take 9) ++ [i]).map V.int by rw [List.map_append]; rfl]
          exact DtA.ints _
      · refine ⟨fun k σ' H' => ∃ st y4, σ' = [some (.ref a), some (.int (lap : Int)), some (.int i), some (.int st), y4] ∧ Ex O nA H2 H', ⟨_, none, rfl, .refl _⟩, fun k σ' H' p => ?_, fun k σ' H' Hb p sm => ?_, fun k d' x σ' H' e1 p dx => ?_, fun σ' H' p => ?_⟩
        · obtain ⟨_, _, _, m⟩ := p
          exact m
        · obtain ⟨st, y4, e, m⟩ := p
          exact ⟨st, y4, e, m.trans (.same sm)⟩
        · obtain ⟨st, y4, rfl, m⟩ := p
          obtain ⟨z, hz⟩ : ∃ z, d' = .int z := by
            rw [List.getElem?_map] at e1
            cases e : (ns.take 9 ++ [i])[k]? with
            | none => rw [e] at e1; cases e1
            | some z => rw [e] at e1; exact ⟨z, (Option.some.inj e1).symm⟩
          subst hz
          rw [dx.int_inv]
          refine wG_name 4 sc_well.nd rfl (.inl rfl) (.inl rfl) ?_
          refine wS_one (w1_set 3 sc_well.nd rfl (.inl rfl) rfl (.inl rfl) (mod_int' (int_of B.int (add_int' (add_int' (mul_int' (nm 3 (wE_int ⟨_, 48271, rfl, rfl, .inr ⟨by decide, by decide⟩, ?_⟩))))))))
          refine mod_int' (int_of B.int (nm 4 ⟨z, rfl, wE_int ⟨_, 2147483579, rfl, rfl, by decide, _, _, rfl, rfl, wE_int ⟨_, _, rfl, rfl, _, rfl, wE_int ⟨_, _, rfl, rfl, by decide, ?_⟩⟩⟩⟩))
          exact ⟨_, _, rfl, m⟩
        · obtain ⟨st, y4, rfl, m⟩ := p
          refine wS_one (w1_ret (lst3 (wE_if (or2 (tlt_int (nm 2 (wE_int ⟨_, _, rfl, rfl, ?_⟩))))) ))
          have fin : ∀ k : Int, wE (cxOf (L2.CX P w) P w O.K mg base n_well "_law_well" (defScope s_well) f cdv A outer s H E).nox (.Name "stir" ⟨0, 0, 0, 0⟩) [some (.ref a), some (.int (lap : Int)), some (.int i), some (.int st), y4] H' (fun _ _ => True) := fun _ => nm 3 True.intro
          have ans : ∀ k : Int, ∀ l, H' l = none → Q (.ref l) (upd H' l (.lst [.int k, .int st, .int 0])) := fun k l nl => q _ l ((m2.trans m).dom _ nl) ((m2.trans m).trans (.new nl)) ⟨_, _, _, upd_same⟩
          by_cases hi : i < 0
          · rw [decide_eq_true hi]
            refine iteT (iteT (abs_of B.abs (nm 2 ⟨i, rfl, fun k => nm 3 (wE_int (ans k))⟩)))
          · rw [decide_eq_false hi]
            refine iteF (tge_int (nm 2 (pow_int' (wE_int (wE_int ⟨10, 18, rfl, rfl, ⟨by decide, by decide, by decide⟩, i, _, rfl, rfl, ?_⟩)))))
            by_cases h2 : (10 : Int) ^ (18 : Int).toNat ≤ i
            · rw [decide_eq_true h2]
              exact iteT (abs_of B.abs (nm 2 ⟨i, rfl, fun k => nm 3 (wE_int (ans k))⟩))
            · rw [decide_eq_false h2]
              exact iteF (wE_int (nm 3 (wE_int (ans 0))))
    by_cases hlt : (lap : Int) < (ns.length : Int)
    · rw [decide_eq_true hlt]
      refine iteT (int_of B.int (wE_of (pe_ix ix_list wE_pe wE_pe (fun _ _ => rfl)) (nm 0 (nm 1 ⟨a, _, lap, _, rfl, rfl, hs, atI_nat' (z := V.int (ns[lap]'(by omega))) ?_, _, rfl, rest _⟩))))
      rw [List.getElem?_map, List.getElem?_eq_getElem (by omega)]
      rfl
    · rw [decide_eq_false hlt]
      exact iteF (wE_int (rest 0))
end
end Lw
namespace Lw
open PySem PySem.Spec PyProof.Rows L2 NdefX LamX
/-! ## a def called where no repr runs -/
structure FnG (P : Program) (w : World) (K : PySem.W.Frag) (mg : Str → Option Value) (base : Heap) (k : Nat) (f : Addr) (fd : FuncData) (ps : List Str) (sp : Spn) : Prop where
  len : ∀ vs H Q, sp vs H Q → vs.length = ps.length
  run : ∀ (A : Around) (outer : List Env) (s : Shared) (H : Hp) (us : List Value) (vs : List V) (Q : VK), Room k A → A.guards = some [] → Env0 P w K mg base A outer s H → BindsTo s fd ⟨us, []⟩ (ps.zip us) → Vals vs us → sp vs H Q → codeAny (model P w) A (.call (.ref f) ⟨us, []⟩) (CR cx0 outer P w H s Q xk0) s
theorem guards_deeper {A : Around} {env : Env} (h : A.guards = some []) : (A.deeper env).guards = some [] := by
  unfold Around.deeper
  exact h
section
variable {P : Program} {w : World} {K : PySem.W.Frag} {mg : Str → Option Value} {base : Heap}
theorem fng_w {x qual : Str} {st : Stmt} {f : Addr} {fd : FuncData} {N ps : List Str} {k : Nat} {sp : Spn} (F : Fun K x qual st f fd) (S : FnScope N ps (defScope st)) (len : ∀ vs H Q, sp vs H Q → vs.length = ps.length)
    (hbody : ∀ (cdv : Value) (A : Around) (outer : List Env) (s : Shared) (H : Hp) (vs : List V) (Q : VK), Room k (A.deeper (envOfC qual (defScope st) s.heap.objs.size f cdv)) → (A.deeper (envOfC qual (defScope st) s.heap.objs.size f cdv)).guards = some [] → sp vs H Q →
      wS (cxOf cx0 P w K mg base N qual (defScope st) f cdv A outer s H xk0).nox (defBody st) { nx := fun _ H' => Q .non H', rt := Q } (L2.start N vs) H) : FnG P w K mg base (k + 1) f fd ps sp := by
  obtain ⟨oc, od, kV, doc, pm, an, cdv, ct, osl, rfl, lk, hcd⟩ := F.ex
  exact ⟨len, fun A outer s H us vs Q hr hg e0 hb r hsp => run_ofS lk hcd S hr e0 hb r (len _ _ _ hsp) fun hr' => ⟨_, wS_pss.nox, hbody cdv A outer s H vs Q hr' (guards_deeper hg) hsp⟩⟩
structure DfG (P : Program) (w : World) (K : PySem.W.Frag) (mg : Str → Option Value) (base : Heap) (k : Nat) (x : Str) (sp : Spn) : Prop where
  ex : ∃ (f : Addr) (fd : FuncData) (ps : List Str), FnG P w K mg base k f fd ps sp ∧ mg x = some (.ref f) ∧ PySem.W.keepIn K (.ref f) = true ∧ Binds K fd ps []
end
section
variable {X : Cx} {σ : L2.St} {H : Hp} {Q : VK} {x : Str} {p pos : Pos} {sp : Spn} {j k : Nat} {a b c : Expr}
theorem callG2 (D : DfG X.prog X.w X.K X.mg X.base k x sp) (hr : Room j X.A) (hgd : X.A.guards = some []) (q : wE X a σ H fun v H1 => wE X b σ H1 fun u H2 => sp [v, u] H2 Q) (hk : k ≤ j := by decide) (hg : Gl X x := by rfl) (hd : (x == ("__debug__" : Str)) = false := by decide)
    (h1 : starEach [a, b] X.env = (false, eval a X.env) :: starEach [b] X.env := by rfl) (h2 : starEach [b] X.env = (false, eval b X.env) :: starEach [] X.env := by rfl) : wE X (.Call (.Name x p) [a, b] [] pos) σ H Q := by
  intro pins s I
  obtain ⟨f, fd, ps, F, hm, kp, bd⟩ := D.ex
  refine wpAny_Call_Name_kw (ld_glob I hg hm ?_ hd)
  refine PySem.W.callWith_K (h₀ := X.base) I.ok.mod.kin kp (thn ((pa_cons (X := X) wE_pe (pa_cons wE_pe pa_nil h2) h1).run pos pins s σ H (fun vs H2 => sp vs H2 Q) I (wE_mono q fun v H1 q => wE_mono q fun u H2 q => q)) fun us s1 ⟨vs, H1, I1, r, q⟩ => ⟨I1.kIn, ?_⟩) h1 (by rw [h2]; rfl)
  have hl := F.len _ _ _ q
  show wpAny _ _ (call (.ref f) us) _ _ _
  refine wpAny_call (codeAny_mono (F.run X.A X.stack s1 H1 us vs Q (hr.mono hk) hgd I1.env0 (by have := bd s1 us I1.kIn (by rw [List.append_nil, ← r.length]; exact hl); rwa [List.append_nil] at this) r q) fun r s' hq => ?_)
  cases r with
  | error e => exact (show False from hq).elim
  | ok fl =>
    cases fl with
    | ret u => exact I1.after hq
    | next => exact False.elim hq
    | brk => exact False.elim hq
    | cont => exact False.elim hq
/-- f(k = a, ..), three keywords told backwards -/
def g3 : List Value → List Value → List Value
  | [], [a, b, c] => [c, b, a]
  | _, _ => []
def gV3 : List V → List V → List V
  | [], [a, b, c] => [c, b, a]
  | _, _ => []
structure DfK (P : Program) (w : World) (K : PySem.W.Frag) (mg : Str → Option Value) (base : Heap) (k : Nat) (x : Str) (ks : List Str) (sp : Spn) : Prop where
  ex : ∃ (f : Addr) (fd : FuncData) (ps : List Str), FnOk P w K mg base (L2.CX P w) k f fd ps (nn sp) ∧ mg x = some (.ref f) ∧ PySem.W.keepIn K (.ref f) = true ∧ KBinds K fd ps ks g3 gV3
theorem callK3 {k1 k2 k3 : Str} {q1 q2 q3 : Pos} (D : DfK X.prog X.w X.K X.mg X.base k x [k1, k2, k3] sp) (hr : Room j X.A) (q : wE X a σ H fun v H1 => wE X b σ H1 fun u H2 => wE X c σ H2 fun t H3 => sp [t, u, v] H3 Q) (hk : k ≤ j := by decide) (hg : Gl X x := by rfl) (hd : (x == ("__debug__" : Str)) = false := by decide)
    (hall : (backToKw pos (keywordEach [⟨some k1, a, q1⟩, ⟨some k2, b, q2⟩, ⟨some k3, c, q3⟩] X.env)).all (·.1.isSome) = true := by rfl) (hks : (backToKw pos (keywordEach [⟨some k1, a, q1⟩, ⟨some k2, b, q2⟩, ⟨some k3, c, q3⟩] X.env)).filterMap (·.1) = [k1, k2, k3] := by rfl)
    (hpl : ((backTo pos (starEach [] X.env)).any (·.1) || (backToKw pos (keywordEach [⟨some k1, a, q1⟩, ⟨some k2, b, q2⟩, ⟨some k3, c, q3⟩] X.env)).any (·.1.isNone)) = false := by rfl) :
    wE X (.Call (.Name x p) [] [⟨some k1, a, q1⟩, ⟨some k2, b, q2⟩, ⟨some k3, c, q3⟩] pos) σ H Q := by
  intro pins s I
  obtain ⟨f, fd, ps, F, hm, kp, bd⟩ := D.ex
  refine wpAny_Call_Name_kw (ld_glob I hg hm ?_ hd)
  refine PySem.W.callWith_KW0 (h₀ := X.base) I.ok.mod.kin kp hall ?_ hpl
  refine thn ((pk_cons (X := X) wE_pe (pk_cons wE_pe (pk_cons wE_pe pk_nil))).run pos pins s σ H (fun zs H3 => sp (gV3 [] zs) H3 Q) I (wE_mono q fun v H1 q => wE_mono q fun u H2 q => wE_mono q fun t H3 q => q)) fun ws s2 ⟨zs, H2, I2, rz, q2⟩ => ⟨I2.kIn, ?_⟩
  rw [hks]
  exact run_fnk (us := []) (vs := []) (E := xk0) F (hr.mono hk) bd passL I2 .nil rz q2
/-- repr of data -/
theorem call_reprD (hr : Room k X.A) (hg : X.A.guards = some []) : CallR X (.builtin "repr") (fun xs H Q => ∃ r d, xs = [.ref r] ∧ Dp X.K H (.ref r) d ∧ d.showable = true ∧ d.hasDict = false ∧ d.depth ≤ 60 ∧ d.shown.length ≤ 15728653 ∧ Q (.str d.shown) H) := by
  intro pins s σ H xs us Q I r h
  obtain ⟨r0, d, rfl, dp, h1, h2, h3, h4, q⟩ := h
  obtain ⟨u, rfl, rx⟩ := vals1 r
  cases rx
  obtain ⟨as, rd⟩ := Dp.reads I d _ _ dp rfl
  exact repr_of_reads' rd h1 (PyData.noDict_hsm h2) hg (by have := hr.units; omega) (fun b o e => e) (fun h' u tk hk => ⟨.str d.shown, H, I.kept hk, ⟨u, rfl⟩, q⟩) (by rw [sizeLine_eq]; omega)
theorem repr_d (hr : Room k X.A) (hgd : X.A.guards = some []) (hm : X.mg "repr" = none) (q : wE X a σ H fun v H1 => ∃ r d, v = .ref r ∧ Dp X.K H1 (.ref r) d ∧ d.showable = true ∧ d.hasDict = false ∧ d.depth ≤ 60 ∧ d.shown.length ≤ 15728653 ∧ Q (.str d.shown) H1)
    (hg : Gl X "repr" := by rfl) (h1 : starEach [a] X.env = (false, eval a X.env) :: starEach [] X.env := by rfl) : wE X (.Call (.Name "repr" p) [a] [] pos) σ H Q := by
  refine bi1 (call_reprD hr hgd) hm (wE_mono q fun v H1 q => ?_) (by decide +kernel) hg (by decide) (by decide) h1
  obtain ⟨r, d, rfl, q⟩ := q
  exact ⟨r, d, rfl, q⟩
theorem tne_str {QT : Bool → Hp → Prop} (q : wE X a σ H fun v H1 => wE X b σ H1 fun u H2 => ∃ z : Str, v = .str z ∧ u = .str z ∧ QT false H2) (hm : behindInMarks CmpOp.NotEq b = false := by exact nomark _) : wT X (.Compare a [.NotEq] [b] pos) σ H QT := by
  refine wT_cmp op_ne hm (wE_mono q fun v H1 q => wE_mono q fun u H2 q => ?_)
  obtain ⟨z, rfl, rfl, q⟩ := q
  exact ⟨rfl, _, rfl, by simpa using q⟩
theorem tnotBl {QT : Bool → Hp → Prop} (q : wE X a σ H fun v H1 => wE X b σ H1 fun u H2 => ∃ i j : Bool, v = .bl i ∧ u = .bl j ∧ QT (!decide (i = j)) H2) (hm : behindInMarks CmpOp.IsNot b = false := by exact nomark _) : wT X (.Compare a [.IsNot] [b] pos) σ H QT := by
  refine wT_cmp L2.op_notBl hm (wE_mono q fun v H1 q => wE_mono q fun u H2 q => ?_)
  obtain ⟨i, j, rfl, rfl, q⟩ := q
  exact ⟨i, j, rfl, rfl, _, rfl, q⟩
end
end Lw
namespace Lw
open PySem PySem.Spec PyProof.Rows L2 NdefX LamX
theorem tuple_mul1 (l : Addr) (items : Array Value) (n : Nat) (dd : Option Addr) (sl : Array (Option Value)) (u : Tok) :
    Meets (Builtin.«tuple.__mul__» ⟨[.ref l, .int 1 u], []⟩) (fun _ R s => s.heap.get? l = some { cls := .type "tuple", dict := dd, data := .seq items n, slots := sl } ∧ R (.ok (.ret (.ref l))) s) :=
  .of_wp fun prog w A R s h => by
    obtain ⟨hp, g, d, tk, os⟩ := s
    obtain ⟨hl, h⟩ := h
    have f1 := AutoSeq1.idx_int
    wp_walk using wpAny_loadPart' hl
    exact ⟨_, rfl, h⟩
theorem op_repT1 {X : Cx} : OpR X (binaryOp .Mult) (fun x y H Q => ∃ l xs, x = .ref l ∧ y = .int 1 ∧ SqT X.K H l xs ∧ Q (.ref l) H) := by
  intro pins s σ H x y v u Q I rx ry h
  obtain ⟨l, xs, rfl, rfl, hT, q⟩ := h
  cases rx
  obtain ⟨t, rfl⟩ := ry
  obtain ⟨its, r, ⟨⟨cls, dd, data, sl⟩, ho, hc, n, hd⟩, hs⟩ := I.tuple hT
  simp only at hc hd
  subst hc hd
  refine wpAny_binaryOp_repeat_ref (T := "tuple") (U := "int") (by decide) ⟨_, ho, rfl⟩ (fun s' => typeIs_int s' 1 t) noFill_tuple_mul F.fills_int_mul F.slot_int_rmul repeat_tuple F.slot_int_index.lookup
    (call_meets F.slot_int_rmul (typeIs_int s 1 t) F.entry_int_rmul (F.args_int_rmul_2 _ _) (int_rmul_tuple 1 t l its.toArray n dd sl) ⟨ho, rfl, ⟨_, ho, rfl⟩, call_meets F.slot_tuple_mul ⟨_, ho, rfl⟩ F.entry_tuple_mul (F.args_tuple_mul_2 _ _) (tuple_mul1 l its.toArray n dd sl t) ⟨ho, ?_⟩⟩)
  exact ⟨.ref l, H, I, rfl, q⟩
section
variable {X : Cx} {σ : L2.St} {H : Hp} {Q : VK} {pos : Pos} {a b : Expr}
/-- (g,) * n -/
theorem rep_t (q : wE X a σ H fun v H1 => wE X b σ H1 fun u H2 => ∃ (g n : Nat), Dt H2 v (.tuple [.int (g : Int)]) ∧ u = .int (n : Int) ∧ 1 ≤ n ∧ n ≤ 1000 ∧ ∀ y H3, Sm H2 H3 → Dt H3 y (eNs (List.replicate n g)) → Q y H3) : wE X (.BinOp a .Mult b pos) σ H Q := by
  intro pins s I
  have q1 := wE_mono q (Q' := fun v H1 => wE X b σ H1 fun u H2 => (∃ l xs, v = .ref l ∧ u = .int 1 ∧ SqT X.K H2 l xs ∧ Q (.ref l) H2) ∨ rRepT X.K v u H2 Q) fun v H1 q1 => wE_mono q1 fun u H2 q2 => ?_
  · refine (wE_op (X := X) (a := a) (b := b) (pos := pos) (r := fun x y H Q => (∃ l xs, x = .ref l ∧ y = .int 1 ∧ SqT X.K H l xs ∧ Q (.ref l) H) ∨ rRepT X.K x y H Q) ?_ q1) pins s I
    intro pins s σ H x y v u Q I rx ry h
    rcases h with h | h
    · exact op_repT1 pins s σ H x y v u Q I rx ry h
    · exact op_repT pins s σ H x y v u Q I rx ry h
  · obtain ⟨g, n, d, rfl, h1, h2, qf⟩ := q2
    obtain ⟨l, xs, rfl, hl, hx⟩ := d.tup_inv
    have ex := hx.ints_inv (ns := [(g : Int)])
    subst ex
    by_cases e : n = 1
    · subst e
      exact .inl ⟨l, _, rfl, rfl, .inl (.inl hl), qf _ _ (fun _ _ z => z) d⟩
    · refine .inr ⟨l, (n : Int), _, rfl, rfl, .inl (.inl hl), by simp, by omega, by omega, by simp, fun p np => ?_⟩
      have e2 : (List.replicate ((n : Int)).toNat ([(g : Int)].map V.int)).flatten = vN (List.replicate n g) := by
        rw [Int.toNat_natCast]
        clear q q1 d qf h1 h2 e np I
        induction n with
        | zero => rfl
        | succ n ih =>
          rw [List.replicate_succ, List.flatten_cons, ih, List.replicate_succ]
          rfl
      rw [e2]
      exact qf _ _ (same_new np) (.new np vN_dt)
end
/-! ### what repr shows is short -/
theorem shortN {l : List Nat} (h : l.length ≤ 6) (hb : ∀ x ∈ l, x < 6) : PyData.intsShortAll 13 (l.map eN) = true ∧ PyData.weightAll (l.map eN) ≤ 4 * l.length ∧ PyData.showableAll (l.map eN) = true := by
  clear h
  induction l with
  | nil => exact ⟨rfl, Nat.le_refl _, rfl⟩
  | cons a l ih =>
    obtain ⟨i1, i2, i3⟩ := ih fun x hx => hb x (List.mem_cons_of_mem _ hx)
    have ha := hb a List.mem_cons_self
    have h1 : PyData.intsShort 13 (eN a) = true := by
      unfold eN
      rw [PyData.intsShort]
      exact decide_eq_true (PyData.shown_int_le2 (by omega) (by omega))
    have h2 : PyData.weight (eN a) ≤ 3 ∧ PyData.showable (eN a) = true := by
      have : a = 0 ∨ a = 1 ∨ a = 2 ∨ a = 3 ∨ a = 4 ∨ a = 5 := by omega
      rcases this with rfl | rfl | rfl | rfl | rfl | rfl <;> exact ⟨by decide, by decide⟩
    refine ⟨?_, ?_, ?_⟩
    · rw [List.map_cons, PyData.intsShortAll, h1, i1]
      rfl
    · rw [List.map_cons, PyData.weightAll, List.length_cons]
      omega
    · rw [List.map_cons, PyData.showableAll, h2.2, i3]
      rfl
theorem short2 {l m : List Nat} (h1 : l.length ≤ 6) (b1 : ∀ x ∈ l, x < 6) (h2 : m.length ≤ 6) (b2 : ∀ x ∈ m, x < 6) : (PyData.list [eNs l, eNs m]).showable = true ∧ (PyData.list [eNs l, eNs m]).hasDict = false ∧ (PyData.list [eNs l, eNs m]).depth ≤ 60 ∧ (PyData.list [eNs l, eNs m]).shown.length ≤ 15728653 := by
  obtain ⟨i1, i2, i3⟩ := shortN h1 b1
  obtain ⟨j1, j2, j3⟩ := shortN h2 b2
  have fl : Fl 3 (.list [eNs l, eNs m]) := fl_list fun d hd => by
    rcases List.mem_cons.mp hd with rfl | hd
    · exact fl_ns
    · rw [List.mem_singleton.mp hd]
      exact fl_ns
  refine ⟨?_, PyData.hasDict_of_canLay _ fl.1, Nat.le_trans fl.2 (by decide), shown_le13 ?_ ?_⟩
  · rw [PyData.showable, PyData.showableAll, PyData.showableAll, PyData.showableAll]
    show (PyData.showableAll (l.map eN) && (PyData.showableAll (m.map eN) && true)) = true
    rw [i3, j3]
    rfl
  · show (PyData.canLay0 _ && decide (PyData.depth _ ≤ 64) && decide (PyData.weight _ ≤ 2 ^ 20)) = true
    have hw : PyData.weight (.list [eNs l, eNs m]) ≤ 2 ^ 20 := by
      show PyData.weightAll (l.map eN) + 1 + (PyData.weightAll (m.map eN) + 1 + 0) ≤ _
      omega
    rw [fl.1, decide_eq_true (Nat.le_trans fl.2 (by decide)), decide_eq_true hw]
    rfl
  · show (PyData.intsShortAll 13 (l.map eN) && (PyData.intsShortAll 13 (m.map eN) && true)) = true
    rw [i1, j1]
    rfl
end Lw
namespace Lw
open PySem PySem.Spec PyProof.Rows L2 NdefX LamX
section
variable {X : Cx} {σ : L2.St} {H : Hp} {Q : VK} {QT : Bool → Hp → Prop} {pos : Pos} {a b : Expr}
theorem tnin_t (q : wE X a σ H fun v H1 => wE X b σ H1 fun u H2 => ∃ (ns : List Int) (i : Int), v = .int i ∧ Dt H2 u (.tuple (ns.map PyData.int)) ∧ QT (!decide (i ∈ ns)) H2) (hm : behindInMarks CmpOp.NotIn b = false := by rfl) : wT X (.Compare a [.NotIn] [b] pos) σ H QT := by
  refine wT_cmp op_notIn_seq hm (wE_mono q fun v H1 q1 => wE_mono q1 fun u H2 q2 => ?_)
  obtain ⟨ns, i, rfl, d, qf⟩ := q2
  obtain ⟨t, xs, rfl, h1, h2⟩ := d.tup_inv
  have e := h2.ints_inv
  subst e
  refine ⟨t, _, rfl, .inr (.inl (.inl h1)), rfl, flat_ints ns, _, rfl, ?_⟩
  show QT (!inV _ _) H2
  rw [inV_ints]
  exact qf
theorem lst2 (q : wE X a σ H fun v H1 => wE X b σ H1 fun u H2 => ∀ l, H2 l = none → Q (.ref l) (upd H2 l (.lst [v, u]))) (h1 : starEach [a, b] X.env = (false, eval a X.env) :: starEach [b] X.env := by rfl) (h2 : starEach [b] X.env = (false, eval b X.env) :: starEach [] X.env := by rfl) : wE X (.List [a, b] pos) σ H Q :=
  wE_of (pe_lst (pa_cons wE_pe (pa_cons wE_pe pa_nil h2) h1)) (wE_mono q fun v H1 q => wE_mono q fun u H2 q => ⟨by show 2 ≤ sizeLine; decide, q⟩)
end
/-- the memo of one order -/
abbrev Prm.w (O : Prm) (ow : Addr → Option (Nat × Steps)) : Prm := { O with ow := ow }
abbrev ow0 : Addr → Option (Nat × Steps) := fun _ => none
open Classical in
noncomputable abbrev ow1 (d : Addr) (n : Nat) (ss : Steps) : Addr → Option (Nat × Steps) := fun a => if a = d then some (n, ss) else none
theorem Ex.w0 {O : Prm} {ow : Addr → Option (Nat × Steps)} {A : Addr → Prop} {H H' : Hp} (a : Ex (O.w ow) A H H') : Ex (O.w ow0) A H H' :=
  ⟨a.im, a.cel, (fun v n ss h => by obtain ⟨_, _, _, _, _, _, _, _, _, h4, _⟩ := h; cases h4.2), a.dom, a.tab⟩
theorem kept_none {F : Nat → PyData → Option PyData} {ds : List PyData} (h : ∀ n d, ds[n]? = some d → F n d = none) : ∀ n, n ≤ ds.length → kept F ds n = []
  | 0, _ => by simp [kept]
  | n + 1, hn => by
    have e : ds[n]? = some ds[n] := List.getElem?_eq_getElem (by omega)
    rw [kept_succ e, kept_none h n (by omega), h n _ e]
    rfl
section
variable {P : Program} {w : World} {K : PySem.W.Frag} {mg : Str → Option Value} {base : Heap} {O : Prm}
open Classical
/-- what the law's reckoning calls -/
structure DR (P : Program) (w : World) (K : PySem.W.Frag) (mg : Str → Option Value) (base : Heap) (O : Prm) : Prop where
  take : Df P w K mg base 1 "_law_take" (sp_take O)
  of_ : Df P w K mg base 2 "_law_of" (sp_of O)
  behind : Df P w K mg base 1 "_law_behind" (sp_lbehind O)
  left : Df P w K mg base 1 "_law_left" (sp_left O)
  made : Df P w K mg base 10 "_law_made" (sp_made O)
  moves : Df P w K mg base 2 "_law_moves" (sp_lmoves O)
  isMove : Df P w K mg base 6 "is_move" (sp_move O (.bl true))
  still : Df P w K mg base 8 "left_still" (sp_fixed O Mv)
  done : Df P w K mg base 8 "done" (sp_done O)
  doneK : DfK P w K mg base 8 "done" ["times", "move", "order"] (sp_done O)
  restless : Df P w K mg base 9 "count_restless" (sp_count O fun n ss => (rst n ss).length)
  count : Df P w K mg base 9 "count_moves" (sp_count O fun n ss => (mv n ss n).length)
abbrev s_right : Stmt := topS 66
abbrev n_right : List Str := ["well", "order", "made", "rows", "one", "two", "times", "row", "both", "due", "turn", "place", "calm"]
theorem sc_right : FnScope n_right ["well", "order"] (defScope s_right) := ⟨rfl, rfl, rfl, by decide +kernel, rfl, by decide +kernel, by decide +kernel⟩
def sp_right (O : Prm) : Spn := fun vs H Q => ∃ (p : Addr) (v : V) (n : Nat) (ss : Steps), vs = [.ref p, v] ∧ WellAt H p ∧ Dt H v (eOrd n ss) ∧ Vo n ss ∧ Tabs O.T H ∧ ∀ H', Ex (O.w ow0) (· = p) H H' → Q (.bl true) H'
theorem fix_le {l : List Nat} {n : Nat} (h : l.length = n) (hn : n ≤ 6) : (fixd l).length ≤ 6 := by
  have := List.length_filter_le (fun i => decide (l.getD i 0 = i)) (List.range l.length)
  unfold fixd
  rw [List.length_range] at this
  omega
theorem fng_right {f : Addr} {fd : FuncData} (B : Bi mg) (D : ∀ ow, DR P w K mg base (O.w ow)) (F : Fun K "_law_right" "_law_right" s_right f fd) : FnG P w K mg base 11 f fd ["well", "order"] (sp_right O) := by
  refine fng_w F sc_right (fun vs H Q h => ?_) fun cdv A outer s H vs Q hr hg h => ?_
  · obtain ⟨p, v, n, ss, rfl, _⟩ := h
    rfl
  · obtain ⟨p, v, n, ss, rfl, hw, dv, vo, tT, q⟩ := h
    have hn := vo.hi
    have hn1 := vo.lo
    refine wS_cons (w1_set2 2 3 sc_right.nd (call1 (D ow0).made hr (nm 1 ⟨v, n, ss, rfl, dv, vo, tT, fun H1 y d nd m1 on => ?_⟩)))
    refine call1 (D (ow1 d n ss)).moves hr (nm 1 ⟨v, n, ss, rfl, dv.mono m1.im, vo, fun H2 l us nl m2 hl dl t nt => ?_⟩)
    have o2 : OrdAt (O.w (ow1 d n ss)) H2 y n ss := m2.ord _ _ _ (OrdNew.to (O := O.w (ow1 d n ss)) on (if_pos rfl))
    have m3 : Ex (O.w ow0) (· = p) H (upd H2 t (.tup [y, .ref l])) := (m1.trans (m2.w0.trans (.new nt))).mono fun _ z => z.elim
    have w3 : WellAt (upd H2 t (.tup [y, .ref l])) p := ((hw.mono m1).mono m2).sm (same_new nt)
    have o3 := o2.same (same_new (o := .tup [y, .ref l]) nt)
    have hl3 := same_new (o := .tup [y, .ref l]) nt _ _ hl
    have dl3 : DtA (upd H2 t (.tup [y, .ref l])) us ((mv n ss n).map eNs) := dl.mono (.new nt)
    have dv3 : Dt (upd H2 t (.tup [y, .ref l])) v (eOrd n ss) := ((dv.mono m1.im).mono m2.im).mono (.new nt)
    have lp : l ≠ p := fun z => by obtain ⟨a, b, c, h⟩ := hw.mono m1; rw [z, h] at nl; cases nl
    show wS _ _ _ _ (upd H2 t (.tup [y, .ref l]))
    generalize (upd H2 t (.tup [y, .ref l])) = H3 at m3 w3 o3 hl3 dl3 dv3
    clear o2 hl dl nt m2 nl on m1 nd
    have D1 := D (ow1 d n ss)
    generalize hO : O.w (ow1 d n ss) = O1 at D1 o3
    have tow : ∀ {A H H'}, Ex O1 A H H' → Ex (O.w ow0) A H H' := fun {A H H'} m => by subst hO; exact m.w0
    have hsm := mv_small (ss := ss) hn (Nat.le_refl n)
    have hne := mv_ne vo
    -- one, two, times
    refine wS_cons (w1_set3 4 5 6 sc_right.nd (call2 D1.of_ hr (nm 0 (nm 3 ⟨p, .ref l, _, rfl, w3, .of hl3 dl3 lp, by rw [List.length_map]; exact hne, by rw [List.length_map]; omega, fun H4 yo d1 m4 w4 hm1 dy1 => ?_⟩))))
    obtain ⟨one, hone, rfl⟩ := List.mem_map.mp hm1
    have hl4 := m4.cel _ _ hl3 lp
    refine call2 D1.of_ hr (nm 0 (nm 3 ⟨p, .ref l, _, rfl, w4, .of hl4 (dl3.mono m4.im) lp, by rw [List.length_map]; exact hne, by rw [List.length_map]; omega, fun H5 yt d2 m5 w5 hm2 dy2 => ?_⟩))
    obtain ⟨two, htwo, rfl⟩ := List.mem_map.mp hm2
    refine call2 D1.take hr (nm 0 (wE_int ⟨p, 9, rfl, w5, by decide, by decide, fun H6 tm m6 w6 htm t nt => ?_⟩))
    have mo := (mem_mv vo).mp hone
    have mt := (mem_mv vo).mp htwo
    have mb := mo.beh vo mt
    have m7 : Ex O1 (· = p) H3 (upd H6 t (.tup [yo, yt, .int (tm : Int)])) := ((m4.trans m5).trans m6).trans (.new nt)
    have dy17 : Dt (upd H6 t (.tup [yo, yt, .int (tm : Int)])) yo (eNs one) := ((dy1.mono m5.im).mono m6.im).mono (.new nt)
    have dy27 : Dt (upd H6 t (.tup [yo, yt, .int (tm : Int)])) yt (eNs two) := (dy2.mono m6.im).mono (.new nt)
    show wS _ _ _ _ (upd H6 t (.tup [yo, yt, .int (tm : Int)]))
    generalize (upd H6 t (.tup [yo, yt, .int (tm : Int)])) = H7 at m7 dy17 dy27
    have hl7 := m7.cel _ _ hl3 lp
    have dl7 := dl3.mono m7.im
    have o7 := m7.ord _ _ _ o3
    have dv7 := dv3.mono m7.im
    have g7 : Ex (O.w ow0) (· = p) H H7 := m3.trans (tow m7)
    clear m7 m4 m5 m6 w4 w5 w6 hl4 hl3 dl3 o3 dv3 m3 w3 nt dy1 dy2 hm1 hm2 H4 H5 H6 H3 H2 H1
    -- row
    refine wS_cons (w1_set 7 sc_right.nd rfl (.inr rfl) rfl (.inl rfl) (call2 D1.behind hr (nm 4 (nm 5 ⟨yo, yt, one, two, rfl, dy17, dy27, by rw [mt.len]; omega, fun x hx => by rw [mo.len]; exact mt.bd x hx, fun H8 yr m8 dr8 => ?_⟩))))
    have Lst : ∀ {Hz : Hp}, Ex O1 nA H7 Hz → Ls Hz (.ref l) ((mv n ss n).map eNs) := fun m => (Ls.of hl7 dl7).mono m
    have ask : ∀ {Hz : Hp} {c : Nat → Steps → List Nat → Prop} {yv : V} {ll : List Nat}, Ex O1 nA H7 Hz → OrdAt O1 Hz y n ss := fun m => m.ord _ _ _ o7
    -- if is_move(made, row) is not True or row not in rows
    refine wS_cons (w1_if (or2 (tnotBl (call2 D1.isMove hr (nm 2 (nm 7 ⟨y, yr, _, n, ss, rfl, m8.ord _ _ _ o7, vo, dr8, mb, fun H9 m9 => wE_bl ⟨true, true, rfl, rfl, ?_⟩⟩))))))
    rw [decide_eq_true rfl]
    refine iteF (tnin_d hr (nm 7 (nm 3 ⟨_, _, 2, 3, (dr8.mono m9.im).dp, (Lst (m8.trans m9)).dp, fl_ns, fl_list (fun z hz => by obtain ⟨_, _, rfl⟩ := List.mem_map.mp hz; exact fl_ns), by decide, by decide, ?_⟩)))
    have e1 : ((mv n ss n).map eNs).any (fun z => PyData.eqv z (eNs (beh one two))) = true := by
      rw [List.any_eq_true]
      refine ⟨_, List.mem_map.mpr ⟨_, (mem_mv vo).mpr mb, rfl⟩, ?_⟩
      rw [eqv_ns, decide_eq_true rfl]
    rw [e1]
    refine iteF (wS_nil ?_)
    have g9 := m8.trans m9
    have dr9 := dr8.mono m9.im
    clear e1 m9 m8 dr8
    -- both
    refine wS_cons (w1_setLcN (O := O1) (i := 11) (x := "place") 8 rfl sc_right.nd rfl rfl rfl (by intro _; rfl) (blkOk_by (N := n_right) (sc := defScope s_right) (by decide +kernel)) (fun _ _ _ _ _ => pg_name sc_right.nd rfl (Or.inl rfl))
      (src_tup (call2 D1.still hr (nm 2 (nm 4 ⟨y, yo, one, n, ss, rfl, g9.ord _ _ _ o7, vo, dy17.mono g9.im, mo, fun H1 z m1 dz => ⟨m1, dz⟩⟩)))) (by rw [List.length_map]; have h2 := fix_le mo.len hn; omega) (fun k _ => if decide ((fixd one).getD k 0 ∈ fixd two) = true then some (eN ((fixd one).getD k 0)) else none) (fun k d' v' Ha e1 ex dv => ?_) fun lb H10 ub nb m10 hb db => ?_)
    · obtain ⟨rfl, hk⟩ := natAt e1
      generalize (fixd one).getD k 0 = g at hk dv ⊢
      rw [dv.int_inv]
      refine turn_one (k := decide (g ∈ fixd two)) (fun s H0 C cl2 fp => ?_) (fun z => by rw [z]; rfl) fun z H5 m5 s H0 C cl2 fp => ?_
      · refine tin_t (nm 11 (call2 D1.still hr (nm 2 (nm 5 ⟨y, yt, two, n, ss, rfl, (g9.trans ex).ord _ _ _ o7, vo, dy27.mono (g9.trans ex).im, mt, fun H6 w' m6 dw => ?_⟩))))
        rw [eNs_map] at dw
        refine ⟨_, _, rfl, dw, decide_eq_decide.mpr mem_cast, m6⟩
      · refine nm 11 ⟨m5, _, ?_, .int _⟩
        rw [if_pos z]
        rfl
    rw [kept_fil' (f := eN) (c := fun g => decide (g ∈ fixd two)) fun i a e => by rw [getD_of e]] at db
    have g10 := g9.trans m10
    -- if [..] != []
    refine wS_cons (w1_if (tne_d hr ?_))
    refine wE_lcN (O := O1) (i := 11) (x := "place") rfl sc_right.nd (by intro _; rfl) (blkOk_by (N := n_right) (sc := defScope s_right) (by decide +kernel)) (fun _ _ _ _ _ => pg_name sc_right.nd rfl (Or.inl rfl))
      (src_list (nm 8 ⟨.refl _, .of hb db⟩)) (by rw [List.length_map]; have h1 := List.length_filter_le (fun g => decide (g ∈ fixd two)) (fixd one); have h2 := fix_le mo.len hn; omega) (fun _ _ => none) (fun k d' v' Ha e1 ex dv => ?_) fun lc H11 uc nc m11 hc dc => ?_
    · obtain ⟨rfl, hk⟩ := natAt e1
      generalize ((fixd one).filter fun g => decide (g ∈ fixd two)).getD k 0 = g at hk dv ⊢
      rw [dv.int_inv]
      obtain ⟨k1, k2⟩ := List.mem_filter.mp hk
      have k3 := fix_beh mo mt k1 (of_decide_eq_true k2)
      refine turn_one (k := false) (fun s H0 C cl2 fp => ?_) (fun _ => rfl) fun z => by cases z
      refine tnin_t (nm 11 (call2 D1.still hr (nm 2 (nm 7 ⟨y, yr, _, n, ss, rfl, (g10.trans ex).ord _ _ _ o7, vo, dr9.mono (m10.trans ex).im, mb, fun H6 w' m6 dw => ?_⟩))))
      rw [eNs_map] at dw
      refine ⟨_, _, rfl, dw, ?_, m6⟩
      rw [decide_eq_true (mem_cast.mpr k3)]
      rfl
    rw [kept_none (fun _ _ _ => rfl) _ (Nat.le_refl _)] at dc
    refine lst0 fun l9 n9 => ⟨_, .list [], 2, 2, ((Ls.of hc dc).mono (O := O1) (.new n9)).dp, (Ls.of (ds := []) upd_same .nil).dp, fl_list (fun _ z => absurd z (by simp)), fl_list (fun _ z => absurd z (by simp)), by decide, by decide, ?_⟩
    rw [eqv_nil, decide_eq_true rfl]
    refine iteF (wS_nil ?_)
    have g12 : Ex O1 nA H7 (upd H11 l9 (.lst [])) := (g10.trans m11).trans (.new n9)
    generalize (upd H11 l9 (.lst [])) = H12 at g12
    clear dc hc db hb g10 g9 dr9 m11 n9
    -- due
    refine wS_cons (w1_set 9 sc_right.nd rfl (.inr rfl) rfl (.inl rfl) (tuple_rg rfl B.tuple B.range (ix_t (nm 1 (wE_int ⟨_, _, _, dv7.mono g12.im, rfl, atI_nat' (i := 0) rfl, fun z dz => ⟨n, dz.int_inv, by omega, fun yd H13 s13 dd => ?_⟩⟩)))))
    have g13 : Ex O1 nA H7 H13 := g12.trans (.same s13)
    refine wS_cons (w1_for (O := O1) (A := nA) (ds := eRg tm) .never rfl (by intro _; rfl) (src_range (by rfl) B.range (by rfl) (nm 6 ⟨.refl _, rfl⟩) (by omega)) fun H14 m14 => ?_)
    have g14 := g13.trans m14
    refine ⟨fun i σ' H' => ∃ y10 yd, σ' = [some (.ref p), some v, some y, some (.ref l), some yo, some yt, some (.int (tm : Int)), some yr, some (.ref lb), some yd, y10, none, none] ∧ Ex O1 nA H14 H' ∧ i ≤ tm ∧ Dt H' yd (eNs (dn n one i)),
      ⟨none, yd, rfl, .refl _, Nat.zero_le _, dd.mono m14.im⟩, fun i σ' H' q => ?_, fun i σ' H' Hb q sm => ?_, fun i d' x σ' H' e1 q dx => ?_, fun σ' H' qq => ?_⟩
    · obtain ⟨_, _, _, m, _⟩ := q
      exact m
    · obtain ⟨y10, yd, e, m, hi, dd⟩ := q
      exact ⟨y10, yd, e, m.trans (.same sm), hi, dd.mono (.same sm)⟩
    · obtain ⟨y10, yd, rfl, m, hi, dd⟩ := q
      have hi2 : i < tm := by
        have := (List.getElem?_eq_some_iff.mp e1).1
        rwa [eRg_len] at this
      have md := mo.dn vo i
      refine wG_name 10 sc_right.nd rfl (.inl rfl) (.inl rfl) ?_
      refine wS_one (w1_set 9 sc_right.nd rfl (.inr rfl) rfl (.inl rfl) (call2 D1.behind hr (nm 4 (nm 9 ⟨yo, yd, one, _, rfl, dy17.mono (g14.trans m).im, dd, by rw [md.len]; omega, fun x hx => by rw [mo.len]; exact md.bd x hx, fun H15 y4 m15 d4 => ?_⟩))))
      exact ⟨_, y4, rfl, m.trans m15, hi2, d4⟩
    · obtain ⟨y10, yd2, rfl, m15, hi, dd2⟩ := qq
      rw [eRg_len] at dd2
      have g15 := g14.trans m15
      have md := mo.dn vo tm
      clear dd m15 m14 s13 g13 g14 g12 m10
      -- the repr
      refine wS_cons (w1_if (tne_str (repr_d hr hg B.repr ?_)))
      have ds1 := short2 (l := dn n one tm) (m := dn n one tm) (by rw [md.len]; exact hn) (fun x hx => by have := md.bd x hx; omega) (by rw [md.len]; exact hn) (fun x hx => by have := md.bd x hx; omega)
      refine lst2 (call3 D1.done hr (nm 2 (nm 4 (nm 6 ⟨y, yo, one, tm, n, ss, rfl, g15.ord _ _ _ o7, vo, dy17.mono g15.im, mo, by omega, fun H16 z1 m16 dz1 => ?_⟩))))
      refine callK3 D1.doneK hr (nm 6 (nm 4 (nm 2 ⟨y, yo, one, tm, n, ss, rfl, (g15.trans m16).ord _ _ _ o7, vo, dy17.mono (g15.trans m16).im, mo, by omega, fun H17 z2 m17 dz2 l17 n17 => ?_⟩)))
      refine ⟨l17, _, rfl, .lst (.inl (.inl upd_same)) (.cons ((dz1.mono m17.im).mono (.new n17)).dp (.cons (dz2.mono (.new n17)).dp .nil)), ds1.1, ds1.2.1, ds1.2.2.1, ds1.2.2.2, ?_⟩
      have g17 : Ex O1 nA H7 (upd H17 l17 (.lst [z1, z2])) := ((g15.trans m16).trans m17).trans (.new n17)
      have dd3 : Dt (upd H17 l17 (.lst [z1, z2])) yd2 (eNs (dn n one tm)) := ((dd2.mono m16.im).mono m17.im).mono (.new n17)
      generalize (upd H17 l17 (.lst [z1, z2])) = H18 at g17 dd3
      refine repr_d hr hg B.repr (lst2 (nm 9 (nm 9 fun l18 n18 => ⟨l18, _, rfl, .lst (.inl (.inl upd_same)) (.cons (dd3.mono (.new n18)).dp (.cons (dd3.mono (.new n18)).dp .nil)), ds1.1, ds1.2.1, ds1.2.2.1, ds1.2.2.2, _, rfl, rfl, ?_⟩)))
      refine iteF (wS_nil ?_)
      have g18 : Ex O1 nA H7 (upd H18 l18 (.lst [yd2, yd2])) := g17.trans (.new n18)
      have dd4 := dd3.mono (Im.new (o := .lst [yd2, yd2]) n18)
      generalize (upd H18 l18 (.lst [yd2, yd2])) = H19 at g18 dd4
      clear dd3 g17 n18 n17 dz1 dz2 m16 m17 dd2 g15 ds1
      -- what one leaves still due leaves still
      refine wS_cons (w1_if (tne_d hr ?_))
      refine wE_lcN (O := O1) (i := 11) (x := "place") rfl sc_right.nd (by intro _; rfl) (blkOk_by (N := n_right) (sc := defScope s_right) (by decide +kernel)) (fun _ _ _ _ _ => pg_name sc_right.nd rfl (Or.inl rfl))
        (src_tup (call1 D1.left hr (nm 4 ⟨yo, one, rfl, dy17.mono g18.im, by rw [mo.len]; omega, fun H1 z m1 dz => ⟨m1, dz⟩⟩))) (by rw [List.length_map]; have h2 := fix_le mo.len hn; omega) (fun _ _ => none) (fun k d' v' Ha e1 ex dv => ?_) fun lc H20 uc nc m20 hc dc => ?_
      · obtain ⟨rfl, hk⟩ := natAt e1
        generalize (fixd one).getD k 0 = g at hk dv ⊢
        rw [dv.int_inv]
        have k3 := fix_dn vo mo hk tm
        refine turn_one (k := false) (fun s H0 C cl2 fp => ?_) (fun _ => rfl) fun z => by cases z
        refine tnin_t (nm 11 (call2 D1.still hr (nm 2 (nm 9 ⟨y, yd2, _, n, ss, rfl, (g18.trans ex).ord _ _ _ o7, vo, dd4.mono ex.im, md, fun H6 w' m6 dw => ?_⟩))))
        rw [eNs_map] at dw
        refine ⟨_, _, rfl, dw, ?_, m6⟩
        rw [decide_eq_true (mem_cast.mpr k3)]
        rfl
      rw [kept_none (fun _ _ _ => rfl) _ (Nat.le_refl _)] at dc
      refine lst0 fun l9 n9 => ⟨_, .list [], 2, 2, ((Ls.of hc dc).mono (O := O1) (.new n9)).dp, (Ls.of (ds := []) upd_same .nil).dp, fl_list (fun _ z => absurd z (by simp)), fl_list (fun _ z => absurd z (by simp)), by decide, by decide, ?_⟩
      rw [eqv_nil, decide_eq_true rfl]
      refine iteF (wS_nil ?_)
      have g21 : Ex O1 nA H7 (upd H20 l9 (.lst [])) := (g18.trans m20).trans (.new n9)
      generalize (upd H20 l9 (.lst [])) = H21 at g21
      clear dc hc n9 m20 g18 dd4
      -- constants are moves
      refine wS_cons (w1_for (O := O1) (A := nA) (ds := eRg n) .never rfl (by intro _; rfl) (src_range (by rfl) B.range (by rfl) (ix_t (nm 1 (wE_int ⟨_, _, _, dv7.mono g21.im, rfl, atI_nat' (i := 0) rfl, fun z dz => ⟨.refl _, dz.int_inv⟩⟩))) (by omega)) fun H22 m22 => ?_)
      have g22 := g21.trans m22
      refine ⟨fun i σ' H' => ∃ y11, σ' = [some (.ref p), some v, some y, some (.ref l), some yo, some yt, some (.int (tm : Int)), some yr, some (.ref lb), some yd2, y10, y11, none] ∧ Ex O1 nA H22 H',
        ⟨none, rfl, .refl _⟩, fun i σ' H' q => ?_, fun i σ' H' Hb q sm => ?_, fun i d' x σ' H' e1 q dx => ?_, fun σ' H' qq => ?_⟩
      · obtain ⟨_, _, m⟩ := q
        exact m
      · obtain ⟨y11, e, m⟩ := q
        exact ⟨y11, e, m.trans (.same sm)⟩
      · obtain ⟨y11, rfl, m⟩ := q
        have hi2 : i < n := by
          have := (List.getElem?_eq_some_iff.mp e1).1
          rwa [eRg_len] at this
        rw [eRg_get hi2] at e1
        cases e1
        rw [dx.int_inv]
        have g23 := g22.trans m
        refine wG_name 11 sc_right.nd rfl (.inl rfl) (.inl rfl) ?_
        refine wS_one (w1_if (tnotBl (call2 D1.isMove hr (nm 2 (rep_t (tupd1 (nm 11 ⟨.int (i : Int), .int _, fun u H24 s24 du => ?_⟩)))))))
        refine ix_t (nm 1 (wE_int ⟨_, _, _, (dv7.mono g23.im).mono (.same s24), rfl, atI_nat' (i := 0) rfl, fun z dz => ⟨i, n, du, dz.int_inv, hn1, by omega, fun w2 H25 s25 dw => ?_⟩⟩))
        have g25 := (g23.trans (.same s24)).trans (.same s25)
        refine ⟨y, w2, _, n, ss, rfl, g25.ord _ _ _ o7, vo, dw, .const vo hi2, fun H26 m26 => wE_bl ⟨true, true, rfl, rfl, ?_⟩⟩
        rw [decide_eq_true rfl]
        exact iteF (wS_nil ⟨_, rfl, ((m.trans (.same s24)).trans (.same s25)).trans m26⟩)
      · obtain ⟨y11, rfl, m⟩ := qq
        have g23 := g22.trans m
        clear m m22 g22 g21
        -- calm
        refine wS_cons (w1_setLcN (O := O1) (i := 7) (x := "row") 12 rfl sc_right.nd rfl rfl rfl (by intro _; rfl) (blkOk_by (N := n_right) (sc := defScope s_right) (by decide +kernel)) (fun _ _ _ _ _ => pg_name sc_right.nd rfl (Or.inl rfl))
          (src_list (nm 3 ⟨.refl _, .of (g23.cel _ _ hl7 fun z => z) (dl7.mono g23.im)⟩)) (by rw [List.length_map]; omega) (fun k _ => if (!decide (fixd ((mv n ss n).getD k []) = [])) = true then some (eNs ((mv n ss n).getD k [])) else none) (fun k d' v' Ha e1 ex dv => ?_) fun lk H27 uk nk m27 hk dk => ?_)
        · obtain ⟨rfl, hm⟩ := mvAt e1
          generalize (mv n ss n).getD k [] = row at hm dv ⊢
          obtain ⟨h1, h2⟩ := mv_row hm
          refine turn_one (k := !decide (fixd row = [])) (fun s H0 C cl2 fp => ?_) (fun z => by rw [z]; rfl) fun z H5 m5 s H0 C cl2 fp => ?_
          · refine tne_d hr (call1 D1.left hr (nm 7 ⟨v', row, rfl, dv, by omega, fun H6 w' m6 dw => tup0 fun l n9 => ⟨_, _, 2, 2, (dw.mono (.new n9)).dp, (Dt.new n9 .nil).dp, fl_ns, fl_tuple (fun _ z => absurd z (by simp)), by decide, by decide, ?_⟩⟩))
            exact ⟨congrArg (!·) (eqv_ns (m := [])), m6.trans (.new n9)⟩
          · refine nm 7 ⟨m5, _, ?_, dv.mono m5.im⟩
            rw [if_pos z]
        rw [kept_fil' (f := eNs) (c := fun m => !decide (fixd m = [])) fun i a e => by rw [rowsGet e]] at dk
        have g27 := g23.trans m27
        -- the counts
        refine wS_one (w1_ret (wE_chain op_eq op_eq rfl ?_))
        refine add_int' (call1 D1.restless hr (nm 2 ⟨y, n, ss, rfl, g27.ord _ _ _ o7, vo, fun H28 m28 => len_ls B.len (nm 12 ⟨_, (Ls.of hk dk).mono m28, _, _, rfl, rfl, ?_⟩)⟩))
        rw [List.length_map]
        have g28 := g27.trans m28
        refine call1 D1.count hr (nm 2 ⟨y, n, ss, rfl, g28.ord _ _ _ o7, vo, fun H29 m29 => ⟨rfl, _, rfl, ?_⟩⟩)
        have e9 := count_rows (l := mv n ss n)
        have e10 : decide (V.int (((rst n ss).length : Int) + (((mv n ss n).filter fun m => !decide (fixd m = [])).length : Int)) = V.int ((mv n ss n).length : Int)) = true := by
          rw [dec_int]
          refine decide_eq_true ?_
          unfold rst
          omega
        rw [e10, if_pos rfl]
        refine len_ls B.len (nm 3 ⟨_, (Ls.of hl7 dl7).mono (g28.trans m29), ?_⟩)
        rw [List.length_map]
        refine ⟨rfl, ?_⟩
        rw [dec_int, decide_eq_true rfl]
        exact q _ (g7.trans (tow (g28.trans m29) |>.mono fun _ z => z.elim))
end
end Lw
namespace Lw
open PySem PySem.Spec PyProof.Rows L2 NdefX LamX
section
variable {P : Program} {w : World} {K : PySem.W.Frag} {mg : Str → Option Value} {base : Heap} {O : Prm}
theorem sql_mono {H H' : Hp} {a : Addr} {xs : List V} (m : Ex O nA H H') (h : SqL K H a xs) : SqL K H' a xs := by
  rcases h with (h | ⟨o, h⟩) | h
  · exact .inl (.inl (m.cel _ _ h fun z => z))
  · exact .inl (.inr ⟨o, m.im.2 _ _ _ h⟩)
  · exact .inr h
abbrev s_law : Stmt := topS 67
theorem sc_law : FnScope ["script", "lap", "well"] ["script"] (defScope s_law) := ⟨rfl, rfl, rfl, by decide +kernel, rfl, by decide +kernel, by decide +kernel⟩
def sp_law (O : Prm) : Spn := fun vs H Q => ∃ (a : Addr) (ns : List Int), vs = [.ref a] ∧ ScrAt O.K H a ns ∧ ns.length ≤ 1000000 ∧ Tabs O.T H ∧ ∀ H', Q (.bl true) H'
theorem fng_law {f : Addr} {fd : FuncData} (B : Bi mg) (D1 : Df P w K mg base 1 "_law_well" (sp_well (O.w ow0))) (D2 : Df P w K mg base 3 "_law_order" (sp_order (O.w ow0))) (D3 : DfG P w K mg base 11 "_law_right" (sp_right O)) (F : Fun K "law" "law" s_law f fd) : FnG P w K mg base 12 f fd ["script"] (sp_law O) := by
  refine fng_w F sc_law (fun vs H Q h => ?_) fun cdv A outer s H vs Q hr hg h => ?_
  · obtain ⟨a, ns, rfl, _⟩ := h
    rfl
  · obtain ⟨a, ns, rfl, hs, hl, tT, q⟩ := h
    refine wS_cons (w1_for (O := O.w ow0) (A := nA) (ds := eRg 3) .never rfl (by intro _; rfl) (src_range (n := 3) (by rfl) B.range (by rfl) (wE_int ⟨.refl _, rfl⟩) (by decide)) fun H2 m2 => ?_)
    refine ⟨fun i σ' H' => ∃ y1 y2, σ' = [some (.ref a), y1, y2] ∧ Ex (O.w ow0) nA H2 H', ⟨none, none, rfl, .refl _⟩, fun i σ' H' p => ?_, fun i σ' H' Hb p sm => ?_, fun i d' x σ' H' e1 p dx => ?_, fun σ' H' p => ?_⟩
    · obtain ⟨_, _, _, m⟩ := p
      exact m
    · obtain ⟨y1, y2, e, m⟩ := p
      exact ⟨y1, y2, e, m.trans (.same sm)⟩
    · obtain ⟨y1, y2, rfl, m⟩ := p
      have hi : i < 3 := by
        have := (List.getElem?_eq_some_iff.mp e1).1
        rwa [eRg_len] at this
      rw [eRg_get hi] at e1
      cases e1
      rw [dx.int_inv]
      have g3 := m2.trans m
      refine wG_name 1 sc_law.nd rfl (.inl rfl) (.inl rfl) ?_
      refine wS_cons (w1_set 2 sc_law.nd rfl (.inl rfl) rfl (.inl rfl) (call2 D1 hr (nm 0 (nm 1 ⟨a, ns, i, rfl, sql_mono g3 hs, by omega, hl, fun H4 p np m4 w4 => ?_⟩))))
      refine wS_one (w1_if (wT_not (wT_val (by intro _; rfl) (callG2 D3 hr hg (nm 2 (call2 D2 hr (nm 2 ?_)))))))
      refine ix_t (wE_of (pe_tup (pa_cons wE_pe (pa_cons wE_pe (pa_cons wE_pe pa_nil)))) (wE_int (wE_int (wE_int ⟨by show 3 ≤ sizeLine; decide, fun t nt => nm 1 ?_⟩))))
      have m5 : Ex (O.w ow0) nA H' (upd H4 t (.tup [.int 4, .int 5, .int 3])) := m4.trans (.new nt)
      have w5 : WellAt (upd H4 t (.tup [.int 4, .int 5, .int 3])) p := w4.sm (same_new nt)
      have d5 : Dt (upd H4 t (.tup [.int 4, .int 5, .int 3])) (.ref t) (.tuple [.int 4, .int 5, .int 3]) := .new nt (.cons (.int _) (.cons (.int _) (.cons (.int _) .nil)))
      generalize (upd H4 t (.tup [.int 4, .int 5, .int 3])) = H5 at m5 w5 d5
      obtain ⟨mo, e2, h1, h6⟩ : ∃ mo : Nat, [PyData.int 4, .int 5, .int 3][i]? = some (.int (mo : Int)) ∧ 1 ≤ mo ∧ mo ≤ 6 := by
        have : i = 0 ∨ i = 1 ∨ i = 2 := by omega
        rcases this with rfl | rfl | rfl
        · exact ⟨4, rfl, by decide, by decide⟩
        · exact ⟨5, rfl, by decide, by decide⟩
        · exact ⟨3, rfl, by decide, by decide⟩
      refine ⟨_, _, _, d5, rfl, atI_nat' e2, fun y dy => ?_⟩
      refine ⟨p, mo, by rw [dy.int_inv], w5, h1, h6, fun H6 yo n ss m6 w6 dyo vo _ => ⟨p, yo, n, ss, rfl, w6, dyo, vo, ?_, fun H7 m7 => ⟨true, rfl, ?_⟩⟩⟩
      · exact m6.tab ((g3.trans m5).tab tT)
      · exact iteF (wS_nil ⟨_, _, rfl, m.trans (m5.glue (m6.trans m7) fun z hz => .inl (hz ▸ np))⟩)
    · obtain ⟨y1, y2, rfl, m⟩ := p
      exact wS_one (w1_ret (wE_bl (q _)))
end
end Lw
/-! the end, for a law that asks repr: its def is called where no repr runs -/
namespace Lw
open PySem PySem.Spec PyProof.Rows L2 NdefX LamX
theorem law_callG {P : Program} {w : World} {K : PySem.W.Frag} {mg mb : Str → Option Value} {k : Nat} {fa a : Addr} {cs : List (Addr × Addr)} {fd : FuncData} {x : Str} {sp : Spn} {s₁ : Shared} {vs : List Value} {ns : List Int}
    (kX : K.In s₁.heap) (nG : s₁.heap.Ns mainGlobals mg) (hx : s₁.heap.Ns builtinsNs mb) (bb0 : ∀ x : Str, x ≠ "__name__" → mb x = bootBuiltins x) (lm : s₁.heap.NoLimit) (hg : s₁.gens = #[])
    (tE : ∀ px ∈ cs, s₁.heap.get? px.2 = some { cls := .none, data := .fields #[] }) (tO : ∀ px ∈ cs, K.lookup px.2 = none) (C : ∀ px ∈ cs, PySem.W.CodeHd s₁.heap px.1 px.2)
    (bM : ∃ (bm : Addr) (ob : Obj), mg "__builtins__" = some (.ref bm) ∧ bm ≠ builtinsNs ∧ s₁.heap.get? bm = some ob ∧ ob.cls = .type "module" ∧ ob.dict = some builtinsNs ∧ ob.data = .plain)
    (ha : s₁.heap.get? a = some { cls := .type "list", data := .seq vs.toArray }) (hi : IntsAre vs ns) (hl : ns.length ≤ sizeLine) (hr : Room k callerA)
    (F : ∀ base : Heap, K.In base → base.Ns mainGlobals mg → (∀ px ∈ cs, TabB base mg px.1 px.2) → FnG P w K mg base k fa fd [x] sp) (bnd : ∀ (s : Shared) (u : Value), BindsTo s fd ⟨[u], []⟩ [(x, u)])
    (pS : ∀ H : Hp, (∀ px ∈ cs, H px.2 = some (.tbl #[])) → SqL K H a (ns.map V.int) → sp [.ref a] H (fun v _ => v = .bl true)) :
    codeAny (model P w) callerA (.call (.ref fa) ⟨[.ref a], []⟩) (fun r s' => r = .ok (.ret (.bool true)) ∧ OldK s₁.heap s'.heap ∧ s'.os = s₁.os ∧ AllBare s'.gens) s₁ := by
  have rV := vals_ints hi
  have lV := hi.length
  have iT : ∀ bx : Addr, bx ∈ cs.map (·.2) → s₁.heap.get? bx = some { cls := .none, data := .fields #[] } := fun bx hx => by
    obtain ⟨px, hp, ex⟩ := List.mem_map.mp hx
    rw [← ex]
    exact tE px hp
  have aO : a ∉ cs.map (·.2) := fun zx => by
    have qx := iT a zx
    rw [ha] at qx
    have z' : Data.seq vs.toArray _ = Data.fields #[] := congrArg Obj.data (Option.some.inj qx)
    cases z'
  have mT : ∀ px ∈ cs, px.2 ∈ cs.map (·.2) := fun px hp => List.mem_map.mpr ⟨px, hp, rfl⟩
  -- from an abstract heap in which nothing but the script and the tables may be tracked
  have kern : ∀ H : Hp, (∀ px ∈ cs, H px.2 = some (.tbl #[])) → (∀ bx, H bx = none ∨ bx ∈ cs.map (·.2) ∨ ∃ ox xs, H bx = some (.frz ox (.lst xs))) → SqL K H a (ns.map V.int) → HOk P w H s₁.heap → (∀ bx, H bx ≠ none → bx = a ∨ bx ∈ cs.map (·.2)) → (H a ≠ none → K.lookup a = none) →
      codeAny (model P w) callerA (.call (.ref fa) ⟨[.ref a], []⟩) (fun r s' => r = .ok (.ret (.bool true)) ∧ OldK s₁.heap s'.heap ∧ s'.os = s₁.os ∧ AllBare s'.gens) s₁ := by
    intro H tbH onH scH okH adH knH
    have bO : ∀ {bx : Addr} {ox : Obj}, s₁.heap.get? bx = some ox → H bx = none → (hidT s₁.heap H).get? bx = some ox := fun ex n => hidT_get ex n
    have nD : ∀ {bx : Addr} {ox : Obj}, s₁.heap.get? bx = some ox → (∀ vs n, ox.data ≠ .seq vs n) → ox.data ≠ .fields #[] → H bx = none := fun {bx ox} ex h1 h2 => by
      cases qx : H bx with
      | none => rfl
      | some u =>
        rcases adH bx (by rw [qx]; simp) with e' | e'
        · rw [e', ha] at ex
          cases ex
          exact (h1 _ _ rfl).elim
        · rw [iT bx e'] at ex
          cases ex
          exact (h2 rfl).elim
    have nA0 : ∀ {bx : Addr} {ox : Obj} {es : Array DictEntry} {ep : Nat}, s₁.heap.get? bx = some ox → ox.data = .dict es ep → H bx = none := fun {bx ox es ep} ex d => by
      refine nD ex (fun vs n zx => ?_) fun zx => ?_
      · rw [d] at zx
        cases zx
      · rw [d] at zx
        cases zx
    have nK : ∀ {bx : Addr} {m : Str → Option Value}, s₁.heap.Ns bx m → (hidT s₁.heap H).Ns bx m := fun {bx m} ⟨ox, es, ep, ex, d, r⟩ => ⟨ox, es, ep, bO ex (nA0 ex d), d, r⟩
    have kB : K.In (hidT s₁.heap H) := fun bx ox ex => bO (kX bx ox ex) (by
      cases qx : H bx with
      | none => rfl
      | some u =>
        rcases adH bx (by rw [qx]; simp) with e' | e'
        · rw [e'] at ex qx
          rw [knH (by rw [qx]; simp)] at ex
          cases ex
        · obtain ⟨px, hp, ep⟩ := List.mem_map.mp e'
          rw [← ep, tO px hp] at ex
          cases ex)
    have mD : L2.Mod K mg (hidT s₁.heap H) := ⟨kB, nK nG, ⟨mb, nK hx, bb0⟩, let ⟨mc, h1, h2⟩ := lm; ⟨mc, nK h1, h2⟩⟩
    have tB : ∀ px ∈ cs, TabB (hidT s₁.heap H) mg px.1 px.2 := fun px hp => by
      have hTp := tE px hp
      refine ⟨?_, ?_, fun zx => ?_⟩
      · obtain ⟨ox, us, file, tf, flags, tg, inF, text, tt, e1, r1, r2, r3, r4, r5, r6, r7, r8, hne⟩ := C px hp
        refine ⟨ox, us, file, tf, flags, tg, inF, text, tt, bO e1 (nD e1 (fun vs n zx => ?_) fun zx => ?_), r1, r2, r3, r4, r5, r6, r7, r8, hne⟩
        · rw [r2] at zx
          cases zx
        · rw [r2] at zx
          cases zx
          simp at r3
      · obtain ⟨bm, ob, b1, b2, b3, b4, b5, b6⟩ := bM
        have nG : bm ≠ mainGlobals := fun qx => by
          obtain ⟨ox, es, ep, ex, hd, _⟩ := nG
          rw [qx, ex] at b3
          cases b3
          rw [hd] at b6
          cases b6
        have nP : bm ≠ px.2 := fun qx => by
          rw [qx, hTp] at b3
          cases b3
          cases b6
        refine ⟨bm, ob, b1, b2, nG, nP, bO b3 (nD b3 (fun vs n zx => ?_) fun zx => ?_), b4, b5, b6⟩
        · rw [b6] at zx
          cases zx
        · rw [b6] at zx
          cases zx
      · obtain ⟨ox, es, ep, ex, hd, _⟩ := nG
        rw [zx, hTp] at ex
        cases ex
        cases hd
    have e0 : Env0 P w K mg (hidT s₁.heap H) callerA [] s₁ H := ⟨rfl, mD, fun bx ox ex => of_hidT ex, Nat.le_of_eq (hidT_size _ _), trivial, fun bx hx => absurd (show bx ∈ ([] : List Addr) from hx) (by simp), okH, .of_eq hg⟩
    refine codeAny_mono ((F _ kB (nK nG) tB).run callerA [] s₁ H [.ref a] [.ref a] _ hr rfl e0 (bnd s₁ (.ref a)) (.cons rfl .nil) (pS H tbH scH)) fun r s' h => ?_
    cases r with
    | error ex => exact (show False from h).elim
    | ok fl =>
      cases fl with
      | next => exact False.elim h
      | brk => exact False.elim h
      | cont => exact False.elim h
      | ret u =>
        obtain ⟨v, H', os, bare, uN, hok', r', qx⟩ := h
        have q' : v = .bl true := qx
        subst q'
        obtain rfl : u = Value.bool true := r'
        have ky : ∀ bx ox, bx ∉ cs.map (·.2) → s₁.heap.get? bx = some ox → s'.heap.get? bx = some ox := fun bx ox nb ex => by
          cases qx : H bx with
          | none => exact uN.keep bx ox ex qx (by intro zx; exact absurd (show bx ∈ ([] : List Addr) from zx) (by simp)) (by simp)
          | some u =>
            rcases onH bx with zx | zx | ⟨ob, xs, zx⟩
            · rw [qx] at zx; cases zx
            · exact absurd zx nb
            · have z2 := uN.frzs bx ob _ zx
              obtain ⟨e1, _⟩ := okH bx _ zx
              obtain ⟨e2, _⟩ := hok' bx _ z2
              rw [ex] at e1; cases e1
              exact e2
        have gr : ∀ px ∈ cs, ∃ mr : Array Value, s'.heap.get? px.2 = some { cls := .none, data := .fields mr } := fun px hp => by
          obtain ⟨mr, zx⟩ := uN.tbls px.2 #[] (tbH px hp)
          exact ⟨_, hok' px.2 _ zx⟩
        refine ⟨rfl, ⟨fun bx ox ex => ?_, fun bx ox ex => ?_⟩, os, bare⟩
        · by_cases hx : bx ∈ cs.map (·.2)
          · obtain ⟨px, hp, ep⟩ := List.mem_map.mp hx
            obtain ⟨mr, hmr⟩ := gr px hp
            rw [← ep] at ex ⊢
            rw [tE px hp] at ex
            cases ex
            exact .inr (.inl ⟨((C px hp).tab (tE px hp)).isCodeTable, rfl, #[], mr, rfl, by rw [Array.empty_append]; exact hmr⟩)
          · exact .inl (ky bx ox hx ex)
        · by_cases hx : bx ∈ cs.map (·.2)
          · obtain ⟨px, hp, ep⟩ := List.mem_map.mp hx
            obtain ⟨mr, hmr⟩ := gr px hp
            rw [← ep]
            exact ⟨_, hmr⟩
          · exact ⟨ox, ky bx ox hx ex⟩
  cases hk : K.lookup a with
  | some ox =>
    have ex := kX a ox hk
    rw [ha] at ex
    cases ex
    refine kern (fun bx => if bx ∈ cs.map (·.2) then some (.tbl #[]) else none) (fun px hp => if_pos (mT px hp)) (fun bx => ?_) (.inr ⟨_, vs.toArray, _, hk, rfl, rfl, rfl, by rw [List.size_toArray, lV]; exact hl, by simpa using rV⟩) (fun bx u zx => ?_) (fun bx zx => ?_) fun zx => absurd (show (if a ∈ cs.map (·.2) then some (HO.tbl #[]) else none) = none from if_neg aO) zx
    · by_cases hx : bx ∈ cs.map (·.2)
      · exact .inr (.inl hx)
      · exact .inl (if_neg hx)
    · by_cases hx : bx ∈ cs.map (·.2)
      · have z' := (if_pos hx).symm.trans zx
        cases z'
        exact iT bx hx
      · have z' := (if_neg hx).symm.trans zx
        cases z'
    · by_cases hx : bx ∈ cs.map (·.2)
      · exact .inr hx
      · exact absurd (if_neg hx) zx
  | none =>
    refine kern (fun bx => if bx = a then some (.frz { cls := .type "list", data := .seq vs.toArray } (.lst (ns.map V.int))) else if bx ∈ cs.map (·.2) then some (.tbl #[]) else none) (fun px hp => (if_neg (show ¬ px.2 = a from fun zx => aO (by rw [← zx]; exact mT px hp))).trans (if_pos (mT px hp))) (fun bx => ?_)
      (.inl (.inr ⟨{ cls := .type "list", data := .seq vs.toArray }, if_pos rfl⟩)) (fun bx u zx => ?_) (fun bx zx => ?_) fun _ => hk
    · by_cases hx : bx = a
      · exact .inr (.inr ⟨_, _, if_pos hx⟩)
      · by_cases hb2 : bx ∈ cs.map (·.2)
        · exact .inr (.inl hb2)
        · exact .inl ((if_neg hx).trans (if_neg hb2))
    · by_cases hx : bx = a
      · have z' := (if_pos hx).symm.trans zx
        cases z'
        rw [hx]
        exact ⟨ha, by rw [List.length_map]; exact hl, vs, _, rV, ha⟩
      · have z1 := (if_neg hx).symm.trans zx
        by_cases hb2 : bx ∈ cs.map (·.2)
        · have z' := (if_pos hb2).symm.trans z1
          cases z'
          exact iT bx hb2
        · have z' := (if_neg hb2).symm.trans z1
          cases z'
    · by_cases hx : bx = a
      · exact .inl hx
      · by_cases hb2 : bx ∈ cs.map (·.2)
        · exact .inr hb2
        · exact absurd ((if_neg hx).trans (if_neg hb2)) zx
end Lw
namespace Lw
open PySem PySem.Spec PyProof.Rows L2 NdefX LamX
/-! ## the head: what the top has left -/
abbrev dDef (x : Str) (i : Nat) : He.DefD := ⟨(x, none), x, x, defArgs (topS i), defBody (topS i), defScope (topS i), [], []⟩
def dInit : He.DefD := ⟨("Order", some "__init__"), "__init__", "Order.__init__", defArgs s_init, defBody s_init, defScope s_init, [.adr (He.dflAt ("Order", some "__init__") 0)], []⟩
def fn1 : List He.DefD := [dInit, dDef "is_whole" 7, dDef "is_between" 8, dDef "is_tuple_of" 9, dDef "first_wrong" 10, dDef "is_places" 14, dDef "is_pair" 15, dDef "wrong_pair" 16, dDef "upward_by" 17, dDef "has_ring" 18, dDef "steps_by" 19, dDef "make_order" 20, dDef "check_pairs" 21, dDef "check_order" 23, dDef "places_of" 25, dDef "is_place" 26, dDef "upward_of" 27, dDef "is_below_by" 28, dDef "is_at_most" 29, dDef "keeps_pair" 33, dDef "can_follow" 34, dDef "all_moves_by" 35, dDef "is_move_by" 36, dDef "fixed_by" 37, dDef "count_moves_by" 38]
def fn2 : List He.DefD := [dDef "all_restless" 39, dDef "check_move" 40, dDef "check_moved" 41, dDef "is_move" 42, dDef "count_moves" 43, dDef "count_restless" 44, dDef "left_still" 45, dDef "staying_of" 47, dDef "behind" 48, dDef "done_by" 49, dDef "check_moving" 52, dDef "done" 53, dDef "_law_well" 55, dDef "_law_take" 56, dDef "_law_of" 57, dDef "_law_order" 58, dDef "_law_closed" 59, dDef "_law_below" 60, dDef "_law_made" 61, dDef "_law_moves" 62, dDef "_law_goes" 63, dDef "_law_left" 64, dDef "_law_behind" 65, dDef "_law_right" 66, dDef "law" 67]
def fnK : List He.DefD := fn1 ++ fn2
def fa1 : List He.Fa := [.glo "is_whole", .glo "is_between", .glo "is_tuple_of", .glo "first_wrong", .glo "is_places", .glo "is_pair", .glo "wrong_pair", .glo "upward_by", .glo "has_ring", .glo "steps_by", .glo "make_order", .glo "check_pairs", .glo "check_order", .glo "places_of", .glo "is_place", .glo "upward_of", .glo "is_below_by", .glo "is_at_most", .glo "keeps_pair", .glo "can_follow", .glo "all_moves_by", .glo "is_move_by", .glo "fixed_by", .glo "count_moves_by"]
def fa2 : List He.Fa := [.glo "all_restless", .glo "check_move", .glo "check_moved", .glo "is_move", .glo "count_moves", .glo "count_restless", .glo "left_still", .glo "staying_of", .glo "behind", .glo "done_by", .glo "check_moving", .glo "done", .glo "_law_well", .glo "_law_take", .glo "_law_of", .glo "_law_order", .glo "_law_closed", .glo "_law_below", .glo "_law_made", .glo "_law_moves", .glo "_law_goes", .glo "_law_left", .glo "_law_behind", .glo "_law_right", .glo "law"]
def fa3 : List He.Fa := [.free "len", .free "range", .free "tuple", .free "sorted", .free "isinstance", .free "int", .free "bool", .free "any", .free "all", .free "enumerate", .free "list", .free "dict", .free "abs", .free "divmod", .free "repr", .int "MOST_PLACES" 6, .int "MOST_TIMES" 99, .str "UPWARD" "upward", .str "MOVES" "moves", .str "RESTLESS" "restless", .glo "Order", .cls "Order", .noat "Order" "places", .noat "Order" "steps", .noat "Order" "kept", .mkr "Order"]
def faK : List He.Fa := fa1 ++ (fa2 ++ fa3)
def exK (K : PySem.W.Frag) : Bool := decide (PySem.W.findIn K (.ref (He.ga K "Order")) "__class__" = some (some (.builtin "object.__class__"))) && (decide (PySem.W.specialIn K (.builtin "object.__class__") "__get__" = some (some (.builtin "getset_descriptor.__get__"))) && (decide (PySem.W.takesIn K (.builtin "object.__class__") = some true) && decide (PySem.W.mroIn K (He.ga K "Order") (.type "object") = some true)))
def tfK : List He.Defn := [("wrong_pair", none)]
def ln1 : List Str := ["__name__", "OrderError", "InvalidNumber", "InvalidMove", "NotAnOrder", "InvalidSteps", "MOST_PLACES", "UPWARD", "Order", "parts_of", "MOVES", "RESTLESS", "MOST_TIMES", "is_whole", "is_between", "is_tuple_of", "first_wrong", "is_places", "is_pair", "wrong_pair", "upward_by", "has_ring", "steps_by", "make_order", "check_pairs", "check_order", "places_of", "is_place", "upward_of", "is_below_by"]
def ln2 : List Str := ["is_at_most", "keeps_pair", "can_follow", "all_moves_by", "is_move_by", "fixed_by", "count_moves_by", "all_restless", "check_move", "check_moved", "is_move", "count_moves", "count_restless", "left_still", "staying_of", "behind", "done_by", "check_moving", "done", "_law_well", "_law_take", "_law_of", "_law_order", "_law_closed", "_law_below", "_law_made", "_law_moves", "_law_goes", "_law_left", "_law_behind", "_law_right"]
def lnK : List Str := ln1 ++ ln2
abbrev rowK : PySem.W.OpenRow := PySem.W.OpenLaw.row PySem.Challenge.rw_stillorders_k30_whole_moves_behind_moves
abbrev hkK : PySem.W.Hook := He.hookX 4 faK fnK [] tfK exK
def obK (s : PySem.W.SharedT) : He.AlX := He.obsX 4 faK fnK [] tfK exK (HandSHeadRun.getT s)
theorem obK_eq (s : PySem.W.SharedT) : obK s = hkK.obs s.abs := He.obsX_eq (HandSHeadRun.getT_eq s)
theorem runK (w : World) : HandSHeadRun.RunEq rowK (PySem.W.view rowK.prog [67]) hkK obK 6000 lnK w := by
  intro os
  kernel_rfl
end Lw
namespace Lw
open PySem PySem.Spec PyProof.Rows L2 NdefX LamX
/-! ## all promises, from what the top has left -/
noncomputable def mmK : MemoF := fun n ss z => if z = "upward" then some ((upL n ss).map eNs) else if z = "moves" then some ((mv n ss n).map eNs) else if z = "restless" then some ((rst n ss).map eNs) else none
theorem mmK_up {O : Prm} (h : O.mm = mmK) (n : Nat) (ss : Steps) : O.mm n ss "upward" = some ((upL n ss).map eNs) := by
  rw [h]
  unfold mmK
  rw [if_pos rfl]
theorem mmK_mv {O : Prm} (h : O.mm = mmK) (n : Nat) (ss : Steps) : O.mm n ss "moves" = some ((mv n ss n).map eNs) := by
  rw [h]
  unfold mmK
  rw [if_neg (by decide), if_pos rfl]
theorem mmK_rs {O : Prm} (h : O.mm = mmK) (n : Nat) (ss : Steps) : O.mm n ss "restless" = some ((rst n ss).map eNs) := by
  rw [h]
  unfold mmK
  rw [if_neg (by decide), if_neg (by decide), if_pos rfl]
theorem mmK_ws (n : Nat) (ss : Steps) (z : Str) (ds : List PyData) (h : mmK n ss z = some ds) : z ∈ (["upward", "moves", "restless"] : List Str) := by
  unfold mmK at h
  by_cases h1 : z = "upward"
  · rw [h1]
    simp
  · rw [if_neg h1] at h
    by_cases h2 : z = "moves"
    · rw [h2]
      simp
    · rw [if_neg h2] at h
      by_cases h3 : z = "restless"
      · rw [h3]
        simp
      · rw [if_neg h3] at h
        cases h
/-- a def with its name -/
structure Dn (K : PySem.W.Frag) (mg : Str → Option Value) (x : Str) (st : Stmt) (f : Addr) (fd : FuncData) : Prop where
  fn : Fun K x x st f fd
  at_ : mg x = some (.ref f)
abbrev DnE (K : PySem.W.Frag) (mg : Str → Option Value) (x : Str) (st : Stmt) : Prop := ∃ f fd, Dn K mg x st f fd
theorem df_of {P : Program} {w : World} {K : PySem.W.Frag} {mg : Str → Option Value} {base : Heap} {x : Str} {st : Stmt} {k : Nat} {ps : List Str} {sp : Spn} (d : DnE K mg x st)
    (hb : ∀ (kV doc pm : Value) (an : Option Addr) (cdv ct : Value) (us : List Value), us.length = ps.length → bindArgs (PySem.W.fnOf x x (defArgs st) (defBody st) (defScope st) .none kV doc pm an cdv ct) ⟨us, []⟩ = pure (ps.zip us))
    (F : ∀ f fd, Fun K x x st f fd → FnOk P w K mg base (L2.CX P w) k f fd ps (nn sp)) : Df P w K mg base k x sp := by
  obtain ⟨f, fd, e⟩ := d
  exact ⟨f, fd, ps, F f fd e.fn, e.at_, e.fn.kp, e.fn.binds hb⟩
/-- all that the top has left -/
structure TopK (K : PySem.W.Frag) (mg : Str → Option Value) (C : Addr) : Prop where
  t_is_whole : DnE K mg "is_whole" s_is_whole
  t_is_between : DnE K mg "is_between" s_is_between
  t_is_tuple_of : DnE K mg "is_tuple_of" s_is_tuple_of
  t_is_places : DnE K mg "is_places" s_is_places
  t_is_pair : DnE K mg "is_pair" s_is_pair
  t_wrong_pair : DnE K mg "wrong_pair" s_wrong_pair
  t_upward_by : DnE K mg "upward_by" s_upward_by
  t_has_ring : DnE K mg "has_ring" s_has_ring
  t_steps_by : DnE K mg "steps_by" s_steps_by
  t_make_order : DnE K mg "make_order" s_make_order
  t_check_pairs : DnE K mg "check_pairs" s_check_pairs
  t_check_order : DnE K mg "check_order" s_check_order
  t_places_of : DnE K mg "places_of" s_places_of
  t_is_place : DnE K mg "is_place" s_is_place
  t_upward_of : DnE K mg "upward_of" s_upward_of
  t_is_below_by : DnE K mg "is_below_by" s_is_below_by
  t_is_at_most : DnE K mg "is_at_most" s_is_at_most
  t_keeps_pair : DnE K mg "keeps_pair" s_keeps_pair
  t_can_follow : DnE K mg "can_follow" s_can_follow
  t_all_moves_by : DnE K mg "all_moves_by" s_all_moves_by
  t_is_move_by : DnE K mg "is_move_by" s_is_move_by
  t_fixed_by : DnE K mg "fixed_by" s_fixed_by
  t_count_moves_by : DnE K mg "count_moves_by" s_count_moves_by
  t_all_restless : DnE K mg "all_restless" s_all_restless
  t_check_move : DnE K mg "check_move" s_check_move
  t_check_moved : DnE K mg "check_moved" s_check_moved
  t_is_move : DnE K mg "is_move" s_is_move
  t_count_moves : DnE K mg "count_moves" s_count_moves
  t_count_restless : DnE K mg "count_restless" s_count_restless
  t_left_still : DnE K mg "left_still" s_left_still
  t_staying_of : DnE K mg "staying_of" s_staying_of
  t_behind : DnE K mg "behind" s_behind
  t_done_by : DnE K mg "done_by" s_done_by
  t_check_moving : DnE K mg "check_moving" s_check_moving
  t_done : DnE K mg "done" s_done
  t__law_take : DnE K mg "_law_take" s_take
  t__law_of : DnE K mg "_law_of" s_of
  t__law_below : DnE K mg "_law_below" s_below
  t__law_goes : DnE K mg "_law_goes" s_goes
  t__law_left : DnE K mg "_law_left" s_left
  t__law_behind : DnE K mg "_law_behind" s_lbehind
  t__law_moves : DnE K mg "_law_moves" s_moves
  t__law_made : DnE K mg "_law_made" s_made
  t_first_wrong : DnE K mg "first_wrong" s_first_wrong
  t__law_well : DnE K mg "_law_well" s_well
  t__law_order : DnE K mg "_law_order" s_order
  t__law_closed : DnE K mg "_law_closed" s_closed
  t__law_right : DnE K mg "_law_right" s_right
  bi : Bi mg
  c6 : ∃ t, mg "MOST_PLACES" = some (.int 6 t)
  cT : ∃ t, mg "MOST_TIMES" = some (.int 99 t)
  cU : ∃ t, mg "UPWARD" = some (.str "upward" t)
  cM : ∃ t, mg "MOVES" = some (.str "moves" t)
  cR : ∃ t, mg "RESTLESS" = some (.str "restless" t)
  cls : OCls K C
  oty : OTy K C
  cat : mg "Order" = some (.ref C)
  mk0 : ∃ f, Mk K C f ∧ ∃ fd dvs, FunD K "__init__" "Order.__init__" (defArgs s_init) (defBody s_init) (defScope s_init) dvs [] f fd ∧ dvs.length = 1
section
variable {P : Program} {w : World} {K : PySem.W.Frag} {mg : Str → Option Value} {base : Heap} {O : Prm}
/-- the code object of wrong_pair -/
structure WpC (K : PySem.W.Frag) (mg : Str → Option Value) (base : Heap) (O : Prm) : Prop where
  ex : ∃ f fd c tb, Dn K mg "wrong_pair" s_wrong_pair f fd ∧ fd.code = .ref c ∧ TabB base mg c tb ∧ O.T = [(tb, qLam)]
theorem all_k30 (S : TopK K mg O.C) (hmm : O.mm = mmK) (np : ¬ O.pu) (hT : WpC K mg base O) (hK : O.K = K) : DR P w K mg base O ∧ Df P w K mg base 3 "_law_order" (sp_order O) ∧ Df P w K mg base 1 "_law_well" (sp_well O) := by
  have B := S.bi
  have cl := S.cls
  have kp : Kp O ["upward", "moves", "restless"] := ⟨np, fun n ss z ds h => mmK_ws n ss z ds (by rw [← hmm]; exact h), by decide⟩
  have d_is_whole : Df P w K mg base 1 "is_whole" sp_is_whole := df_of (ps := ["value"]) S.t_is_whole (fun _ _ _ _ _ _ us hl => match us, hl with | [_], _ => rfl) fun f fd F => fn_is_whole B F
  have d_is_between : Df P w K mg base 2 "is_between" sp_is_between := df_of (ps := ["value", "least", "most"]) S.t_is_between (fun _ _ _ _ _ _ us hl => match us, hl with | [_, _, _], _ => rfl) fun f fd F => fn_is_between d_is_whole F
  have d_is_tuple_of : Df P w K mg base 1 "is_tuple_of" sp_is_tuple_of := df_of (ps := ["value", "many"]) S.t_is_tuple_of (fun _ _ _ _ _ _ us hl => match us, hl with | [_, _], _ => rfl) fun f fd F => fn_is_tuple_of B F
  have d_is_places : Df P w K mg base 3 "is_places" sp_is_places := df_of (ps := ["value"]) S.t_is_places (fun _ _ _ _ _ _ us hl => match us, hl with | [_], _ => rfl) fun f fd F => fn_is_places d_is_between S.c6 F
  have d_is_pair : Df P w K mg base 3 "is_pair" (sp_is_pair O) := df_of (ps := ["places", "value"]) S.t_is_pair (fun _ _ _ _ _ _ us hl => match us, hl with | [_, _], _ => rfl) fun f fd F => fn_is_pair B d_is_tuple_of d_is_between F
  have d_wrong_pair : Df P w K mg base 6 "wrong_pair" (sp_wrong_pair O) := by
    obtain ⟨f, fd, c, tb, e, hc, tB, eT⟩ := hT.ex
    obtain ⟨g, fdg, eg⟩ := S.t_first_wrong
    exact ⟨f, fd, _, fn_wrong_pair B d_is_pair eg.fn eg.at_ tB eT e.fn hc, e.at_, e.fn.kp, e.fn.binds (fun _ _ _ _ _ _ us hl => match us, hl with | [_, _], _ => rfl)⟩
  have d_upward_by : Df P w K mg base 1 "upward_by" (sp_upward_by O) := df_of (ps := ["places", "pairs"]) S.t_upward_by (fun _ _ _ _ _ _ us hl => match us, hl with | [_, _], _ => rfl) fun f fd F => fn_upward_by B F
  have d_has_ring : Df P w K mg base 1 "has_ring" (sp_has_ring O) := df_of (ps := ["upward"]) S.t_has_ring (fun _ _ _ _ _ _ us hl => match us, hl with | [_], _ => rfl) fun f fd F => fn_has_ring B F
  have d_steps_by : Df P w K mg base 1 "steps_by" (sp_steps_by O) := df_of (ps := ["upward"]) S.t_steps_by (fun _ _ _ _ _ _ us hl => match us, hl with | [_], _ => rfl) fun f fd F => fn_steps_by B F
  have d_make_order : Df P w K mg base 6 "make_order" (sp_make_order O) := df_of (ps := ["places", "pairs"]) S.t_make_order (fun _ _ _ _ _ _ us hl => match us, hl with | [_, _], _ => rfl) fun f fd F => fn_make_order B d_upward_by d_has_ring d_steps_by F
  have d_check_pairs : Df P w K mg base 7 "check_pairs" (sp_wrong_pair O) := df_of (ps := ["places", "pairs"]) S.t_check_pairs (fun _ _ _ _ _ _ us hl => match us, hl with | [_, _], _ => rfl) fun f fd F => fn_check_pairs B d_wrong_pair F
  have M : OMk P w K mg base O := by
    obtain ⟨f, hm, fd, dvs, F, hl⟩ := S.mk0
    refine ⟨cl, S.cat, f, fd, hm, fn_init cl d_is_places d_check_pairs d_make_order F, ?_⟩
    have hne : dvs ≠ [] := fun z => by rw [z] at hl; cases hl
    obtain ⟨ds, r, b⟩ := F.binds1 (ps := ["self", "places", "steps"]) 3 1 hne (by rw [hl]; rfl) fun T kV doc pm an cdv ct us its h1 h2 => by
      rw [hl] at h2
      exact match us, h1, its, h2 with | [_, _, _], _, [_], _ => ⟨_, rfl, rfl⟩
    have e : dvs.drop 1 = [] := List.drop_eq_nil_of_le (by rw [hl]; exact Nat.le_refl _)
    rw [e] at r
    cases r
    exact b
  have d_check_order : Df P w K mg base 1 "check_order" (sp_check_order O) := df_of (ps := ["value"]) S.t_check_order (fun _ _ _ _ _ _ us hl => match us, hl with | [_], _ => rfl) fun f fd F => fn_check_order B M S.oty F
  have d_places_of : Df P w K mg base 1 "places_of" (sp_places_of O) := df_of (ps := ["order"]) S.t_places_of (fun _ _ _ _ _ _ us hl => match us, hl with | [_], _ => rfl) fun f fd F => fn_places_of B cl F
  have d_is_place : Df P w K mg base 3 "is_place" (sp_is_place O) := df_of (ps := ["order", "value"]) S.t_is_place (fun _ _ _ _ _ _ us hl => match us, hl with | [_, _], _ => rfl) fun f fd F => fn_is_place cl d_is_between F
  have d_upP : Df P w K mg base 1 "upward_by" (sp_upward_by O.p) := df_of (ps := ["places", "pairs"]) S.t_upward_by (fun _ _ _ _ _ _ us hl => match us, hl with | [_, _], _ => rfl) fun f fd F => fn_upward_by B F
  have d_upward_of : Df P w K mg base 2 "upward_of" (sp_upward_of O) := df_of (ps := ["order"]) S.t_upward_of (fun _ _ _ _ _ _ us hl => match us, hl with | [_], _ => rfl) fun f fd F => fn_upward_of cl kp.np (mmK_up hmm) kp.hw kp.hl S.cU d_upP F
  have d_is_below_by : Df P w K mg base 3 "is_below_by" (sp_below O fun _ ss a b => TC ss a b) := df_of (ps := ["order", "low", "high"]) S.t_is_below_by (fun _ _ _ _ _ _ us hl => match us, hl with | [_, _, _], _ => rfl) fun f fd F => fn_is_below_by d_upward_of F
  have d_is_at_most : Df P w K mg base 4 "is_at_most" (sp_below O fun _ ss a b => Le ss a b) := df_of (ps := ["order", "low", "high"]) S.t_is_at_most (fun _ _ _ _ _ _ us hl => match us, hl with | [_, _, _], _ => rfl) fun f fd F => fn_is_at_most d_is_below_by F
  have d_keeps_pair : Df P w K mg base 5 "keeps_pair" (sp_keeps_pair O) := df_of (ps := ["order", "one", "other", "goals"]) S.t_keeps_pair (fun _ _ _ _ _ _ us hl => match us, hl with | [_, _, _, _], _ => rfl) fun f fd F => fn_keeps_pair d_is_below_by d_is_at_most F
  have d_can_follow : Df P w K mg base 6 "can_follow" (sp_can_follow O) := df_of (ps := ["order", "row", "goal"]) S.t_can_follow (fun _ _ _ _ _ _ us hl => match us, hl with | [_, _, _], _ => rfl) fun f fd F => fn_can_follow B d_keeps_pair F
  have d_all_moves_by : Df P w K mg base 7 "all_moves_by" (sp_list O fun n ss => (mv n ss n).map eNs) := df_of (ps := ["order"]) S.t_all_moves_by (fun _ _ _ _ _ _ us hl => match us, hl with | [_], _ => rfl) fun f fd F => fn_all_moves_by cl kp (mmK_mv hmm) S.cM d_places_of d_can_follow F
  have d_is_move_by : Df P w K mg base 5 "is_move_by" (sp_move O (.bl true)) := df_of (ps := ["order", "value"]) S.t_is_move_by (fun _ _ _ _ _ _ us hl => match us, hl with | [_, _], _ => rfl) fun f fd F => fn_is_move_by B cl d_is_tuple_of d_is_place d_is_at_most F
  have d_fixed_by : Df P w K mg base 2 "fixed_by" (sp_fixed O fun n _ l => l.length = n) := df_of (ps := ["order", "move"]) S.t_fixed_by (fun _ _ _ _ _ _ us hl => match us, hl with | [_, _], _ => rfl) fun f fd F => fn_fixed_by B d_places_of F
  have d_count_moves_by : Df P w K mg base 8 "count_moves_by" (sp_count O fun n ss => (mv n ss n).length) := df_of (ps := ["order"]) S.t_count_moves_by (fun _ _ _ _ _ _ us hl => match us, hl with | [_], _ => rfl) fun f fd F => fn_count_moves_by B d_all_moves_by F
  have d_all_restless : Df P w K mg base 8 "all_restless" (sp_list O fun n ss => (rst n ss).map eNs) := df_of (ps := ["order"]) S.t_all_restless (fun _ _ _ _ _ _ us hl => match us, hl with | [_], _ => rfl) fun f fd F => fn_all_restless cl kp (mmK_rs hmm) S.cR d_all_moves_by d_fixed_by F
  have d_check_move : Df P w K mg base 6 "check_move" (sp_move O .non) := df_of (ps := ["order", "move"]) S.t_check_move (fun _ _ _ _ _ _ us hl => match us, hl with | [_, _], _ => rfl) fun f fd F => fn_check_move d_is_move_by F
  have d_check_moved : Df P w K mg base 7 "check_moved" (sp_move O .non) := df_of (ps := ["order", "move"]) S.t_check_moved (fun _ _ _ _ _ _ us hl => match us, hl with | [_, _], _ => rfl) fun f fd F => fn_check_moved d_check_order d_check_move F
  have d_is_move : Df P w K mg base 6 "is_move" (sp_move O (.bl true)) := df_of (ps := ["order", "value"]) S.t_is_move (fun _ _ _ _ _ _ us hl => match us, hl with | [_, _], _ => rfl) fun f fd F => fn_is_move d_check_order d_is_move_by F
  have d_count_moves : Df P w K mg base 9 "count_moves" (sp_count O fun n ss => (mv n ss n).length) := df_of (ps := ["order"]) S.t_count_moves (fun _ _ _ _ _ _ us hl => match us, hl with | [_], _ => rfl) fun f fd F => fn_count_moves d_check_order d_count_moves_by F
  have d_count_restless : Df P w K mg base 9 "count_restless" (sp_count O fun n ss => (rst n ss).length) := df_of (ps := ["order"]) S.t_count_restless (fun _ _ _ _ _ _ us hl => match us, hl with | [_], _ => rfl) fun f fd F => fn_count_restless B d_check_order d_all_restless F
  have d_left_still : Df P w K mg base 8 "left_still" (sp_fixed O Mv) := df_of (ps := ["order", "move"]) S.t_left_still (fun _ _ _ _ _ _ us hl => match us, hl with | [_, _], _ => rfl) fun f fd F => fn_left_still d_check_moved d_fixed_by F
  have d_staying_of : Df P w K mg base 2 "staying_of" (sp_places_of O) := df_of (ps := ["order"]) S.t_staying_of (fun _ _ _ _ _ _ us hl => match us, hl with | [_], _ => rfl) fun f fd F => fn_staying_of d_places_of F
  have d_behind : Df P w K mg base 1 "behind" (sp_behind O) := df_of (ps := ["move", "later"]) S.t_behind (fun _ _ _ _ _ _ us hl => match us, hl with | [_, _], _ => rfl) fun f fd F => fn_behind B F
  have d_done_by : Df P w K mg base 3 "done_by" (sp_done O) := df_of (ps := ["order", "move", "times"]) S.t_done_by (fun _ _ _ _ _ _ us hl => match us, hl with | [_, _, _], _ => rfl) fun f fd F => fn_done_by B d_staying_of d_behind F
  have d_check_moving : Df P w K mg base 7 "check_moving" (sp_move O .non) := df_of (ps := ["order", "move"]) S.t_check_moving (fun _ _ _ _ _ _ us hl => match us, hl with | [_, _], _ => rfl) fun f fd F => fn_check_moving d_check_order d_check_move F
  have d_done : Df P w K mg base 8 "done" (sp_done O) := df_of (ps := ["order", "move", "times"]) S.t_done (fun _ _ _ _ _ _ us hl => match us, hl with | [_, _, _], _ => rfl) fun f fd F => fn_done d_check_moving d_is_between d_done_by S.cT F
  have d_doneK : DfK P w K mg base 8 "done" ["times", "move", "order"] (sp_done O) := by
    obtain ⟨f, fd, e⟩ := S.t_done
    refine ⟨f, fd, _, fn_done d_check_moving d_is_between d_done_by S.cT e.fn, e.at_, e.fn.kp, ?_⟩
    obtain ⟨oc, od, kV, doc, pm, an, cdv, ct, osl, rfl, lk, hcd⟩ := e.fn.ex
    refine ⟨fun s us ws _ hl => ?_, fun {vs us zs ws} r1 r2 => ?_⟩
    · match us, ws, hl with
      | [], [a, b, c], _ => exact .of_eq rfl
    · cases r1 with
      | nil =>
        cases r2 with
        | nil => exact .nil
        | cons h1 t1 =>
          cases t1 with
          | nil => exact .nil
          | cons h2 t2 =>
            cases t2 with
            | nil => exact .nil
            | cons h3 t3 =>
              cases t3 with
              | nil => exact .cons h3 (.cons h2 (.cons h1 .nil))
              | cons h4 t4 => exact .nil
      | cons h t => exact .nil
  have d__law_take : Df P w K mg base 1 "_law_take" (sp_take O) := df_of (ps := ["well", "many"]) S.t__law_take (fun _ _ _ _ _ _ us hl => match us, hl with | [_, _], _ => rfl) fun f fd F => fn_take B F
  have d__law_of : Df P w K mg base 2 "_law_of" (sp_of O) := df_of (ps := ["well", "things"]) S.t__law_of (fun _ _ _ _ _ _ us hl => match us, hl with | [_, _], _ => rfl) fun f fd F => fn_of_ B d__law_take F
  have d__law_below : Df P w K mg base 1 "_law_below" (sp_lbelow O) := df_of (ps := ["places", "pairs"]) S.t__law_below (fun _ _ _ _ _ _ us hl => match us, hl with | [_, _], _ => rfl) fun f fd F => fn_below B F
  have d__law_goes : Df P w K mg base 1 "_law_goes" (sp_goes O) := df_of (ps := ["below", "row", "place", "goal"]) S.t__law_goes (fun _ _ _ _ _ _ us hl => match us, hl with | [_, _, _, _], _ => rfl) fun f fd F => fn_goes B F
  have d__law_left : Df P w K mg base 1 "_law_left" (sp_left O) := df_of (ps := ["move"]) S.t__law_left (fun _ _ _ _ _ _ us hl => match us, hl with | [_], _ => rfl) fun f fd F => fn_left B F
  have d__law_behind : Df P w K mg base 1 "_law_behind" (sp_lbehind O) := df_of (ps := ["one", "two"]) S.t__law_behind (fun _ _ _ _ _ _ us hl => match us, hl with | [_, _], _ => rfl) fun f fd F => fn_lbehind B F
  have d__law_moves : Df P w K mg base 2 "_law_moves" (sp_lmoves O) := df_of (ps := ["order"]) S.t__law_moves (fun _ _ _ _ _ _ us hl => match us, hl with | [_], _ => rfl) fun f fd F => fn_moves B d__law_below d__law_goes F
  have d__law_made : Df P w K mg base 10 "_law_made" (sp_made O) := df_of (ps := ["order"]) S.t__law_made (fun _ _ _ _ _ _ us hl => match us, hl with | [_], _ => rfl) fun f fd F => fn_made M F
  have d_closed : Df P w K mg base 2 "_law_closed" (sp_closed O) := df_of (ps := ["places", "pairs"]) S.t__law_closed (fun _ _ _ _ _ _ us hl => match us, hl with | [_, _], _ => rfl) fun f fd F => fn_closed B d__law_below F
  have d_order : Df P w K mg base 3 "_law_order" (sp_order O) := df_of (ps := ["well", "most"]) S.t__law_order (fun _ _ _ _ _ _ us hl => match us, hl with | [_, _], _ => rfl) fun f fd F => fn_order B d__law_take d_closed F
  have d_well : Df P w K mg base 1 "_law_well" (sp_well O) := df_of (ps := ["script", "lap"]) S.t__law_well (fun _ _ _ _ _ _ us hl => match us, hl with | [_, _], _ => rfl) fun f fd F => fn_well hK B F
  exact ⟨⟨d__law_take, d__law_of, d__law_behind, d__law_left, d__law_made, d__law_moves, d_is_move, d_left_still, d_done, d_doneK, d_count_restless, d_count_moves⟩, d_order, d_well⟩
end
end Lw
namespace Lw
open PySem PySem.Spec PyProof.Rows L2 NdefX LamX
theorem fun_of {K : PySem.W.Frag} {x qual : Str} {st : Stmt} {f : Addr} {fd : FuncData} (F : FunD K x qual (defArgs st) (defBody st) (defScope st) [] [] f fd) : Fun K x qual st f fd := by
  obtain ⟨oc, od, dV, kV, doc, pm, an, cdv, ct, osl, rfl, lk, hcd, hD, hK⟩ := F.ex
  rcases hD with ⟨_, rfl⟩ | ⟨e, _⟩
  · exact ⟨⟨oc, od, kV, doc, pm, an, cdv, ct, osl, rfl, lk, hcd⟩, F.kp⟩
  · exact absurd rfl e
theorem dn_of {K : PySem.W.Frag} {h : Heap} {mg : Str → Option Value} (X : K.In h) (G : h.Ns mainGlobals mg) (c : He.SaysD faK fnK K) (i j : Nat) {x : Str} {n : Nat} (h1 : fnK[i]? = some (dDef x n)) (h2 : faK[j]? = some (.glo x)) : DnE K mg x (topS n) := by
  obtain ⟨fd, F⟩ := c.def_ i h1
  exact ⟨_, fd, fun_of F, He.glo_ok X G (c.fact j h2)⟩
theorem top_k30 {K : PySem.W.Frag} {h : Heap} {mg : Str → Option Value} (X : K.In h) (G : h.Ns mainGlobals mg) (c : He.SaysD faK fnK K) (ce : exK K = true) : TopK K mg (He.ga K "Order") := by
  unfold exK at ce
  simp only [Bool.and_eq_true, decide_eq_true_eq] at ce
  obtain ⟨e1, e2, e3, e4⟩ := ce
  have cl : OCls K (He.ga K "Order") := ⟨He.cls_ok (c.fact 70 rfl), He.noat_ok (c.fact 71 rfl), He.noat_ok (c.fact 72 rfl), He.noat_ok (c.fact 73 rfl)⟩
  obtain ⟨fdi, Fi⟩ := c.def_ 0 (d := dInit) rfl
  exact {
    t_is_whole := dn_of X G c 1 0 rfl rfl
    t_is_between := dn_of X G c 2 1 rfl rfl
    t_is_tuple_of := dn_of X G c 3 2 rfl rfl
    t_is_places := dn_of X G c 5 4 rfl rfl
    t_is_pair := dn_of X G c 6 5 rfl rfl
    t_wrong_pair := dn_of X G c 7 6 rfl rfl
    t_upward_by := dn_of X G c 8 7 rfl rfl
    t_has_ring := dn_of X G c 9 8 rfl rfl
    t_steps_by := dn_of X G c 10 9 rfl rfl
    t_make_order := dn_of X G c 11 10 rfl rfl
    t_check_pairs := dn_of X G c 12 11 rfl rfl
    t_check_order := dn_of X G c 13 12 rfl rfl
    t_places_of := dn_of X G c 14 13 rfl rfl
    t_is_place := dn_of X G c 15 14 rfl rfl
    t_upward_of := dn_of X G c 16 15 rfl rfl
    t_is_below_by := dn_of X G c 17 16 rfl rfl
    t_is_at_most := dn_of X G c 18 17 rfl rfl
    t_keeps_pair := dn_of X G c 19 18 rfl rfl
    t_can_follow := dn_of X G c 20 19 rfl rfl
    t_all_moves_by := dn_of X G c 21 20 rfl rfl
    t_is_move_by := dn_of X G c 22 21 rfl rfl
    t_fixed_by := dn_of X G c 23 22 rfl rfl
    t_count_moves_by := dn_of X G c 24 23 rfl rfl
    t_all_restless := dn_of X G c 25 24 rfl rfl
    t_check_move := dn_of X G c 26 25 rfl rfl
    t_check_moved := dn_of X G c 27 26 rfl rfl
    t_is_move := dn_of X G c 28 27 rfl rfl
    t_count_moves := dn_of X G c 29 28 rfl rfl
    t_count_restless := dn_of X G c 30 29 rfl rfl
    t_left_still := dn_of X G c 31 30 rfl rfl
    t_staying_of := dn_of X G c 32 31 rfl rfl
    t_behind := dn_of X G c 33 32 rfl rfl
    t_done_by := dn_of X G c 34 33 rfl rfl
    t_check_moving := dn_of X G c 35 34 rfl rfl
    t_done := dn_of X G c 36 35 rfl rfl
    t__law_take := dn_of X G c 38 37 rfl rfl
    t__law_of := dn_of X G c 39 38 rfl rfl
    t__law_below := dn_of X G c 42 41 rfl rfl
    t__law_goes := dn_of X G c 45 44 rfl rfl
    t__law_left := dn_of X G c 46 45 rfl rfl
    t__law_behind := dn_of X G c 47 46 rfl rfl
    t__law_moves := dn_of X G c 44 43 rfl rfl
    t__law_made := dn_of X G c 43 42 rfl rfl
    t_first_wrong := dn_of X G c 4 3 rfl rfl
    t__law_well := dn_of X G c 37 36 rfl rfl
    t__law_order := dn_of X G c 40 39 rfl rfl
    t__law_closed := dn_of X G c 41 40 rfl rfl
    t__law_right := dn_of X G c 48 47 rfl rfl
    bi := ⟨He.free_ok X G (c.fact 49 rfl), He.free_ok X G (c.fact 50 rfl), He.free_ok X G (c.fact 51 rfl), He.free_ok X G (c.fact 52 rfl), He.free_ok X G (c.fact 53 rfl), He.free_ok X G (c.fact 54 rfl), He.free_ok X G (c.fact 55 rfl), He.free_ok X G (c.fact 56 rfl), He.free_ok X G (c.fact 57 rfl), He.free_ok X G (c.fact 58 rfl), He.free_ok X G (c.fact 59 rfl), He.free_ok X G (c.fact 60 rfl), He.free_ok X G (c.fact 61 rfl), He.free_ok X G (c.fact 62 rfl), He.free_ok X G (c.fact 63 rfl)⟩
    c6 := He.int_ok X G (c.fact 64 rfl)
    cT := He.int_ok X G (c.fact 65 rfl)
    cU := He.str_ok X G (c.fact 66 rfl)
    cM := He.str_ok X G (c.fact 67 rfl)
    cR := He.str_ok X G (c.fact 68 rfl)
    cls := cl
    oty := fun H p dx fs e => .base (.ins e cl.cls e1 e2 e3 e4)
    cat := He.glo_ok X G (c.fact 69 rfl)
    mk0 := ⟨_, He.mkr_ok (c.fact 74 rfl), fdi, _, Fi, rfl⟩ }
/-- what is known of the law at the head's heap -/
def LawAtG (l : PySem.W.OpenLaw) (w : World) (K : PySem.W.Frag) (k n : Nat) (x : Str) (mg : Str → Option Value) (fa : Addr) (h : Heap) : Prop :=
  ∃ (fd : FuncData) (cs : List (Addr × Addr)) (sp : Spn), (∀ c ∈ cs, h.get? c.2 = some { cls := .none, data := .fields #[] }) ∧ (∀ c ∈ cs, K.lookup c.2 = none) ∧ (∀ c ∈ cs, PySem.W.CodeHd h c.1 c.2) ∧ (∀ (t : Shared) (u : Value), BindsTo t fd ⟨[u], []⟩ [(x, u)]) ∧
    (∀ (H : Hp) (a : Addr) (ns : List Int), ns.length ≤ n → (∀ c ∈ cs, H c.2 = some (.tbl #[])) → SqL K H a (ns.map V.int) → sp [.ref a] H (fun v _ => v = .bl true)) ∧
    ∀ base : Heap, K.In base → base.Ns mainGlobals mg → (∀ c ∈ cs, TabB base mg c.1 c.2) → FnG l.prog w K mg base k fa fd [x] sp
theorem walk_G {l : PySem.W.OpenLaw} {n k : Nat} {q : Program} {loose : List Str} {XP : (Str → Option Value) → Heap → Prop} {YP : World → Heap → Prop} {d : DefRec} {x : Str} (hn : l.most = some n) (hn2 : n ≤ sizeLine) (hdf : d.params.defaults = []) (hr : Room k callerA)
    (F : ∀ (w : World) (mg : Str → Option Value) (fa : Addr) (h : Heap), YP w h → h.Ns mainGlobals mg → mg d.name = some (.ref fa) → ∃ K : PySem.W.Frag, K.In h ∧ LawAtG l w K k n x mg fa h) : PySem.W.WalkO q loose XP YP l.row.toRowW d [] (fun f vs => PySem.call f vs) := by
  refine Att.attach_callB hn hdf fun w s₀ s₁ mg mb fa o pm cd doc a vs ns G Y ho hd hcd hmg hobj hints hlen hbits hg => ?_
  obtain ⟨K, KX, fd, cs, sp, t1, t2, t3, t4, t5, t6⟩ := F w mg fa _ Y G.T.g hmg
  exact law_callG KX G.T.g G.T.b G.T.builtins G.T.nolimit hg t1 t2 t3 G.T.bmain hobj hints (Nat.le_trans hlen hn2) hr t6 t4 fun H hH hS => t5 H a ns hlen hH hS
noncomputable abbrev O0 (K : PySem.W.Frag) : Prm := ⟨K, He.ga K "Order", mmK, [(He.tabOf K (He.codeOf K ("wrong_pair", none)), qLam)], False, ow0⟩
theorem law_k30 {l : PySem.W.OpenLaw} {w : World} {K : PySem.W.Frag} {h : Heap} {mg : Str → Option Value} {fa : Addr} (X : K.In h) (G : h.Ns mainGlobals mg) (hfa : mg ("law" : Str) = some (.ref fa)) (c : He.SaysX faK fnK [] tfK exK w h K) : LawAtG l w K 12 63 "script" mg fa h := by
  have cd := c.t.d
  have S := top_k30 X G cd c.more
  obtain ⟨fl, fdl, el⟩ := dn_of X G cd 49 48 (x := "law") (n := 67) rfl rfl
  have e := hfa.symm.trans el.at_
  cases e
  obtain ⟨fw, fdw, ew⟩ := S.t_wrong_pair
  have hmem : (("wrong_pair", none) : He.Defn) ∈ tfK := List.mem_singleton.mpr rfl
  have hcode : fdw.code = .ref (He.codeOf K ("wrong_pair", none)) := by
    obtain ⟨oc, od, kV, doc, pm, an, cdv, ct, osl, rfl, lk, hcd⟩ := ew.fn.ex
    obtain ⟨c0, e0⟩ := He.codeIn_ref hcd
    have e1 : fw = He.ga K "wrong_pair" := by
      have := ew.at_.symm.trans (He.glo_ok X G (cd.fact 6 (f := .glo "wrong_pair") rfl))
      cases this
      rfl
    subst e1
    have := He.codeOf_eq (p := ("wrong_pair", none)) lk e0
    rw [this]
    exact e0
  refine ⟨fdl, [He.cT K ("wrong_pair", none)], sp_law (O0 K), fun p hp => ?_, fun p hp => ?_, fun p hp => ?_, fun t u => ?_, fun H a ns hl hH hS => ?_, fun base KB NB TB => ?_⟩
  · rw [List.mem_singleton.mp hp]
    exact c.empty _ hmem
  · rw [List.mem_singleton.mp hp]
    exact c.out _ hmem
  · rw [List.mem_singleton.mp hp]
    exact PySem.W.codeHd_of_K X (c.hd _ hmem)
  · obtain ⟨oc, od, kV, doc, pm, an, cdv, ct, osl, e, _, _⟩ := el.fn.ex
    rw [e]
    exact .of_eq rfl
  · refine ⟨a, ns, rfl, hS, by omega, fun p hp => ?_, fun _ => rfl⟩
    rw [List.mem_singleton.mp hp]
    exact TabS.nil (hH _ (List.mem_singleton.mpr rfl))
  · have tB := TB _ (List.mem_singleton.mpr rfl)
    have W : ∀ ow, WpC K mg base ((O0 K).w ow) := fun ow => ⟨fw, fdw, _, _, ew, hcode, tB, rfl⟩
    have A := fun ow => all_k30 (P := l.prog) (w := w) (base := base) (O := (O0 K).w ow) S rfl (fun z => z) (W ow) rfl
    obtain ⟨fr, fdr, er⟩ := S.t__law_right
    have D3 : DfG l.prog w K mg base 11 "_law_right" (sp_right (O0 K)) := ⟨fr, fdr, _, fng_right S.bi (fun ow => (A ow).1) er.fn, er.at_, er.fn.kp, er.fn.binds (fun _ _ _ _ _ _ us hl => match us, hl with | [_, _], _ => rfl)⟩
    exact fng_law S.bi (A ow0).2.2 (A ow0).2.1 D3 el.fn
end Lw
open PySem PySem.W PySem.Calls PyProof.Rows
theorem PySem.Challenge.cw_stillorders_k30_whole_moves_behind_moves_holds : PySem.Challenge.rw_stillorders_k30_whole_moves_behind_moves.Holds := by
  w_on; o_law
  refine HandSHeadRun.head_any (r := Lw.rowK) (q := view Lw.rowK.prog [67]) (H := Lw.hkK) (ob := Lw.obK) (M := 6000) (loose := Lw.lnK) (d := HandSHeadRun.topDef Lw.rowK.prog 67) (kwd := []) Lw.obK_eq
    (by kernel_rfl) (fun s => by kernel_rfl) Lw.runK (by kernel_rfl) (by kernel_rfl) (by kernel_rfl) (by rfl) (by first | assumption | decide +kernel) (by decide +kernel) ⟨rfl, rfl, rfl, rfl, rfl, by decide +kernel⟩ ?hw ?hc
  case hw => w_witness2
  case hc =>
    refine Lw.walk_G (l := PySem.Challenge.rw_stillorders_k30_whole_moves_behind_moves) (n := 63) (k := 12) (x := "script") rfl (by decide) (by kernel_rfl) ⟨rfl, by decide, by decide⟩ ?F
    intro w mg fa h Y G hmg0
    obtain ⟨K, KX, c⟩ := Y
    have hmg : mg ("law" : PySem.Str) = some (.ref fa) := by
      have e : (HandSHeadRun.topDef Lw.rowK.prog 67).name = ("law" : PySem.Str) := by kernel_rfl
      rw [← e]
      exact hmg0
    exact ⟨K, KX, Lw.law_k30 KX G hmg c⟩
