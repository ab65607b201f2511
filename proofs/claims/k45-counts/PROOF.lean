import PyProof.Rows.All
import Wide.All
import OpenK.AllK
import Wide.FinOn
import HandS.ForMost
import HandS.Nested
import HandS.NestedK
import HandS.CallLocal
import HandS.Style
import HandS.Flow
import HandS.Deep
import HandS.TupLen
import HandS.TupAny
import HandS.TupMul
import HandS.Wide
import HandS.WideBits
import HandS.Gcd
import HandS.RaiseMore
import HandS.Lambda
import KE.GoesEnum
import KE.GoesMore
import KE.KIntText
import HandS.WrittenGet
import HandS.TupSets
import KE.KDictPairs
import KE.KDictCopyH
import KE.DataMinMax
import PyProof.Rows.SeqMore
import HandS.EndTab
import PySem.Challenge.RW_waylots_k45_whole_counts_by_all_steps
set_option Elab.async false
set_option linter.all false
set_option maxRecDepth 100000
set_option autoImplicit false
/-! Dv0: rules of the hand layer with the written part named, for use within comprehensions. -/
namespace DV
open PySem L2 NdefX
section
variable {X : Cx} (K : PySem.W.Frag)
theorem ixL (h : X.K = K := by rfl) : IxR X (rIxL K) := h ▸ ix_list
theorem ixT (h : X.K = K := by rfl) : IxR X (rIxT K) := h ▸ ix_tup
theorem eqD (hu : X.A.units + 64 < cLine) (h : X.K = K := by rfl) : OpR X (compareOp .Eq) (rEqD K) := h ▸ op_eqD hu
theorem neD (hu : X.A.units + 64 < cLine) (h : X.K = K := by rfl) : OpR X (compareOp .NotEq) (rNeD K) := h ▸ op_neD hu
theorem slL (h : X.K = K := by rfl) : SlR X (rSlL K) := h ▸ sl_list
def rLenS (K : PySem.W.Frag) : List V → Hp → VK → Prop := fun xs H Q => ∃ p ys, xs = [.ref p] ∧ (SqL K H p ys ∨ SqT K H p ys) ∧ Q (.int ys.length) H
def rTupS (K : PySem.W.Frag) : List V → Hp → VK → Prop := fun xs H Q => ∃ p ys, xs = [.ref p] ∧ ((SqL K H p ys ∧ ∀ l, H l = none → Q (.ref l) (upd H l (.tup ys))) ∨ (SqT K H p ys ∧ Q (.ref p) H))
def rLstS (K : PySem.W.Frag) : List V → Hp → VK → Prop := fun xs H Q => ∃ p ys, xs = [.ref p] ∧ (SqL K H p ys ∨ SqT K H p ys) ∧ ∀ l, H l = none → Q (.ref l) (upd H l (.lst ys))
theorem cLen (h : X.K = K := by rfl) : CallR X (.builtin "len") (rLenS K) := h ▸ call_len_seq
theorem cTup (h : X.K = K := by rfl) : CallR X (.type "tuple") (rTupS K) := h ▸ call_tuple_of
theorem cLst (h : X.K = K := by rfl) : CallR X (.type "list") (rLstS K) := h ▸ call_list_of
theorem cSum (hc : X.calm = true) (h : X.K = K := by rfl) : CallR X (.builtin "sum") (rSum K) := h ▸ cr_sum hc
theorem cAny (hc : X.calm = true) (h : X.K = K := by rfl) : CallR X (.builtin "any") (rAny K) := h ▸ cr_any hc
theorem cAll (hc : X.calm = true) (h : X.K = K := by rfl) : CallR X (.builtin "all") (rAll K) := h ▸ cr_all hc
theorem inDK (hu : X.A.units + 65 < cLine) (h : X.K = K := by rfl) : OpR X (compareOp .In) (rInD K) := h ▸ op_inD hu
theorem notInDK (hu : X.A.units + 65 < cLine) (h : X.K = K := by rfl) : OpR X (compareOp .NotIn) (rNotInD K) := h ▸ op_notInD hu
theorem catA (h : X.K = K := by rfl) : OpR X (binaryOp .Add) (rCatA K) := h ▸ op_catA
theorem pgT (n : Nat) {es : List Expr} {k : Nat} {pos : Pos} {t : TGs} (hc : X.calm = true) (h : PGs X es t) (hK : X.K = K := by rfl) (hn : (assignEach es X.env).length = n := by rfl) (hst : (assignEach es X.env).findIdx? (·.1) = none := by rfl) :
    PG X (.Tuple es k pos) (gTup K n t) := hK ▸ pg_tup hc h hn hst
theorem piL {tg l : Expr} {tl : TE} (h : PE X l tl) (hK : X.K = K := by rfl) : PI X tg l (iList K tl) := hK ▸ pi_list h
theorem piT {tg l : Expr} {tl : TE} (h : PE X l tl) (hK : X.K = K := by rfl) : PI X tg l (iTup K tl) := hK ▸ pi_tup h
theorem peF {e : Expr} {ta : TE} {f : Str} {pos : Pos} (h : PE X e ta) (hb : attributeBase e f X.env (eval e X.env) = eval e X.env) (hK : X.K = K := by rfl) : PE X (.Attribute e f pos) (tFld K ta f) := hK ▸ pe_fld h hb
theorem pgn {i : Nat} {x : Str} {pos : Pos} (hN : X.N.Nodup) (hi : X.N[i]? = some x) (hx : Loc X.env.scope x) (hf : X.fn x = true ∨ X.env.scope.names.lookup x = some .local) : PG X (.Name x pos) (gName i) := pg_name hN hi hx hf
end
end DV
/-! Dv1: what is told of data alone: frozen data F within the heap H, slots by what they hold, what an expression is worth. -/
namespace DV
open PySem L2 NdefX

theorem optNone {α : Type} {o : Option α} (h : ¬ ∃ x, o = some x) : o = none := by
  cases o with
  | none => rfl
  | some x => exact absurd ⟨x, rfl⟩ h

/-! ### frozen data -/
def kD : Key → PyData
  | .inl i => .int i
  | .inr x => .str x
mutual
/-- v is the data d: its lists stand in F, its tuples there or in the written part -/
inductive Da (K : PySem.W.Frag) (F : Hp) : V → PyData → Prop
  | non : Da K F .non .none
  | bl (b : Bool) : Da K F (.bl b) (.bool b)
  | int (i : Int) : Da K F (.int i) (.int i)
  | str (x : Str) : Da K F (.str x) (.str x)
  | lst {a : Addr} {xs : List V} {ds : List PyData} : SqL K F a xs → DaAll K F xs ds → Da K F (.ref a) (.list ds)
  | tup {a : Addr} {xs : List V} {ds : List PyData} : SqT K F a xs → DaAll K F xs ds → Da K F (.ref a) (.tuple ds)
  | dic {a : Addr} {o : Obj} {kvs : List (Key × V)} {q : List (PyData × PyData)} : F a = some (.frz o (.dK kvs)) → DaKv K F kvs q → Da K F (.ref a) (.dict q)
inductive DaAll (K : PySem.W.Frag) (F : Hp) : List V → List PyData → Prop
  | nil : DaAll K F [] []
  | cons {v : V} {vs : List V} {d : PyData} {ds : List PyData} : Da K F v d → DaAll K F vs ds → DaAll K F (v :: vs) (d :: ds)
inductive DaKv (K : PySem.W.Frag) (F : Hp) : List (Key × V) → List (PyData × PyData) → Prop
  | nil : DaKv K F [] []
  | cons {k : Key} {v : V} {r : List (Key × V)} {d : PyData} {q : List (PyData × PyData)} : Da K F v d → DaKv K F r q → DaKv K F ((k, v) :: r) ((kD k, d) :: q)
end
mutual
/-- no dict inside -/
def noD : PyData → Bool
  | .list ds => noDs ds
  | .tuple ds => noDs ds
  | .dict _ => false
  | _ => true
def noDs : List PyData → Bool
  | [] => true
  | d :: ds => noD d && noDs ds
end
mutual
theorem da_dp {K : PySem.W.Frag} {F : Hp} : ∀ (d : PyData) (v : V), noD d = true → Da K F v d → Dp K F v d
  | .none, _, _, h => by cases h; exact .non
  | .bool b, _, _, h => by cases h; exact .bl b
  | .int i, _, _, h => by cases h; exact .int i
  | .str x, _, _, h => by cases h; exact .str x
  | .list ds, _, n, h => by
    cases h with
    | lst a b => exact .lst a (das_dp ds _ (by simpa only [noD] using n) b)
  | .tuple ds, _, n, h => by
    cases h with
    | tup a b => exact .tup a (das_dp ds _ (by simpa only [noD] using n) b)
  | .dict _, _, n, h => by simp [noD] at n
theorem das_dp {K : PySem.W.Frag} {F : Hp} : ∀ (ds : List PyData) (vs : List V), noDs ds = true → DaAll K F vs ds → DpAll K F vs ds
  | [], _, _, h => by cases h; exact .nil
  | d :: ds, _, n, h => by
    simp only [noDs, Bool.and_eq_true] at n
    cases h with
    | cons a b => exact .cons (da_dp d _ n.1 a) (das_dp ds _ n.2 b)
end
def NT (o : HO) : Prop := ∀ ps, o ≠ .tbl ps
/-- what may be written: no table, no thing told by its object -/
def Wr (u : HO) : Prop := (∀ ps, u ≠ .tbl ps) ∧ (∀ φ, u ≠ .ext φ) ∧ ∀ o w, u ≠ .frz o w
theorem wr_lst {xs : List V} : Wr (.lst xs) := ⟨fun _ h => (by cases h), fun _ h => (by cases h), fun _ _ h => (by cases h)⟩
theorem nt_lst {xs : List V} : NT (.lst xs) := fun _ h => (by cases h)
theorem nt_tup {xs : List V} : NT (.tup xs) := fun _ h => by cases h
theorem wr_dK {xs : List (Key × V)} : Wr (.dK xs) := ⟨fun _ h => (by cases h), fun _ h => (by cases h), fun _ _ h => (by cases h)⟩
theorem nt_dK {xs : List (Key × V)} : NT (.dK xs) := fun _ h => by cases h
theorem wr_dT {xs : List (List Key × V)} : Wr (.dT xs) := ⟨fun _ h => (by cases h), fun _ h => (by cases h), fun _ _ h => (by cases h)⟩
theorem nt_dT {xs : List (List Key × V)} : NT (.dT xs) := fun _ h => by cases h
def Sub (F H : Hp) : Prop := ∀ a o, F a = some o → H a = some o ∧ NT o
def Le (F F' : Hp) : Prop := ∀ a o, F a = some o → F' a = some o
theorem Le.refl (F : Hp) : Le F F := fun _ _ h => h
theorem Le.trans {F G K : Hp} (a : Le F G) (b : Le G K) : Le F K := fun x o h => b x o (a x o h)
theorem sqL_le {K : PySem.W.Frag} {F G : Hp} {a : Addr} {xs : List V} (e : Le F G) (h : SqL K F a xs) : SqL K G a xs := by
  rcases h with (h | ⟨o, h⟩) | h
  · exact .inl (.inl (e _ _ h))
  · exact .inl (.inr ⟨o, e _ _ h⟩)
  · exact .inr h
theorem sqT_le {K : PySem.W.Frag} {F G : Hp} {a : Addr} {xs : List V} (e : Le F G) (h : SqT K F a xs) : SqT K G a xs := by
  rcases h with (h | ⟨o, h⟩) | h
  · exact .inl (.inl (e _ _ h))
  · exact .inl (.inr ⟨o, e _ _ h⟩)
  · exact .inr h
mutual
theorem dp_le {K : PySem.W.Frag} {F G : Hp} (e : Le F G) : ∀ (d : PyData) (v : V), Da K F v d → Da K G v d
  | .none, _, h => by cases h; exact .non
  | .bool b, _, h => by cases h; exact .bl b
  | .int i, _, h => by cases h; exact .int i
  | .str x, _, h => by cases h; exact .str x
  | .list ds, _, h => by
    cases h with
    | lst a b => exact .lst (sqL_le e a) (dps_le e ds _ b)
  | .tuple ds, _, h => by
    cases h with
    | tup a b => exact .tup (sqT_le e a) (dps_le e ds _ b)
  | .dict q, _, h => by
    cases h with
    | dic a b => exact .dic (e _ _ a) (dpk_le e q _ b)
theorem dps_le {K : PySem.W.Frag} {F G : Hp} (e : Le F G) : ∀ (ds : List PyData) (vs : List V), DaAll K F vs ds → DaAll K G vs ds
  | [], _, h => by cases h; exact .nil
  | d :: ds, _, h => by
    cases h with
    | cons a b => exact .cons (dp_le e d _ a) (dps_le e ds _ b)
theorem dpk_le {K : PySem.W.Frag} {F G : Hp} (e : Le F G) : ∀ (q : List (PyData × PyData)) (r : List (Key × V)), DaKv K F r q → DaKv K G r q
  | [], _, h => by cases h; exact .nil
  | (_, d) :: q, _, h => by
    cases h with
    | cons a b => exact .cons (dp_le e d _ a) (dpk_le e q _ b)
end
theorem Sub.le {F H : Hp} (h : Sub F H) : Le F H := fun a o e => (h a o e).1
theorem dps_len {K : PySem.W.Frag} {F : Hp} : ∀ {vs : List V} {ds : List PyData}, DaAll K F vs ds → vs.length = ds.length
  | _, _, .nil => rfl
  | _, _, .cons _ t => by simp [dps_len t]
theorem dps_get {K : PySem.W.Frag} {F : Hp} : ∀ {vs : List V} {ds : List PyData} {i : Nat} {d : PyData}, DaAll K F vs ds → ds[i]? = some d → ∃ v, vs[i]? = some v ∧ Da K F v d
  | _, _, _, _, .nil, e => by simp at e
  | _, _, 0, _, .cons h _, e => by simp at e; subst e; exact ⟨_, rfl, h⟩
  | _, _, i + 1, d, .cons _ t, e => by
    obtain ⟨v, h1, h2⟩ := dps_get (i := i) t (by simpa using e)
    exact ⟨v, by simpa using h1, h2⟩
theorem dps_get' {K : PySem.W.Frag} {F : Hp} : ∀ {vs : List V} {ds : List PyData} {i : Nat} {v : V}, DaAll K F vs ds → vs[i]? = some v → ∃ d, ds[i]? = some d ∧ Da K F v d
  | _, _, _, _, .nil, e => by simp at e
  | _, _, 0, _, .cons h _, e => by simp at e; subst e; exact ⟨_, rfl, h⟩
  | _, _, i + 1, d, .cons _ t, e => by
    obtain ⟨v, h1, h2⟩ := dps_get' (i := i) t (by simpa using e)
    exact ⟨v, by simpa using h1, h2⟩
theorem dps_app {K : PySem.W.Frag} {F : Hp} : ∀ {vs us : List V} {ds es : List PyData}, DaAll K F vs ds → DaAll K F us es → DaAll K F (vs ++ us) (ds ++ es)
  | _, _, _, _, .nil, h => h
  | _, _, _, _, .cons h t, k => .cons h (dps_app t k)
theorem dps_one {K : PySem.W.Frag} {F : Hp} {v : V} {d : PyData} (h : Da K F v d) : DaAll K F [v] [d] := .cons h .nil
theorem dps_rev {K : PySem.W.Frag} {F : Hp} : ∀ {vs : List V} {ds : List PyData}, DaAll K F vs ds → DaAll K F vs.reverse ds.reverse
  | _, _, .nil => .nil
  | _, _, .cons h t => by
    rw [List.reverse_cons, List.reverse_cons]
    exact dps_app (dps_rev t) (dps_one h)
theorem dps_drop {K : PySem.W.Frag} {F : Hp} : ∀ (n : Nat) {vs : List V} {ds : List PyData}, DaAll K F vs ds → DaAll K F (vs.drop n) (ds.drop n)
  | 0, _, _, h => h
  | _ + 1, _, _, .nil => .nil
  | n + 1, _, _, .cons _ t => dps_drop n t
theorem dps_take {K : PySem.W.Frag} {F : Hp} : ∀ (n : Nat) {vs : List V} {ds : List PyData}, DaAll K F vs ds → DaAll K F (vs.take n) (ds.take n)
  | 0, _, _, _ => .nil
  | _ + 1, _, _, .nil => .nil
  | n + 1, _, _, .cons h t => .cons h (dps_take n t)
theorem dps_set {K : PySem.W.Frag} {F : Hp} {v : V} {d : PyData} (h : Da K F v d) : ∀ (n : Nat) {vs : List V} {ds : List PyData}, DaAll K F vs ds → DaAll K F (vs.set n v) (ds.set n d)
  | _, _, _, .nil => .nil
  | 0, _, _, .cons _ t => .cons h t
  | n + 1, _, _, .cons k t => .cons k (dps_set h n t)

/-! ### the world beside: what defs of the law may change (the source of draws) -/
structure Wo where
  S : Type
  M : Addr → Prop
  hold : S → Hp → Prop
  stab : ∀ {s : S} {H H' : Hp}, (∀ a o, M a → H a = some o → NT o → H' a = some o) → hold s H → hold s H'
  there : ∀ {s : S} {H : Hp} {a : Addr}, hold s H → M a → ∃ o, H a = some o ∧ Wr o
/-- no world -/
def wo0 : Wo := ⟨Unit, fun _ => False, fun _ _ => True, fun _ _ => trivial, fun _ h => h.elim⟩

/-- later heaps: all but what M tells and the tables stays; F grows by new objects alone -/
structure Ext (M : Addr → Prop) (T : List NTab) (F H F' H' : Hp) : Prop where
  hx : ∀ a o, H a = some o → NT o → ¬ M a → H' a = some o
  dom : ∀ a o, H a = some o → ∃ o', H' a = some o'
  fx : Le F F'
  sub : Sub F' H'
  fr : ∀ a o, H a = some o → F' a = F a
  tab : TabsN T H'
section
variable {M : Addr → Prop} {T : List NTab} {F H F' H' F'' H'' : Hp}
theorem Ext.refl (s : Sub F H) (t : TabsN T H) : Ext M T F H F H := ⟨fun _ _ h _ _ => h, fun _ o h => ⟨o, h⟩, Le.refl F, s, fun _ _ _ => rfl, t⟩
theorem Ext.trans (a : Ext M T F H F' H') (b : Ext M T F' H' F'' H'') : Ext M T F H F'' H'' :=
  ⟨fun x o h n m => b.hx x o (a.hx x o h n m) n m, fun x o h => let ⟨o', e⟩ := a.dom x o h; b.dom x o' e, a.fx.trans b.fx, b.sub, fun x o h => by
    obtain ⟨o', e⟩ := a.dom x o h
    rw [b.fr x o' e, a.fr x o h], b.tab⟩
theorem Ext.mono {M' : Addr → Prop} (a : Ext M T F H F' H') (h : ∀ x, M x → M' x) : Ext M' T F H F' H' := ⟨fun x o e n m => a.hx x o e n fun z => m (h x z), a.dom, a.fx, a.sub, a.fr, a.tab⟩
/-- a new object, frozen -/
theorem Ext.new {p : Addr} {o : HO} (s : Sub F H) (t : TabsN T H) (h : H p = none) (n : NT o) : Ext M T F H (upd F p o) (upd H p o) := by
  have fp : F p = none := by
    cases e : F p with
    | none => rfl
    | some u => rw [(s p u e).1] at h; cases h
  refine ⟨fun a u e _ _ => by rw [upd_ne (ne_of_none e h)]; exact e, fun a u e => ⟨u, by rw [upd_ne (ne_of_none e h)]; exact e⟩, fun a u e => by rw [upd_ne (ne_of_none e fp)]; exact e, fun a u e => ?_, fun a u e => by rw [upd_ne (ne_of_none e h)], t.ext fun b o e => by rw [upd_ne (ne_of_none e h)]; exact e⟩
  by_cases q : a = p
  · subst q
    rw [upd_same] at e
    cases e
    exact ⟨upd_same, n⟩
  · rw [upd_ne q] at e
    obtain ⟨h1, h2⟩ := s a u e
    exact ⟨by rw [upd_ne q]; exact h1, h2⟩
/-- a new object, not frozen -/
theorem Ext.fresh {p : Addr} {o : HO} (s : Sub F H) (t : TabsN T H) (h : H p = none) : Ext M T F H F (upd H p o) :=
  ⟨fun a u e _ _ => by rw [upd_ne (ne_of_none e h)]; exact e, fun a u e => ⟨u, by rw [upd_ne (ne_of_none e h)]; exact e⟩, Le.refl F, fun a u e => by
    obtain ⟨h1, h2⟩ := s a u e
    exact ⟨by rw [upd_ne (ne_of_none h1 h)]; exact h1, h2⟩, fun _ _ _ => rfl, t.ext fun b o e => by rw [upd_ne (ne_of_none e h)]; exact e⟩
/-- what is not frozen is changed -/
theorem Ext.write {p : Addr} {o u : HO} (e : Ext M T F H F' H') (h0 : H p = none) (hf : F' p = none) (hp : H' p = some u) (nt : Wr u) : Ext M T F H F' (upd H' p o) := by
  refine ⟨fun a v q n m => by rw [upd_ne (ne_of_none q h0)]; exact e.hx a v q n m, fun a v q => by rw [upd_ne (ne_of_none q h0)]; exact e.dom a v q, e.fx, fun a v q => ?_, e.fr, fun q hq => ?_⟩
  · obtain ⟨h1, h2⟩ := e.sub a v q
    exact ⟨by rw [upd_ne (ne_of_none q hf)]; exact h1, h2⟩
  · obtain ⟨ps, t1, t2, t3⟩ := e.tab q hq
    have k : ∀ b v, H' b = some v → v ≠ u → upd H' p o b = some v := fun b v q z => by
      rw [upd_ne (fun z' => by rw [z', hp] at q; exact z (Option.some.inj q).symm)]
      exact q
    refine ⟨ps, k _ _ t1 (fun z => nt.1 ps z.symm), t2, fun pos cv hc => ?_⟩
    obtain ⟨c, c1, c2⟩ := t3 pos cv hc
    exact ⟨c, c1, k _ _ c2 fun z => nt.2.1 _ z.symm⟩
end

/-! ### what a slot, an answer holds -/
inductive B where
  | un
  | val (v : V)
  | dat (d : PyData)
  | own (ds : List PyData)
  | bor (ds : List PyData)
  | odk (kvs : List (Key × PyData))
  | bdk (kvs : List (Key × PyData))
  | odt (kvs : List (List Key × PyData))
  | bdt (kvs : List (List Key × PyData))
  | key (k : List Key)
  | fn (fp : List (Addr × HO)) (F1 : Hp) (φ : V → Prop)
  | fdk (kvs : List (Key × PyData))
  | pdk (d : PyData) (kvs : List (Key × PyData))
def B.isOwn : B → Bool
  | .own _ => true
  | .odk _ => true
  | .odt _ => true
  | _ => false
def B.isBor : B → Bool
  | .bor _ => true
  | .bdk _ => true
  | .bdt _ => true
  | .pdk _ _ => true
  | _ => false
/-- pairs of a dict, the values data -/
inductive KAll (K : PySem.W.Frag) (F : Hp) {κ : Type} : List (κ × V) → List (κ × PyData) → Prop
  | nil : KAll K F [] []
  | cons {k : κ} {v : V} {d : PyData} {r : List (κ × V)} {q : List (κ × PyData)} : Da K F v d → KAll K F r q → KAll K F ((k, v) :: r) ((k, d) :: q)
theorem kall_le {K : PySem.W.Frag} {F G : Hp} (e : Le F G) {κ : Type} {r : List (κ × V)} {q : List (κ × PyData)} (h : KAll K F r q) : KAll K G r q := by
  induction h with
  | nil => exact .nil
  | cons a _ ih => exact .cons (dp_le e _ _ a) ih
structure Cf where
  K : PySem.W.Frag
  T : List NTab
  w : Wo
/-- the things that a function rests on stand as they did; nobody writes them -/
def FnKeep (fp : List (Addr × HO)) (M : Addr → Prop) (H : Hp) : Prop := ∀ p ∈ fp, H p.1 = some p.2 ∧ ¬ Wr p.2 ∧ NT p.2 ∧ ¬ M p.1
theorem FnKeep.upd {fp : List (Addr × HO)} {M : Addr → Prop} {H : Hp} {a : Addr} {u o : HO} (k : FnKeep fp M H) (h : H a = some u) (w : Wr u) : FnKeep fp M (upd H a o) := fun p hp => by
  obtain ⟨h1, h2, h3, h4⟩ := k p hp
  refine ⟨?_, h2, h3, h4⟩
  by_cases e : p.1 = a
  · rw [e, h] at h1
    cases h1
    exact absurd w h2
  · rw [upd_ne e]
    exact h1
/-- v, in the heap H with the frozen F, is what b tells; what stood ahead: H0 -/
def Bok (C : Cf) (H0 F H : Hp) : B → V → Prop
  | .un, _ => True
  | .val u, v => v = u
  | .dat d, v => Da C.K F v d
  | .own ds, v => ∃ a xs, v = .ref a ∧ H0 a = none ∧ ¬ C.w.M a ∧ F a = none ∧ H a = some (.lst xs) ∧ DaAll C.K F xs ds
  | .bor ds, v => ∃ a xs, v = .ref a ∧ ¬ C.w.M a ∧ F a = none ∧ H a = some (.lst xs) ∧ DaAll C.K F xs ds
  | .odk ds, v => ∃ a xs, v = .ref a ∧ H0 a = none ∧ ¬ C.w.M a ∧ F a = none ∧ H a = some (.dK xs) ∧ KAll C.K F xs ds
  | .bdk ds, v => ∃ a xs, v = .ref a ∧ ¬ C.w.M a ∧ F a = none ∧ H a = some (.dK xs) ∧ KAll C.K F xs ds
  | .odt ds, v => ∃ a xs, v = .ref a ∧ H0 a = none ∧ ¬ C.w.M a ∧ F a = none ∧ H a = some (.dT xs) ∧ KAll C.K F xs ds
  | .bdt ds, v => ∃ a xs, v = .ref a ∧ ¬ C.w.M a ∧ F a = none ∧ H a = some (.dT xs) ∧ KAll C.K F xs ds
  | .key k, v => ∃ a, v = .ref a ∧ F a = some (.tup (k.map kV))
  | .fn fp F1 φ, v => φ v ∧ Le F1 F ∧ FnKeep fp C.w.M H
  | .fdk ds, v => ∃ a o xs, v = .ref a ∧ ¬ C.w.M a ∧ H a = some (.frz o (.dK xs)) ∧ KAll C.K F xs ds
  | .pdk d ds, v => ∃ p v1 a xs, v = .ref p ∧ F p = some (.tup [v1, .ref a]) ∧ Da C.K F v1 d ∧ H0 a = none ∧ ¬ C.w.M a ∧ F a = none ∧ H a = some (.dK xs) ∧ KAll C.K F xs ds
abbrev Cf.Ext (C : Cf) (F H F' H' : Hp) : Prop := DV.Ext C.w.M C.T F H F' H'
section
variable {C : Cf} {H0 H00 F H F' H' : Hp} {b : B} {v : V}
theorem Bok.ext (h : Bok C H0 F H b v) (e : C.Ext F H F' H') : Bok C H0 F' H' b v := by
  cases b with
  | un => trivial
  | val u => exact h
  | dat d => exact dp_le e.fx d v h
  | own ds =>
    obtain ⟨a, xs, h1, h2, h3, h4, h5, h6⟩ := h
    exact ⟨a, xs, h1, h2, h3, (e.fr a _ h5).trans h4, e.hx a _ h5 nt_lst h3, dps_le e.fx _ _ h6⟩
  | bor ds =>
    obtain ⟨a, xs, h1, h3, h4, h5, h6⟩ := h
    exact ⟨a, xs, h1, h3, (e.fr a _ h5).trans h4, e.hx a _ h5 nt_lst h3, dps_le e.fx _ _ h6⟩
  | odk ds =>
    obtain ⟨a, xs, h1, h2, h3, h4, h5, h6⟩ := h
    exact ⟨a, xs, h1, h2, h3, (e.fr a _ h5).trans h4, e.hx a _ h5 nt_dK h3, kall_le e.fx h6⟩
  | bdk ds =>
    obtain ⟨a, xs, h1, h3, h4, h5, h6⟩ := h
    exact ⟨a, xs, h1, h3, (e.fr a _ h5).trans h4, e.hx a _ h5 nt_dK h3, kall_le e.fx h6⟩
  | odt ds =>
    obtain ⟨a, xs, h1, h2, h3, h4, h5, h6⟩ := h
    exact ⟨a, xs, h1, h2, h3, (e.fr a _ h5).trans h4, e.hx a _ h5 nt_dT h3, kall_le e.fx h6⟩
  | bdt ds =>
    obtain ⟨a, xs, h1, h3, h4, h5, h6⟩ := h
    exact ⟨a, xs, h1, h3, (e.fr a _ h5).trans h4, e.hx a _ h5 nt_dT h3, kall_le e.fx h6⟩
  | key k =>
    obtain ⟨a, h1, h2⟩ := h
    exact ⟨a, h1, e.fx a _ h2⟩
  | fn fp F1 φ => exact ⟨h.1, h.2.1.trans e.fx, fun p hp => let ⟨h1, h2, h3, h4⟩ := h.2.2 p hp; ⟨e.hx _ _ h1 h3 h4, h2, h3, h4⟩⟩
  | fdk ds =>
    obtain ⟨a, o, xs, h1, h3, h5, h6⟩ := h
    exact ⟨a, o, xs, h1, h3, e.hx a _ h5 (fun _ z => by cases z) h3, kall_le e.fx h6⟩
  | pdk d ds =>
    obtain ⟨p, v1, a, xs, h1, hp, hd, h2, h3, h4, h5, h6⟩ := h
    exact ⟨p, v1, a, xs, h1, e.fx p _ hp, dp_le e.fx _ _ hd, h2, h3, (e.fr a _ h5).trans h4, e.hx a _ h5 nt_dK h3, kall_le e.fx h6⟩
/-- new behind H is new behind what stood ahead of it -/
theorem Bok.base (h : Bok C H0 F H b v) (e : ∀ a o, H00 a = some o → ∃ o', H0 a = some o') : Bok C H00 F H b v := by
  have k : ∀ a, H0 a = none → H00 a = none := fun a n => by
    cases q : H00 a with
    | none => rfl
    | some o =>
      obtain ⟨o', z⟩ := e a o q
      rw [z] at n
      cases n
  cases b with
  | un => trivial
  | val u => exact h
  | dat d => exact h
  | own ds =>
    obtain ⟨a, xs, h1, h2, h3⟩ := h
    exact ⟨a, xs, h1, k a h2, h3⟩
  | bor ds => exact h
  | odk ds =>
    obtain ⟨a, xs, h1, h2, h3⟩ := h
    exact ⟨a, xs, h1, k a h2, h3⟩
  | bdk ds => exact h
  | odt ds =>
    obtain ⟨a, xs, h1, h2, h3⟩ := h
    exact ⟨a, xs, h1, k a h2, h3⟩
  | bdt ds => exact h
  | key k => exact h
  | fn fp F1 φ => exact h
  | fdk ds => exact h
  | pdk d ds =>
    obtain ⟨p, v1, a, xs, h1, hp, hd, h2, h3⟩ := h
    exact ⟨p, v1, a, xs, h1, hp, hd, k a h2, h3⟩
theorem Bok.new (h : Bok C H0 F H b v) (o : b.isOwn = true) : ∃ a, v = .ref a ∧ H0 a = none ∧ (∃ u, H a = some u ∧ Wr u) ∧ F a = none ∧ ¬ C.w.M a := by
  cases b with
  | own ds =>
    obtain ⟨a, xs, h1, h2, h3, h4, h5, _⟩ := h
    exact ⟨a, h1, h2, ⟨_, h5, wr_lst⟩, h4, h3⟩
  | odk ds =>
    obtain ⟨a, xs, h1, h2, h3, h4, h5, _⟩ := h
    exact ⟨a, h1, h2, ⟨_, h5, wr_dK⟩, h4, h3⟩
  | odt ds =>
    obtain ⟨a, xs, h1, h2, h3, h4, h5, _⟩ := h
    exact ⟨a, h1, h2, ⟨_, h5, wr_dT⟩, h4, h3⟩
  | _ => cases o
/-- told of a slot: nothing, or its value -/
def SlotOk (C : Cf) (H0 F H : Hp) (b : B) (x : Option V) : Prop := b = .un ∨ (b.isBor = false ∧ ∃ v, x = some v ∧ Bok C H0 F H b v)
/-- the slots at a place of a def's body: what stood at its entry (F0, H0) -/
structure EnvOk (C : Cf) (F0 H0 : Hp) (σ : L2.St) (F H : Hp) (env : List B) (s : C.w.S) : Prop where
  ext : C.Ext F0 H0 F H
  hold : C.w.hold s H
  len : σ.length = env.length
  ok : ∀ (i : Nat) (b : B), env[i]? = some b → ∃ x, σ[i]? = some x ∧ SlotOk C H0 F H b x
  sep : ∀ (i j : Nat) (b c : B) (a : Addr), env[i]? = some b → env[j]? = some c → b.isOwn = true → c.isOwn = true → σ[i]? = some (some (.ref a)) → σ[j]? = some (some (.ref a)) → i = j
  nf : ∀ a, C.w.M a → F a = none
end
abbrev Env := List B
section
variable {C : Cf} {F0 H0 F H F' H' : Hp} {σ : L2.St} {env : Env} {s s' : C.w.S}
theorem EnvOk.sub (e : EnvOk C F0 H0 σ F H env s) : Sub F H := e.ext.sub
theorem EnvOk.tab (e : EnvOk C F0 H0 σ F H env s) : TabsN C.T H := e.ext.tab
theorem EnvOk.go (e : EnvOk C F0 H0 σ F H env s) (x : C.Ext F H F' H') (h : C.w.hold s' H') : EnvOk C F0 H0 σ F' H' env s' :=
  ⟨e.ext.trans x, h, e.len, fun i b q => by
    obtain ⟨y, h1, h2⟩ := e.ok i b q
    refine ⟨y, h1, h2.imp id fun ⟨nb, v, h3, h4⟩ => ⟨nb, v, h3, h4.ext x⟩⟩, e.sep, fun a m => by
    obtain ⟨o, z, _⟩ := C.w.there e.hold m
    rw [x.fr a o z]
    exact e.nf a m⟩
theorem EnvOk.refl (x : Sub F H) (t : TabsN C.T H) (h : C.w.hold s H) (nf : ∀ a, C.w.M a → F a = none) (l : σ.length = env.length) (k : ∀ (i : Nat) (b : B), env[i]? = some b → ∃ y, σ[i]? = some y ∧ SlotOk C H F H b y ∧ b.isOwn = false) : EnvOk C F H σ F H env s := by
  refine ⟨.refl x t, h, l, fun i b q => let ⟨y, h1, h2, _⟩ := k i b q; ⟨y, h1, h2⟩, fun i j b c a e1 e2 o1 _ _ _ => ?_, nf⟩
  obtain ⟨_, _, _, z⟩ := k i b e1
  rw [z] at o1
  cases o1
/-- a slot is stored -/
theorem EnvOk.set (e : EnvOk C F0 H0 σ F H env s) (i : Nat) {b : B} {v : V} (nb : b.isBor = false) (h : Bok C H0 F H b v) (n : b.isOwn = true → ∀ (j : Nat) (a : Addr), v = .ref a → σ[j]? ≠ some (some (.ref a)) ∨ j = i ∨ ∀ c, env[j]? = some c → c.isOwn = false) :
    EnvOk C F0 H0 (σ.set i (some v)) F H (env.set i b) s := by
  refine ⟨e.ext, e.hold, by rw [List.length_set, List.length_set, e.len], fun j c q => ?_, fun j k c d a q1 q2 o1 o2 v1 v2 => ?_, e.nf⟩
  · rw [List.getElem?_set] at q ⊢
    by_cases hij : i = j
    · subst hij
      by_cases hl : i < env.length
      · rw [if_pos rfl, if_pos hl] at q
        rw [if_pos rfl, if_pos (by rw [e.len]; exact hl)]
        cases q
        exact ⟨_, rfl, .inr ⟨nb, v, rfl, h⟩⟩
      · rw [if_pos rfl, if_neg hl] at q
        cases q
    · rw [if_neg hij] at q ⊢
      exact e.ok j c q
  · by_cases hj : i = j
    · by_cases hk : i = k
      · exact hj.symm.trans hk
      · exfalso
        subst hj
        have hl : i < σ.length := by
          have := (List.getElem?_eq_some_iff.mp v1).1
          simpa using this
        rw [List.getElem?_set_self hl] at v1
        rw [List.getElem?_set_self (by rw [← e.len]; exact hl)] at q1
        rw [List.getElem?_set_ne hk] at v2 q2
        cases v1
        cases q1
        rcases n o1 k a rfl with z | z | z
        · exact z v2
        · exact hk z.symm
        · rw [z d q2] at o2
          cases o2
    · by_cases hk : i = k
      · exfalso
        subst hk
        have hl : i < σ.length := by
          have := (List.getElem?_eq_some_iff.mp v2).1
          simpa using this
        rw [List.getElem?_set_self hl] at v2
        rw [List.getElem?_set_self (by rw [← e.len]; exact hl)] at q2
        rw [List.getElem?_set_ne hj] at v1 q1
        cases v2
        cases q2
        rcases n o2 j a rfl with z | z | z
        · exact z v1
        · exact hj z.symm
        · rw [z c q1] at o1
          cases o1
      · rw [List.getElem?_set_ne hj] at v1 q1
        rw [List.getElem?_set_ne hk] at v2 q2
        exact e.sep j k c d a q1 q2 o1 o2 v1 v2
theorem EnvOk.setD (e : EnvOk C F0 H0 σ F H env s) (i : Nat) {b : B} {v : V} (nb : b.isBor = false) (h : Bok C H0 F H b v) (o : b.isOwn = false) : EnvOk C F0 H0 (σ.set i (some v)) F H (env.set i b) s :=
  e.set i nb h fun z => by rw [o] at z; cases z
/-- an owned slot's value stands at no younger address -/
theorem EnvOk.own_lt (e : EnvOk C F0 H0 σ F H env s) {j : Nat} {c : B} (q : env[j]? = some c) (o : c.isOwn = true) {a : Addr} (v : σ[j]? = some (some (.ref a))) : ∃ u, H a = some u ∧ Wr u ∧ F a = none ∧ ¬ C.w.M a ∧ H0 a = none := by
  obtain ⟨x, h1, h2⟩ := e.ok j c q
  rcases h2 with h2 | ⟨_, w, h2, h3⟩
  · subst h2
    cases o
  · rw [h1, h2] at v
    cases v
    obtain ⟨a', r, h4, ⟨u, h5, h6⟩, h7, h8⟩ := h3.new o
    cases r
    exact ⟨u, h5, h6, h7, h8, h4⟩
/-- what an expression gave is stored: told new behind H, in a later heap -/
theorem EnvOk.put (e : EnvOk C F0 H0 σ F H env s) (x : C.Ext F H F' H') (hs : C.w.hold s' H') (i : Nat) {b : B} {v : V} (nb : b.isBor = false) (h : Bok C H F' H' b v) : EnvOk C F0 H0 (σ.set i (some v)) F' H' (env.set i b) s' := by
  refine (e.go x hs).set i nb (h.base e.ext.dom) fun o j a ev => ?_
  obtain ⟨a', r, h1, _⟩ := h.new o
  rw [ev] at r
  cases r
  by_cases hc : ∃ c, env[j]? = some c ∧ c.isOwn = true
  · obtain ⟨c, q, oc⟩ := hc
    refine .inl fun z => ?_
    obtain ⟨u, hu, _⟩ := e.own_lt q oc z
    rw [h1] at hu
    cases hu
  · refine .inr (.inr fun c q => ?_)
    cases z : c.isOwn with
    | false => rfl
    | true => exact absurd ⟨c, q, z⟩ hc
/-- less is told of the slots -/
def Wk (b c : B) : Prop := c = .un ∨ c = b
theorem EnvOk.weak (e : EnvOk C F0 H0 σ F H env s) {env' : Env} (l : env'.length = env.length) (k : ∀ (i : Nat) (b c : B), env[i]? = some b → env'[i]? = some c → Wk b c) : EnvOk C F0 H0 σ F H env' s := by
  have at_ : ∀ (i : Nat) (c : B), env'[i]? = some c → ∃ b, env[i]? = some b ∧ Wk b c := fun i c q => by
    have hi : i < env.length := by
      rw [← l]
      exact (List.getElem?_eq_some_iff.mp q).1
    exact ⟨env[i], List.getElem?_eq_getElem hi, k i _ c (List.getElem?_eq_getElem hi) q⟩
  refine ⟨e.ext, e.hold, e.len.trans l.symm, fun i c q => ?_, fun i j c d a q1 q2 o1 o2 v1 v2 => ?_, e.nf⟩
  · obtain ⟨b, q2, w⟩ := at_ i c q
    obtain ⟨x, h1, h2⟩ := e.ok i b q2
    rcases w with w | w
    · exact ⟨x, h1, .inl w⟩
    · exact ⟨x, h1, by rw [w]; exact h2⟩
  · obtain ⟨b1, z1, w1⟩ := at_ i c q1
    obtain ⟨b2, z2, w2⟩ := at_ j d q2
    rcases w1 with w1 | w1
    · rw [w1] at o1
      cases o1
    · rcases w2 with w2 | w2
      · rw [w2] at o2
        cases o2
      · rw [w1] at o1
        rw [w2] at o2
        exact e.sep i j b1 b2 a z1 z2 o1 o2 v1 v2
theorem EnvOk.at (e : EnvOk C F0 H0 σ F H env s) {i : Nat} {b : B} (q : env[i]? = some b) (n : b ≠ .un) : ∃ v, σ[i]? = some (some v) ∧ Bok C H0 F H b v := by
  obtain ⟨x, h1, h2⟩ := e.ok i b q
  rcases h2 with h2 | ⟨_, v, h2, h3⟩
  · exact absurd h2 n
  · exact ⟨v, by rw [h1, h2], h3⟩
end
end DV
/-! Dv2: judgements over data: expressions, tests, arguments, targets, walks, statements; rules of plain ones. -/
namespace DV
open PySem L2 NdefX

abbrev Cf.ExtS (C : Cf) (F H F' H' : Hp) : Prop := DV.Ext (fun _ => False) C.T F H F' H'
section
variable {C : Cf} {F H F' H' : Hp} {s : C.w.S}
theorem extS (e : C.ExtS F H F' H') : C.Ext F H F' H' := e.mono fun _ h => h.elim
theorem holdS (e : C.ExtS F H F' H') (h : C.w.hold s H) : C.w.hold s H' := C.w.stab (fun a o _ q n => e.hx a o q n id) h
end
mutual
theorem noD_of : ∀ d : PyData, d.canLay0 = true → noD d = true
  | .none, _ => by simp [noD]
  | .bool _, _ => by simp [noD]
  | .int _, _ => by simp [noD]
  | .str _, _ => by simp [noD]
  | .list ds, h => by
    simp only [PyData.canLay0] at h
    simp only [noD]
    exact noDs_of ds h
  | .tuple ds, h => by
    simp only [PyData.canLay0] at h
    simp only [noD]
    exact noDs_of ds h
  | .dict _, h => by simp [PyData.canLay0] at h
theorem noDs_of : ∀ ds : List PyData, PyData.canLayAll0 ds = true → noDs ds = true
  | [], _ => by simp [noDs]
  | d :: ds, h => by
    simp only [PyData.canLayAll0, Bool.and_eq_true] at h
    simp only [noDs, Bool.and_eq_true]
    exact ⟨noD_of d h.1, noDs_of ds h.2⟩
end
def tkD (k : List Key) : PyData := .tuple (k.map kD)
theorem dps_kD {K : PySem.W.Frag} {F : Hp} : ∀ k : List Key, DaAll K F (k.map kV) (k.map kD)
  | [] => .nil
  | .inl i :: k => .cons (.int i) (dps_kD k)
  | .inr x :: k => .cons (.str x) (dps_kD k)
theorem dp_tkD {K : PySem.W.Frag} {F : Hp} {a : Addr} {k : List Key} (h : F a = some (.tup (k.map kV))) : Da K F (.ref a) (tkD k) := .tup (.of h) (dps_kD k)
/-- the data that b is, read in H -/
def B.asD : B → Option PyData
  | .dat d => some d
  | .own ds => some (.list ds)
  | .bor ds => some (.list ds)
  | .key k => some (tkD k)
  | _ => none
/-- the data that b can be from now on -/
def B.toD : B → Option PyData
  | .dat d => some d
  | .own ds => some (.list ds)
  | .key k => some (tkD k)
  | _ => none
/-- the items of a list that is read -/
def B.lst : B → Option (List PyData)
  | .dat (.list ds) => some ds
  | .own ds => some ds
  | .bor ds => some ds
  | _ => none
section
variable {C : Cf} {H0 F H : Hp} {b : B} {v : V} {d : PyData} {ds : List PyData}
theorem Bok.asD (h : Bok C H0 F H b v) (s : Sub F H) (e : b.asD = some d) (nd : noD d = true) : Dp C.K H v d := by
  refine da_dp d v nd ?_
  cases b with
  | dat d' =>
    cases e
    exact dp_le s.le d v h
  | own ds =>
    cases e
    obtain ⟨a, xs, rfl, _, _, _, h1, h2⟩ := h
    exact .lst (.of h1) (dps_le s.le _ _ h2)
  | bor ds =>
    cases e
    obtain ⟨a, xs, rfl, _, _, h1, h2⟩ := h
    exact .lst (.of h1) (dps_le s.le _ _ h2)
  | key k =>
    cases e
    obtain ⟨a, rfl, h1⟩ := h
    exact dp_le s.le _ _ (dp_tkD h1)
  | _ => cases e
theorem Bok.lst (h : Bok C H0 F H b v) (s : Sub F H) (e : b.lst = some ds) : ∃ a xs, v = .ref a ∧ SqL C.K H a xs ∧ DaAll C.K F xs ds := by
  cases b with
  | dat d' =>
    cases d' with
    | list es =>
      cases e
      cases h with
      | lst h1 h2 => exact ⟨_, _, rfl, sqL_le s.le h1, h2⟩
    | _ => cases e
  | own es =>
    cases e
    obtain ⟨a, xs, rfl, _, _, _, h1, h2⟩ := h
    exact ⟨a, xs, rfl, .of h1, h2⟩
  | bor es =>
    cases e
    obtain ⟨a, xs, rfl, _, _, h1, h2⟩ := h
    exact ⟨a, xs, rfl, .of h1, h2⟩
  | _ => cases e
end

/-! ### judgements -/
/-- the values of new owned things -/
def ownVs : List B → List V → List V
  | b :: bs, v :: vs => if b.isOwn = true then v :: ownVs bs vs else ownVs bs vs
  | _, _ => []
section
variable (C : Cf)
def Dv (te : TE) (env : Env) (s : C.w.S) (r : B) (s' : C.w.S) : Prop := ∀ (F0 H0 : Hp) (σ : L2.St) (F H : Hp), EnvOk C F0 H0 σ F H env s → ∀ Q : VK,
  (∀ v F' H', C.Ext F H F' H' → C.w.hold s' H' → Bok C H F' H' r v → Q v H') → te σ H Q
inductive BAll (H0 F H : Hp) : List B → List V → Prop
  | nil : BAll H0 F H [] []
  | cons {b : B} {v : V} {bs : List B} {vs : List V} : Bok C H0 F H b v → BAll H0 F H bs vs → (b.isOwn = true → v ∉ ownVs bs vs) → BAll H0 F H (b :: bs) (v :: vs)
def DvA (ta : TA) (env : Env) (s : C.w.S) (rs : List B) (s' : C.w.S) : Prop := ∀ (F0 H0 : Hp) (σ : L2.St) (F H : Hp), EnvOk C F0 H0 σ F H env s → ∀ Q : List V → Hp → Prop,
  (∀ vs F' H', C.Ext F H F' H' → C.w.hold s' H' → BAll C H F' H' rs vs → Q vs H') → ta σ H Q
def Dt (tt : TT) (env : Env) (s : C.w.S) (b : Bool) (s' : C.w.S) : Prop := ∀ (F0 H0 : Hp) (σ : L2.St) (F H : Hp), EnvOk C F0 H0 σ F H env s → ∀ Q : Bool → Hp → Prop,
  (∀ F' H', C.Ext F H F' H' → C.w.hold s' H' → Q b H') → tt σ H Q
/-- a target takes data: the slots of js are stored -/
def Dg (g : TG) (d : PyData) (env env' : Env) (js : List Nat) : Prop := ∀ (F0 H0 : Hp) (σ : L2.St) (F H : Hp) (s : C.w.S) (v : V), EnvOk C F0 H0 σ F H env s → Da C.K F v d → ∀ Q : L2.St → Hp → Prop,
  (∀ σ', EnvOk C F0 H0 σ' F H env' s → σ'.length = σ.length → (∀ j, j ∉ js → σ'[j]? = σ[j]?) → Q σ' H) → g v σ H Q
def Dgs (g : TGs) (ds : List PyData) (env env' : Env) (js : List Nat) : Prop := ∀ (F0 H0 : Hp) (σ : L2.St) (F H : Hp) (s : C.w.S) (vs : List V), EnvOk C F0 H0 σ F H env s → DaAll C.K F vs ds → ∀ Q : L2.St → Hp → Prop,
  (∀ σ', EnvOk C F0 H0 σ' F H env' s → σ'.length = σ.length → (∀ j, j ∉ js → σ'[j]? = σ[j]?) → Q σ' H) → g vs σ H Q
/-- what is walked gives the data ds, one by one, whatever happens to other objects -/
def Ylds (J : It) (F : Hp) (ds : List PyData) : Prop := ∀ F' H', Le F F' → Sub F' H' → TabsN C.T H' →
  (∀ (i : Nat) (d : PyData), ds[i]? = some d → J.go i H' ∧ ∀ x H2, J.yld i H' x H2 → ∃ F2, C.ExtS F' H' F2 H2 ∧ Da C.K F2 x d) ∧ ∀ i : Nat, ds.length ≤ i → J.stop i H'
def Di (wi : TI) (env : Env) (s : C.w.S) (ds : List PyData) (s' : C.w.S) : Prop := ∀ (F0 H0 : Hp) (σ : L2.St) (F H : Hp), EnvOk C F0 H0 σ F H env s → ∀ R : It → Hp → Prop,
  (∀ J F' H', C.Ext F H F' H' → C.w.hold s' H' → Ylds C J F' ds → R J H') → wi σ H R
/-- how a statement ends -/
inductive Out
  | nx (env : Env) (s : C.w.S)
  | rt (r : B) (s : C.w.S)
  | bk (env : Env) (s : C.w.S)
  | ct (env : Env) (s : C.w.S)
def Ends.on (F0 H0 : Hp) (D : Ends) : Out C → Prop
  | .nx env s => ∀ σ F H, EnvOk C F0 H0 σ F H env s → D.nx σ H
  | .rt r s => ∀ v F H, C.Ext F0 H0 F H → C.w.hold s H → Bok C H0 F H r v → D.rt v H
  | .bk env s => ∀ σ F H, EnvOk C F0 H0 σ F H env s → D.bk σ H
  | .ct env s => ∀ σ F H, EnvOk C F0 H0 σ F H env s → D.ct σ H
def Tr (ts : TS) (env : Env) (s : C.w.S) (o : Out C) : Prop := ∀ (F0 H0 : Hp) (σ : L2.St) (F H : Hp), EnvOk C F0 H0 σ F H env s → ∀ D : Ends, Ends.on C F0 H0 D o → ts D σ H
/-- a two-place operation by what it is given; a one-place one; a call's rule on values -/
def Rop (r : R2) (x y z : B) : Prop := ∀ (H1 H2 F H : Hp) (v u : V), Sub F H → TabsN C.T H → (∀ a, H a = none → ¬ C.w.M a) → Bok C H1 F H x v → Bok C H2 F H y u → ∀ Q : VK, (∀ w F' H', C.ExtS F H F' H' → Bok C H F' H' z w → Q w H') → r v u H Q
def Rcb (r : List V → Hp → VK → Prop) (xs : List B) (z : B) : Prop := ∀ (H1 F H : Hp) (vs : List V), Sub F H → TabsN C.T H → (∀ a, H a = none → ¬ C.w.M a) → BAll C H1 F H xs vs → ∀ Q : VK, (∀ w F' H', C.ExtS F H F' H' → Bok C H F' H' z w → Q w H') → r vs H Q
end
section
variable {C : Cf} {env env1 env2 : Env} {s s0 s1 s2 s3 : C.w.S} {ta tb tc te : TE} {t u : TT} {b : B} {x y z : B} {d e : PyData} {ds es : List PyData}

/-! ### what all rest on -/
theorem not_M {H : Hp} (h : C.w.hold s H) {p : Addr} (hp : H p = none) : ¬ C.w.M p := fun m => by
  obtain ⟨o, z, _⟩ := C.w.there h m
  rw [z] at hp
  cases hp
theorem Ext.rs {F H F' H' : Hp} (x : C.Ext F H F' H') : C.Ext F' H' F' H' := .refl x.sub x.tab
theorem ball_ext {H0 F H F' H' : Hp} (e : C.Ext F H F' H') {bs : List B} {vs : List V} (h : BAll C H0 F H bs vs) : BAll C H0 F' H' bs vs := by
  induction h with
  | nil => exact .nil
  | cons a _ n ih => exact .cons (a.ext e) ih n
theorem ball_base {H00 H0 F H : Hp} (e : ∀ a o, H00 a = some o → ∃ o', H0 a = some o') {bs : List B} {vs : List V} (h : BAll C H0 F H bs vs) : BAll C H00 F H bs vs := by
  induction h with
  | nil => exact .nil
  | cons a _ n ih => exact .cons (a.base e) ih n
theorem ball_len {H0 F H : Hp} {bs : List B} {vs : List V} (h : BAll C H0 F H bs vs) : vs.length = bs.length := by
  induction h with
  | nil => rfl
  | cons _ _ _ ih => simp [ih]
theorem ball_own {H0 F H : Hp} {bs : List B} {vs : List V} (h : BAll C H0 F H bs vs) : ∀ v ∈ ownVs bs vs, ∃ a, v = .ref a ∧ H0 a = none := by
  induction h with
  | nil => intro v hv; simp [ownVs] at hv
  | @cons b v bs vs hb _ _ ih =>
    intro u hu
    unfold ownVs at hu
    split at hu
    · rename_i ho
      rcases List.mem_cons.mp hu with z | z
      · obtain ⟨a, h1, h2, _⟩ := hb.new ho
        exact ⟨a, z.trans h1, h2⟩
      · exact ih u z
    · exact ih u hu

/-! ### expressions -/
theorem dv_var {i : Nat} {d : PyData} (h : env[i]? = some (.dat d)) : Dv C (tVar i) env s (.dat d) s := fun F0 H0 σ F H e Q q => by
  obtain ⟨v, h1, h2⟩ := e.at h (by intro z; cases z)
  exact ⟨v, h1, q v F H (.refl e.sub e.tab) e.hold h2⟩
theorem dv_val {i : Nat} {v : V} (h : env[i]? = some (.val v)) : Dv C (tVar i) env s (.val v) s := fun F0 H0 σ F H e Q q => by
  obtain ⟨v, h1, h2⟩ := e.at h (by intro z; cases z)
  exact ⟨v, h1, q v F H (.refl e.sub e.tab) e.hold h2⟩
theorem dv_varK {i : Nat} {k : List Key} (h : env[i]? = some (.key k)) : Dv C (tVar i) env s (.key k) s := fun F0 H0 σ F H e Q q => by
  obtain ⟨v, h1, h2⟩ := e.at h (by intro z; cases z)
  exact ⟨v, h1, q v F H (.refl e.sub e.tab) e.hold h2⟩
theorem dv_bor {i : Nat} {ds : List PyData} (h : env[i]? = some (.own ds)) : Dv C (tVar i) env s (.bor ds) s := fun F0 H0 σ F H e Q q => by
  obtain ⟨v, h1, a, xs, h2, _, h3⟩ := e.at h (by intro z; cases z)
  exact ⟨v, h1, q v F H (.refl e.sub e.tab) e.hold ⟨a, xs, h2, h3⟩⟩
theorem dv_bdk {i : Nat} {ds : List (Key × PyData)} (h : env[i]? = some (.odk ds)) : Dv C (tVar i) env s (.bdk ds) s := fun F0 H0 σ F H e Q q => by
  obtain ⟨v, h1, a, xs, h2, _, h3⟩ := e.at h (by intro z; cases z)
  exact ⟨v, h1, q v F H (.refl e.sub e.tab) e.hold ⟨a, xs, h2, h3⟩⟩
theorem dv_bdt {i : Nat} {ds : List (List Key × PyData)} (h : env[i]? = some (.odt ds)) : Dv C (tVar i) env s (.bdt ds) s := fun F0 H0 σ F H e Q q => by
  obtain ⟨v, h1, a, xs, h2, _, h3⟩ := e.at h (by intro z; cases z)
  exact ⟨v, h1, q v F H (.refl e.sub e.tab) e.hold ⟨a, xs, h2, h3⟩⟩
theorem dv_c {v : V} (h : ∀ F, Da C.K F v d) : Dv C (tC v) env s (.dat d) s := fun F0 H0 σ F H e Q q => q v F H (.refl e.sub e.tab) e.hold (h F)
theorem dv_cv {v : V} : Dv C (tC v) env s (.val v) s := fun F0 H0 σ F H e Q q => q v F H (.refl e.sub e.tab) e.hold rfl
theorem dv_int {i : Int} : Dv C (tC (.int i)) env s (.dat (.int i)) s := dv_c fun _ => .int i
theorem dv_str {i : Str} : Dv C (tC (.str i)) env s (.dat (.str i)) s := dv_c fun _ => .str i
theorem dv_bl {i : Bool} : Dv C (tC (.bl i)) env s (.dat (.bool i)) s := dv_c fun _ => .bl i
theorem dv_non : Dv C (tC .non) env s (.dat .none) s := dv_c fun _ => .non
theorem dv_op {r : R2} (ha : Dv C ta env s x s1) (hb : Dv C tb env s1 y s2) (hr : Rop C r x y z) : Dv C (tOp r ta tb) env s z s2 := fun F0 H0 σ F H e Q q =>
  ha F0 H0 σ F H e _ fun v F1 H1 e1 h1 b1 => hb F0 H0 σ F1 H1 (e.go e1 h1) _ fun u F2 H2 e2 h2 b2 =>
    hr _ _ F2 H2 v u e2.sub e2.tab (fun a => not_M h2) (b1.ext e2) b2 Q fun w F3 H3 e3 b3 => q w F3 H3 ((e1.trans e2).trans (extS e3)) (holdS e3 h2) (b3.base fun a o h => (e1.trans e2).dom a o h)
theorem rop_I0 {g : Int → Int → V} {i j : Int} {d : PyData} (h : ∀ F, Da C.K F (g i j) d) : Rop C (rI0 g) (.dat (.int i)) (.dat (.int j)) (.dat d) := fun H1 H2 F H v u s t m hv hu Q q => by
  cases hv
  cases hu
  exact ⟨i, j, rfl, rfl, q _ F H (.refl s t) (h F)⟩
theorem rop_I {c : Int → Int → Prop} {g : Int → Int → V} {i j : Int} {d : PyData} (hc : c i j) (h : ∀ F, Da C.K F (g i j) d) : Rop C (rI c g) (.dat (.int i)) (.dat (.int j)) (.dat d) := fun H1 H2 F H v u s t m hv hu Q q => by
  cases hv
  cases hu
  exact ⟨i, j, rfl, rfl, hc, q _ F H (.refl s t) (h F)⟩
theorem rop_II {f : Int → Int → Int} {i j : Int} : Rop C (rI0 fun i j => .int (f i j)) (.dat (.int i)) (.dat (.int j)) (.dat (.int (f i j))) := rop_I0 fun _ => .int _
theorem rop_IIc {c : Int → Int → Prop} {f : Int → Int → Int} {i j : Int} (hc : c i j) : Rop C (rI c fun i j => .int (f i j)) (.dat (.int i)) (.dat (.int j)) (.dat (.int (f i j))) := rop_I hc fun _ => .int _
theorem rop_IB {f : Int → Int → Bool} {i j : Int} : Rop C (rI0 fun i j => .bl (f i j)) (.dat (.int i)) (.dat (.int j)) (.dat (.bool (f i j))) := rop_I0 fun _ => .bl _
theorem noD_sh {d : PyData} (h : SeqAt.shaped d = true) : noD d = true := by
  have q : (PyData.canLay0 d && decide (PyData.depth d ≤ 64)) = true := h
  rw [Bool.and_eq_true] at q
  exact noD_of d q.1
theorem rop_eqD {d e : PyData} (hx : x.asD = some d) (hy : y.asD = some e) (h1 : SeqAt.shaped d = true) (h2 : SeqAt.shaped e = true) : Rop C (rEqD C.K) x y (.dat (.bool (PyData.eqv d e))) := fun H1 H2 F H v u s t m hv hu Q q =>
  ⟨d, e, hv.asD s hx (noD_sh h1), hu.asD s hy (noD_sh h2), h1, h2, q _ F H (.refl s t) (.bl _)⟩
theorem rop_neD {d e : PyData} (hx : x.asD = some d) (hy : y.asD = some e) (h1 : SeqAt.shaped d = true) (h2 : SeqAt.shaped e = true) : Rop C (rNeD C.K) x y (.dat (.bool (!PyData.eqv d e))) := fun H1 H2 F H v u s t m hv hu Q q =>
  ⟨d, e, hv.asD s hx (noD_sh h1), hu.asD s hy (noD_sh h2), h1, h2, q _ F H (.refl s t) (.bl _)⟩
theorem rop_inD {d : PyData} {ds : List PyData} (hx : x.asD = some d) (hy : y.asD = some (.list ds)) (h1 : SeqAt.shaped d = true) (h2 : SeqAt.shaped (.list ds) = true) : Rop C (rInD C.K) x y (.dat (.bool (ds.any fun z => PyData.eqv z d))) := fun H1 H2 F H v u s t m hv hu Q q =>
  ⟨d, ds, hv.asD s hx (noD_sh h1), hu.asD s hy (noD_sh h2), h1, h2, q _ F H (.refl s t) (.bl _)⟩
theorem rop_ixL {i : Int} {ds : List PyData} {d : PyData} (hx : x.lst = some ds) (h : atI ds i = some d) : Rop C (rIxL C.K) x (.dat (.int i)) (.dat d) := fun H1 H2 F H v u s t m hv hu Q q => by
  obtain ⟨a, xs, rfl, h1, h2⟩ := hv.lst s hx
  cases hu
  have hl := dps_len h2
  unfold atI at h
  cases hn : ixN ds.length i with
  | none => rw [hn] at h; cases h
  | some j =>
    rw [hn] at h
    obtain ⟨w, hw, hd⟩ := dps_get h2 (show ds[j]? = some d from h)
    exact ⟨a, xs, i, w, rfl, rfl, h1, by unfold atI; rw [hl, hn]; exact hw, q w F H (.refl s t) hd⟩
theorem rop_ixT {i : Int} {ds : List PyData} {d : PyData} (h : atI ds i = some d) : Rop C (rIxT C.K) (.dat (.tuple ds)) (.dat (.int i)) (.dat d) := fun H1 H2 F H v u s t m hv hu Q q => by
  cases hv with
  | tup h1 h2 =>
    cases hu
    have hl := dps_len h2
    unfold atI at h
    cases hn : ixN ds.length i with
    | none => rw [hn] at h; cases h
    | some j =>
      rw [hn] at h
      obtain ⟨w, hw, hd⟩ := dps_get h2 (show ds[j]? = some d from h)
      exact ⟨_, _, i, w, rfl, rfl, sqT_le s.le h1, by unfold atI; rw [hl, hn]; exact hw, q w F H (.refl s t) hd⟩
theorem rop_isN {b : Bool} (h : ∀ F v, Da C.K F v d → (decide (v = .non)) = b) : Rop C (fun x y H Q => y = .non ∧ Q (.bl (decide (x = .non))) H) (.dat d) (.dat .none) (.dat (.bool b)) := fun H1 H2 F H v u s t m hv hu Q q => by
  cases hu
  refine ⟨rfl, q _ F H (.refl s t) ?_⟩
  rw [h F v hv]
  exact .bl b
theorem rop_notN {b : Bool} (h : ∀ F v, Da C.K F v d → (decide (v = .non)) = b) : Rop C (fun x y H Q => y = .non ∧ Q (.bl (!decide (x = .non))) H) (.dat d) (.dat .none) (.dat (.bool (!b))) := fun H1 H2 F H v u s t m hv hu Q q => by
  cases hu
  refine ⟨rfl, q _ F H (.refl s t) ?_⟩
  rw [h F v hv]
  exact .bl (!b)
theorem dv_un {f : Int → V} {i : Int} {d : PyData} (ha : Dv C ta env s (.dat (.int i)) s1) (h : ∀ F, Da C.K F (f i) d) : Dv C (tUn (rU f) ta) env s (.dat d) s1 := fun F0 H0 σ F H e Q q =>
  ha F0 H0 σ F H e _ fun v F1 H1 e1 h1 b1 => by
    cases b1
    exact ⟨i, rfl, q _ F1 H1 e1 h1 (h F1)⟩
theorem dv_neg {i : Int} (ha : Dv C ta env s (.dat (.int i)) s1) : Dv C (tUn (rU fun i => .int (-i)) ta) env s (.dat (.int (-i))) s1 := dv_un ha fun _ => .int _

/-! ### tests -/
theorem dt_test {b : Bool} (h : Dv C te env s (.dat (.bool b)) s1) : Dt C (tTest te) env s b s1 := fun F0 H0 σ F H e Q q => h F0 H0 σ F H e _ fun v F1 H1 e1 h1 b1 => by
  cases b1
  exact ⟨b, rfl, q F1 H1 e1 h1⟩
theorem dt_B {b : Bool} (h : Dv C te env s (.dat (.bool b)) s1) : Dt C (tB te) env s b s1 := fun F0 H0 σ F H e Q q => h F0 H0 σ F H e _ fun v F1 H1 e1 h1 b1 => by
  cases b1
  exact ⟨b, rfl, q F1 H1 e1 h1⟩
theorem dt_not {b : Bool} (h : Dt C t env s b s1) : Dt C (tNot t) env s (!b) s1 := fun F0 H0 σ F H e Q q => h F0 H0 σ F H e _ fun F1 H1 e1 h1 => q F1 H1 e1 h1
theorem dt_and {a b : Bool} (h1 : Dt C t env s a s1) (h2 : a = true → Dt C u env s1 b s2) (h3 : a = false → s2 = s1) : Dt C (tAnd t u) env s (a && b) s2 := fun F0 H0 σ F H e Q q => h1 F0 H0 σ F H e _ fun F1 H1 e1 o1 => by
  cases a with
  | true =>
    show u σ H1 Q
    exact h2 rfl F0 H0 σ F1 H1 (e.go e1 o1) Q fun F2 H2 e2 o2 => q F2 H2 (e1.trans e2) o2
  | false =>
    show Q false H1
    rw [h3 rfl] at q
    exact q F1 H1 e1 o1
theorem dt_or {a b : Bool} (h1 : Dt C t env s a s1) (h2 : a = false → Dt C u env s1 b s2) (h3 : a = true → s2 = s1) : Dt C (tOr t u) env s (a || b) s2 := fun F0 H0 σ F H e Q q => h1 F0 H0 σ F H e _ fun F1 H1 e1 o1 => by
  cases a with
  | true =>
    show Q true H1
    rw [h3 rfl] at q
    exact q F1 H1 e1 o1
  | false =>
    show u σ H1 Q
    exact h2 rfl F0 H0 σ F1 H1 (e.go e1 o1) Q fun F2 H2 e2 o2 => q F2 H2 (e1.trans e2) o2
/-- .. where nothing beside is changed -/
theorem dt_and0 {a b : Bool} (h1 : Dt C t env s a s) (h2 : a = true → Dt C u env s b s) : Dt C (tAnd t u) env s (a && b) s := dt_and h1 h2 fun _ => rfl
theorem dt_or0 {a b : Bool} (h1 : Dt C t env s a s) (h2 : a = false → Dt C u env s b s) : Dt C (tOr t u) env s (a || b) s := dt_or h1 h2 fun _ => rfl
theorem dt_is {a b : Bool} (h : Dt C t env s a s1) (e : a = b) : Dt C t env s b s1 := e ▸ h
theorem dv_is {x y : B} (h : Dv C te env s x s1) (e : x = y) : Dv C te env s y s1 := e ▸ h
theorem dv_andV {a b : Bool} (h1 : Dv C ta env s (.dat (.bool a)) s) (h2 : a = true → Dv C tb env s (.dat (.bool b)) s) : Dv C (tAndV ta tb) env s (.dat (.bool (a && b))) s := fun F0 H0 σ F H e Q q => h1 F0 H0 σ F H e _ fun v F1 H1 e1 o1 b1 => by
  cases b1
  refine ⟨a, rfl, ?_⟩
  cases a with
  | true =>
    show tb σ H1 Q
    exact h2 rfl F0 H0 σ F1 H1 (e.go e1 o1) Q fun w F2 H2 e2 o2 b2 => q w F2 H2 (e1.trans e2) o2 (b2.base e1.dom)
  | false =>
    show Q (.bl false) H1
    exact q _ F1 H1 e1 o1 (.bl false)
theorem dv_orV {a b : Bool} (h1 : Dv C ta env s (.dat (.bool a)) s) (h2 : a = false → Dv C tb env s (.dat (.bool b)) s) : Dv C (tOrV ta tb) env s (.dat (.bool (a || b))) s := fun F0 H0 σ F H e Q q => h1 F0 H0 σ F H e _ fun v F1 H1 e1 o1 b1 => by
  cases b1
  refine ⟨a, rfl, ?_⟩
  cases a with
  | true =>
    show Q (.bl true) H1
    exact q _ F1 H1 e1 o1 (.bl true)
  | false =>
    show tb σ H1 Q
    exact h2 rfl F0 H0 σ F1 H1 (e.go e1 o1) Q fun w F2 H2 e2 o2 b2 => q w F2 H2 (e1.trans e2) o2 (b2.base e1.dom)
theorem dv_notV {a : Bool} (h1 : Dv C ta env s (.dat (.bool a)) s1) : Dv C (tNotV ta) env s (.dat (.bool (!a))) s1 := fun F0 H0 σ F H e Q q => h1 F0 H0 σ F H e _ fun v F1 H1 e1 o1 b1 => by
  cases b1
  exact ⟨a, rfl, q _ F1 H1 e1 o1 (.bl _)⟩
theorem dv_if {b : Bool} (h : Dt C t env s b s1) (h1 : b = true → Dv C ta env s1 x s2) (h2 : b = false → Dv C tb env s1 x s2) : Dv C (tIf t ta tb) env s x s2 := fun F0 H0 σ F H e Q q => h F0 H0 σ F H e _ fun F1 H1 e1 o1 => by
  cases b with
  | true =>
    show ta σ H1 Q
    exact h1 rfl F0 H0 σ F1 H1 (e.go e1 o1) Q fun w F2 H2 e2 o2 b2 => q w F2 H2 (e1.trans e2) o2 (b2.base e1.dom)
  | false =>
    show tb σ H1 Q
    exact h2 rfl F0 H0 σ F1 H1 (e.go e1 o1) Q fun w F2 H2 e2 o2 b2 => q w F2 H2 (e1.trans e2) o2 (b2.base e1.dom)

/-! ### arguments, displays -/
theorem da_nil : DvA C tNil env s [] s := fun F0 H0 σ F H e Q q => q [] F H (.refl e.sub e.tab) e.hold .nil
theorem da_cons {tr : TA} {xs : List B} (ha : Dv C ta env s x s1) (hr : DvA C tr env s1 xs s2) : DvA C (tCons ta tr) env s (x :: xs) s2 := fun F0 H0 σ F H e Q q =>
  ha F0 H0 σ F H e _ fun v F1 H1 e1 h1 b1 => hr F0 H0 σ F1 H1 (e.go e1 h1) _ fun vs F2 H2 e2 h2 b2 => q (v :: vs) F2 H2 (e1.trans e2) h2 (.cons (b1.ext e2) (ball_base e1.dom b2) fun o z => by
    obtain ⟨a, r1, r2⟩ := ball_own b2 v z
    obtain ⟨a', r3, _, ⟨u, r4, _⟩, _⟩ := b1.new o
    rw [r3] at r1
    cases r1
    rw [r2] at r4
    cases r4)
/-- all become data from now on: new objects are frozen -/
inductive ToDs : List B → List PyData → Prop
  | nil : ToDs [] []
  | cons {b : B} {d : PyData} {bs : List B} {ds : List PyData} : b.toD = some d → ToDs bs ds → ToDs (b :: bs) (d :: ds)
theorem freeze1 {H F F' H' : Hp} {v : V} (e : C.Ext F H F' H') (h : Bok C H F' H' b v) (q : b.toD = some d) : ∃ F2, C.Ext F H F2 H' ∧ Le F' F2 ∧ Da C.K F2 v d := by
  cases b with
  | dat d' =>
    cases q
    exact ⟨F', e, Le.refl F', h⟩
  | own ds =>
    cases q
    obtain ⟨a, xs, rfl, h1, h2, h3, h4, h5⟩ := h
    have le : Le F' (upd F' a (.lst xs)) := fun b o z => by
      rw [upd_ne (ne_of_none z h3)]
      exact z
    refine ⟨upd F' a (.lst xs), ⟨e.hx, e.dom, e.fx.trans le, fun b o z => ?_, fun b o z => ?_, e.tab⟩, le, .lst (.of upd_same) (dps_le le _ _ h5)⟩
    · by_cases hb : b = a
      · rw [hb, upd_same] at z
        cases z
        rw [hb]
        exact ⟨h4, nt_lst⟩
      · rw [upd_ne hb] at z
        exact e.sub b o z
    · rw [upd_ne (ne_of_none z h1)]
      exact e.fr b o z
  | key k =>
    cases q
    obtain ⟨a, rfl, h1⟩ := h
    exact ⟨F', e, Le.refl F', dp_tkD h1⟩
  | _ => cases q
theorem freezeA {H F F' H' : Hp} (e : C.Ext F H F' H') {bs : List B} {vs : List V} (h : BAll C H F' H' bs vs) {ds : List PyData} (q : ToDs bs ds) : ∃ F2, C.Ext F H F2 H' ∧ Le F' F2 ∧ DaAll C.K F2 vs ds := by
  induction h generalizing ds with
  | nil =>
    cases q
    exact ⟨F', e, Le.refl F', .nil⟩
  | @cons b v bs vs hb _ _ ih =>
    cases q with
    | @cons _ d _ ds q1 q2 =>
      obtain ⟨F2, e2, l2, r2⟩ := ih q2
      have hb2 : ∃ F3, C.Ext F H F3 H' ∧ Le F2 F3 ∧ Da C.K F3 v d := by
        cases b with
        | dat d' =>
          cases q1
          exact ⟨F2, e2, Le.refl F2, dp_le l2 _ _ hb⟩
        | own es =>
          cases q1
          obtain ⟨a, xs, rfl, h1, h2, h3, h4, h5⟩ := hb
          by_cases hf : ∃ o, F2 a = some o
          · obtain ⟨o, hf⟩ := hf
            have h6 := (e2.sub a o hf).1
            rw [h4] at h6
            cases h6
            exact ⟨F2, e2, Le.refl F2, .lst (.of hf) (dps_le l2 _ _ h5)⟩
          · exact freeze1 (b := .own es) e2 ⟨a, xs, rfl, h1, h2, optNone hf, h4, dps_le l2 _ _ h5⟩ rfl
        | key k =>
          cases q1
          obtain ⟨a, rfl, h1⟩ := hb
          exact ⟨F2, e2, Le.refl F2, dp_tkD (l2 _ _ h1)⟩
        | _ => cases q1
      obtain ⟨F3, e3, l3, r3⟩ := hb2
      exact ⟨F3, e3, l2.trans l3, .cons r3 (dps_le l3 _ _ r2)⟩
theorem dv_freeze (h : Dv C te env s b s1) (q : b.toD = some d) : Dv C te env s (.dat d) s1 := fun F0 H0 σ F H e Q k => h F0 H0 σ F H e _ fun v F1 H1 e1 h1 b1 => by
  obtain ⟨F2, e2, _, r⟩ := freeze1 e1 b1 q
  exact k v F2 H1 e2 h1 r
theorem sz_of (n : Nat) (h : n ≤ 100000) : n ≤ sizeLine := Nat.le_trans h (by decide)
theorem dv_tup {ta : TA} {xs : List B} {ds : List PyData} (h : DvA C ta env s xs s1) (q : ToDs xs ds) (n : ds.length ≤ 100000) : Dv C (tTup ta) env s (.dat (.tuple ds)) s1 := fun F0 H0 σ F H e Q k => h F0 H0 σ F H e _ fun vs F1 H1 e1 h1 b1 => by
  obtain ⟨F2, e2, _, r⟩ := freezeA e1 b1 q
  refine ⟨sz_of _ (by rw [dps_len r]; exact n), fun p hp => ?_⟩
  have e3 : C.ExtS F2 H1 (upd F2 p (.tup vs)) (upd H1 p (.tup vs)) := Ext.new e2.sub e2.tab hp nt_tup
  exact k (.ref p) _ _ (e2.trans (extS e3)) (holdS e3 h1) (.tup (.of upd_same) (dps_le e3.fx _ _ r))
/-- a tuple of ints and texts, as a key -/
inductive ToKs : List B → List Key → Prop
  | nil : ToKs [] []
  | int {i : Int} {bs : List B} {ks : List Key} : ToKs bs ks → ToKs (.dat (.int i) :: bs) (.inl i :: ks)
  | str {x : Str} {bs : List B} {ks : List Key} : ToKs bs ks → ToKs (.dat (.str x) :: bs) (.inr x :: ks)
theorem toKs_vals {H0 F H : Hp} {bs : List B} {ks : List Key} (q : ToKs bs ks) {vs : List V} (h : BAll C H0 F H bs vs) : vs = ks.map kV := by
  induction q generalizing vs with
  | nil => cases h; rfl
  | int _ ih =>
    cases h with
    | cons a t _ =>
      cases a
      rw [ih t]
      rfl
  | str _ ih =>
    cases h with
    | cons a t _ =>
      cases a
      rw [ih t]
      rfl
theorem dv_tupK {ta : TA} {xs : List B} {ks : List Key} (h : DvA C ta env s xs s1) (q : ToKs xs ks) (n : ks.length ≤ 100000) : Dv C (tTup ta) env s (.key ks) s1 := fun F0 H0 σ F H e Q k => h F0 H0 σ F H e _ fun vs F1 H1 e1 h1 b1 => by
  have ev := toKs_vals q b1
  subst ev
  refine ⟨sz_of _ (by rw [List.length_map]; exact n), fun p hp => ?_⟩
  have e3 : C.ExtS F1 H1 (upd F1 p (.tup (ks.map kV))) (upd H1 p (.tup (ks.map kV))) := Ext.new e1.sub e1.tab hp nt_tup
  exact k (.ref p) _ _ (e1.trans (extS e3)) (holdS e3 h1) ⟨p, rfl, upd_same⟩
theorem dv_lst {ta : TA} {xs : List B} {ds : List PyData} (h : DvA C ta env s xs s1) (q : ToDs xs ds) (n : ds.length ≤ 100000) : Dv C (tLst ta) env s (.own ds) s1 := fun F0 H0 σ F H e Q k => h F0 H0 σ F H e _ fun vs F1 H1 e1 h1 b1 => by
  obtain ⟨F2, e2, _, r⟩ := freezeA e1 b1 q
  refine ⟨sz_of _ (by rw [dps_len r]; exact n), fun p hp => ?_⟩
  have e3 : C.ExtS F2 H1 F2 (upd H1 p (.lst vs)) := Ext.fresh e2.sub e2.tab hp
  have hn : H p = none := by
    cases z : H p with
    | none => rfl
    | some o =>
      obtain ⟨o', z'⟩ := e2.dom p o z
      rw [z'] at hp
      cases hp
  have fn : F2 p = none := by
    cases z : F2 p with
    | none => rfl
    | some o =>
      rw [(e2.sub p o z).1] at hp
      cases hp
  refine k (.ref p) F2 _ (e2.trans (extS e3)) (holdS e3 h1) ⟨p, vs, rfl, hn, fun m => ?_, fn, upd_same, r⟩
  obtain ⟨o, z, _⟩ := C.w.there h1 m
  rw [z] at hp
  cases hp
theorem dv_cb {r : List V → Hp → VK → Prop} {ta : TA} {xs : List B} (h : DvA C ta env s xs s1) (hr : Rcb C r xs z) : Dv C (tCB r ta) env s z s1 := fun F0 H0 σ F H e Q k => h F0 H0 σ F H e _ fun vs F1 H1 e1 h1 b1 =>
  hr _ F1 H1 vs e1.sub e1.tab (fun a => not_M h1) b1 Q fun w F2 H2 e2 b2 => k w F2 H2 (e1.trans (extS e2)) (holdS e2 h1) (b2.base fun a o q => e1.dom a o q)

/-! ### targets -/
theorem dg_name {i : Nat} : Dg C (gName i) d env (env.set i (.dat d)) [i] := fun F0 H0 σ F H s v e h Q q =>
  q _ (e.setD i (b := .dat d) rfl h rfl) (by rw [List.length_set]) fun j hj => by
    rw [List.getElem?_set_ne fun z => hj (by rw [z]; exact List.mem_singleton.mpr rfl)]
theorem dgs_nil : Dgs C gNil [] env env [] := fun F0 H0 σ F H s v e h Q q => by
  cases h
  exact ⟨rfl, q σ e rfl fun _ _ => rfl⟩
theorem dgs_cons {g : TG} {gs : TGs} {js ks : List Nat} (h1 : Dg C g d env env1 js) (h2 : Dgs C gs ds env1 env2 ks) : Dgs C (gCons g gs) (d :: ds) env env2 (js ++ ks) := fun F0 H0 σ F H s v e h Q q => by
  cases h with
  | cons a b => exact ⟨_, _, rfl, h1 F0 H0 σ F H s _ e a _ fun σ1 e1 l1 k1 => h2 F0 H0 σ1 F H s _ e1 b _ fun σ2 e2 l2 k2 => q σ2 e2 (l2.trans l1) fun j hj => by
    rw [k2 j fun z => hj (List.mem_append_right _ z), k1 j fun z => hj (List.mem_append_left _ z)]⟩
theorem dg_tup {gs : TGs} {n : Nat} {js : List Nat} (h : Dgs C gs ds env env1 js) (l : ds.length = n) : Dg C (gTup C.K n gs) (.tuple ds) env env1 js := fun F0 H0 σ F H s v e hd Q q => by
  cases hd with
  | tup a b => exact ⟨_, _, rfl, sqT_le e.sub.le a, by rw [dps_len b]; exact l, h F0 H0 σ F H s _ e b Q q⟩
end
end DV
/-! Dv3: statements over data: sequences, stores, ifs, loops, list comprehensions. -/
namespace DV
open PySem L2 NdefX
section
variable {C : Cf} {env env1 env2 : Env} {s s0 s1 s2 s3 : C.w.S} {ta tb tc te : TE} {t u : TT} {b : B} {x y z : B} {d e : PyData} {ds es : List PyData} {p q r : TS} {o : Out C} {g : TG}

/-! ### plain statements -/
theorem tr_next : Tr C tNext env s (.nx env s) := fun F0 H0 σ F H e D k => k σ F H e
theorem tr_seq (h1 : Tr C p env s (.nx env1 s1)) (h2 : Tr C q env1 s1 o) : Tr C (tSeq p q) env s o := fun F0 H0 σ F H e D k =>
  h1 F0 H0 σ F H e { D with nx := q D } fun σ1 F1 H1 e1 => h2 F0 H0 σ1 F1 H1 e1 D k
/-- the rest is not come to -/
theorem tr_seqR {v : B} (h1 : Tr C p env s (.rt v s1)) : Tr C (tSeq p q) env s (.rt v s1) := fun F0 H0 σ F H e D k => h1 F0 H0 σ F H e { D with nx := q D } k
theorem tr_seqB (h1 : Tr C p env s (.bk env1 s1)) : Tr C (tSeq p q) env s (.bk env1 s1) := fun F0 H0 σ F H e D k => h1 F0 H0 σ F H e { D with nx := q D } k
theorem tr_seqC (h1 : Tr C p env s (.ct env1 s1)) : Tr C (tSeq p q) env s (.ct env1 s1) := fun F0 H0 σ F H e D k => h1 F0 H0 σ F H e { D with nx := q D } k
theorem tr_brk : Tr C tBreak env s (.bk env s) := fun F0 H0 σ F H e D k => k σ F H e
theorem tr_cont : Tr C tCont env s (.ct env s) := fun F0 H0 σ F H e D k => k σ F H e
theorem tr_ret (h : Dv C te env s b s1) : Tr C (tRet te) env s (.rt b s1) := fun F0 H0 σ F H e D k => h F0 H0 σ F H e _ fun v F1 H1 e1 h1 b1 =>
  k v F1 H1 (e.ext.trans e1) h1 (b1.base e.ext.dom)
/-- a name whose list is handed back -/
theorem tr_retOwn {i : Nat} (h : env[i]? = some (.own ds)) : Tr C (tRet (tVar i)) env s (.rt (.own ds) s) := fun F0 H0 σ F H e D k => by
  obtain ⟨v, h1, h2⟩ := e.at h (by intro z; cases z)
  exact ⟨v, h1, k v F H e.ext e.hold h2⟩
theorem tr_asg {i : Nat} (h : Dv C te env s b s1) (nb : b.isBor = false := by rfl) : Tr C (tAsg te (gName i)) env s (.nx (env.set i b) s1) := fun F0 H0 σ F H e D k => h F0 H0 σ F H e _ fun v F1 H1 e1 h1 b1 =>
  k _ F1 H1 (e.put e1 h1 i nb b1)
/-- a new list is data from here on -/
theorem tr_asgD {i : Nat} (h : Dv C te env s b s1) (q : b.toD = some d) : Tr C (tAsg te (gName i)) env s (.nx (env.set i (.dat d)) s1) := tr_asg (dv_freeze h q)
theorem tr_asgT (h : Dv C te env s b s1) (hd : b.toD = some d) {js : List Nat} (hg : Dg C g d env env1 js) : Tr C (tAsg te g) env s (.nx env1 s1) := fun F0 H0 σ F H e D k => dv_freeze h hd F0 H0 σ F H e _ fun v F1 H1 e1 h1 b1 =>
  hg F0 H0 σ F1 H1 s1 v (e.go e1 h1) b1 _ fun σ2 e2 _ _ => k σ2 F1 H1 e2
/-- several stores -/
def setS : L2.St → List Nat → List V → L2.St
  | σ, i :: is, v :: vs => setS (σ.set i (some v)) is vs
  | σ, _, _ => σ
def setE : Env → List Nat → List B → Env
  | σ, i :: is, v :: vs => setE (σ.set i v) is vs
  | σ, _, _ => σ
theorem EnvOk.puts {F0 H0 H F' H' : Hp} (base : ∀ a o, H0 a = some o → ∃ o', H a = some o') : ∀ (is : List Nat) (bs : List B) (vs : List V) (σ : L2.St) (env : Env), BAll C H F' H' bs vs → is.length = bs.length → EnvOk C F0 H0 σ F' H' env s →
    (∀ (j : Nat) (c : B) (w : V), env[j]? = some c → c.isOwn = true → σ[j]? = some (some w) → w ∉ ownVs bs vs) → (bs.all fun b => !b.isBor) = true → EnvOk C F0 H0 (setS σ is vs) F' H' (setE env is bs) s
  | [], [], _, σ, env, h, _, e, _, _ => by
    cases h
    exact e
  | i :: is, b :: bs, _, σ, env, h, l, e, k, nb => by
    cases h with
    | @cons _ v _ vs hb ht hn =>
      rw [List.all_cons, Bool.and_eq_true] at nb
      have nb1 : b.isBor = false := by simpa using nb.1
      have e1 : EnvOk C F0 H0 (σ.set i (some v)) F' H' (env.set i b) s := by
        refine e.set i nb1 (hb.base base) fun o j a ev => ?_
        by_cases hc : ∃ c, env[j]? = some c ∧ c.isOwn = true
        · obtain ⟨c, q, oc⟩ := hc
          refine .inl fun z => k j c _ q oc z ?_
          rw [ev]
          unfold ownVs
          rw [if_pos o]
          exact List.mem_cons_self
        · refine .inr (.inr fun c q => ?_)
          cases z : c.isOwn with
          | false => rfl
          | true => exact absurd ⟨c, q, z⟩ hc
      refine EnvOk.puts base is bs vs _ _ ht (by simpa using l) e1 (fun j c w q oc z => ?_) nb.2
      by_cases hj : i = j
      · subst hj
        have hl : i < env.length := by
          have := (List.getElem?_eq_some_iff.mp q).1
          simpa using this
        rw [List.getElem?_set_self hl] at q
        rw [List.getElem?_set_self (by rw [e.len]; exact hl)] at z
        cases q
        cases z
        exact hn oc
      · rw [List.getElem?_set_ne hj] at q z
        intro hm
        refine k j c w q oc z ?_
        unfold ownVs
        split
        · exact List.mem_cons_of_mem _ hm
        · exact hm
  | [], _ :: _, _, _, _, _, l, _, _, _ => by simp at l
  | _ :: _, [], _, _, _, _, l, _, _, _ => by simp at l
theorem EnvOk.putAll {F0 H0 F H F' H' : Hp} {σ : L2.St} (e : EnvOk C F0 H0 σ F H env s) (x : C.Ext F H F' H') (hs : C.w.hold s1 H') {is : List Nat} {bs : List B} {vs : List V} (h : BAll C H F' H' bs vs) (l : is.length = bs.length) (nb : (bs.all fun b => !b.isBor) = true) :
    EnvOk C F0 H0 (setS σ is vs) F' H' (setE env is bs) s1 :=
  EnvOk.puts e.ext.dom is bs vs σ env h l (e.go x hs) (fun j c w q oc z hm => by
    obtain ⟨a, r1, r2⟩ := ball_own h w hm
    rw [r1] at z
    obtain ⟨u, hu, _⟩ := e.own_lt q oc z
    rw [r2] at hu
    cases hu) nb
theorem tr_par {i j : Nat} {ta : TA} {b c : B} (h : DvA C ta env s [b, c] s1) (nb : ([b, c].all fun b => !b.isBor) = true := by rfl) : Tr C (tPar i j ta) env s (.nx ((env.set i b).set j c) s1) := fun F0 H0 σ F H e D k => h F0 H0 σ F H e _ fun vs F1 H1 e1 h1 b1 => by
  have p := e.putAll e1 h1 (is := [i, j]) b1 rfl nb
  cases b1 with
  | cons x1 r1 n1 =>
    cases r1 with
    | cons x2 r2 n2 =>
      cases r2
      exact ⟨_, _, rfl, k _ F1 H1 p⟩
theorem tr_par3 {i j l : Nat} {ta : TA} {b c d : B} (h : DvA C ta env s [b, c, d] s1) (nb : ([b, c, d].all fun b => !b.isBor) = true := by rfl) : Tr C (tPar3 i j l ta) env s (.nx (((env.set i b).set j c).set l d) s1) := fun F0 H0 σ F H e D k => h F0 H0 σ F H e _ fun vs F1 H1 e1 h1 b1 => by
  have p := e.putAll e1 h1 (is := [i, j, l]) b1 rfl nb
  cases b1 with
  | cons x1 r1 n1 =>
    cases r1 with
    | cons x2 r2 n2 =>
      cases r2 with
      | cons x3 r3 n3 =>
        cases r3
        exact ⟨_, _, _, rfl, k _ F1 H1 p⟩
/-- names of a written tuple: gNames -/
def gNames : List Nat → TGs
  | [] => gNil
  | i :: is => gCons (gName i) (gNames is)
theorem gNames_run {is : List Nat} {vs : List V} {H : Hp} {Q : L2.St → Hp → Prop} : ∀ {σ : L2.St}, is.length = vs.length → Q (setS σ is vs) H → gNames is vs σ H Q := by
  induction is generalizing vs with
  | nil =>
    intro σ l q
    cases vs with
    | nil => exact ⟨rfl, q⟩
    | cons _ _ => simp at l
  | cons i is ih =>
    intro σ l q
    cases vs with
    | nil => simp at l
    | cons v vs => exact ⟨v, vs, rfl, ih (by simpa using l) q⟩
/-- a, b, .. = x, y, .. by a tuple that is made and taken apart: what is new stays new -/
theorem tr_tupN {is : List Nat} {ta : TA} {bs : List B} {n : Nat} (h : DvA C ta env s bs s1) (l : is.length = bs.length) (ln : n = is.length) (z : is.length ≤ 100) (nb : (bs.all fun b => !b.isBor) = true) :
    Tr C (tAsg (tTup ta) (gTup C.K n (gNames is))) env s (.nx (setE env is bs) s1) := fun F0 H0 σ F H e D k => h F0 H0 σ F H e _ fun vs F1 H1 e1 h1 b1 => by
  have lv := ball_len b1
  refine ⟨sz_of _ (by omega), fun p hp => ?_⟩
  have e2 : C.ExtS F1 H1 F1 (upd H1 p (.tup vs)) := Ext.fresh e1.sub e1.tab hp
  refine ⟨p, vs, rfl, .of upd_same, by omega, gNames_run (by omega) ?_⟩
  exact k _ F1 _ (e.putAll (e1.trans (extS e2)) (holdS e2 h1) (ball_ext (extS e2) b1) l nb)
theorem tr_drop (h : Dv C te env s b s1) : Tr C (tDrop te) env s (.nx env s1) := fun F0 H0 σ F H e D k => h F0 H0 σ F H e _ fun v F1 H1 e1 h1 b1 => k σ F1 H1 (e.go e1 h1)
theorem tr_if {c : Bool} (h : Dt C t env s c s1) (h1 : c = true → Tr C p env s1 o) (h2 : c = false → Tr C q env s1 o) : Tr C (tIfS t p q) env s o := fun F0 H0 σ F H e D k => h F0 H0 σ F H e _ fun F1 H1 e1 o1 => by
  cases c with
  | true => exact h1 rfl F0 H0 σ F1 H1 (e.go e1 o1) D k
  | false => exact h2 rfl F0 H0 σ F1 H1 (e.go e1 o1) D k
/-- less is told of the slots from here on -/
theorem tr_weak (h : Tr C p env1 s o) (l : env1.length = env.length) (k : ∀ (i : Nat) (b c : B), env[i]? = some b → env1[i]? = some c → Wk b c) : Tr C p env s o := fun F0 H0 σ F H e D => h F0 H0 σ F H (e.weak l k) D
/-- .. looked at by computation: at each place nothing, or what is told -/
inductive Wks : Env → Env → Prop
  | nil : Wks [] []
  | un {b : B} {e f : Env} : Wks e f → Wks (b :: e) (.un :: f)
  | eq {b : B} {e f : Env} : Wks e f → Wks (b :: e) (b :: f)
theorem Wks.eqv {b c : B} {e f : Env} (h : b = c) (w : Wks e f) : Wks (b :: e) (c :: f) := h ▸ .eq w
theorem Wks.refl : ∀ e : Env, Wks e e
  | [] => .nil
  | _ :: e => .eq (Wks.refl e)
theorem Wks.len {e f : Env} (h : Wks e f) : f.length = e.length := by
  induction h with
  | nil => rfl
  | un _ ih => simp [ih]
  | eq _ ih => simp [ih]
theorem Wks.at {e f : Env} (h : Wks e f) : ∀ (i : Nat) (b c : B), e[i]? = some b → f[i]? = some c → Wk b c := by
  induction h with
  | nil => intro i b c q; simp at q
  | un _ ih =>
    intro i b c q1 q2
    cases i with
    | zero =>
      simp at q2
      exact .inl q2.symm
    | succ i => exact ih i b c (by simpa using q1) (by simpa using q2)
  | eq _ ih =>
    intro i b c q1 q2
    cases i with
    | zero =>
      simp at q1 q2
      exact .inr (q2.symm.trans q1)
    | succ i => exact ih i b c (by simpa using q1) (by simpa using q2)
theorem tr_wk (w : Wks env env1) (h : Tr C p env1 s o) : Tr C p env s o := tr_weak h w.len w.at
theorem EnvOk.wk {F0 H0 F H : Hp} {σ : L2.St} (e : EnvOk C F0 H0 σ F H env s) (w : Wks env env1) : EnvOk C F0 H0 σ F H env1 s := e.weak w.len w.at
theorem tr_nxW (h : Tr C p env s (.nx env1 s1)) (w : Wks env1 env2) : Tr C p env s (.nx env2 s1) := fun F0 H0 σ F H e D k => h F0 H0 σ F H e D fun σ1 F1 H1 e1 => k σ1 F1 H1 (e1.wk w)
theorem tr_is (h : Tr C p env s o) {o2 : Out C} (e : o = o2) : Tr C p env s o2 := e ▸ h
theorem tr_nxE (h : Tr C p env s (.nx env1 s1)) (e1 : env1 = env2) (e2 : s1 = s2) : Tr C p env s (.nx env2 s2) := tr_is h (by rw [e1, e2])
/-- an owned list is data from here on -/
theorem EnvOk.freeze {F0 H0 F H : Hp} {σ : L2.St} (e : EnvOk C F0 H0 σ F H env s) {i : Nat} (h : env[i]? = some (.own ds)) : ∃ F2, EnvOk C F0 H0 σ F2 H (env.set i (.dat (.list ds))) s := by
  obtain ⟨v, h1, a, xs, h2, h3, h4, h5, h6, h7⟩ := e.at h (by intro z; cases z)
  subst h2
  have le : Le F (upd F a (.lst xs)) := fun b o z => by
    rw [upd_ne (ne_of_none z h5)]
    exact z
  refine ⟨upd F a (.lst xs), ⟨e.ext.hx, e.ext.dom, e.ext.fx.trans le, fun b o z => ?_, fun b o z => ?_, e.ext.tab⟩, e.hold, by rw [List.length_set, e.len], fun j c q => ?_, fun j k c c' b q1 q2 o1 o2 v1 v2 => ?_, fun b m => by
    rw [upd_ne fun z => h4 (by rw [← z]; exact m)]
    exact e.nf b m⟩
  · by_cases hb : b = a
    · rw [hb, upd_same] at z
      cases z
      rw [hb]
      exact ⟨h6, nt_lst⟩
    · rw [upd_ne hb] at z
      exact e.ext.sub b o z
  · rw [upd_ne (ne_of_none z h3)]
    exact e.ext.fr b o z
  · rw [List.getElem?_set] at q
    by_cases hij : i = j
    · subst hij
      rw [if_pos rfl] at q
      split at q
      · cases q
        exact ⟨_, h1, .inr ⟨rfl, _, rfl, Da.lst (.of upd_same) (dps_le le _ _ h7)⟩⟩
      · cases q
    · rw [if_neg hij] at q
      obtain ⟨x, k1, k2⟩ := e.ok j c q
      refine ⟨x, k1, k2.imp id fun ⟨nb, w, k3, k4⟩ => ⟨nb, w, k3, ?_⟩⟩
      have na : c.isOwn = true → w ≠ .ref a := fun oc z => hij (e.sep i j _ c a h q rfl oc h1 (by rw [k1, k3, z]))
      cases c with
      | un => trivial
      | val u => exact k4
      | dat d => exact dp_le le _ _ k4
      | key k =>
        obtain ⟨a', r1, r2⟩ := k4
        exact ⟨a', r1, le _ _ r2⟩
      | fn fp F1 φ => exact ⟨k4.1, k4.2.1.trans le, k4.2.2⟩
      | fdk ds =>
        obtain ⟨a', o', xs', r1, r2, r3, r4⟩ := k4
        exact ⟨a', o', xs', r1, r2, r3, kall_le le r4⟩
      | pdk d ds => cases nb
      | own es =>
        obtain ⟨a', xs', r1, r2, r3, r4, r5, r6⟩ := k4
        exact ⟨a', xs', r1, r2, r3, by rw [upd_ne fun z => na rfl (by rw [r1, z])]; exact r4, r5, dps_le le _ _ r6⟩
      | odk es =>
        obtain ⟨a', xs', r1, r2, r3, r4, r5, r6⟩ := k4
        exact ⟨a', xs', r1, r2, r3, by rw [upd_ne fun z => na rfl (by rw [r1, z])]; exact r4, r5, kall_le le r6⟩
      | odt es =>
        obtain ⟨a', xs', r1, r2, r3, r4, r5, r6⟩ := k4
        exact ⟨a', xs', r1, r2, r3, by rw [upd_ne fun z => na rfl (by rw [r1, z])]; exact r4, r5, kall_le le r6⟩
      | bor es => cases nb
      | bdk es => cases nb
      | bdt es => cases nb
  · rw [List.getElem?_set] at q1 q2
    by_cases hj : i = j
    · subst hj
      rw [if_pos rfl] at q1
      split at q1
      · cases q1
        cases o1
      · cases q1
    · by_cases hk : i = k
      · subst hk
        rw [if_pos rfl] at q2
        split at q2
        · cases q2
          cases o2
        · cases q2
      · rw [if_neg hj] at q1
        rw [if_neg hk] at q2
        exact e.sep j k c c' b q1 q2 o1 o2 v1 v2
end
end DV
/-! Dv4: loops, list comprehensions over data. -/
namespace DV
open PySem L2 NdefX
section
variable {C : Cf} {env env1 env2 : Env} {s s0 s1 s2 s3 : C.w.S} {ta tb tc te : TE} {t u tt : TT} {b : B} {x y z : B} {d e : PyData} {ds es : List PyData} {p q r : TS} {o : Out C} {g : TG} {wi : TI}

/-- the same place, seen from a later start: what was frozen by then is frozen still -/
theorem EnvOk.later {F0 H0 F H F1 H1 : Hp} {σ : L2.St} (e : EnvOk C F0 H0 σ F H env s) (x : C.Ext F H F1 H1) (h : C.w.hold s1 H1) : EnvOk C F1 H0 σ F1 H1 env s1 := by
  have e1 := e.go x h
  exact ⟨⟨e1.ext.hx, e1.ext.dom, Le.refl F1, e1.ext.sub, fun _ _ _ => rfl, e1.ext.tab⟩, e1.hold, e1.len, e1.ok, e1.sep, e1.nf⟩
theorem Ext.since {M : Addr → Prop} {T : List NTab} {F0 H0 F1 H1 F H : Hp} (a : DV.Ext M T F0 H0 F1 H1) (b : DV.Ext M T F1 H0 F H) : DV.Ext M T F0 H0 F H :=
  ⟨b.hx, b.dom, a.fx.trans b.fx, b.sub, fun x o h => by rw [b.fr x o h, a.fr x o h], b.tab⟩
theorem EnvOk.since {F0 H0 F1 H1 F H : Hp} {σ : L2.St} (a : C.Ext F0 H0 F1 H1) (e : EnvOk C F1 H0 σ F H env s) : EnvOk C F0 H0 σ F H env s := ⟨Ext.since a e.ext, e.hold, e.len, e.ok, e.sep, e.nf⟩
theorem on_since {F0 H0 F1 H1 : Hp} (a : C.Ext F0 H0 F1 H1) {D : Ends} (h : Ends.on C F0 H0 D o) : Ends.on C F1 H0 D o := by
  cases o with
  | nx env s => exact fun σ F H e => h σ F H (e.since a)
  | rt r s => exact fun v F H e => h v F H (Ext.since a e)
  | bk env s => exact fun σ F H e => h σ F H (e.since a)
  | ct env s => exact fun σ F H e => h σ F H (e.since a)

/-! ### for -/
/-- a turn that goes on -/
def Goes (C : Cf) (p : TS) (env : Env) (s : C.w.S) (env1 : Env) (s1 : C.w.S) : Prop := ∃ env2, Wks env2 env1 ∧ (Tr C p env s (.nx env2 s1) ∨ Tr C p env s (.ct env2 s1))
theorem goes_nx (h : Tr C p env s (.nx env1 s1)) : Goes C p env s env1 s1 := ⟨env1, Wks.refl _, .inl h⟩
theorem goes_nxW (h : Tr C p env s (.nx env2 s1)) (w : Wks env2 env1) : Goes C p env s env1 s1 := ⟨env2, w, .inl h⟩
theorem goes_ct (h : Tr C p env s (.ct env1 s1)) : Goes C p env s env1 s1 := ⟨env1, Wks.refl _, .inr h⟩
theorem Goes.run {F0 H0 F H : Hp} {σ : L2.St} (h : Goes C p env s env1 s1) (e : EnvOk C F0 H0 σ F H env s) {D : Ends} {N : L2.St → Hp → Prop} (k : ∀ σ F H, EnvOk C F0 H0 σ F H env1 s1 → N σ H) : p { D with nx := N, ct := N } σ H := by
  obtain ⟨env2, w, h | h⟩ := h
  · exact h F0 H0 σ F H e _ fun σ1 F1 H1 e1 => k σ1 F1 H1 (e1.wk w)
  · exact h F0 H0 σ F H e _ fun σ1 F1 H1 e1 => k σ1 F1 H1 (e1.wk w)
/-- turns 0 to k - 1 go on; then the walk is at its end (k = length), or turn k ends the loop -/
theorem tr_forG (k : Nat) (envs : Nat → Env) (ss : Nat → C.w.S) (hi : Di C wi env s ds (ss 0)) (w0 : Wks env (envs 0)) (hk : k ≤ ds.length)
    (step : ∀ (i : Nat) (d : PyData), ds[i]? = some d → i < k → ∃ env1 js, Dg C g d (envs i) env1 js ∧ Goes C p env1 (ss i) (envs (i + 1)) (ss (i + 1)))
    (last : ∀ d : PyData, ds[k]? = some d → ∃ env1 js, Dg C g d (envs k) env1 js ∧ ((∃ e2 s2, o = .nx e2 s2 ∧ Tr C p env1 (ss k) (.bk e2 s2)) ∨ (∃ v s2, o = .rt v s2 ∧ Tr C p env1 (ss k) o)))
    (fin : k = ds.length → o = .nx (envs k) (ss k)) : Tr C (tFor wi g p) env s o := fun F0 H0 σ F H e D on => hi F0 H0 σ F H e _ fun J F1 H1 e1 h1 hy => by
  have a1 : C.Ext F0 H0 F1 H1 := e.ext.trans e1
  have on1 := on_since a1 on
  refine ⟨fun i m σ H => i + m = ds.length ∧ i ≤ k ∧ ∃ F, EnvOk C F1 H0 σ F H (envs i) (ss i), ⟨ds.length, by omega, Nat.zero_le _, F1, (e.later e1 h1).wk w0⟩, fun i m σ' H' ⟨em, ik, F', e'⟩ => ?_⟩
  obtain ⟨y1, y2⟩ := hy F' H' e'.ext.fx e'.sub e'.tab
  by_cases hi' : i < ds.length
  · have hd : ds[i]? = some ds[i] := List.getElem?_eq_getElem hi'
    obtain ⟨go, yld⟩ := y1 i _ hd
    by_cases hik : i < k
    · obtain ⟨env1, js, hg, hgo⟩ := step i _ hd hik
      refine .inr ⟨go, fun σ2 H2 => ∃ F2, EnvOk C F1 H0 σ2 F2 H2 (envs (i + 1)) (ss (i + 1)), fun σ2 H2 ⟨F2, e2⟩ => ⟨m - 1, by omega, by omega, hik, F2, e2⟩, fun x H2 hx => ?_⟩
      obtain ⟨F2, x2, d2⟩ := yld x H2 hx
      exact hg F1 H0 σ' F2 H2 (ss i) x (e'.go (extS x2) (holdS x2 e'.hold)) d2 _ fun σ3 e3 _ _ => hgo.run e3 (D := { D with bk := D.nx }) fun σ4 F4 H4 e4 => ⟨F4, e4⟩
    · have ek : i = k := by omega
      subst ek
      obtain ⟨env1, js, hg, hl⟩ := last _ hd
      refine .inr ⟨go, fun _ _ => False, fun _ _ z => z.elim, fun x H2 hx => ?_⟩
      obtain ⟨F2, x2, d2⟩ := yld x H2 hx
      refine hg F1 H0 σ' F2 H2 (ss i) x (e'.go (extS x2) (holdS x2 e'.hold)) d2 _ fun σ3 e3 _ _ => ?_
      rcases hl with ⟨e2, s2, rfl, hl⟩ | ⟨v, s2, rfl, hl⟩
      · exact hl F1 H0 σ3 F2 H2 e3 _ fun σ4 F4 H4 e4 => on1 σ4 F4 H4 e4
      · exact hl F1 H0 σ3 F2 H2 e3 _ fun v F4 H4 e4 => on1 v F4 H4 e4
  · have ei : i = ds.length := by omega
    have ekk : k = ds.length := by omega
    refine .inl ⟨y2 i (by omega), ?_⟩
    have eo := fin ekk
    subst eo
    have e3 : EnvOk C F1 H0 σ' F' H' (envs k) (ss k) := by
      rw [show k = i by omega]
      exact e'
    exact on1 σ' F' H' e3
theorem tr_for (envs : Nat → Env) (ss : Nat → C.w.S) (hi : Di C wi env s ds (ss 0)) (w0 : Wks env (envs 0))
    (step : ∀ (i : Nat) (d : PyData), ds[i]? = some d → ∃ env1 js, Dg C g d (envs i) env1 js ∧ Goes C p env1 (ss i) (envs (i + 1)) (ss (i + 1))) : Tr C (tFor wi g p) env s (.nx (envs ds.length) (ss ds.length)) :=
  tr_forG ds.length envs ss hi w0 (Nat.le_refl _) (fun i d h _ => step i d h) (fun d h => by rw [List.getElem?_eq_none (Nat.le_refl _)] at h; cases h) fun _ => rfl
/-- a loop that nothing beside is changed by -/
theorem tr_for0 (envs : Nat → Env) (hi : Di C wi env s ds s1) (w0 : Wks env (envs 0))
    (step : ∀ (i : Nat) (d : PyData), ds[i]? = some d → ∃ env1 js, Dg C g d (envs i) env1 js ∧ Goes C p env1 s1 (envs (i + 1)) s1) : Tr C (tFor wi g p) env s (.nx (envs ds.length) s1) :=
  tr_for envs (fun _ => s1) hi w0 step

/-! ### while -/
theorem tr_whileG (k : Nat) (envs : Nat → Env) (ss : Nat → C.w.S) (w0 : Wks env (envs 0)) (h0 : ss 0 = s)
    (step : ∀ i : Nat, i < k → ∃ sm, Dt C t (envs i) (ss i) true sm ∧ Goes C p (envs i) sm (envs (i + 1)) (ss (i + 1)))
    (last : (∃ sm, Dt C t (envs k) (ss k) false sm ∧ o = .nx (envs k) sm) ∨ (∃ sm, Dt C t (envs k) (ss k) true sm ∧ ((∃ e2 s2, o = .nx e2 s2 ∧ Tr C p (envs k) sm (.bk e2 s2)) ∨ (∃ v s2, o = .rt v s2 ∧ Tr C p (envs k) sm o)))) : Tr C (tWhile t p) env s o := fun F0 H0 σ F H e D on => by
  subst h0
  refine ⟨fun m σ H => ∃ i, i + m = k ∧ ∃ F, EnvOk C F0 H0 σ F H (envs i) (ss i), ⟨k, 0, by omega, F, e.wk w0⟩, fun m σ' H' ⟨i, em, F', e'⟩ => ?_⟩
  by_cases hik : i < k
  · obtain ⟨sm, ht, hgo⟩ := step i hik
    refine ht F0 H0 σ' F' H' e' _ fun F1 H1 e1 h1 => ?_
    refine ⟨fun σ2 H2 => ∃ F2, EnvOk C F0 H0 σ2 F2 H2 (envs (i + 1)) (ss (i + 1)), fun σ2 H2 ⟨F2, e2⟩ => ⟨m - 1, by omega, i + 1, by omega, F2, e2⟩, ?_⟩
    exact hgo.run (e'.go e1 h1) (D := { D with bk := D.nx }) fun σ4 F4 H4 e4 => ⟨F4, e4⟩
  · have ek : i = k := by omega
    subst ek
    rcases last with ⟨sm, ht, rfl⟩ | ⟨sm, ht, hl⟩
    · exact ht F0 H0 σ' F' H' e' _ fun F1 H1 e1 h1 => on σ' F1 H1 (e'.go e1 h1)
    · refine ht F0 H0 σ' F' H' e' _ fun F1 H1 e1 h1 => ⟨fun _ _ => False, fun _ _ z => z.elim, ?_⟩
      rcases hl with ⟨e2, s2, rfl, hl⟩ | ⟨v, s2, rfl, hl⟩
      · exact hl F0 H0 σ' F1 H1 (e'.go e1 h1) _ fun σ4 F4 H4 e4 => on σ4 F4 H4 e4
      · exact hl F0 H0 σ' F1 H1 (e'.go e1 h1) _ fun v F4 H4 e4 => on v F4 H4 e4
/-- the test is told by the place -/
theorem tr_while (k : Nat) (envs : Nat → Env) (w0 : Wks env (envs 0)) (test : ∀ i : Nat, i ≤ k → Dt C t (envs i) s (decide (i < k)) s)
    (step : ∀ i : Nat, i < k → Goes C p (envs i) s (envs (i + 1)) s) : Tr C (tWhile t p) env s (.nx (envs k) s) :=
  tr_whileG k envs (fun _ => s) w0 rfl (fun i hi => ⟨s, by have h := test i (Nat.le_of_lt hi); rw [decide_eq_true hi] at h; exact h, step i hi⟩)
    (.inl ⟨s, by have h := test k (Nat.le_refl k); rw [decide_eq_false (Nat.lt_irrefl k)] at h; exact h, rfl⟩)

/-! ### list comprehensions -/
def wipeE (env : Env) : List Nat → Env
  | [] => env
  | v :: vs => (wipeE env vs).set v .un
theorem EnvOk.wipe {F0 H0 F H : Hp} {σ : L2.St} (e : EnvOk C F0 H0 σ F H env s) : ∀ vs : List Nat, EnvOk C F0 H0 (L2.wipe σ vs) F H (wipeE env vs) s
  | [] => e
  | v :: vs => by
    have ih := EnvOk.wipe e vs
    unfold L2.wipe wipeE
    refine ⟨ih.ext, ih.hold, by rw [List.length_set, List.length_set, ih.len], fun i b q => ?_, fun i j b c a q1 q2 o1 o2 v1 v2 => ?_, ih.nf⟩
    · rw [List.getElem?_set] at q ⊢
      by_cases hv : v = i
      · subst hv
        rw [if_pos rfl] at q ⊢
        split at q
        · rename_i hl
          cases q
          exact ⟨none, by rw [if_pos (by rw [ih.len]; exact hl)], .inl rfl⟩
        · cases q
      · rw [if_neg hv] at q ⊢
        exact ih.ok i b q
    · have at_ : ∀ (k : Nat) (d : B), ((wipeE env vs).set v .un)[k]? = some d → d.isOwn = true → v ≠ k ∧ (wipeE env vs)[k]? = some d := fun k d qk od => by
        rw [List.getElem?_set] at qk
        by_cases hv : v = k
        · rw [if_pos hv] at qk
          split at qk
          · cases qk
            cases od
          · cases qk
        · rw [if_neg hv] at qk
          exact ⟨hv, qk⟩
      obtain ⟨n1, z1⟩ := at_ i b q1 o1
      obtain ⟨n2, z2⟩ := at_ j c q2 o2
      rw [List.getElem?_set_ne n1] at v1
      rw [List.getElem?_set_ne n2] at v2
      exact ih.sep i j b c a z1 z2 o1 o2 v1 v2
theorem wipe_in (τ : L2.St) : ∀ (vs : List Nat) (j : Nat), j ∈ vs → j < τ.length → (L2.wipe τ vs)[j]? = some none
  | [], _, h, _ => by simp at h
  | v :: vs, j, h, hl => by
    unfold L2.wipe
    rw [List.getElem?_set]
    by_cases hv : v = j
    · rw [if_pos hv, if_pos (by rw [wipe_length, hv]; exact hl)]
    · rw [if_neg hv]
      rcases List.mem_cons.mp h with z | z
      · exact absurd z.symm hv
      · exact wipe_in τ vs j z hl
theorem wipe_eq {σ σ2 : L2.St} {vs : List Nat} (l : σ2.length = σ.length) (h : ∀ j, j ∉ vs → σ2[j]? = (L2.wipe σ vs)[j]?) : L2.wipe σ2 vs = L2.wipe σ vs := by
  apply List.ext_getElem?
  intro j
  by_cases hj : j ∈ vs
  · by_cases hl : j < σ.length
    · rw [wipe_in σ vs j hj hl, wipe_in σ2 vs j hj (by rw [l]; exact hl)]
    · rw [List.getElem?_eq_none (by rw [wipe_length, l]; omega), List.getElem?_eq_none (by rw [wipe_length]; omega)]
  · rw [← h j hj]
    exact wipe_out hj
/-- [e for .. in .. if t]: outs i, what is made behind i turns -/
theorem dv_lcG {vs : List Nat} (outs : Nat → List PyData) (ss : Nat → C.w.S) (hi : Di C wi env s ds (ss 0)) (o0 : outs 0 = []) (hz : ds.length ≤ 100000) (ol : ∀ i, (outs i).length ≤ i)
    (step : ∀ (i : Nat) (d : PyData), ds[i]? = some d → ∃ env1 js, Dg C g d (wipeE env vs) env1 js ∧ (∀ j ∈ js, j ∈ vs) ∧ ∃ c sm, Dt C tt env1 (ss i) c sm ∧
      (c = true → ∃ r o, Dv C te env1 sm r (ss (i + 1)) ∧ r.toD = some o ∧ outs (i + 1) = outs i ++ [o]) ∧ (c = false → sm = ss (i + 1) ∧ outs (i + 1) = outs i)) :
    Dv C (tLc wi g tt te vs) env s (.own (outs ds.length)) (ss ds.length) := fun F0 H0 σ F H e Q q => hi F0 H0 σ F H e _ fun J F1 H1 e1 h1 hy D hD => by
  have a1 : C.Ext F0 H0 F1 H1 := e.ext.trans e1
  have hnone : ∀ K : Hp, (∀ a o, K a = some o → ∃ o', H1 a = some o') → K D = none := fun K k => by
    cases z : K D with
    | none => rfl
    | some u =>
      obtain ⟨u', z'⟩ := k D u z
      rw [z'] at hD
      cases hD
  have nH : H D = none := hnone H e1.dom
  have nH0 : H0 D = none := hnone H0 a1.dom
  have nM : ¬ C.w.M D := fun m => by
    obtain ⟨u, z, _⟩ := C.w.there h1 m
    rw [z] at hD
    cases hD
  have nF1 : F1 D = none := by
    cases z : F1 D with
    | none => rfl
    | some u =>
      rw [(e1.sub D u z).1] at hD
      cases hD
  -- what holds ahead of turn i
  let St : Nat → Hp → Prop := fun i H' => ∃ F' acc, EnvOk C F1 H0 (L2.wipe σ vs) F' H' (wipeE env vs) (ss i) ∧ C.Ext F H F' H' ∧ H' D = some (.lst acc) ∧ F' D = none ∧ DaAll C.K F' acc (outs i)
  have ew := (e.later e1 h1).wipe vs
  have ownD : ∀ (k : Nat) (b : B), (wipeE env vs)[k]? = some b → b.isOwn = true → (L2.wipe σ vs)[k]? ≠ some (some (.ref D)) := fun k b z o w => by
    obtain ⟨u, hu, _⟩ := ew.own_lt z o w
    rw [hD] at hu
    cases hu
  -- the list D is written
  have wr : ∀ (j : Nat) (F' H' : Hp) (acc acc' : List V), EnvOk C F1 H0 (L2.wipe σ vs) F' H' (wipeE env vs) (ss j) → C.Ext F H F' H' → H' D = some (.lst acc) → F' D = none →
      EnvOk C F1 H0 (L2.wipe σ vs) F' (upd H' D (.lst acc')) (wipeE env vs) (ss j) ∧ C.Ext F H F' (upd H' D (.lst acc')) := fun j F' H' acc acc' e' x' hd fd => by
    have x2 := x'.write (o := .lst acc') nH fd hd wr_lst
    refine ⟨⟨e'.ext.write nH0 fd hd wr_lst, C.w.stab (fun a o m z _ => by rw [upd_ne (fun w => nM (by rw [← w]; exact m))]; exact z) e'.hold, e'.len, fun k b z => ?_, e'.sep, e'.nf⟩, x2⟩
    obtain ⟨y, k1, k2⟩ := e'.ok k b z
    refine ⟨y, k1, k2.imp id fun ⟨nb, w, k3, k4⟩ => ⟨nb, w, k3, ?_⟩⟩
    have nD : b.isOwn = true → w ≠ .ref D := fun o w' => ownD k b z o (by rw [k1, k3, w'])
    cases b with
    | un => trivial
    | val u => exact k4
    | dat d => exact k4
    | key k => exact k4
    | fn fp Fz φ => exact ⟨k4.1, k4.2.1, k4.2.2.upd hd wr_lst⟩
    | fdk ds =>
      obtain ⟨a', o', xs', r1, r2, r3, r4⟩ := k4
      exact ⟨a', o', xs', r1, r2, (upd_ne fun z => by rw [z, hd] at r3; exact (wr_lst (xs := acc)).2.2 _ _ (Option.some.inj r3)).trans r3, r4⟩
    | pdk d ds => cases nb
    | own es =>
      obtain ⟨a', xs', r1, r2, r3, r4, r5, r6⟩ := k4
      exact ⟨a', xs', r1, r2, r3, r4, by rw [upd_ne fun z => nD rfl (by rw [r1, z])]; exact r5, r6⟩
    | odk es =>
      obtain ⟨a', xs', r1, r2, r3, r4, r5, r6⟩ := k4
      exact ⟨a', xs', r1, r2, r3, r4, by rw [upd_ne fun z => nD rfl (by rw [r1, z])]; exact r5, r6⟩
    | odt es =>
      obtain ⟨a', xs', r1, r2, r3, r4, r5, r6⟩ := k4
      exact ⟨a', xs', r1, r2, r3, r4, by rw [upd_ne fun z => nD rfl (by rw [r1, z])]; exact r5, r6⟩
    | bor es => cases nb
    | bdk es => cases nb
    | bdt es => cases nb
  refine ⟨fun i m H' => i + m = ds.length ∧ St i H', ⟨ds.length, by omega, ?_⟩, fun i m H' ⟨em, F', acc, e', x', hd, fd, da⟩ => ?_⟩
  · have x0 : C.ExtS F1 H1 F1 (upd H1 D (.lst [])) := Ext.fresh e1.sub e1.tab hD
    exact ⟨F1, [], ew.go (extS x0) (holdS x0 h1), e1.trans (extS x0), upd_same, nF1, by rw [o0]; exact .nil⟩
  obtain ⟨y1, y2⟩ := hy F' H' e'.ext.fx e'.sub e'.tab
  by_cases hil : i < ds.length
  · have hdd : ds[i]? = some ds[i] := List.getElem?_eq_getElem hil
    obtain ⟨go, yld⟩ := y1 i _ hdd
    obtain ⟨env1, js, hg, hjs, c, sm, ht, hc1, hc2⟩ := step i _ hdd
    refine .inr ⟨go, St (i + 1), fun H2 h2 => ⟨m - 1, by omega, by omega, h2⟩, fun x H2 hx => ?_⟩
    obtain ⟨F2, x2, d2⟩ := yld x H2 hx
    refine hg F1 H0 (L2.wipe σ vs) F2 H2 (ss i) x (e'.go (extS x2) (holdS x2 e'.hold)) d2 _ fun σ3 e3 l3 k3 => ⟨wipe_eq (by rw [l3, wipe_length]) fun j hj => k3 j fun z => hj (hjs j z), ?_⟩
    have x3 : C.Ext F H F2 H2 := x'.trans (extS x2)
    have hd2 : H2 D = some (.lst acc) := x2.hx D _ hd nt_lst id
    have fd2 : F2 D = none := (x2.fr D _ hd).trans fd
    refine ht F1 H0 σ3 F2 H2 e3 _ fun F4 H4 e4 h4 => ?_
    have hd4 : H4 D = some (.lst acc) := e4.hx D _ hd2 nt_lst nM
    have fd4 : F4 D = none := (e4.fr D _ hd2).trans fd2
    cases c with
    | true =>
      obtain ⟨r, o, hte, hr, ho⟩ := hc1 rfl
      show te σ3 H4 _
      refine dv_freeze hte hr F1 H0 σ3 F4 H4 (e3.go e4 h4) _ fun v F5 H5 e5 h5 b5 => ?_
      have hd5 : H5 D = some (.lst acc) := e5.hx D _ hd4 nt_lst nM
      have fd5 : F5 D = none := (e5.fr D _ hd4).trans fd4
      have xx : C.Ext F' H' F5 H5 := ((extS x2).trans e4).trans e5
      obtain ⟨e6, x6⟩ := wr (i + 1) F5 H5 acc (acc ++ [v]) (e'.go xx h5) (x'.trans xx) hd5 fd5
      have la : acc.length ≤ i := by
        rw [dps_len da]
        exact ol i
      exact ⟨acc, hd5, Nat.lt_of_lt_of_le (show acc.length < 100000 by omega) (by decide), F5, acc ++ [v], e6, x6, upd_same, fd5, by rw [ho]; exact dps_app (dps_le xx.fx _ _ da) (dps_one b5)⟩
    | false =>
      obtain ⟨hs, ho⟩ := hc2 rfl
      show St (i + 1) H4
      have xx : C.Ext F' H' F4 H4 := (extS x2).trans e4
      exact ⟨F4, acc, e'.go xx (by rw [← hs]; exact h4), x'.trans xx, hd4, fd4, by rw [ho]; exact dps_le xx.fx _ _ da⟩
  · have ei : i = ds.length := by omega
    subst ei
    exact .inl ⟨y2 _ (Nat.le_refl _), q (.ref D) F' H' x' e'.hold ⟨D, acc, rfl, nH, nM, fd, hd, da⟩⟩
end
end DV
/-! Dv5: what is walked; owned lists and dicts changed; promises of defs over data, calls. -/
namespace DV
open PySem L2 NdefX
section
variable {C : Cf} {env env1 env2 : Env} {s s0 s1 s2 s3 : C.w.S} {ta tb tc te td ty tv : TE} {t u tt : TT} {b : B} {x y z : B} {d e : PyData} {ds es : List PyData} {p q r : TS} {o : Out C} {g : TG} {wi : TI}

/-! ### what is walked -/
theorem dp_listI {F : Hp} {v : V} (h : Da C.K F v (.list ds)) : ∃ a xs, v = .ref a ∧ SqL C.K F a xs ∧ DaAll C.K F xs ds := by
  cases h with
  | lst a b => exact ⟨_, _, rfl, a, b⟩
theorem dp_tupI {F : Hp} {v : V} (h : Da C.K F v (.tuple ds)) : ∃ a xs, v = .ref a ∧ SqT C.K F a xs ∧ DaAll C.K F xs ds := by
  cases h with
  | tup a b => exact ⟨_, _, rfl, a, b⟩
theorem ylds_list {F : Hp} {a : Addr} {xs : List V} (h : SqL C.K F a xs) (hd : DaAll C.K F xs ds) : Ylds C (Itl C.K a) F ds := fun F' H' le sub tab => by
  have hq : SqL C.K H' a xs := sqL_le (le.trans sub.le) h
  refine ⟨fun i d e => ?_, fun i hi => ⟨xs, hq, by rw [dps_len hd]; exact hi⟩⟩
  obtain ⟨v, h1, h2⟩ := dps_get hd e
  refine ⟨⟨xs, v, hq, h1⟩, fun x H2 ⟨eH, ex⟩ => ?_⟩
  have h3 := ex xs hq
  rw [h1] at h3
  cases h3
  subst eH
  exact ⟨F', .refl sub tab, dp_le le _ _ h2⟩
theorem ylds_tup {F : Hp} {a : Addr} {xs : List V} (h : SqT C.K F a xs) (hd : DaAll C.K F xs ds) : Ylds C (Itt C.K a) F ds := fun F' H' le sub tab => by
  have hq : SqT C.K H' a xs := sqT_le (le.trans sub.le) h
  refine ⟨fun i d e => ?_, fun i hi => ⟨xs, hq, by rw [dps_len hd]; exact hi⟩⟩
  obtain ⟨v, h1, h2⟩ := dps_get hd e
  refine ⟨⟨xs, v, hq, h1⟩, fun x H2 ⟨eH, ex⟩ => ?_⟩
  have h3 := ex xs hq
  rw [h1] at h3
  cases h3
  subst eH
  exact ⟨F', .refl sub tab, dp_le le _ _ h2⟩
theorem di_list (h : Dv C te env s b s1) (k : b.toD = some (.list ds)) : Di C (iList C.K te) env s ds s1 := fun F0 H0 σ F H e R r => dv_freeze h k F0 H0 σ F H e _ fun v F1 H1 e1 h1 b1 => by
  obtain ⟨a, xs, rfl, q1, q2⟩ := dp_listI b1
  exact ⟨a, rfl, ⟨xs, sqL_le e1.sub.le q1⟩, r _ F1 H1 e1 h1 (ylds_list q1 q2)⟩
theorem di_tup (h : Dv C te env s (.dat (.tuple ds)) s1) : Di C (iTup C.K te) env s ds s1 := fun F0 H0 σ F H e R r => h F0 H0 σ F H e _ fun v F1 H1 e1 h1 b1 => by
  obtain ⟨a, xs, rfl, q1, q2⟩ := dp_tupI b1
  exact ⟨a, rfl, ⟨xs, sqT_le e1.sub.le q1⟩, r _ F1 H1 e1 h1 (ylds_tup q1 q2)⟩
/-- lo, lo + 1, .., n of them -/
def rngD (lo : Int) (n : Nat) : List PyData := (List.range n).map fun (i : Nat) => .int (lo + (i : Int))
theorem rngD_len (lo : Int) (n : Nat) : (rngD lo n).length = n := by simp [rngD]
theorem rngD_get {lo : Int} {n i : Nat} {d : PyData} (h : (rngD lo n)[i]? = some d) : i < n ∧ d = .int (lo + (i : Int)) := by
  have hi : i < n := by
    have := (List.getElem?_eq_some_iff.mp h).1
    rw [rngD_len] at this
    exact this
  unfold rngD at h
  rw [List.getElem?_map, List.getElem?_range hi] at h
  cases h
  exact ⟨hi, rfl⟩
theorem ylds_rng {F : Hp} {lo : Int} {n : Nat} : Ylds C (Itr lo n) F (rngD lo n) := fun F' H' le sub tab => by
  refine ⟨fun i d e => ?_, fun i hi => by rw [rngD_len] at hi; exact hi⟩
  obtain ⟨hi, rfl⟩ := rngD_get e
  refine ⟨hi, fun x H2 ⟨eH, ex⟩ => ?_⟩
  subst eH
  subst ex
  exact ⟨F', .refl sub tab, .int _⟩
theorem ball1 {H0 F H : Hp} {vs : List V} (h : BAll C H0 F H [b] vs) : ∃ v, vs = [v] ∧ Bok C H0 F H b v := by
  cases h with
  | cons a t _ =>
    cases t
    exact ⟨_, rfl, a⟩
theorem ball2 {c : B} {H0 F H : Hp} {vs : List V} (h : BAll C H0 F H [b, c] vs) : ∃ v u, vs = [v, u] ∧ Bok C H0 F H b v ∧ Bok C H0 F H c u := by
  cases h with
  | cons a t _ =>
    cases t with
    | cons a2 t2 _ =>
      cases t2
      exact ⟨_, _, rfl, a, a2⟩
theorem bok_int {H0 F H : Hp} {v : V} {i : Int} (h : Bok C H0 F H (.dat (.int i)) v) : v = .int i := by cases h; rfl
theorem bok_str {H0 F H : Hp} {v : V} {i : Str} (h : Bok C H0 F H (.dat (.str i)) v) : v = .str i := by cases h; rfl
theorem bok_bool {H0 F H : Hp} {v : V} {i : Bool} (h : Bok C H0 F H (.dat (.bool i)) v) : v = .bl i := by cases h; rfl
theorem di_rng1 {ta : TA} {n : Int} (h : DvA C ta env s [.dat (.int n)] s1) (h1 : -(2 ^ 62) ≤ n) (h2 : n < 2 ^ 62) : Di C (iRng1 ta) env s (rngD 0 n.toNat) s1 := fun F0 H0 σ F H e R r => h F0 H0 σ F H e _ fun vs F1 H1 e1 o1 b1 => by
  obtain ⟨v, rfl, bv⟩ := ball1 b1
  rw [bok_int bv]
  exact ⟨n, rfl, h1, h2, r _ F1 H1 e1 o1 ylds_rng⟩
theorem di_rng2 {ta : TA} {m n : Int} (h : DvA C ta env s [.dat (.int m), .dat (.int n)] s1) (h1 : -(2 ^ 62) ≤ m) (h2 : m < 2 ^ 62) (h3 : -(2 ^ 62) ≤ n) (h4 : n < 2 ^ 62) : Di C (iRng2 ta) env s (rngD m (n - m).toNat) s1 := fun F0 H0 σ F H e R r => h F0 H0 σ F H e _ fun vs F1 H1 e1 o1 b1 => by
  obtain ⟨v, u, rfl, bv, bu⟩ := ball2 b1
  rw [bok_int bv, bok_int bu]
  exact ⟨m, n, rfl, ⟨h1, h2, h3, h4⟩, r _ F1 H1 e1 o1 ylds_rng⟩
/-- enumerate -/
def enumD (ds : List PyData) : List PyData := ds.mapIdx fun (i : Nat) d => .tuple [.int (i : Int), d]
theorem enumD_len (ds : List PyData) : (enumD ds).length = ds.length := by simp [enumD]
theorem enumD_get {ds : List PyData} {i : Nat} {d : PyData} (h : (enumD ds)[i]? = some d) : ∃ x, ds[i]? = some x ∧ d = .tuple [.int (i : Int), x] := by
  unfold enumD at h
  rw [List.getElem?_mapIdx] at h
  cases e : ds[i]? with
  | none => rw [e] at h; cases h
  | some x =>
    rw [e] at h
    cases h
    exact ⟨x, rfl, rfl⟩
theorem pair_new {F' H' : Hp} {T : Addr} {v u : V} {d1 d2 : PyData} (sub : Sub F' H') (tab : TabsN C.T H') (hT : H' T = none) (h1 : Da C.K F' v d1) (h2 : Da C.K F' u d2) : ∃ F2, C.ExtS F' H' F2 (upd H' T (.tup [v, u])) ∧ Da C.K F2 (.ref T) (.tuple [d1, d2]) := by
  have e : C.ExtS F' H' (upd F' T (.tup [v, u])) (upd H' T (.tup [v, u])) := Ext.new sub tab hT nt_tup
  exact ⟨_, e, .tup (.of upd_same) (dps_le e.fx _ _ (.cons h1 (.cons h2 .nil)))⟩
theorem ylds_enum {F : Hp} {a : Addr} {xs : List V} (h : SqL C.K F a xs) (hd : DaAll C.K F xs ds) : Ylds C (Ite C.K a) F (enumD ds) := fun F' H' le sub tab => by
  have hq : SqL C.K H' a xs := sqL_le (le.trans sub.le) h
  refine ⟨fun i d e => ?_, fun i hi => ⟨xs, hq, by rw [dps_len hd, ← enumD_len]; exact hi⟩⟩
  obtain ⟨w, e1, rfl⟩ := enumD_get e
  obtain ⟨v, h1, h2⟩ := dps_get hd e1
  refine ⟨⟨xs, v, hq, h1⟩, fun x H2 ⟨T, x', ex, hT, eH, hx⟩ => ?_⟩
  have h3 := hx xs hq
  rw [h1] at h3
  cases h3
  subst ex
  subst eH
  exact pair_new sub tab hT (.int _) (dp_le le _ _ h2)
theorem di_enum {ta : TA} (h : DvA C ta env s [b] s1) (k : b.toD = some (.list ds)) : Di C (iEnum C.K ta) env s (enumD ds) s1 := fun F0 H0 σ F H e R r => h F0 H0 σ F H e _ fun vs F1 H1 e1 h1 b1 => by
  obtain ⟨v, rfl, bv⟩ := ball1 b1
  obtain ⟨F2, e2, _, r2⟩ := freeze1 e1 bv k
  obtain ⟨a, xs, rfl, q1, q2⟩ := dp_listI r2
  exact ⟨a, xs, rfl, sqL_le e2.sub.le q1, r _ F2 H1 e2 h1 (ylds_enum q1 q2)⟩
def zipD (ds es : List PyData) : List PyData := List.zipWith (fun d e => .tuple [d, e]) ds es
theorem zipD_get {ds es : List PyData} {i : Nat} {d : PyData} (h : (zipD ds es)[i]? = some d) : ∃ x y, ds[i]? = some x ∧ es[i]? = some y ∧ d = .tuple [x, y] := by
  unfold zipD at h
  rw [List.getElem?_zipWith] at h
  cases e1 : ds[i]? with
  | none => rw [e1] at h; cases h
  | some x =>
    cases e2 : es[i]? with
    | none => rw [e1, e2] at h; cases h
    | some y =>
      rw [e1, e2] at h
      cases h
      exact ⟨x, y, rfl, rfl, rfl⟩
theorem ylds_zip {F : Hp} {a c : Addr} {xs ys : List V} (h : SqL C.K F a xs) (hd : DaAll C.K F xs ds) (h' : SqL C.K F c ys) (hd' : DaAll C.K F ys es) : Ylds C (Itz C.K a c) F (zipD ds es) := fun F' H' le sub tab => by
  have hq : SqL C.K H' a xs := sqL_le (le.trans sub.le) h
  have hq' : SqL C.K H' c ys := sqL_le (le.trans sub.le) h'
  refine ⟨fun i d e => ?_, fun i hi => ⟨xs, ys, hq, hq', ?_⟩⟩
  · obtain ⟨w, w', e1, e2, rfl⟩ := zipD_get e
    obtain ⟨v, h1, h2⟩ := dps_get hd e1
    obtain ⟨v', h1', h2'⟩ := dps_get hd' e2
    refine ⟨⟨xs, ys, v, v', hq, hq', h1, h1'⟩, fun x H2 ⟨T, x1, x2, ex, hT, eH, hx, hy⟩ => ?_⟩
    have h3 := hx xs hq
    rw [h1] at h3
    cases h3
    have h4 := hy ys hq'
    rw [h1'] at h4
    cases h4
    subst ex
    subst eH
    exact pair_new sub tab hT (dp_le le _ _ h2) (dp_le le _ _ h2')
  · unfold zipD at hi
    rw [List.length_zipWith] at hi
    rw [dps_len hd, dps_len hd']
    omega

/-! ### owned things changed -/
theorem EnvOk.write {F0 H0 F H : Hp} {σ : L2.St} (e : EnvOk C F0 H0 σ F H env s) {i : Nat} {b b' : B} (h : env[i]? = some b) (ho : b.isOwn = true) (ho' : b'.isOwn = true) (nb' : b'.isBor = false) {a : Addr} (hv : σ[i]? = some (some (.ref a))) {u : HO}
    (hb' : Bok C H0 F (upd H a u) b' (.ref a)) : EnvOk C F0 H0 σ F (upd H a u) (env.set i b') s := by
  obtain ⟨w, hw, ww, fa, ma, h0⟩ := e.own_lt h ho hv
  refine ⟨e.ext.write h0 fa hw ww, C.w.stab (fun c o m z _ => by rw [upd_ne (fun w => ma (by rw [← w]; exact m))]; exact z) e.hold, by rw [List.length_set, e.len], fun j c q => ?_, fun j k c c' a' q1 q2 o1 o2 v1 v2 => ?_, e.nf⟩
  · rw [List.getElem?_set] at q
    by_cases hij : i = j
    · subst hij
      rw [if_pos rfl] at q
      split at q
      · cases q
        exact ⟨_, hv, .inr ⟨nb', _, rfl, hb'⟩⟩
      · cases q
    · rw [if_neg hij] at q
      obtain ⟨x, k1, k2⟩ := e.ok j c q
      refine ⟨x, k1, k2.imp id fun ⟨nb, w, k3, k4⟩ => ⟨nb, w, k3, ?_⟩⟩
      have na : c.isOwn = true → w ≠ .ref a := fun oc z => hij (e.sep i j b c a h q ho oc hv (by rw [k1, k3, z]))
      cases c with
      | un => trivial
      | val u => exact k4
      | dat d => exact k4
      | key k => exact k4
      | fn fp Fz φ => exact ⟨k4.1, k4.2.1, k4.2.2.upd hw ww⟩
      | fdk ds =>
        obtain ⟨a', o', xs', r1, r2, r3, r4⟩ := k4
        exact ⟨a', o', xs', r1, r2, (upd_ne fun z => by rw [z, hw] at r3; exact ww.2.2 _ _ (Option.some.inj r3)).trans r3, r4⟩
      | pdk d ds => cases nb
      | own es =>
        obtain ⟨a', xs', r1, r2, r3, r4, r5, r6⟩ := k4
        exact ⟨a', xs', r1, r2, r3, r4, by rw [upd_ne fun z => na rfl (by rw [r1, z])]; exact r5, r6⟩
      | odk es =>
        obtain ⟨a', xs', r1, r2, r3, r4, r5, r6⟩ := k4
        exact ⟨a', xs', r1, r2, r3, r4, by rw [upd_ne fun z => na rfl (by rw [r1, z])]; exact r5, r6⟩
      | odt es =>
        obtain ⟨a', xs', r1, r2, r3, r4, r5, r6⟩ := k4
        exact ⟨a', xs', r1, r2, r3, r4, by rw [upd_ne fun z => na rfl (by rw [r1, z])]; exact r5, r6⟩
      | bor es => cases nb
      | bdk es => cases nb
      | bdt es => cases nb
  · have at_ : ∀ (k : Nat) (d : B), (env.set i b')[k]? = some d → d.isOwn = true → ∃ d', env[k]? = some d' ∧ d'.isOwn = true := fun k d qk od => by
      rw [List.getElem?_set] at qk
      by_cases hk : i = k
      · subst hk
        exact ⟨b, h, ho⟩
      · rw [if_neg hk] at qk
        exact ⟨d, qk, od⟩
    obtain ⟨d1, z1, w1⟩ := at_ j c q1 o1
    obtain ⟨d2, z2, w2⟩ := at_ k c' q2 o2
    exact e.sep j k d1 d2 a' z1 z2 w1 w2 v1 v2
/-- an owned list in slot i: where it stands -/
theorem EnvOk.ownAt {F0 H0 F H : Hp} {σ : L2.St} (e : EnvOk C F0 H0 σ F H env s) {i : Nat} (h : env[i]? = some (.own ds)) : ∃ a xs, σ[i]? = some (some (.ref a)) ∧ H0 a = none ∧ ¬ C.w.M a ∧ F a = none ∧ H a = some (.lst xs) ∧ DaAll C.K F xs ds := by
  obtain ⟨v, h1, a, xs, rfl, h2, h3, h4, h5, h6⟩ := e.at h (by intro z; cases z)
  exact ⟨a, xs, h1, h2, h3, h4, h5, h6⟩
theorem lt_sz {n : Nat} (h : n < 100000) : n < sizeLine := Nat.lt_of_lt_of_le h (by decide)
/-- x.append(e), x a name of an owned list -/
theorem tr_app {i : Nat} (h : env[i]? = some (.own ds)) (he : Dv C te env s b s1) (k : b.toD = some d) (n : ds.length < 100000) :
    Tr C (tDrop (tBM C.K "list" rAppend (tVar i) (tCons te tNil))) env s (.nx (env.set i (.own (ds ++ [d]))) s1) := fun F0 H0 σ F H e D on => by
  obtain ⟨a, xs, h1, h2, h3, h4, h5, h6⟩ := e.ownAt h
  refine ⟨.ref a, h1, .inl ⟨rfl, xs, .of h5⟩, dv_freeze he k F0 H0 σ F H e _ fun v F1 H1 e1 o1 b1 => ?_⟩
  have e2 := e.go e1 o1
  have h5' : H1 a = some (.lst xs) := e1.hx a _ h5 nt_lst h3
  have h4' : F1 a = none := (e1.fr a _ h5).trans h4
  refine ⟨a, xs, v, rfl, rfl, h5', lt_sz (by rw [dps_len h6]; exact n), ?_⟩
  exact on σ F1 _ (e2.write h rfl rfl rfl h1 (b' := .own (ds ++ [d])) ⟨a, xs ++ [v], rfl, h2, h3, h4', upd_same, dps_app (dps_le e1.fx _ _ h6) (dps_one b1)⟩)
/-- x[i] = e, x a name of an owned list -/
theorem tr_setL {i : Nat} {j : Int} {k : Nat} (h : env[i]? = some (.own ds)) (he : Dv C te env s b s1) (hb : b.toD = some d) (hi : Dv C ty env s1 (.dat (.int j)) s2) (hk : ixN ds.length j = some k) :
    Tr C (tAsg te (gSub (tVar i) ty rSetL)) env s (.nx (env.set i (.own (ds.set k d))) s2) := fun F0 H0 σ F H e D on => dv_freeze he hb F0 H0 σ F H e _ fun v F1 H1 e1 o1 b1 => by
  have e2 := e.go e1 o1
  obtain ⟨a, xs, h1, h2, h3, h4, h5, h6⟩ := e2.ownAt h
  refine ⟨.ref a, h1, hi F0 H0 σ F1 H1 e2 _ fun w F2 H2 e3 o3 b3 => ?_⟩
  rw [bok_int b3]
  have e4 := e2.go e3 o3
  have h5' : H2 a = some (.lst xs) := e3.hx a _ h5 nt_lst h3
  have h4' : F2 a = none := (e3.fr a _ h5).trans h4
  refine ⟨a, xs, j, k, rfl, rfl, h5', by rw [dps_len h6]; exact hk, ?_⟩
  exact on σ F2 _ (e4.write h rfl rfl rfl h1 (b' := .own (ds.set k d)) ⟨a, xs.set k v, rfl, h2, h3, h4', upd_same, dps_set (dp_le e3.fx _ _ b1) k (dps_le e3.fx _ _ h6)⟩)

/-! ### dicts -/
def valD {κ : Type} [DecidableEq κ] (kvs : List (κ × PyData)) (k : κ) : Option PyData := (kvs.find? fun kv => decide (kv.1 = k)).map (·.2)
def putD {κ : Type} [DecidableEq κ] (kvs : List (κ × PyData)) (k : κ) (d : PyData) : List (κ × PyData) :=
  if (kvs.any fun kv => decide (kv.1 = k)) = true then kvs.map fun kv => if kv.1 = k then (kv.1, d) else kv
  else kvs ++ [(k, d)]
theorem dp_key {F : Hp} {v : V} {k : Key} (h : Da C.K F v (kD k)) : v = kV k := by
  cases k with
  | inl i => cases h; rfl
  | inr x => cases h; rfl
theorem kall_val {κ : Type} [DecidableEq κ] {K : PySem.W.Frag} {F : Hp} {r : List (κ × V)} {q : List (κ × PyData)} (h : KAll K F r q) (k : κ) : (valD q k = none ∧ valV r k = none) ∨ ∃ d v, valD q k = some d ∧ valV r k = some v ∧ Da K F v d := by
  induction h with
  | nil => exact .inl ⟨rfl, rfl⟩
  | @cons j v d r q hd _ ih =>
    by_cases e : j = k
    · exact .inr ⟨d, v, by simp [valD, e], by simp [valV, e], hd⟩
    · have e1 : valD ((j, d) :: q) k = valD q k := by simp [valD, e]
      have e2 : valV ((j, v) :: r) k = valV r k := by simp [valV, e]
      rw [e1, e2]
      exact ih
theorem kall_app {κ : Type} {K : PySem.W.Frag} {F : Hp} {r r' : List (κ × V)} {q q' : List (κ × PyData)} (h : KAll K F r q) (h' : KAll K F r' q') : KAll K F (r ++ r') (q ++ q') := by
  induction h with
  | nil => exact h'
  | cons a _ ih => exact .cons a ih
theorem kall_put {κ : Type} [DecidableEq κ] {K : PySem.W.Frag} {F : Hp} {r : List (κ × V)} {q : List (κ × PyData)} (h : KAll K F r q) (k : κ) {v : V} {d : PyData} (hd : Da K F v d) : KAll K F (putK r k v) (putD q k d) := by
  have ea : ∀ {r : List (κ × V)} {q : List (κ × PyData)}, KAll K F r q → (r.any fun kv => decide (kv.1 = k)) = q.any fun kv => decide (kv.1 = k) := fun h => by
    induction h with
    | nil => rfl
    | cons _ _ ih => simp only [List.any_cons, ih]
  have em : ∀ {r : List (κ × V)} {q : List (κ × PyData)}, KAll K F r q → KAll K F (r.map fun kv => if kv.1 = k then (kv.1, v) else kv) (q.map fun kv => if kv.1 = k then (kv.1, d) else kv) := fun h => by
    induction h with
    | nil => exact .nil
    | @cons j v' d' r q a _ ih =>
      simp only [List.map_cons]
      by_cases e : j = k
      · rw [if_pos e, if_pos e]
        exact .cons hd ih
      · rw [if_neg e, if_neg e]
        exact .cons a ih
  unfold putK putD
  rw [ea h]
  split
  · exact em h
  · exact kall_app h (.cons hd .nil)
theorem kall_len {κ : Type} {K : PySem.W.Frag} {F : Hp} {r : List (κ × V)} {q : List (κ × PyData)} (h : KAll K F r q) : r.length = q.length := by
  induction h with
  | nil => rfl
  | cons _ _ ih => simp [ih]
/-- the pairs of a dict that is read -/
def B.dk : B → Option (List (Key × PyData))
  | .odk q => some q
  | .bdk q => some q
  | _ => none
def B.dt : B → Option (List (List Key × PyData))
  | .odt q => some q
  | .bdt q => some q
  | _ => none
theorem Bok.dk {H0 F H : Hp} {v : V} {q : List (Key × PyData)} (h : Bok C H0 F H b v) (e : b.dk = some q) : ∃ a r, v = .ref a ∧ H a = some (.dK r) ∧ KAll C.K F r q := by
  cases b with
  | odk q' =>
    cases e
    obtain ⟨a, xs, rfl, _, _, _, h1, h2⟩ := h
    exact ⟨a, xs, rfl, h1, h2⟩
  | bdk q' =>
    cases e
    obtain ⟨a, xs, rfl, _, _, h1, h2⟩ := h
    exact ⟨a, xs, rfl, h1, h2⟩
  | _ => cases e
theorem Bok.dt {H0 F H : Hp} {v : V} {q : List (List Key × PyData)} (h : Bok C H0 F H b v) (e : b.dt = some q) : ∃ a r, v = .ref a ∧ H a = some (.dT r) ∧ KAll C.K F r q := by
  cases b with
  | odt q' =>
    cases e
    obtain ⟨a, xs, rfl, _, _, _, h1, h2⟩ := h
    exact ⟨a, xs, rfl, h1, h2⟩
  | bdt q' =>
    cases e
    obtain ⟨a, xs, rfl, _, _, h1, h2⟩ := h
    exact ⟨a, xs, rfl, h1, h2⟩
  | _ => cases e
theorem dv_dget {k : Key} {q : List (Key × PyData)} (h : Dv C td env s b s1) (hb : b.dk = some q) (hk : Dv C ty env s1 (.dat (kD k)) s2) (e : valD q k = some d) : Dv C (tDGet td ty) env s (.dat d) s2 := fun F0 H0 σ F H en Q qq =>
  h F0 H0 σ F H en _ fun v F1 H1 e1 o1 b1 => hk F0 H0 σ F1 H1 (en.go e1 o1) _ fun u F2 H2 e2 o2 b2 => by
    obtain ⟨a, r, rfl, h1, h2⟩ := (b1.ext e2).dk hb
    rw [dp_key b2]
    rcases kall_val h2 k with ⟨z, _⟩ | ⟨d', w, z1, z2, z3⟩
    · rw [z] at e
      cases e
    · rw [e] at z1
      cases z1
      refine ⟨a, w, rfl, ?_, qq w F2 H2 (e1.trans e2) o2 z3⟩
      rw [← z2]
      exact .k h1
theorem dv_din {k : Key} {q : List (Key × PyData)} (hk : Dv C ty env s (.dat (kD k)) s1) (h : Dv C td env s1 b s2) (hb : b.dk = some q) : Dv C (tDIn ty td) env s (.dat (.bool (valD q k).isSome)) s2 := fun F0 H0 σ F H en Q qq =>
  hk F0 H0 σ F H en _ fun u F1 H1 e1 o1 b1 => h F0 H0 σ F1 H1 (en.go e1 o1) _ fun v F2 H2 e2 o2 b2 => by
    obtain ⟨a, r, rfl, h1, h2⟩ := b2.dk hb
    rw [dp_key b1]
    refine ⟨a, valV r k, rfl, .k h1, ?_⟩
    have e3 : (valV r k).isSome = (valD q k).isSome := by
      rcases kall_val h2 k with ⟨z1, z2⟩ | ⟨d', w, z1, z2, z3⟩
      · rw [z1, z2]
        rfl
      · rw [z1, z2]
        rfl
    rw [e3]
    exact qq _ F2 H2 (e1.trans e2) o2 (.bl _)
theorem dv_dnotin {k : Key} {q : List (Key × PyData)} (hk : Dv C ty env s (.dat (kD k)) s1) (h : Dv C td env s1 b s2) (hb : b.dk = some q) : Dv C (tDNotIn ty td) env s (.dat (.bool (!(valD q k).isSome))) s2 := fun F0 H0 σ F H en Q qq =>
  hk F0 H0 σ F H en _ fun u F1 H1 e1 o1 b1 => h F0 H0 σ F1 H1 (en.go e1 o1) _ fun v F2 H2 e2 o2 b2 => by
    obtain ⟨a, r, rfl, h1, h2⟩ := b2.dk hb
    rw [dp_key b1]
    refine ⟨a, valV r k, rfl, .k h1, ?_⟩
    have e3 : (valV r k).isSome = (valD q k).isSome := by
      rcases kall_val h2 k with ⟨z1, z2⟩ | ⟨d', w, z1, z2, z3⟩
      · rw [z1, z2]
        rfl
      · rw [z1, z2]
        rfl
    rw [e3]
    exact qq _ F2 H2 (e1.trans e2) o2 (.bl _)
theorem nothing_new {F H F1 H1 : Hp} (e : C.Ext F H F1 H1) {p : Addr} (hp : H1 p = none) : H p = none ∧ F1 p = none := by
  refine ⟨?_, ?_⟩
  · cases z : H p with
    | none => rfl
    | some o =>
      obtain ⟨o', z'⟩ := e.dom p o z
      rw [z'] at hp
      cases hp
  · cases z : F1 p with
    | none => rfl
    | some o =>
      rw [(e.sub p o z).1] at hp
      cases hp
theorem dv_dnewK : Dv C tDNewK env s (.odk []) s := fun F0 H0 σ F H en Q q p hp => by
  have e : C.ExtS F H F (upd H p (.dK [])) := Ext.fresh en.sub en.tab hp
  exact q (.ref p) F _ (extS e) (holdS e en.hold) ⟨p, [], rfl, hp, not_M en.hold hp, (nothing_new (Ext.rs (Ext.refl en.sub en.tab : C.Ext F H F H)) hp).2, upd_same, .nil⟩
theorem dv_dnewT : Dv C tDNewT env s (.odt []) s := fun F0 H0 σ F H en Q q p hp => by
  have e : C.ExtS F H F (upd H p (.dT [])) := Ext.fresh en.sub en.tab hp
  exact q (.ref p) F _ (extS e) (holdS e en.hold) ⟨p, [], rfl, hp, not_M en.hold hp, (nothing_new (Ext.rs (Ext.refl en.sub en.tab : C.Ext F H F H)) hp).2, upd_same, .nil⟩
/-- x[k] = e, x a name of an owned dict -/
theorem tr_dput {i : Nat} {k : Key} {q : List (Key × PyData)} (h : env[i]? = some (.odk q)) (he : Dv C tv env s b s1) (hb : b.toD = some d) (hk : Dv C ty env s1 (.dat (kD k)) s2) (n : q.length < 100000) :
    Tr C (sDPut (tVar i) ty tv) env s (.nx (env.set i (.odk (putD q k d))) s2) := fun F0 H0 σ F H e D on => dv_freeze he hb F0 H0 σ F H e _ fun v F1 H1 e1 o1 b1 => by
  have e2 := e.go e1 o1
  obtain ⟨w, h1, a, r, rfl, h2, h3, h4, h5, h6⟩ := e2.at h (by intro z; cases z)
  refine ⟨.ref a, h1, hk F0 H0 σ F1 H1 e2 _ fun w F2 H2 e3 o3 b3 => ?_⟩
  rw [dp_key b3]
  have e4 := e2.go e3 o3
  have h5' : H2 a = some (.dK r) := e3.hx a _ h5 nt_dK h3
  have h4' : F2 a = none := (e3.fr a _ h5).trans h4
  refine ⟨a, _, rfl, .k h5' (lt_sz (by rw [kall_len h6]; exact n)), ?_⟩
  exact on σ F2 _ (e4.write h rfl rfl rfl h1 (b' := .odk (putD q k d)) ⟨a, putK r k v, rfl, h2, h3, h4', upd_same, kall_put (kall_le e3.fx h6) k (dp_le e3.fx _ _ b1)⟩)
/-! .. with keys that are tuples -/
theorem dps_keys {F : Hp} : ∀ {k : List Key} {vs : List V}, DaAll C.K F vs (k.map kD) → vs = k.map kV
  | [], _, h => by cases h; rfl
  | k :: ks, _, h => by
    cases h with
    | cons a b => rw [dp_key a, dps_keys b]; rfl
theorem dv_tget {k : List Key} {q : List (List Key × PyData)} (h : Dv C td env s b s1) (hb : b.dt = some q) (hk : Dv C ty env s1 (.key k) s2) (e : valD q k = some d) : Dv C (tDGet td ty) env s (.dat d) s2 := fun F0 H0 σ F H en Q qq =>
  h F0 H0 σ F H en _ fun v F1 H1 e1 o1 b1 => hk F0 H0 σ F1 H1 (en.go e1 o1) _ fun u F2 H2 e2 o2 b2 => by
    obtain ⟨a, r, rfl, h1, h2⟩ := (b1.ext e2).dt hb
    obtain ⟨c, rfl, h3⟩ := b2
    rcases kall_val h2 k with ⟨z, _⟩ | ⟨d', w, z1, z2, z3⟩
    · rw [z] at e
      cases e
    · rw [e] at z1
      cases z1
      refine ⟨a, w, rfl, ?_, qq w F2 H2 (e1.trans e2) o2 z3⟩
      rw [← z2]
      exact .t h1 (e2.sub _ _ h3).1
theorem isSome_val {κ : Type} [DecidableEq κ] {F : Hp} {r : List (κ × V)} {q : List (κ × PyData)} (h : KAll C.K F r q) (k : κ) : (valV r k).isSome = (valD q k).isSome := by
  rcases kall_val h k with ⟨z1, z2⟩ | ⟨d', w, z1, z2, z3⟩
  · rw [z1, z2]
    rfl
  · rw [z1, z2]
    rfl
theorem dv_tin {k : List Key} {q : List (List Key × PyData)} (hk : Dv C ty env s (.key k) s1) (h : Dv C td env s1 b s2) (hb : b.dt = some q) : Dv C (tDIn ty td) env s (.dat (.bool (valD q k).isSome)) s2 := fun F0 H0 σ F H en Q qq =>
  hk F0 H0 σ F H en _ fun u F1 H1 e1 o1 b1 => h F0 H0 σ F1 H1 (en.go e1 o1) _ fun v F2 H2 e2 o2 b2 => by
    obtain ⟨a, r, rfl, h1, h2⟩ := b2.dt hb
    obtain ⟨c, rfl, h3⟩ := b1.ext e2
    refine ⟨a, valV r k, rfl, .t h1 (e2.sub _ _ h3).1, ?_⟩
    rw [isSome_val h2]
    exact qq _ F2 H2 (e1.trans e2) o2 (.bl _)
theorem dv_tnotin {k : List Key} {q : List (List Key × PyData)} (hk : Dv C ty env s (.key k) s1) (h : Dv C td env s1 b s2) (hb : b.dt = some q) : Dv C (tDNotIn ty td) env s (.dat (.bool (!(valD q k).isSome))) s2 := fun F0 H0 σ F H en Q qq =>
  hk F0 H0 σ F H en _ fun u F1 H1 e1 o1 b1 => h F0 H0 σ F1 H1 (en.go e1 o1) _ fun v F2 H2 e2 o2 b2 => by
    obtain ⟨a, r, rfl, h1, h2⟩ := b2.dt hb
    obtain ⟨c, rfl, h3⟩ := b1.ext e2
    refine ⟨a, valV r k, rfl, .t h1 (e2.sub _ _ h3).1, ?_⟩
    rw [isSome_val h2]
    exact qq _ F2 H2 (e1.trans e2) o2 (.bl _)
theorem tr_tput {i : Nat} {k : List Key} {q : List (List Key × PyData)} (h : env[i]? = some (.odt q)) (he : Dv C tv env s b s1) (hb : b.toD = some d) (hk : Dv C ty env s1 (.key k) s2) (n : q.length < 100000) :
    Tr C (sDPut (tVar i) ty tv) env s (.nx (env.set i (.odt (putD q k d))) s2) := fun F0 H0 σ F H e D on => dv_freeze he hb F0 H0 σ F H e _ fun v F1 H1 e1 o1 b1 => by
  have e2 := e.go e1 o1
  obtain ⟨w, h1, a, r, rfl, h2, h3, h4, h5, h6⟩ := e2.at h (by intro z; cases z)
  refine ⟨.ref a, h1, hk F0 H0 σ F1 H1 e2 _ fun w F2 H2 e3 o3 b3 => ?_⟩
  obtain ⟨c, rfl, hc⟩ := b3
  have e4 := e2.go e3 o3
  have h5' : H2 a = some (.dT r) := e3.hx a _ h5 nt_dT h3
  have h4' : F2 a = none := (e3.fr a _ h5).trans h4
  refine ⟨a, _, rfl, .t h5' (e3.sub _ _ hc).1 (lt_sz (by rw [kall_len h6]; exact n)), ?_⟩
  exact on σ F2 _ (e4.write h rfl rfl rfl h1 (b' := .odt (putD q k d)) ⟨a, putK r k v, rfl, h2, h3, h4', upd_same, kall_put (kall_le e3.fx h6) k (dp_le e3.fx _ _ b1)⟩)
/-- len of a list, of a dict -/
theorem rcb_len {x : B} {ds : List PyData} (hx : x.lst = some ds) : Rcb C (rLenS C.K) [x] (.dat (.int (ds.length : Int))) := fun H1 F H vs s t m h Q q => by
  obtain ⟨v, rfl, b⟩ := ball1 h
  obtain ⟨a, xs, rfl, h1, h2⟩ := b.lst s hx
  refine ⟨a, xs, rfl, .inl h1, ?_⟩
  rw [dps_len h2]
  exact q _ F H (.refl s t) (.int _)
theorem rcb_lenT {ds : List PyData} : Rcb C (rLenS C.K) [.dat (.tuple ds)] (.dat (.int (ds.length : Int))) := fun H1 F H vs s t m h Q q => by
  obtain ⟨v, rfl, b⟩ := ball1 h
  obtain ⟨a, xs, rfl, h1, h2⟩ := dp_tupI b
  refine ⟨a, xs, rfl, .inr (sqT_le s.le h1), ?_⟩
  rw [dps_len h2]
  exact q _ F H (.refl s t) (.int _)

/-! ### promises, calls -/
/-- no world: the layer of the program's own defs -/
abbrev Cf.pure (K : PySem.W.Frag) (T : List NTab) : Cf := ⟨K, T, wo0⟩
/-- called with data ds of which S tells r, a def hands r back; what stood stays -/
def Pm (K : PySem.W.Frag) (T : List NTab) (S : List PyData → B → Prop) : Sp := fun vs H Q _ => ∃ F ds r, Sub F H ∧ TabsN T H ∧ DaAll K F vs ds ∧ S ds r ∧ ∀ v F' H', DV.Ext (fun _ => False) T F H F' H' → Bok (Cf.pure K T) H F' H' r v → Q v H'
theorem bok_up {H F F' H' : Hp} {v : V} {r : B} (h : Bok (Cf.pure C.K C.T) H F' H' r v) (nb : r.isBor = false) (hd : C.w.hold s H) (e : DV.Ext (fun _ => False) C.T F H F' H') : Bok C H F' H' r v := by
  cases r with
  | un => trivial
  | val u => exact h
  | dat d => exact h
  | own ds =>
    obtain ⟨a, xs, h1, h2, _, h4⟩ := h
    exact ⟨a, xs, h1, h2, not_M hd h2, h4⟩
  | odk ds =>
    obtain ⟨a, xs, h1, h2, _, h4⟩ := h
    exact ⟨a, xs, h1, h2, not_M hd h2, h4⟩
  | odt ds =>
    obtain ⟨a, xs, h1, h2, _, h4⟩ := h
    exact ⟨a, xs, h1, h2, not_M hd h2, h4⟩
  | key k => exact h
  | fn fp Fz φ => exact ⟨h.1, h.2.1, fun p hp => let ⟨h1, h2, h3, _⟩ := h.2.2 p hp; ⟨h1, h2, h3, fun m => by
    obtain ⟨o, z, w⟩ := C.w.there hd m
    have z' := e.hx _ _ z w.1 id
    rw [h1] at z'
    cases z'
    exact h2 w⟩⟩
  | fdk ds =>
    obtain ⟨a, o, xs, h1, _, h3, h4⟩ := h
    exact ⟨a, o, xs, h1, fun m => by
      obtain ⟨u, z, w⟩ := C.w.there hd m
      have z' := e.hx _ _ z w.1 id
      rw [h3] at z'
      cases z'
      exact w.2.2 _ _ rfl, h3, h4⟩
  | pdk d ds => cases nb
  | bor ds => cases nb
  | bdk ds => cases nb
  | bdt ds => cases nb
theorem pm_call {S : List PyData → B → Prop} {E : XK} {xs : List B} {ta : TA} {r : B} (h : DvA C ta env s xs s1) (q : ToDs xs ds) (hS : S ds r) (nb : r.isBor = false) : Dv C (tCall (Pm C.K C.T S) [] E ta) env s r s1 := fun F0 H0 σ F H e Q k => h F0 H0 σ F H e _ fun vs F1 H1 e1 h1 b1 => by
  obtain ⟨F2, e2, _, r2⟩ := freezeA e1 b1 q
  refine ⟨F2, ds, r, e2.sub, e2.tab, by rw [List.append_nil]; exact r2, hS, fun v F' H' e3 b3 => ?_⟩
  exact k v F' H' (e2.trans (extS e3)) (holdS e3 h1) ((bok_up b3 nb h1 e3).base e2.dom)
end
/-- the slots at a def's start -/
def initE (N : List Str) (ds : List PyData) : Env := ds.map .dat ++ List.replicate (N.length - ds.length) .un
theorem init_ok {K : PySem.W.Frag} {T : List NTab} {N : List Str} {vs : List V} {ds : List PyData} {F H : Hp} (sub : Sub F H) (tab : TabsN T H) (h : DaAll K F vs ds) : EnvOk (Cf.pure K T) F H (L2.start N vs) F H (initE N ds) () := by
  have l := dps_len h
  refine .refl sub tab trivial (fun _ h => h.elim) ?_ fun i b q => ?_
  · unfold L2.start initE
    simp [l]
  · unfold initE at q
    unfold L2.start
    by_cases hi : i < ds.length
    · rw [List.getElem?_append_left (by simpa using hi), List.getElem?_map] at q
      rw [List.getElem?_append_left (by simp [l]; exact hi), List.getElem?_map]
      have e : ds[i]? = some ds[i] := List.getElem?_eq_getElem hi
      rw [e] at q
      cases q
      obtain ⟨v, h1, h2⟩ := dps_get h e
      exact ⟨some v, by rw [h1]; rfl, .inr ⟨rfl, v, rfl, h2⟩, rfl⟩
    · rw [List.getElem?_append_right (by simp; omega), List.getElem?_replicate] at q
      split at q
      · cases q
        rename_i hl
        refine ⟨none, ?_, .inl rfl, rfl⟩
        rw [List.getElem?_append_right (by simp [l]; omega), List.getElem?_replicate]
        simp only [List.length_map] at hl ⊢
        rw [if_pos (by rw [l]; exact hl)]
      · cases q
/-- a def's body does what is promised -/
theorem pm_body {K : PySem.W.Frag} {T : List NTab} {S : List PyData → B → Prop} {N : List Str} {vs : List V} {H : Hp} {Q : VK} {E : XK} {t : TS} (h : Pm K T S vs H Q E) (tr : ∀ ds r, S ds r → Tr (Cf.pure K T) t (initE N ds) () (.rt r ())) :
    t { nx := fun _ H' => Q .non H', rt := Q } (L2.start N vs) H := by
  obtain ⟨F, ds, r, sub, tab, hd, hS, k⟩ := h
  exact tr ds r hS F H _ F H (init_ok sub tab hd) _ fun v F' H' e1 _ b1 => k v F' H' e1 b1
theorem pm_len {K : PySem.W.Frag} {T : List NTab} {S : List PyData → B → Prop} {n : Nat} (hl : ∀ ds r, S ds r → ds.length = n) : ∀ vs H Q E, Pm K T S vs H Q E → vs.length = n := fun vs H Q E ⟨F, ds, r, _, _, hd, hS, _⟩ => (dps_len hd).trans (hl ds r hS)
end DV
/-! Dv6: more rules: int, str, tuple, slices, comprehensions in easy forms; the rules tried one after another. -/
namespace DV
open PySem L2 NdefX
section
variable {C : Cf} {env env1 env2 : Env} {s s0 s1 s2 s3 : C.w.S} {ta tb tc te td ty tv : TE} {t u tt : TT} {b : B} {x y z : B} {d e : PyData} {ds es : List PyData} {p q r : TS} {o : Out C} {g : TG} {wi : TI}
def b2n (b : Bool) : Int := if b then 1 else 0
theorem rcb_intB {k : Bool} : Rcb C (fun xs H Q => (∃ i, xs = [.int i] ∧ Q (.int i) H) ∨ ∃ k, xs = [.bl k] ∧ Q (.int (if k then 1 else 0)) H) [.dat (.bool k)] (.dat (.int (b2n k))) := fun H1 F H vs s t m h Q q => by
  obtain ⟨v, rfl, b⟩ := ball1 h
  rw [bok_bool b]
  exact .inr ⟨k, rfl, q _ F H (.refl s t) (.int _)⟩
theorem rcb_intI {i : Int} : Rcb C (fun xs H Q => (∃ i, xs = [.int i] ∧ Q (.int i) H) ∨ ∃ k, xs = [.bl k] ∧ Q (.int (if k then 1 else 0)) H) [.dat (.int i)] (.dat (.int i)) := fun H1 F H vs s t m h Q q => by
  obtain ⟨v, rfl, b⟩ := ball1 h
  rw [bok_int b]
  exact .inl ⟨i, rfl, q _ F H (.refl s t) (.int _)⟩
/-- tuple(list) -/
theorem rcb_tupL {b : B} {ds : List PyData} (hb : b.lst = some ds) : Rcb C (rTupS C.K) [b] (.dat (.tuple ds)) := fun H1 F H vs s t m h Q q => by
  obtain ⟨v, rfl, bb⟩ := ball1 h
  obtain ⟨a, xs, rfl, h1, h2⟩ := bb.lst s hb
  refine ⟨a, xs, rfl, .inl ⟨h1, fun l hl => ?_⟩⟩
  have e3 : C.ExtS F H (upd F l (.tup xs)) (upd H l (.tup xs)) := Ext.new s t hl nt_tup
  exact q _ _ _ e3 (.tup (.of upd_same) (dps_le e3.fx _ _ h2))
/-- list(list), list(tuple) -/
theorem rcb_listL {b : B} {ds : List PyData} (hb : b.lst = some ds) : Rcb C (rLstS C.K) [b] (.own ds) := fun H1 F H vs s t m h Q q => by
  obtain ⟨v, rfl, bb⟩ := ball1 h
  obtain ⟨a, xs, rfl, h1, h2⟩ := bb.lst s hb
  refine ⟨a, xs, rfl, .inl h1, fun l hl => ?_⟩
  have e3 : C.ExtS F H F (upd H l (.lst xs)) := Ext.fresh s t hl
  exact q _ _ _ e3 ⟨l, xs, rfl, hl, m l hl, (nothing_new (C := C) (extS (Ext.refl s t)) hl).2, upd_same, h2⟩
/-! slices -/
def cutD (xs : List PyData) (lo hi : Option Int) : List PyData := (xs.drop (HT.sIx xs.length 0 lo)).take (HT.sIx xs.length xs.length hi - HT.sIx xs.length 0 lo)
theorem das_cut {F : Hp} {xs : List V} {ds : List PyData} (h : DaAll C.K F xs ds) (lo hi : Option Int) : DaAll C.K F (cutV xs lo hi) (cutD ds lo hi) := by
  unfold cutV cutD
  rw [dps_len h]
  exact dps_take _ (dps_drop _ h)
def Do (C : Cf) (to : TO) (env : Env) (s : C.w.S) (o : Option Int) (s1 : C.w.S) : Prop := ∀ (F0 H0 : Hp) (σ : L2.St) (F H : Hp), EnvOk C F0 H0 σ F H env s → ∀ Q : Option Int → Hp → Prop, (∀ F' H', C.Ext F H F' H' → C.w.hold s1 H' → Q o H') → to σ H Q
theorem do_none : Do C tNoPart env s none s := fun F0 H0 σ F H e Q q => q F H (.refl e.sub e.tab) e.hold
theorem do_some {i : Int} (h : Dv C te env s (.dat (.int i)) s1) : Do C (tPart te) env s (some i) s1 := fun F0 H0 σ F H e Q q => h F0 H0 σ F H e _ fun v F1 H1 e1 h1 b1 => ⟨i, bok_int b1, q F1 H1 e1 h1⟩
theorem dv_sliceL {tl th : TO} {lo hi : Option Int} (h : Dv C te env s b s1) (hb : b.lst = some ds) (hl : Do C tl env s1 lo s2) (hh : Do C th env s2 hi s3) : Dv C (tSl (rSlL C.K) te tl th) env s (.own (cutD ds lo hi)) s3 := fun F0 H0 σ F H e Q q =>
  h F0 H0 σ F H e _ fun v F1 H1 e1 h1 b1 => hl F0 H0 σ F1 H1 (e.go e1 h1) _ fun F2 H2 e2 h2 => hh F0 H0 σ F2 H2 ((e.go e1 h1).go e2 h2) _ fun F3 H3 e3 h3 => by
    have e23 := e2.trans e3
    have e123 := e1.trans e23
    obtain ⟨a, xs, rfl, k1, k2⟩ := (b1.ext e23).lst e23.sub hb
    refine ⟨a, xs, rfl, k1, fun p hp => ?_⟩
    have e4 : C.ExtS F3 H3 F3 (upd H3 p (.lst (cutV xs lo hi))) := Ext.fresh e3.sub e3.tab hp
    exact q _ F3 _ (e123.trans (extS e4)) (holdS e4 h3) ⟨p, _, rfl, (nothing_new e123 hp).1, not_M h3 hp, (nothing_new e123 hp).2, upd_same, das_cut k2 lo hi⟩
/-- the items of a list that is tracked -/
def B.lsO : B → Option (List PyData)
  | .own ds => some ds
  | .bor ds => some ds
  | _ => none
theorem Bok.lsO {H0 F H : Hp} {b : B} {v : V} {ds : List PyData} (h : Bok C H0 F H b v) (e : b.lsO = some ds) : ∃ a xs, v = .ref a ∧ H a = some (.lst xs) ∧ DaAll C.K F xs ds := by
  cases b with
  | own es =>
    cases e
    obtain ⟨a, xs, rfl, _, _, _, h1, h2⟩ := h
    exact ⟨a, xs, rfl, h1, h2⟩
  | bor es =>
    cases e
    obtain ⟨a, xs, rfl, _, _, h1, h2⟩ := h
    exact ⟨a, xs, rfl, h1, h2⟩
  | _ => cases e
/-- list + list -/
theorem rop_cat {x y : B} {ds es : List PyData} (hx : x.lsO = some ds) (hy : y.lsO = some es) (n : ds.length + es.length ≤ 100000) : Rop C rCat x y (.own (ds ++ es)) := fun H1 H2 F H v u s t m hv hu Q q => by
  obtain ⟨a, xs, rfl, h1, h2⟩ := hv.lsO hx
  obtain ⟨c, ys, rfl, h3, h4⟩ := hu.lsO hy
  refine ⟨a, c, xs, ys, rfl, rfl, h1, h3, sz_of _ (by rw [dps_len h2, dps_len h4]; exact n), fun p hp => ?_⟩
  have e3 : C.ExtS F H F (upd H p (.lst (xs ++ ys))) := Ext.fresh s t hp
  exact q _ _ _ e3 ⟨p, _, rfl, hp, m p hp, (nothing_new (C := C) (extS (Ext.refl s t)) hp).2, upd_same, dps_app h2 h4⟩
/-- text + text -/
theorem rop_str {i j : Str} (n : i.length + j.length ≤ 100000) : Rop C (fun x y H Q => ∃ i j, x = .str i ∧ y = .str j ∧ i.length + j.length ≤ sizeLine ∧ Q (.str (i ++ j)) H) (.dat (.str i)) (.dat (.str j)) (.dat (.str (i ++ j))) := fun H1 H2 F H v u s t m hv hu Q q => by
  rw [bok_str hv, bok_str hu]
  exact ⟨i, j, rfl, rfl, sz_of _ n, q _ F H (.refl s t) (.str _)⟩
/-! list comprehensions, easy forms: nothing beside is changed -/
theorem filterMap_take_succ {α β : Type} (f : α → Option β) (xs : List α) (i : Nat) (x : α) (h : xs[i]? = some x) : (xs.take (i + 1)).filterMap f = (xs.take i).filterMap f ++ (f x).toList := by
  rw [List.take_add_one, h, List.filterMap_append]
  cases e : f x with
  | none => simp [e]
  | some y => simp [e]
theorem dv_lcF {vs : List Nat} {α : Type} (xs : List α) (enc : α → PyData) (f : α → Option PyData) (hi : Di C wi env s ds s1) (hd : ds = xs.map enc) (hz : xs.length ≤ 100000)
    (step : ∀ x, x ∈ xs → ∃ env1 js, Dg C g (enc x) (wipeE env vs) env1 js ∧ (∀ j ∈ js, j ∈ vs) ∧ ∃ c, Dt C tt env1 s1 c s1 ∧ (c = true → ∃ r o, Dv C te env1 s1 r s1 ∧ r.toD = some o ∧ f x = some o) ∧ (c = false → f x = none)) :
    Dv C (tLc wi g tt te vs) env s (.own (xs.filterMap f)) s1 := by
  subst hd
  have h := dv_lcG (C := C) (tt := tt) (te := te) (g := g) (env := env) (vs := vs) (fun i => (xs.take i).filterMap f) (fun _ => s1) hi (by simp) (by simpa using hz) (fun i => Nat.le_trans (List.length_filterMap_le _ _) (by simp [Nat.min_le_left])) fun i d e => by
    rw [List.getElem?_map] at e
    cases ex : xs[i]? with
    | none => rw [ex] at e; cases e
    | some x =>
      rw [ex] at e
      cases e
      obtain ⟨env1, js, h1, h2, c, h3, h4, h5⟩ := step x (List.mem_of_getElem? ex)
      refine ⟨env1, js, h1, h2, c, s1, h3, fun hc => ?_, fun hc => ⟨rfl, ?_⟩⟩
      · obtain ⟨r, o, k1, k2, k3⟩ := h4 hc
        exact ⟨r, o, k1, k2, by show (xs.take (i + 1)).filterMap f = _; rw [filterMap_take_succ f xs i x ex, k3]; rfl⟩
      · show (xs.take (i + 1)).filterMap f = _
        rw [filterMap_take_succ f xs i x ex, h5 hc]
        simp
  rw [List.length_map, List.take_length] at h
  exact h

theorem dt_yes (h : tt = tYes) : Dt C tt env s true s := fun F0 H0 σ F H e Q q => by
  rw [h]
  exact q F H (.refl e.sub e.tab) e.hold
theorem dv_lcM {vs : List Nat} {α : Type} (xs : List α) (enc : α → PyData) (f : α → PyData) (hi : Di C wi env s ds s1) (hd : ds = xs.map enc) (hz : xs.length ≤ 100000) (ht : tt = tYes)
    (step : ∀ x, x ∈ xs → ∃ env1 js, Dg C g (enc x) (wipeE env vs) env1 js ∧ (∀ j ∈ js, j ∈ vs) ∧ ∃ r, Dv C te env1 s1 r s1 ∧ r.toD = some (f x)) :
    Dv C (tLc wi g tt te vs) env s (.own (xs.map f)) s1 := by
  have h := dv_lcF (C := C) (tt := tt) (te := te) (g := g) (vs := vs) xs enc (fun x => some (f x)) hi hd hz fun x hx => by
    obtain ⟨env1, js, h1, h2, r, h3, h4⟩ := step x hx
    exact ⟨env1, js, h1, h2, true, dt_yes ht, fun _ => ⟨r, _, h3, h4, rfl⟩, fun z => by cases z⟩
  rw [show xs.filterMap (fun x => some (f x)) = xs.map f from by rw [List.filterMap_eq_map']] at h
  exact h
end
end DV
set_option maxHeartbeats 1000000
namespace DV
open PySem PySem.Spec PyProof.Rows L2 LamX NdefX
/-- the object at f is the lambda of the words G, its body is e -/
def LamO (f : Addr) (G : NF) (e : Expr) : HO := .ext fun h => ∃ pm ctv : Value, h.get? f = some (PySem.W.kla_obj G.name G.qual G.params e G.scope G.cl pm G.c ctv)
theorem lamO_at {P : Program} {w : World} {H : Hp} {h : Heap} {f : Addr} {G : NF} {e : Expr} (hok : HOk P w H h) (z : H f = some (LamO f G e)) : ∃ pm ctv : Value, h.get? f = some (PySem.W.kla_obj G.name G.qual G.params e G.scope G.cl pm G.c ctv) := (hok f _ z).1
section
variable {X : Cx} {pins : List (Addr × Obj)} {σ : L2.St} {H : Hp} {s : Shared}
theorem lam_laid {G : NF} {e : Expr} {tk : Nat} {pm ctv : Value} (I : Inv X pins σ H s) :
    Inv X pins σ (upd H s.heap.objs.size (LamO s.heap.objs.size G e)) { s with heap := s.heap.push (PySem.W.kla_obj G.name G.qual G.params e G.scope G.cl pm G.c ctv), toks := tk } := by
  have z : (s.heap.push (PySem.W.kla_obj G.name G.qual G.params e G.scope G.cl pm G.c ctv)).get? s.heap.objs.size = some (PySem.W.kla_obj G.name G.qual G.params e G.scope G.cl pm G.c ctv) := Heap.get?_push_size _ rfl
  refine I.laid (a := s.heap.objs.size) (fun _ _ q => Heap.get?_push_of_some _ q) (Nat.le_refl _) ⟨⟨pm, ctv, z⟩, ⟨_, z⟩, fun _ _ ⟨p, t, q⟩ st => ⟨p, t, st _ q⟩⟩
/-- a table that grew by the code object at d -/
theorem tabs_grow {T : List NTab} {nm : Nat → Nat → Str} {P d : Addr} {pos : Pos} {q : Str} {ps : Array Value} (hT : TabsN T H) (hP : H P = some (.tbl ps)) (ht : TriplesOk ps.toList) (hu : ∀ p ∈ T, p.1 = P → p.2 = nm) (hn : nm pos.line pos.col = q) (hm : (P, nm) ∈ T) (nd : H d = none) :
    ExtN H (upd (upd H P (.tbl (ps ++ #[rawInt pos.line, rawInt pos.col, .ref d]))) d (CodeO d q)) ∧ TabsN T (upd (upd H P (.tbl (ps ++ #[rawInt pos.line, rawInt pos.col, .ref d]))) d (CodeO d q)) := by
  have x : ExtN H (upd (upd H P (.tbl (ps ++ #[rawInt pos.line, rawInt pos.col, .ref d]))) d (CodeO d q)) := fun b o e n => by
    have n1 := ne_of_none e nd
    have n2 : b ≠ P := fun z => n ps (Option.some.inj ((z ▸ e).symm.trans hP))
    exact (upd_ne n1).trans ((upd_ne n2).trans e)
  have el : (ps ++ #[rawInt pos.line, rawInt pos.col, .ref d]).toList = ps.toList ++ [rawInt pos.line, rawInt pos.col, .ref d] := by simp
  refine ⟨x, fun p hp => ?_⟩
  obtain ⟨qs, a1, a2, a3⟩ := hT p hp
  by_cases hb : p.1 = P
  · have en := hu p hp hb
    rw [hb, hP] at a1
    cases a1
    refine ⟨_, (upd_ne (by rw [hb]; exact ne_of_none hP nd)).trans (by rw [hb]; exact upd_same), by rw [el]; exact PySem.TriplesOk_snoc _ _ _ _ a2, fun p' cv hcv => ?_⟩
    rw [el] at hcv
    rcases among_app2 _ a2 hcv with z | ⟨z, z1, z2⟩
    · obtain ⟨c0, e1, e2⟩ := a3 p' cv z
      exact ⟨c0, e1, x _ _ e2 codeO_ne⟩
    · exact ⟨d, z, by rw [en, ← z1, ← z2, hn]; exact upd_same⟩
  · refine ⟨qs, (upd_ne (ne_of_none a1 nd)).trans ((upd_ne hb).trans a1), a2, fun p' cv hcv => ?_⟩
    obtain ⟨c0, e1, e2⟩ := a3 p' cv hcv
    exact ⟨c0, e1, x _ _ e2 codeO_ne⟩
theorem lamO_nt {f : Addr} {G : NF} {e : Expr} : NT (LamO f G e) := fun ps z => by
  unfold LamO at z
  cases z
/-- a lambda is made -/
theorem lam_mk {T : List NTab} {nm : Nat → Nat → Str} {c P : Addr} {params : Arguments} {body : Expr} {scope : Scope} {pos : Pos} {E Q : Value → Shared → Prop} (I : Inv X pins σ H s) (TB : TabB X.base X.mg c P) (hcode : X.env.code = .ref c)
    (hm : (P, nm) ∈ T) (hn : nm pos.line pos.col = X.env.qual ++ "<lambda>") (hu : ∀ p ∈ T, p.1 = P → p.2 = nm) (hT : TabsN T H) (hdef : defaultsOf params X.env = ([], [])) (hfree : ∀ y ∈ scope.names, y.2 = .free → ∃ c, X.env.cells.lookup y.1 = some c)
    (h : ∀ (f d : Addr) (H1 : Hp) (s' : Shared), Inv X pins σ H1 s' → ExtN H H1 → (∀ b o, H b = some o → ∃ o', H1 b = some o') → TabsN T H1 → H f = none →
      H1 f = some (LamO f ⟨"<lambda>", X.env.qual ++ "<lambda>", params, [], scope, cloFrom X.env.cells scope.names [], d⟩ body) → H1 d = some (CodeO d (X.env.qual ++ "<lambda>")) → Q (.ref f) s') :
    wpAny (model X.prog X.w) X.A (eval (.Lambda params body scope pos) X.env) Q E s := by
  have tn : TabN H P nm := hT _ hm
  obtain ⟨ps, hP, ht, ha⟩ := tn
  refine PySem.W.kla_eval hdef ?_
  have bP : s.heap.BuiltinsAt X.mg P := TB.bm.keeps I.bk
  have oP : s.heap.get? P = some { cls := .none, data := .fields ps } := I.hok P _ hP
  cases hc : codeAmong pos ps.toList with
  | none =>
    refine PySem.W.kla_makeFunction (closure_ok hfree) I.ok.glob (I.mod.glob.keeps I.bk) hcode (TB.code.keeps I.bk) oP ht hc TB.gP bP fun d ctv h' tk hx hge hlt hrec htb => ?_
    obtain ⟨_, oc, vs, t, ed, hoc, hd, hv⟩ := hrec
    cases ed
    have nd : H d = none := I.hok.fresh hge
    have I1 := inv_table (t' := tk) (h' := h') I hP (fun b o hb e => hx b o hb e) htb hge ⟨oc, vs, t, hoc, hd, hv⟩
    obtain ⟨x1, t1⟩ := tabs_grow hT hP ht hu hn hm nd
    have nF := I1.hok.fresh (Nat.le_refl _)
    have I2 := lam_laid (G := ⟨"<lambda>", X.env.qual ++ "<lambda>", params, [], scope, cloFrom X.env.cells scope.names [], d⟩) (e := body) (tk := tk) (pm := (X.mg "__name__").getD .none) (ctv := ctv) I1
    refine h h'.objs.size d _ _ I2 (fun b o e n => (upd_ne (ne_of_none (x1 b o e n) nF)).trans (x1 b o e n)) (fun b o e => ?_) (t1.ext fun b o e => (upd_ne (ne_of_none e nF)).trans e) (I.hok.fresh (Nat.le_trans hge (Nat.le_of_lt hlt))) upd_same ?_
    · have n1 : b ≠ h'.objs.size := fun z => by
        have := I.hok.fresh (Nat.le_trans hge (Nat.le_of_lt hlt))
        rw [← z, e] at this
        cases this
      by_cases hb : b = P
      · exact ⟨_, (upd_ne n1).trans ((upd_ne (ne_of_none e nd)).trans (by rw [hb]; exact upd_same))⟩
      · exact ⟨o, (upd_ne n1).trans ((upd_ne (ne_of_none e nd)).trans ((upd_ne hb).trans e))⟩
    · exact (upd_ne (Nat.ne_of_lt hlt)).trans upd_same
  | some cv =>
    obtain ⟨d, rfl, hco⟩ := ha pos cv hc
    rw [hn] at hco
    refine PySem.W.kla_makeFunctionHit (closure_ok hfree) I.ok.glob (I.mod.glob.keeps I.bk) hcode (TB.code.keeps I.bk) oP ht hc bP fun ctv h' tk hx hsz => ?_
    have I1 : Inv X pins σ H { s with heap := h', toks := tk } := I.kept hx
    have nF : H h'.objs.size = none := I1.hok.fresh (Nat.le_refl _)
    have I2 := lam_laid (G := ⟨"<lambda>", X.env.qual ++ "<lambda>", params, [], scope, cloFrom X.env.cells scope.names [], d⟩) (e := body) (tk := tk) (pm := (X.mg "__name__").getD .none) (ctv := ctv) I1
    exact h h'.objs.size d _ _ I2 (fun b o e _ => (upd_ne (ne_of_none e nF)).trans e) (fun b o e => ⟨o, (upd_ne (ne_of_none e nF)).trans e⟩) (hT.ext fun b o e => (upd_ne (ne_of_none e nF)).trans e) nF upd_same ((upd_ne (ne_of_none hco nF)).trans hco)
/-- the reading of a lambda: a new function -/
def tLamN (T : List NTab) (mk : Addr → NF) (e : Expr) : TE := fun σ H Q => TabsN T H ∧ ∀ (f d : Addr) (H1 : Hp), ExtN H H1 → (∀ b o, H b = some o → ∃ o', H1 b = some o') → TabsN T H1 → H f = none → H1 f = some (LamO f (mk d) e) → H1 d = some (CodeO d (mk d).qual) → Q (.ref f) H1
theorem pe_lamN {T : List NTab} {nm : Nat → Nat → Str} {c P : Addr} {params : Arguments} {body : Expr} {scope : Scope} {pos : Pos} (TB : TabB X.base X.mg c P) (hcode : X.env.code = .ref c) (hm : (P, nm) ∈ T) (hn : nm pos.line pos.col = X.env.qual ++ "<lambda>") (hu : ∀ p ∈ T, p.1 = P → p.2 = nm)
    (hdef : defaultsOf params X.env = ([], [])) (hfree : ∀ y ∈ scope.names, y.2 = .free → X.env.scope.names.lookup y.1 = some .cell ∨ X.env.scope.names.lookup y.1 = some .free) :
    PE X (.Lambda params body scope pos) (tLamN T (fun d => ⟨"<lambda>", X.env.qual ++ "<lambda>", params, [], scope, cloFrom X.env.cells scope.names [], d⟩) body) := by
  refine ⟨fun pins s σ H Q I h => ?_⟩
  obtain ⟨hT, h⟩ := h
  exact lam_mk I TB hcode hm hn hu hT hdef (fun y hy e => (hfree y hy e).elim (fun z => I.ok.has _ (.inl z)) fun z => I.ok.has _ (.inr z)) fun f d H1 s' I1 x1 x2 t1 f0 f1 c1 => ⟨.ref f, H1, I1, rfl, h f d H1 x1 x2 t1 f0 f1 c1⟩
end
end DV
set_option maxHeartbeats 1000000
namespace DV
open PySem PySem.Spec PyProof.Rows L2 LamX NdefX
/-! ### a base that grows at a call -/
def BLe (B B' : Heap) : Prop := ∀ b o, B.get? b = some o → B'.get? b = some o
theorem BLe.refl (B : Heap) : BLe B B := fun _ _ h => h
theorem BLe.trans {B B' B'' : Heap} (x : BLe B B') (y : BLe B' B'') : BLe B B'' := fun b o h => y b o (x b o h)
theorem mod_le {K : PySem.W.Frag} {mg : Str → Option Value} {B B' : Heap} (m : Mod K mg B) (x : BLe B B') : Mod K mg B' :=
  ⟨m.kin.keeps x, m.glob.keeps x, let ⟨mb, h1, h2⟩ := m.blt; ⟨mb, h1.keeps x, h2⟩, m.nolimit.keeps x⟩
theorem fun_in {h B : Heap} {b : Addr} : ∀ {l : List PySem.Env}, h.FunFrames B l → b ∈ frs l → B.get? b = none ∧ ∃ o, h.get? b = some o
  | [], _, z => by cases z
  | env :: r, ⟨_, ⟨L, o, hf, hn, ho, _⟩, hr⟩, z => by
    unfold frs at z
    rw [List.filterMap_cons, hf] at z
    rcases List.mem_cons.mp z with e | e
    · rw [e]
      exact ⟨hn, o, ho⟩
    · exact fun_in hr e
theorem fun_up {h B B' : Heap}  : ∀ {l : List PySem.Env}, (∀ b ∈ frs l, B'.get? b = none) → h.FunFrames B l → h.FunFrames B' l
  | [], _, _ => trivial
  | env :: r, k, ⟨h1, ⟨L, o, hf, hn, ho, hd⟩, hr⟩ => by
    have m : L ∈ frs (env :: r) := by
      unfold frs
      rw [List.filterMap_cons, hf]
      exact List.mem_cons_self
    have k2 : ∀ b ∈ frs r, B'.get? b = none := fun b hb => k b (by
      unfold frs at hb ⊢
      rw [List.filterMap_cons, hf]
      exact List.mem_cons_of_mem _ hb)
    exact ⟨h1, ⟨L, o, hf, k L m, ho, hd⟩, fun_up k2 hr⟩
section
variable {P : Program} {w : World} {K : PySem.W.Frag} {mg : Str → Option Value} {base : Heap} {A : Around} {outer : List PySem.Env} {s : Shared} {H : Hp}
open Classical in
theorem grown (e : Env0 P w K mg base A outer s H) : ∃ B : Heap, Env0 P w K mg B A outer s H ∧ BLe base B ∧ ∀ b o, s.heap.get? b = some o → H b = none → b ∉ frs outer → B.get? b = some o := by
  obtain ⟨l, hl⟩ : ∃ l : List Addr, l = (List.range s.heap.objs.size).filter fun b => decide (¬ (H b = none ∧ b ∉ frs outer)) := ⟨_, rfl⟩
  have m : ∀ b, b ∈ l ↔ (b < s.heap.objs.size ∧ ¬ (H b = none ∧ b ∉ frs outer)) := fun b => by
    rw [hl, List.mem_filter, List.mem_range]
    exact ⟨fun z => ⟨z.1, of_decide_eq_true z.2⟩, fun z => ⟨z.1, decide_eq_true z.2⟩⟩
  have up : ∀ b o, s.heap.get? b = some o → H b = none → b ∉ frs outer → (PySem.W.hideAll s.heap l).get? b = some o := fun b o e h1 h2 => PySem.W.hideAll_get l e fun z => ((m b).mp z).2 ⟨h1, h2⟩
  have dn : ∀ b o, (PySem.W.hideAll s.heap l).get? b = some o → s.heap.get? b = some o ∧ H b = none := fun b o e => by
    have e1 := PySem.W.of_hideAll l e
    refine ⟨e1, Classical.byContradiction fun z => ?_⟩
    have z2 : b ∈ l := (m b).mpr ⟨Heap.lt_size e1, fun y => z y.1⟩
    rw [PySem.W.hideAll_none l z2] at e
    cases e
  have fr : ∀ b ∈ frs outer, base.get? b = none := fun b hb => (fun_in e.funs hb).1
  have le : BLe base (PySem.W.hideAll s.heap l) := fun b o q => up b o (e.bs b o q).1 (e.bs b o q).2 fun z => by
    rw [fr b z] at q
    cases q
  refine ⟨PySem.W.hideAll s.heap l, ⟨e.frames, mod_le e.mod le, dn, Nat.le_of_eq (PySem.W.hideAll_size l s.heap), fun_up (fun b hb => ?_) e.funs, e.frf, e.hok, e.bare⟩, le, up⟩
  obtain ⟨o, ho⟩ := (fun_in e.funs hb).2
  exact PySem.W.hideAll_none l ((m b).mpr ⟨Heap.lt_size ho, fun z => z.2 hb⟩)
/-- captured cells, in a heap that stays -/
structure CellsB (B : Heap) (cl : List (Str × Addr)) (fr : List Str) (ws : List (Option V)) : Prop where
  len : ws.length = fr.length
  all : ∀ y c, cl.lookup y = some c → ∃ v, B.IsCell c v
  inj : ∀ x y c, cl.lookup x = some c → cl.lookup y = some c → x = y
  has : ∀ (i : Nat) (y : Str), fr[i]? = some y → ∃ c, cl.lookup y = some c ∧ ∀ v, ws[i]? = some (some v) → ∃ u, L2.RelV v u ∧ B.IsCell c (some u)
theorem CellsB.now {cl : List (Str × Addr)} {fr : List Str} {ws : List (Option V)} (c : CellsB base cl fr ws) (e : Env0 P w K mg base A outer s H) : CellsAt cl fr ws s.heap H := by
  have k : ∀ a v, base.IsCell a v → H a = none ∧ s.heap.IsCell a v := fun a v ⟨o, h1, h2⟩ => ⟨(e.bs a o h1).2, o, (e.bs a o h1).1, h2⟩
  refine ⟨c.len, fun y a q => ?_, c.inj, fun i y q => ?_⟩
  · obtain ⟨v, z⟩ := c.all y a q
    exact ⟨(k a v z).1, v, (k a v z).2⟩
  · obtain ⟨a, h1, h2⟩ := c.has i y q
    exact ⟨a, h1, fun v hv => let ⟨u, r, z⟩ := h2 v hv; ⟨u, r, (k a _ z).2⟩⟩
theorem CellsB.up {B : Heap} {cl : List (Str × Addr)} {fr : List Str} {ws : List (Option V)} (c : CellsB base cl fr ws) (x : BLe base B) : CellsB B cl fr ws :=
  ⟨c.len, fun y a q => let ⟨v, z⟩ := c.all y a q; ⟨v, z.keeps x⟩, c.inj, fun i y q => let ⟨a, h1, h2⟩ := c.has i y q; ⟨a, h1, fun v hv => let ⟨u, r, z⟩ := h2 v hv; ⟨u, r, z.keeps x⟩⟩⟩
end
/-- the call of a def, under a base that knows the running frame's cells -/
def tCallG (spB : Heap → Sp) (base : Heap) (cl : List (Str × Addr)) (fr : List Str) (js : List Nat) (dvs : List V) (E : XK) (t : TA) : TE := fun σ H Q => t σ H fun vs H1 => ∀ B, BLe base B → CellsB B cl fr (js.map (slotAt σ)) → spB B (vs ++ dvs) H1 Q E
section
variable {X : Cx} {CX : CXT} {k : Nat} {f : Addr} {fd : FuncData} {ps fr : List Str} {cl : List (Str × Addr)} {js : List Nat} {spB : Heap → Sp} {dvs : List V} {ds : List Value} {E : XK} {x : Str} {p pos : Pos} {e : Expr} {es : List Expr} {t : TA}
theorem cells_up {pins : List (Addr × Obj)} {σ : L2.St} {H : Hp} {s : Shared} {B : Heap} (I : Inv X pins σ H s) (c : Caps X cl fr js) (hfn : ∀ y, X.fn y = true) (up : ∀ b o, s.heap.get? b = some o → H b = none → b ∉ frs X.stack → B.get? b = some o) : CellsB B cl fr (js.map (slotAt σ)) := by
  have C := cells_of I c
  have nf : ∀ y a, cl.lookup y = some a → a ∉ frs X.stack := fun y a q z => by
    have q1 := c.sub y a q
    rcases List.mem_cons.mp (I.stkSub a z) with h | h
    · exact I.cne y a q1 h
    · have g := I.ok.cab y a (hfn y) q1
      obtain ⟨_, o, ho, _⟩ := I.ok.funs.mem h
      exact Nat.lt_irrefl _ (Nat.lt_of_lt_of_le (Heap.lt_size ho) g)
  refine ⟨C.len, fun y a q => ?_, C.inj, fun i y q => ?_⟩
  · obtain ⟨n, v, o, h1, h2⟩ := C.all y a q
    exact ⟨v, o, up a o h1 n (nf y a q), h2⟩
  · obtain ⟨a, h1, h2⟩ := C.has i y q
    exact ⟨a, h1, fun v hv => let ⟨u, r, o, h3, h4⟩ := h2 v hv; ⟨u, r, o, up a o h3 (C.all y a h1).1 (nf y a h1), h4⟩⟩
theorem pe_callG (F : ∀ B, BLe X.base B → FnOk X.prog X.w X.K X.mg B CX k f fd ps (spB B)) (hr : Room k X.A) (hg : Gl X x) (hm : X.mg x = some (.ref f)) (hk : PySem.W.keepIn X.K (.ref f) = true) (hb : Binds X.K fd ps ds) (hd : Vals dvs ds) (hx : Passes CX X E)
    (cp : X.Ok → Caps X cl fr js) (hfn : ∀ y, X.fn y = true)
    (ha : PA X (e :: es) t) (hdb : (x == ("__debug__" : Str)) = false := by decide) (he : starEach (e :: es) X.env = (false, eval e X.env) :: starEach es X.env := by rfl) (hpl : (backTo pos (starEach es X.env)).any (·.1) = false := by rfl) :
    PE X (.Call (.Name x p) (e :: es) [] pos) (tCallG spB X.base cl fr js dvs E t) := by
  refine ⟨fun pins s σ H Q I h => wpAny_Call_Name_kw (ld_glob I hg hm ?_ hdb)⟩
  refine PySem.W.callWith_K (h₀ := X.base) I.ok.mod.kin hk (thn (ha.run pos pins s σ H _ I h) fun us s1 ⟨vs, H1, I1, r, q⟩ => ⟨I1.kIn, ?_⟩) he hpl
  obtain ⟨B, e1, le, up⟩ := grown I1.env0
  have q := q B le (cells_up I1 (cp I1.ok) hfn up)
  have r2 : Vals (vs ++ dvs) (us ++ ds) := r.append hd
  have Fb := F B le
  refine wpAny_call (codeAny_mono (Fb.run X.A X.stack s1 H1 ⟨us, []⟩ (us ++ ds) (vs ++ dvs) Q E hr e1 (hb s1 us I1.kIn (by rw [← r2.length]; exact Fb.len _ _ _ _ q)) r2 q) fun y s' hq => ?_)
  match y, hq with
  | .error z, hq => exact hx pins σ H1 s1 z s' I1 hq
  | .ok (.ret _), hq => exact I1.after hq
end
/-! ### a lambda's call -/
section
variable {CX : CXT} {P : Program} {w : World} {K : PySem.W.Frag} {mg : Str → Option Value} {base : Heap} {N ps fr : List Str} {G : NF} {f : Addr} {k : Nat} {e : Expr}
theorem lam_run (S : NScope N ps fr G.scope) (hb : ∀ (pm ctv : Value) (us : List Value), us.length = ps.length → bindArgs (PySem.W.kla_fn G.name G.qual G.params e G.scope G.cl pm (.ref G.c) ctv) ⟨us, []⟩ = pure (ps.zip us))
    {A : Around} {outer : List PySem.Env} {s : Shared} {H : Hp} {us : List Value} {vs : List V} {ws : List (Option V)} {Q : VK} {E : XK} {t : TE} (hr : Room (k + 1) A) (e0 : Env0 P w K mg base A outer s H) (hf : H f = some (LamO f G e)) (hc : H G.c = some (CodeO G.c G.qual))
    (C : CellsAt G.cl fr ws s.heap H) (r : Vals vs us) (hl : vs.length = ps.length) (hbody : Room k (A.deeper (envF G f s.heap.objs.size)) → PE (ncx CX P w K mg base N G f A outer s H E) e t) (ht : t (startF N vs ws) H Q) :
    codeAny (model P w) A (.call (.ref f) ⟨us, []⟩) (CR CX outer P w H s Q E) s := by
  have lim : s.heap.NoLimit := e0.mod.nolimit.keeps fun b o e => (e0.bs b o e).1
  obtain ⟨pm, ctv, ho⟩ := lamO_at e0.hok hf
  refine PySem.W.kla_callFunE hr.depth ho rfl S.co S.gen rfl (codeO_at e0.hok hc) ?_
  rw [hb pm ctv us (by rw [← r.length]; exact hl)]
  refine wpAny_pure (wpAny_newFunctionEnv S.nocell (fun y hy => S.par y.1 (List.of_mem_zip hy).1) (fun g hns hsb => ⟨lim.fresh _ hsb, ?_⟩) S.kind)
  have kp : ∀ b o, s.heap.get? b = some o → g.get? b = some o := fun b o z => hsb.extBut b o (Nat.ne_of_lt (Heap.lt_size z)) (Heap.get?_push_of_some _ z)
  have I : Inv (ncx CX P w K mg base N G f A outer s H E) [] (startF N vs ws) H { s with heap := g, toks := s.toks + (ps.zip us).length } := inv_startN S hr.hd e0 hl r C hns kp
  refine PySem.W.kla_codeExpr (wpAny_mono ((hbody (hr.deeper _)).run [] _ _ H Q I ht) (fun u s' hq => ?_) fun _ _ z => z)
  obtain ⟨v, H', J, rv, q⟩ := hq
  exact ⟨v, H', J.os, J.bare, J.base, J.hok, rv, q⟩
end
/-- a promise under a frozen part that is given -/
def PmF (K : PySem.W.Frag) (T : List NTab) (S : List PyData → B → Prop) (F : Hp) (vs : List V) (H : Hp) (Q : VK) : Prop := ∃ ds r, DaAll K F vs ds ∧ S ds r ∧ ∀ v F' H', DV.Ext (fun _ => False) T F H F' H' → Bok (Cf.pure K T) H F' H' r v → Q v H'
/-- the function at f, called with data, gives what S tells -/
structure Cal (P : Program) (w : World) (K : PySem.W.Frag) (mg : Str → Option Value) (base : Heap) (T : List NTab) (k : Nat) (f : Addr) (S : List PyData → B → Prop) (F H : Hp) : Prop where
  fnat : ∀ h, HOk P w H h → PySem.W.FnAt f h
  run : ∀ (A : Around) (outer : List PySem.Env) (s : Shared) (us : List Value) (vs : List V) (Q : VK), Room k A → Env0 P w K mg base A outer s H → Vals vs us → PmF K T S F vs H Q → codeAny (model P w) A (.call (.ref f) ⟨us, []⟩) (CR C8.CX0 outer P w H s Q C8.E0) s
theorem lam_at {P : Program} {w : World} {H : Hp} {f : Addr} {G : NF} {e : Expr} (z : H f = some (LamO f G e)) : ∀ h, HOk P w H h → PySem.W.FnAt f h := fun h hok => by
  obtain ⟨pm, ctv, ho⟩ := lamO_at hok z
  exact ⟨_, _, _, _, ho⟩
/-- .. whatever else happens -/
def CalF (P : Program) (w : World) (K : PySem.W.Frag) (mg : Str → Option Value) (base : Heap) (T : List NTab) (k : Nat) (S : List PyData → B → Prop) (fp : List (Addr × HO)) (F1 : Hp) (v : V) : Prop :=
  ∃ f, v = .ref f ∧ ∀ F H, Le F1 F → Sub F H → TabsN T H → (∀ p ∈ fp, H p.1 = some p.2) → Cal P w K mg base T k f S F H
/-! ### a dict that nobody writes from now on -/
def tFrz (i : Nat) (t : TE) : TE := fun σ H Q => ∃ a kvs, σ[i]? = some (some (.ref a)) ∧ H a = some (.dK kvs) ∧ ∀ o, t σ (upd H a (.frz o (.dK kvs))) Q
section
variable {X : Cx}
theorem pe_frz {e : Expr} {t : TE} {i : Nat} (h : PE X e t) : PE X e (tFrz i t) := by
  refine ⟨fun pins s σ H Q I z => ?_⟩
  obtain ⟨a, kvs, hi, ha, z⟩ := z
  obtain ⟨o, ho⟩ : ∃ o, s.heap.get? a = some o := by
    obtain ⟨_, _, _, _, o, _, _, q, _⟩ := I.hok a _ ha
    exact ⟨o, q⟩
  have na : ∀ b u, H b = some u → (∀ q, u ≠ .dK q) → upd H a (.frz o (.dK kvs)) b = some u := fun b u q n => by
    rw [upd_ne fun z => n kvs (by rw [z, ha] at q; exact (Option.some.inj q).symm)]
    exact q
  have I2 : Inv X pins σ (upd H a (.frz o (.dK kvs))) s := by
    refine I.call' (ch := []) rfl ⟨fun b o q _ _ _ => q, fun b o q _ _ _ => ⟨o.slots, q⟩, fun b o q n _ => ?_, fun b o q _ => ⟨o, q⟩, fun b xs q => na b _ q (fun _ z => by cases z), fun b o u q => na b _ q (fun _ z => by cases z), fun b ps q => ⟨#[], by rw [na b _ q (fun _ z => by cases z)]; simp⟩⟩ (fun b u q => ?_) I.bare (fun _ z => nomatch z)
    · rw [upd_ne (Ne.symm (ne_of_none ha n))]
      exact n
    · have st : ∀ {b u}, H b = some u → ObjOk X.prog X.w (upd H a (.frz o (.dK kvs))) s.heap b u := fun {b u} q => (I.hok b u q).stay (fun _ _ _ z => z) (fun d z => na d _ z (fun _ z => by cases z)) (fun d xs z => na d _ z (fun _ z => by cases z))
      by_cases hb : b = a
      · rw [hb, upd_same] at q
        cases q
        rw [hb]
        exact ⟨ho, st ha⟩
      · rw [upd_ne hb] at q
        exact st q
  exact h.run pins s σ _ Q I2 (z o)
end
end DV
set_option maxHeartbeats 1000000
namespace DV
open PySem PySem.Spec PyProof.Rows L2 LamX NdefX
theorem hu1 {k : Nat} {A : Around} (r : Room k A) : A.units + 1 < cLine := by have := r.un; omega
theorem hu64 {k : Nat} {A : Around} (r : Room k A) : A.units + 64 < cLine := by have := r.un; omega
theorem hu65 {k : Nat} {A : Around} (r : Room k A) : A.units + 65 < cLine := by have := r.un; omega
/-! ### promises with things, with a world -/
def B.isPl : B → Bool
  | .dat _ => true
  | .val _ => true
  | .fn _ _ _ => true
  | .fdk _ => true
  | _ => false
theorem pl_own {b : B} (h : b.isPl = true) : b.isOwn = false := by
  cases b with
  | dat d => rfl
  | val v => rfl
  | fn a c d => rfl
  | fdk a => rfl
  | _ => cases h
theorem pl_bor {b : B} (h : b.isPl = true) : b.isBor = false := by
  cases b with
  | dat d => rfl
  | val v => rfl
  | fn a c d => rfl
  | fdk a => rfl
  | _ => cases h
inductive ToBs : List B → List B → Prop
  | nil : ToBs [] []
  | dat {b : B} {d : PyData} {bs cs : List B} : b.toD = some d → ToBs bs cs → ToBs (b :: bs) (.dat d :: cs)
  | val {v : V} {bs cs : List B} : ToBs bs cs → ToBs (.val v :: bs) (.val v :: cs)
  | fn {fp : List (Addr × HO)} {F1 : Hp} {φ : V → Prop} {bs cs : List B} : ToBs bs cs → ToBs (.fn fp F1 φ :: bs) (.fn fp F1 φ :: cs)
  | fdk {q : List (Key × PyData)} {bs cs : List B} : ToBs bs cs → ToBs (.fdk q :: bs) (.fdk q :: cs)
theorem ToBs.pl {bs cs : List B} (q : ToBs bs cs) : ∀ b ∈ cs, b.isPl = true := by
  induction q with
  | nil => exact fun _ h => by cases h
  | dat _ _ ih => exact fun b h => (List.mem_cons.mp h).elim (fun e => by rw [e]; rfl) (ih b)
  | val _ ih => exact fun b h => (List.mem_cons.mp h).elim (fun e => by rw [e]; rfl) (ih b)
  | fn _ ih => exact fun b h => (List.mem_cons.mp h).elim (fun e => by rw [e]; rfl) (ih b)
  | fdk _ ih => exact fun b h => (List.mem_cons.mp h).elim (fun e => by rw [e]; rfl) (ih b)
section
variable {C : Cf} {env : Env} {s s1 s2 : C.w.S}
theorem freezeO {H F F' F2 H' : Hp} {b : B} {v : V} {d : PyData} (e2 : C.Ext F H F2 H') (l2 : Le F' F2) (hb : Bok C H F' H' b v) (q1 : b.toD = some d) : ∃ F3, C.Ext F H F3 H' ∧ Le F2 F3 ∧ Da C.K F3 v d := by
  cases b with
  | dat d' =>
    cases q1
    exact ⟨F2, e2, Le.refl F2, dp_le l2 _ _ hb⟩
  | own es =>
    cases q1
    obtain ⟨a, xs, rfl, h1, h2, h3, h4, h5⟩ := hb
    by_cases hf : ∃ o, F2 a = some o
    · obtain ⟨o, hf⟩ := hf
      have h6 := (e2.sub a o hf).1
      rw [h4] at h6
      cases h6
      exact ⟨F2, e2, Le.refl F2, .lst (.of hf) (dps_le l2 _ _ h5)⟩
    · exact freeze1 (b := .own es) e2 ⟨a, xs, rfl, h1, h2, optNone hf, h4, dps_le l2 _ _ h5⟩ rfl
  | key k =>
    cases q1
    obtain ⟨a, rfl, h1⟩ := hb
    exact ⟨F2, e2, Le.refl F2, dp_tkD (l2 _ _ h1)⟩
  | _ => cases q1
theorem ball_up {H F F' H' : Hp} {bs : List B} {vs : List V} (l : Le F F') (p : ∀ b ∈ bs, b.isPl = true) (h : BAll C H F H' bs vs) : BAll C H F' H' bs vs := by
  induction h with
  | nil => exact .nil
  | @cons b v bs vs hb _ ho ih =>
    refine .cons ?_ (ih fun b h => p b (List.mem_cons_of_mem _ h)) ho
    have pb := p b List.mem_cons_self
    cases b with
    | dat d => exact dp_le l _ _ hb
    | val u => exact hb
    | fn a c d => exact ⟨hb.1, hb.2.1.trans l, hb.2.2⟩
    | fdk q =>
      obtain ⟨a, o, xs, h1, h2, h3, h4⟩ := hb
      exact ⟨a, o, xs, h1, h2, h3, kall_le l h4⟩
    | _ => cases pb
theorem freezeB {H F F' H' : Hp} (e : C.Ext F H F' H') {bs : List B} {vs : List V} (h : BAll C H F' H' bs vs) {cs : List B} (q : ToBs bs cs) : ∃ F2, C.Ext F H F2 H' ∧ Le F' F2 ∧ BAll C H F2 H' cs vs := by
  induction h generalizing cs with
  | nil =>
    cases q
    exact ⟨F', e, Le.refl F', .nil⟩
  | @cons b v bs vs hb _ _ ih =>
    cases q with
    | dat q1 q2 =>
      obtain ⟨F2, e2, l2, r2⟩ := ih q2
      obtain ⟨F3, e3, l3, r3⟩ := freezeO e2 l2 hb q1
      exact ⟨F3, e3, l2.trans l3, .cons r3 (ball_up l3 q2.pl r2) fun z => by cases z⟩
    | val q2 =>
      obtain ⟨F2, e2, l2, r2⟩ := ih q2
      exact ⟨F2, e2, l2, .cons hb r2 fun z => by cases z⟩
    | fn q2 =>
      obtain ⟨F2, e2, l2, r2⟩ := ih q2
      exact ⟨F2, e2, l2, .cons ⟨hb.1, hb.2.1.trans l2, hb.2.2⟩ r2 fun z => by cases z⟩
    | fdk q2 =>
      obtain ⟨F2, e2, l2, r2⟩ := ih q2
      obtain ⟨a, o, xs, h1, h2, h3, h4⟩ := hb
      exact ⟨F2, e2, l2, .cons ⟨a, o, xs, h1, h2, h3, kall_le l2 h4⟩ r2 fun z => by cases z⟩
/-- plain things are the same behind any start, in any smaller world -/
theorem ball_pl {D : Cf} (hK : C.K = D.K) (hM : ∀ a, D.w.M a → C.w.M a) {H H0 F H' : Hp} {bs : List B} {vs : List V} (p : ∀ b ∈ bs, b.isPl = true) (h : BAll C H F H' bs vs) : BAll D H0 F H' bs vs := by
  induction h with
  | nil => exact .nil
  | @cons b v bs vs hb _ _ ih =>
    have pb := p b List.mem_cons_self
    refine .cons ?_ (ih fun b h => p b (List.mem_cons_of_mem _ h)) fun z => by rw [pl_own pb] at z; cases z
    cases b with
    | dat d =>
      have hb : Da C.K F v d := hb
      rw [hK] at hb
      exact hb
    | val u => exact hb
    | fn a c d => exact ⟨hb.1, hb.2.1, fun x hx => let ⟨h1, h2, h3, h4⟩ := hb.2.2 x hx; ⟨h1, h2, h3, fun z => h4 (hM _ z)⟩⟩
    | fdk q =>
      obtain ⟨a, o, xs, h1, h2, h3, h4⟩ := hb
      rw [hK] at h4
      exact ⟨a, o, xs, h1, fun z => h2 (hM _ z), h3, h4⟩
    | _ => cases pb
/-- a promise in a world -/
def PmW (K : PySem.W.Frag) (T : List NTab) (w : Wo) (S : List B → w.S → B → w.S → Prop) : Sp := fun vs H Q _ => ∃ F bs r s s', Sub F H ∧ TabsN T H ∧ w.hold s H ∧ (∀ a, w.M a → F a = none) ∧ BAll ⟨K, T, w⟩ H F H bs vs ∧ (∀ b ∈ bs, b.isPl = true) ∧ S bs s r s' ∧
  ∀ v F' H', DV.Ext w.M T F H F' H' → w.hold s' H' → Bok ⟨K, T, w⟩ H F' H' r v → Q v H'
theorem pmw_call {S : List B → C.w.S → B → C.w.S → Prop} {E : XK} {xs bs : List B} {ta : TA} {r : B} (h : DvA C ta env s xs s1) (q : ToBs xs bs) (hS : S bs s1 r s2) : Dv C (tCall (PmW C.K C.T C.w S) [] E ta) env s r s2 := fun F0 H0 σ F H e Q k => h F0 H0 σ F H e _ fun vs F1 H1 e1 h1 b1 => by
  obtain ⟨F2, e2, _, r2⟩ := freezeB e1 b1 q
  refine ⟨F2, bs, r, s1, s2, e2.sub, e2.tab, h1, (e.go e2 h1).nf, by rw [List.append_nil]; exact ball_pl rfl (fun _ h => h) q.pl r2, q.pl, hS, fun v F' H' e3 h3 b3 => ?_⟩
  exact k v F' H' (e2.trans e3) h3 (b3.base e2.dom)
abbrev SpB := List B → B → Prop
def PmB (K : PySem.W.Frag) (T : List NTab) (S : SpB) : Sp := PmW K T wo0 fun bs _ r _ => S bs r
theorem pmb_call {S : SpB} {E : XK} {xs bs : List B} {ta : TA} {r : B} (h : DvA C ta env s xs s1) (q : ToBs xs bs) (hS : S bs r) (nb : r.isBor = false) : Dv C (tCall (PmB C.K C.T S) [] E ta) env s r s1 := fun F0 H0 σ F H e Q k => h F0 H0 σ F H e _ fun vs F1 H1 e1 h1 b1 => by
  obtain ⟨F2, e2, _, r2⟩ := freezeB e1 b1 q
  refine ⟨F2, bs, r, (), (), e2.sub, e2.tab, trivial, fun _ h => h.elim, by rw [List.append_nil]; exact ball_pl (C := C) (D := Cf.pure C.K C.T) rfl (fun _ (h : False) => h.elim) q.pl r2, q.pl, hS, fun v F' H' e3 _ b3 => ?_⟩
  exact k v F' H' (e2.trans (extS e3)) (holdS e3 h1) ((bok_up b3 nb h1 e3).base e2.dom)
def initB (N : List Str) (bs : List B) : Env := bs ++ List.replicate (N.length - bs.length) .un
theorem ball_get {H0 F H : Hp} {bs : List B} {vs : List V} (h : BAll C H0 F H bs vs) : ∀ (i : Nat) (b : B), bs[i]? = some b → ∃ v, vs[i]? = some v ∧ Bok C H0 F H b v := by
  induction h with
  | nil => intro i b e; simp at e
  | @cons b v bs vs hb _ _ ih =>
    intro i c e
    cases i with
    | zero =>
      simp at e
      subst e
      exact ⟨v, rfl, hb⟩
    | succ i => exact ih i c (by simpa using e)
theorem initB_ok {N : List Str} {vs : List V} {bs : List B} {F H : Hp} (sub : Sub F H) (tab : TabsN C.T H) (hd : C.w.hold s H) (nf : ∀ a, C.w.M a → F a = none) (h : BAll C H F H bs vs) (p : ∀ b ∈ bs, b.isPl = true) : EnvOk C F H (L2.start N vs) F H (initB N bs) s := by
  have l := ball_len h
  refine .refl sub tab hd nf ?_ fun i b q => ?_
  · unfold L2.start initB
    simp [l]
  · unfold initB at q
    unfold L2.start
    by_cases hi : i < bs.length
    · rw [List.getElem?_append_left hi] at q
      rw [List.getElem?_append_left (by simp [l]; exact hi), List.getElem?_map]
      obtain ⟨v, h1, h2⟩ := ball_get h i b q
      have pb := p b (List.mem_of_getElem? q)
      exact ⟨some v, by rw [h1] <;> rfl, .inr ⟨pl_bor pb, v, rfl, h2⟩, pl_own pb⟩
    · rw [List.getElem?_append_right (by omega), List.getElem?_replicate] at q
      rw [List.getElem?_append_right (by simp [l]; omega), List.getElem?_replicate]
      split at q
      · cases q
        rename_i z
        exact ⟨none, by rw [if_pos (by simp [l]; exact z)], .inl rfl, rfl⟩
      · cases q
end
theorem pmw_body {K : PySem.W.Frag} {T : List NTab} {w : Wo} {S : List B → w.S → B → w.S → Prop} {N : List Str} {vs : List V} {H : Hp} {Q : VK} {E : XK} {t : TS} (h : PmW K T w S vs H Q E) (tr : ∀ bs s r s', S bs s r s' → Tr ⟨K, T, w⟩ t (initB N bs) s (.rt r s')) :
    t { nx := fun _ H' => Q .non H', rt := Q } (L2.start N vs) H := by
  obtain ⟨F, bs, r, s, s', sub, tab, hd, nf, hb, pl, hS, k⟩ := h
  exact tr bs s r s' hS F H _ F H (initB_ok (C := ⟨K, T, w⟩) sub tab hd nf hb pl) _ fun v F' H' e1 h1 b1 => k v F' H' e1 h1 b1
theorem pmw_len {K : PySem.W.Frag} {T : List NTab} {w : Wo} {S : List B → w.S → B → w.S → Prop} {n : Nat} (hl : ∀ bs s r s', S bs s r s' → bs.length = n) : ∀ vs H Q E, PmW K T w S vs H Q E → vs.length = n := fun vs H Q E ⟨F, bs, r, s, s', _, _, _, _, hb, _, hS, _⟩ => (ball_len hb).trans (hl _ _ _ _ hS)
/-! ### the call of a name that holds a function -/
def tCallV (P : Program) (w : World) (K : PySem.W.Frag) (mg : Str → Option Value) (base : Heap) (T : List NTab) (k i : Nat) (t : TA) : TE := fun σ H Q => ∃ f, σ[i]? = some (some (.ref f)) ∧ (∀ h, HOk P w H h → PySem.W.FnAt f h) ∧
  t σ H fun vs H1 => ∃ S F, Cal P w K mg base T k f S F H1 ∧ PmF K T S F vs H1 Q
section
variable {X : Cx} {T : List NTab} {i j k : Nat} {x : Str} {t : TA} {e : Expr} {es : List Expr} {p pos : Pos}
theorem pe_callV (hr : Room j X.A) (hk : k ≤ j) (hN : X.N[i]? = some x) (hv : Vis X.env.scope x) (ha : PA X (e :: es) t)
    (hd : (x == ("__debug__" : Str)) = false := by decide) (hcd : (x == ("__classdict__" : Str)) = false := by decide)
    (he : starEach (e :: es) X.env = (false, eval e X.env) :: starEach es X.env := by rfl) (hpl : (backTo pos (starEach es X.env)).any (·.1) = false := by rfl) :
    PE X (.Call (.Name x p) (e :: es) [] pos) (tCallV X.prog X.w X.K X.mg X.base T k i t) := by
  refine ⟨fun pins s σ H Q I ⟨f, hs, hf, ht⟩ => wpAny_Call_Name_kw (thn ((pe_var (pos := p) hN hv hd hcd).run pins s σ H (fun v H1 => v = .ref f ∧ H1 = H) I ⟨.ref f, hs, rfl, rfl⟩) fun u s1 ⟨v, H1, I1, r1, ev, eH⟩ => ?_)⟩
  subst ev
  subst eH
  cases r1
  refine PySem.W.callWith_F (first := []) (hf _ I1.hok) (thn (ha.run pos pins s1 σ _ _ I1 ht) fun us s2 ⟨vs, H2, I2, r, S, F, hc, q⟩ => ⟨hc.fnat _ I2.hok, ?_⟩) he hpl
  refine wpAny_call (codeAny_mono (hc.run X.A X.stack s2 us vs Q (hr.mono hk) I2.env0 r q) fun y s' hq => ?_)
  match y, hq with
  | .error z, hq => exact hq.elim
  | .ok (.ret _), hq => exact I2.after hq
end
section
variable {C : Cf} {env : Env} {s s1 : C.w.S} {P : Program} {w : World} {mg : Str → Option Value} {base : Heap}
theorem dv_callV {k i : Nat} {S : List PyData → B → Prop} {fp : List (Addr × HO)} {F1 : Hp} {xs : List B} {ds : List PyData} {ta : TA} {r : B} (hi : env[i]? = some (.fn fp F1 (CalF P w C.K mg base C.T k S fp F1))) (h : DvA C ta env s xs s1) (q : ToDs xs ds) (hS : S ds r) (nb : r.isBor = false) :
    Dv C (tCallV P w C.K mg base C.T k i ta) env s r s1 := fun F0 H0 σ F H e Q qq => by
  obtain ⟨v, h1, ⟨f, rfl, hf⟩, le, kp⟩ := e.at hi (by intro z; cases z)
  refine ⟨f, h1, (hf F H le e.sub e.tab fun p hp => (kp p hp).1).fnat, h F0 H0 σ F H e _ fun vs F2 H2 e2 o2 b2 => ?_⟩
  obtain ⟨F3, e3, _, r3⟩ := freezeA e2 b2 q
  have kp2 : ∀ p ∈ fp, H2 p.1 = some p.2 := fun p hp => let ⟨z1, _, z3, z4⟩ := kp p hp; e3.hx _ _ z1 z3 z4
  refine ⟨S, F3, hf F3 H2 (le.trans e3.fx) e3.sub e3.tab kp2, ds, r, r3, hS, fun v F' H' e4 b4 => ?_⟩
  exact qq v F' H' (e3.trans (extS e4)) (holdS e4 o2) ((bok_up b4 nb o2 e4).base e3.dom)
/-- a slot with a function, read -/
theorem dv_fn {i : Nat} {fp : List (Addr × HO)} {F1 : Hp} {φ : V → Prop} (h : env[i]? = some (.fn fp F1 φ)) : Dv C (tVar i) env s (.fn fp F1 φ) s := fun F0 H0 σ F H e Q q => by
  obtain ⟨v, h1, h2⟩ := e.at h (by intro z; cases z)
  exact ⟨v, h1, q v F H (.refl e.sub e.tab) e.hold h2⟩
end
end DV
set_option maxHeartbeats 1000000
namespace DV
open PySem PySem.Spec PyProof.Rows L2 LamX NdefX
/-! ### e.f as a target -/
def gFld (K : PySem.W.Frag) (ta : TE) (f : Str) : TG := fun v σ H Q => ta σ H fun x H1 => ∃ a C dx fs, x = .ref a ∧ H1 a = some (.ins C dx fs) ∧ Cls K C ∧ NoAttr K C f ∧ fs.length < 1000 ∧ Q σ (upd H1 a (.ins C dx (putF f v fs)))
section
variable {X : Cx}
theorem pg_fld (K : PySem.W.Frag) {o : Expr} {f : Str} {pos : Pos} {ta : TE} (ho : PE X o ta) (hK : X.K = K := by rfl) : PG X (.Attribute o f pos) (gFld K ta f) := by
  subst hK
  refine ⟨fun pins s σ H v u Q I r h => ?_⟩
  simp only [assign]
  refine wpAny_bind (wpAny_holding (thn (ho.run pins s σ H _ I h) fun ov s1 ⟨x, H1, I1, r1, a, C, dx, fs, ex, ea, c, n, l, q⟩ => ?_))
  subst ex
  cases r1
  refine wpAny_bind (wpAny_standAt (wpAny_bind (wpAny_holding (setattr_ok I1 ea c n l r fun s2 I2 => ?_))))
  exact wpAny_release ⟨σ, _, I2, q⟩
end
/-! ### a slot's dict goes to a function for good -/
section
variable {C : Cf} {env env1 env2 : Env} {s s1 : C.w.S}
theorem EnvOk.lose {F0 H0 F H : Hp} {σ : L2.St} (e : EnvOk C F0 H0 σ F H env s) {i : Nat} {b : B} (h : env[i]? = some b) (ho : b.isOwn = true) {a : Addr} (hv : σ[i]? = some (some (.ref a))) (o : HO) : EnvOk C F0 H0 σ F (upd H a o) (env.set i .un) s := by
  obtain ⟨w, hw, ww, fa, ma, h0⟩ := e.own_lt h ho hv
  refine ⟨e.ext.write h0 fa hw ww, C.w.stab (fun c o m z _ => by rw [upd_ne (fun w => ma (by rw [← w]; exact m))]; exact z) e.hold, by rw [List.length_set, e.len], fun j c q => ?_, fun j k c c' a' q1 q2 o1 o2 v1 v2 => ?_, e.nf⟩
  · rw [List.getElem?_set] at q
    by_cases hij : i = j
    · subst hij
      rw [if_pos rfl] at q
      split at q
      · cases q
        exact ⟨_, hv, .inl rfl⟩
      · cases q
    · rw [if_neg hij] at q
      obtain ⟨x, k1, k2⟩ := e.ok j c q
      refine ⟨x, k1, k2.imp id fun ⟨nb, w, k3, k4⟩ => ⟨nb, w, k3, ?_⟩⟩
      have na : c.isOwn = true → w ≠ .ref a := fun oc z => hij (e.sep i j b c a h q ho oc hv (by rw [k1, k3, z]))
      cases c with
      | un => trivial
      | val u => exact k4
      | dat d => exact k4
      | key k => exact k4
      | fn fp Fz φ => exact ⟨k4.1, k4.2.1, k4.2.2.upd hw ww⟩
      | fdk ds =>
        obtain ⟨a', o', xs', r1, r2, r3, r4⟩ := k4
        exact ⟨a', o', xs', r1, r2, (upd_ne fun z => by rw [z, hw] at r3; exact ww.2.2 _ _ (Option.some.inj r3)).trans r3, r4⟩
      | pdk d ds => cases nb
      | own es =>
        obtain ⟨a', xs', r1, r2, r3, r4, r5, r6⟩ := k4
        exact ⟨a', xs', r1, r2, r3, r4, (upd_ne fun z => na rfl (by rw [r1, z])).trans r5, r6⟩
      | odk es =>
        obtain ⟨a', xs', r1, r2, r3, r4, r5, r6⟩ := k4
        exact ⟨a', xs', r1, r2, r3, r4, (upd_ne fun z => na rfl (by rw [r1, z])).trans r5, r6⟩
      | odt es =>
        obtain ⟨a', xs', r1, r2, r3, r4, r5, r6⟩ := k4
        exact ⟨a', xs', r1, r2, r3, r4, (upd_ne fun z => na rfl (by rw [r1, z])).trans r5, r6⟩
      | bor es => cases nb
      | bdk es => cases nb
      | bdt es => cases nb
  · have at_ : ∀ (k : Nat) (d : B), (env.set i B.un)[k]? = some d → d.isOwn = true → env[k]? = some d := fun k d qk od => by
      rw [List.getElem?_set] at qk
      by_cases hk : i = k
      · rw [if_pos hk] at qk
        split at qk
        · cases qk
          cases od
        · cases qk
      · rw [if_neg hk] at qk
        exact qk
    exact e.sep j k c c' a' (at_ j c q1 o1) (at_ k c' q2 o2) o1 o2 v1 v2
/-- a value; behind it other slots are known -/
def DvF (C : Cf) (te : TE) (env : Env) (s : C.w.S) (env1 : Env) (s1 : C.w.S) (r : B) : Prop := ∀ (F0 H0 : Hp) (σ : L2.St) (F H : Hp), EnvOk C F0 H0 σ F H env s → ∀ Q : VK, (∀ v F' H', EnvOk C F0 H0 σ F' H' env1 s1 → Bok C H0 F' H' r v → Q v H') → te σ H Q
theorem tr_retF {te : TE} {r : B} (h : DvF C te env s env1 s1 r) : Tr C (tRet te) env s (.rt r s1) := fun F0 H0 σ F H e D k => h F0 H0 σ F H e _ fun v F1 H1 e1 b1 => k v F1 H1 e1.ext e1.hold b1
theorem tr_asgF {te : TE} {g : TG} {d : PyData} {js : List Nat} (h : DvF C te env s env1 s1 (.dat d)) (hg : Dg C g d env1 env2 js) : Tr C (tAsg te g) env s (.nx env2 s1) := fun F0 H0 σ F H e D k => h F0 H0 σ F H e _ fun v F1 H1 e1 b1 =>
  hg F0 H0 σ F1 H1 s1 v e1 b1 _ fun σ2 e2 _ _ => k σ2 F1 H1 e2
/-- all arguments but the last one -/
def DvL (C : Cf) (ta : TA) (tl : TE) (env : Env) (s : C.w.S) (xs : List B) (s1 : C.w.S) : Prop := ∀ (F0 H0 : Hp) (σ : L2.St) (F H : Hp), EnvOk C F0 H0 σ F H env s → ∀ Q : List V → Hp → Prop,
  (∀ vs F' H', C.Ext F H F' H' → C.w.hold s1 H' → BAll C H F' H' xs vs → tl σ H' fun u H2 => Q (vs ++ [u]) H2) → ta σ H Q
theorem dl_last {tl : TE} : DvL C (tCons tl tNil) tl env s [] s := fun F0 H0 σ F H e Q q => q [] F H (.refl e.sub e.tab) e.hold .nil
theorem dl_cons {ta tl : TE} {tr : TA} {x : B} {xs : List B} {sm : C.w.S} (ha : Dv C ta env s x sm) (hr : DvL C tr tl env sm xs s1) : DvL C (tCons ta tr) tl env s (x :: xs) s1 := fun F0 H0 σ F H e Q q =>
  ha F0 H0 σ F H e _ fun v F1 H1 e1 h1 b1 => hr F0 H0 σ F1 H1 (e.go e1 h1) _ fun vs F2 H2 e2 h2 b2 => q (v :: vs) F2 H2 (e1.trans e2) h2 (.cons (b1.ext e2) (ball_base e1.dom b2) fun o z => by
    obtain ⟨a, r1, r2⟩ := ball_own b2 v z
    obtain ⟨a', r3, _, ⟨u, r4, _⟩, _⟩ := b1.new o
    rw [r3] at r1
    cases r1
    rw [r2] at r4
    cases r4)
end
/-- what a lambda that looks into a dict gives -/
def dgetS (q : List (Key × PyData)) (ds : List PyData) (r : B) : Prop := ∃ k d, ds = [kD k] ∧ valD q k = some d ∧ r = .dat d
theorem kall_le2 {K : PySem.W.Frag} {F G : Hp} (e : Le F G) {r : List (Key × V)} {q : List (Key × PyData)} (h : KAll K F r q) : KAll K G r q := kall_le e h
/-- lambda x: d[x] -/
theorem cal_dget {P : Program} {w : World} {K : PySem.W.Frag} {mg : Str → Option Value} {B : Heap} {T : List NTab} {k : Nat} {q : List (Key × PyData)} {G : NF} {body : Expr} {N : List Str} {x y : Str} {f a : Addr} {o : Obj} {kv : List (Key × V)} {F1 : Hp}
    (S : NScope N [x] [y] G.scope) (hN : N = [x, y]) (hb : ∀ (pm ctv : Value) (us : List Value), us.length = 1 → bindArgs (PySem.W.kla_fn G.name G.qual G.params body G.scope G.cl pm (.ref G.c) ctv) ⟨us, []⟩ = pure ([x].zip us))
    (hbody : ∀ (A : Around) (outer : List PySem.Env) (s : Shared) (H : Hp), Room k (A.deeper (envF G f s.heap.objs.size)) → PE (ncx C8.CX0 P w K mg B N G f A outer s H C8.E0) body (tDGet (tVar 1) (tVar 0)))
    (C : CellsB B G.cl [y] [some (.ref a)]) (ka : KAll K F1 kv q) : CalF P w K mg B T (k + 1) (dgetS q) [(f, LamO f G body), (G.c, CodeO G.c G.qual), (a, .frz o (.dK kv))] F1 (.ref f) := by
  refine ⟨f, rfl, fun F H le sub tab kp => ?_⟩
  have hf := kp (f, LamO f G body) (by simp)
  have hc := kp (G.c, CodeO G.c G.qual) (by simp)
  have ha := kp (a, .frz o (.dK kv)) (by simp)
  refine ⟨lam_at hf, fun A outer s us vs Q hr e0 rv pm => ?_⟩
  obtain ⟨ds, r, hd, ⟨ky, d, rfl, hv, rfl⟩, kk⟩ := pm
  have l := dps_len hd
  match vs, hd, l, rv with
  | [v], .cons hd1 .nil, _, rv =>
    refine lam_run (CX := C8.CX0) (E := C8.E0) (ws := [some (.ref a)]) S hb hr e0 hf hc (C.now e0) rv rfl (hbody A outer s H) ?_
    subst hN
    rw [dp_key (C := Cf.pure K T) hd1]
    rcases kall_val ka ky with ⟨z, _⟩ | ⟨d', w, z1, z2, z3⟩
    · rw [z] at hv
      cases hv
    · rw [hv] at z1
      cases z1
      exact ⟨.ref a, rfl, kV ky, rfl, a, w, rfl, .inl ⟨kv, ky, .inr ⟨o, ha⟩, rfl, z2.symm⟩, kk w F H (.refl sub tab) (dp_le le _ _ z3)⟩
theorem lamO_wr {f : Addr} {G : NF} {e : Expr} : ¬ Wr (LamO f G e) := fun z => z.2.1 _ rfl
theorem codeO_wr {c : Addr} {q : Str} : ¬ Wr (CodeO c q) := fun z => z.2.1 _ rfl
theorem codeO_nt {c : Addr} {q : Str} : NT (CodeO c q) := fun ps z => by
  unfold CodeO at z
  cases z
theorem nt_frz {o : Obj} {u : HO} : NT (.frz o u) := fun _ h => by cases h
section
variable {C : Cf} {env : Env} {s s1 : C.w.S}
/-- g(.., lambda x: d[x]), d a dict of one's own -/
theorem dv_lamget {P : Program} {w : World} {mg : Str → Option Value} {base : Heap} {k i : Nat} {q : List (Key × PyData)} {G0 : Addr → NF} {body : Expr} {cl : List (Str × Addr)} {N : List Str} {x y : Str} {ta : TA} {xs bs : List B} {SB : Heap → SpB} {r : B} {E : XK}
    (hi : env[i]? = some (.odk q)) (hA : DvL C ta (tLamN C.T G0 body) (env.set i .un) s xs s1) (hbs : ToBs xs bs) (hcl : ∀ d, (G0 d).cl = cl) (hc : ∀ d, (G0 d).c = d) (hS : ∀ d, NScope N [x] [y] (G0 d).scope) (hN : N = [x, y])
    (hb : ∀ (d : Addr) (pm ctv : Value) (us : List Value), us.length = 1 → bindArgs (PySem.W.kla_fn (G0 d).name (G0 d).qual (G0 d).params body (G0 d).scope (G0 d).cl pm (.ref (G0 d).c) ctv) ⟨us, []⟩ = pure ([x].zip us))
    (hbody : ∀ (B : Heap) (d f : Addr) (A : Around) (outer : List PySem.Env) (s : Shared) (H : Hp), Room k (A.deeper (envF (G0 d) f s.heap.objs.size)) → PE (ncx C8.CX0 P w C.K mg B N (G0 d) f A outer s H C8.E0) body (tDGet (tVar 1) (tVar 0)))
    (hcall : ∀ (B : Heap) (fp : List (Addr × HO)) (F1 : Hp), SB B (bs ++ [.fn fp F1 (CalF P w C.K mg B C.T (k + 1) (dgetS q) fp F1)]) r) (nb : r.isBor = false) :
    DvF C (tFrz i (tCallG (fun B => PmB C.K C.T (SB B)) base cl [y] [i] [] E ta)) env s (env.set i .un) s1 r := fun F0 H0 σ F H e Q kk => by
  obtain ⟨v, h1, a, kv, rfl, h0, hm, fa, ha, ka⟩ := e.at hi (by intro z; cases z)
  refine ⟨a, kv, h1, ha, fun o => ?_⟩
  have e1 := e.lose hi rfl h1 (.frz o (.dK kv))
  refine hA F0 H0 σ F _ e1 _ fun vs F1 H1 x1 o1 b1 => ?_
  have e2 := e1.go x1 o1
  refine ⟨e2.tab, fun f d H2 n1 n2 t2 f0 f1 c1 => ?_⟩
  intro D _ cb
  obtain ⟨F2, x2, l2, r2⟩ := freezeB x1 b1 hbs
  have x3 : C.Ext F2 H1 F2 H2 := ⟨fun b o z n _ => n1 b o z n, n2, Le.refl F2, fun b o z => let ⟨z1, z2⟩ := x2.sub b o z; ⟨n1 b o z1 z2, z2⟩, fun _ _ _ => rfl, t2⟩
  have x4 := x2.trans x3
  have c2 : H2 (G0 d).c = some (CodeO (G0 d).c (G0 d).qual) := by rw [hc]; exact c1
  have a2 : H2 a = some (.frz o (.dK kv)) := x4.hx a _ upd_same nt_frz hm
  have ws : [i].map (slotAt σ) = [some (.ref a)] := by
    show [slotAt σ i] = _
    rw [slotAt_of h1]
  obtain ⟨fp, hfp⟩ : ∃ fp, fp = [(f, LamO f (G0 d) body), ((G0 d).c, CodeO (G0 d).c (G0 d).qual), (a, HO.frz o (.dK kv))] := ⟨_, rfl⟩
  have cal : CalF P w C.K mg D C.T (k + 1) (dgetS q) fp F2 (.ref f) := hfp ▸ cal_dget (hS d) hN (hb d) (fun A outer s H hr => hbody D d f A outer s H hr) (by rw [hcl, ← ws]; exact cb) (kall_le x2.fx ka)
  have bfn : Bok (Cf.pure C.K C.T) H2 F2 H2 (.fn fp F2 (CalF P w C.K mg D C.T (k + 1) (dgetS q) fp F2)) (.ref f) := by
    refine ⟨cal, Le.refl F2, fun p hp => ?_⟩
    rw [hfp] at hp
    rcases List.mem_cons.mp hp with z | hp
    · rw [z]
      exact ⟨f1, lamO_wr, lamO_nt, id⟩
    rcases List.mem_cons.mp hp with z | hp
    · rw [z]
      exact ⟨c2, codeO_wr, codeO_nt, id⟩
    rcases List.mem_cons.mp hp with z | hp
    · rw [z]
      exact ⟨a2, fun z => z.2.2 _ _ rfl, nt_frz, id⟩
    · cases hp
  have app : ∀ {bs : List B} {vs : List V}, (∀ b ∈ bs, b.isPl = true) → BAll C (upd H a (.frz o (.dK kv))) F2 H1 bs vs → BAll (Cf.pure C.K C.T) H2 F2 H2 (bs ++ [.fn fp F2 (CalF P w C.K mg D C.T (k + 1) (dgetS q) fp F2)]) (vs ++ [.ref f]) := fun {bs vs} pl hb => by
    have hb2 := ball_pl (C := C) (D := Cf.pure C.K C.T) (H0 := H2) rfl (fun _ (h : False) => h.elim) pl (ball_ext x3 hb)
    clear hb
    induction hb2 with
    | nil => exact .cons bfn .nil fun z => by cases z
    | @cons b v bs vs h1 _ h3 ih => exact .cons h1 (ih fun b hb => pl b (List.mem_cons_of_mem _ hb)) fun z => by rw [pl_own (pl b List.mem_cons_self)] at z; cases z
  refine ⟨F2, _, r, (), (), x3.sub, t2, trivial, fun _ h => h.elim, by rw [List.append_nil]; exact app hbs.pl r2, fun b hb => ?_, hcall D fp F2, fun v F' H' x5 _ b5 => ?_⟩
  · rcases List.mem_append.mp hb with z | z
    · exact hbs.pl b z
    · rcases List.mem_cons.mp z with z | z
      · rw [z]
        rfl
      · cases z
  · have o2 : C.w.hold s1 H2 := C.w.stab (fun b o _ q n => n1 b o q n) o1
    have e3 : EnvOk C F0 H0 σ F' H' (env.set i .un) s1 := e1.go (x4.trans (extS x5)) (holdS x5 o2)
    exact kk v F' H' e3 ((bok_up b5 nb o2 x5).base (fun a o z => (e1.ext.trans x4).dom a o z))
end
end DV
set_option maxHeartbeats 1000000
namespace DV
open PySem PySem.Spec PyProof.Rows L2 LamX NdefX
theorem tabB_up {base B : Heap} {mg : Str → Option Value} {c P : Addr} (t : TabB base mg c P) (le : BLe base B) : TabB B mg c P := ⟨t.code.keeps le, t.bm.keeps le, t.gP⟩
/-- a def whose code object is named -/
structure FunC (K : PySem.W.Frag) (x qual : Str) (st : Stmt) (f : Addr) (fd : FuncData) (o : Addr) : Prop where
  ex : ∃ (oc : Value) (od : Option Addr) (kV doc pm : Value) (an : Option Addr) (ct : Value) (osl : Array (Option Value)),
    fd = PySem.W.fnOf x qual (defArgs st) (defBody st) (defScope st) .none kV doc pm an (.ref o) ct ∧ K.lookup f = some ⟨oc, od, .func fd, osl⟩ ∧ PySem.W.codeIn K (.ref o) qual = true
  kp : PySem.W.keepIn K (.ref f) = true
theorem FunC.ok {P : Program} {w : World} {K : PySem.W.Frag} {mg : Str → Option Value} {base : Heap} {x qual : Str} {st : Stmt} {f o : Addr} {fd : FuncData} {N ps : List Str} {k : Nat} {sp : Sp} (F : FunC K x qual st f fd o) (S : FnScope N ps (defScope st)) (len : ∀ vs H Q E, sp vs H Q E → vs.length = ps.length)
    (hbody : ∀ (A : Around) (outer : List PySem.Env) (s : Shared) (H : Hp) (vs : List V) (Q : VK) (E : XK), Room k (A.deeper (envOfC qual (defScope st) s.heap.objs.size f (.ref o))) → sp vs H Q E →
      ∃ t, PSs (cxOf CX0 P w K mg base N qual (defScope st) f (.ref o) A outer s H E).nox (defBody st) t ∧ t { nx := fun _ H' => Q .non H', rt := Q } (L2.start N vs) H) : FnOk P w K mg base CX0 (k + 1) f fd ps sp := by
  obtain ⟨oc, od, kV, doc, pm, an, ct, osl, rfl, lk, hcd⟩ := F.ex
  exact fn_of lk hcd S len fun A outer s H vs Q E hr hsp => let ⟨t, h, q⟩ := hbody A outer s H vs Q E hr hsp; ⟨t, h.nox, q⟩
theorem tab_only {T : List NTab} {l : List Addr} (N : l.Nodup) (e : T.map (·.1) = l := by rfl) {p q : NTab} (hp : p ∈ T) (hq : q ∈ T) (z : p.1 = q.1) : p.2 = q.2 := by
  subst e
  obtain ⟨i, hi, ei⟩ := List.mem_iff_getElem.mp hp
  obtain ⟨j, hj, ej⟩ := List.mem_iff_getElem.mp hq
  have h2 : (T.map (·.1))[i]'(by simpa using hi) = (T.map (·.1))[j]'(by simpa using hj) := by simp [ei, ej, z]
  have h3 := (List.getElem_inj N).mp h2
  subst h3
  rw [← ei, ← ej]
/-! ### things numbered as they come -/
section
variable {κ : Type} [DecidableEq κ]
def idxN : Nat → List κ → List (κ × V)
  | _, [] => []
  | n, k :: r => (k, .int (n : Int)) :: idxN (n + 1) r
theorem idxN_len : ∀ (st : List κ) (n : Nat), (idxN n st).length = st.length
  | [], _ => rfl
  | k :: r, n => by simp [idxN, idxN_len r (n + 1)]
theorem idxN_snoc (k : κ) : ∀ (st : List κ) (n : Nat), idxN n (st ++ [k]) = idxN n st ++ [(k, .int ((n + st.length : Nat) : Int))]
  | [], n => rfl
  | j :: r, n => by
    show (j, V.int (n : Int)) :: idxN (n + 1) (r ++ [k]) = (j, V.int (n : Int)) :: (idxN (n + 1) r ++ _)
    rw [idxN_snoc k r (n + 1)]
    have e : n + 1 + r.length = n + (j :: r).length := by simp; omega
    rw [e]
theorem idxN_no {k : κ} : ∀ {st : List κ} {n : Nat}, k ∉ st → valV (idxN n st) k = none
  | [], _, _ => rfl
  | j :: r, n, h => by
    have h1 : ¬ j = k := fun z => h (by rw [z]; exact List.mem_cons_self)
    rw [show idxN n (j :: r) = (j, .int (n : Int)) :: idxN (n + 1) r from rfl, valV_neg h1]
    exact idxN_no fun z => h (List.mem_cons_of_mem _ z)
/-- the place of a key -/
def ixK : List κ → κ → Nat
  | [], _ => 0
  | j :: r, k => if j = k then 0 else ixK r k + 1
theorem ixK_lt {k : κ} : ∀ {st : List κ}, k ∈ st → ixK st k < st.length
  | [], h => by cases h
  | j :: r, h => by
    unfold ixK
    by_cases e : j = k
    · rw [if_pos e]
      simp
    · rw [if_neg e]
      have := ixK_lt ((List.mem_cons.mp h).resolve_left fun z => e z.symm)
      simp
      exact this
theorem ixK_get {k : κ} : ∀ {st : List κ}, k ∈ st → st[ixK st k]? = some k
  | [], h => by cases h
  | j :: r, h => by
    unfold ixK
    by_cases e : j = k
    · rw [if_pos e, e]
      rfl
    · rw [if_neg e]
      exact ixK_get ((List.mem_cons.mp h).resolve_left fun z => e z.symm)
theorem ixK_no {k : κ} : ∀ {st : List κ}, k ∉ st → ixK st k = st.length
  | [], _ => rfl
  | j :: r, h => by
    unfold ixK
    rw [if_neg fun z => h (by rw [z]; exact List.mem_cons_self), ixK_no fun z => h (List.mem_cons_of_mem _ z)]
    rfl
theorem ixK_app {k : κ} (r : List κ) : ∀ {st : List κ}, k ∈ st → ixK (st ++ r) k = ixK st k
  | [], h => by cases h
  | j :: st, h => by
    show ixK (j :: (st ++ r)) k = _
    unfold ixK
    by_cases e : j = k
    · rw [if_pos e, if_pos e]
    · rw [if_neg e, if_neg e, ixK_app r ((List.mem_cons.mp h).resolve_left fun z => e z.symm)]
theorem ixK_new {k : κ} {st : List κ} (h : k ∉ st) : ixK (st ++ [k]) k = st.length := by
  induction st with
  | nil => simp [ixK]
  | cons j r ih =>
    show ixK (j :: (r ++ [k])) k = _
    unfold ixK
    rw [if_neg fun z => h (by rw [z]; exact List.mem_cons_self), ih fun z => h (List.mem_cons_of_mem _ z)]
    rfl
theorem idxN_yes {k : κ} : ∀ {st : List κ} {n : Nat}, k ∈ st → valV (idxN n st) k = some (.int ((n + ixK st k : Nat) : Int))
  | [], _, h => by cases h
  | j :: r, n, h => by
    rw [show idxN n (j :: r) = (j, .int (n : Int)) :: idxN (n + 1) r from rfl]
    unfold ixK
    by_cases e : j = k
    · rw [valV_pos e, if_pos e]
      rfl
    · rw [valV_neg e, if_neg e, idxN_yes ((List.mem_cons.mp h).resolve_left fun z => e z.symm)]
      have e3 : n + 1 + ixK r k = n + (ixK r k + 1) := by omega
      rw [e3]
/-- the line behind the number of k -/
def numS (st : List κ) (k : κ) : List κ := if ixK st k < st.length then st else st ++ [k]
theorem numS_yes {st : List κ} {k : κ} (h : k ∈ st) : numS st k = st := if_pos (ixK_lt h)
theorem numS_no {st : List κ} {k : κ} (h : k ∉ st) : numS st k = st ++ [k] := if_neg (by rw [ixK_no h]; exact Nat.lt_irrefl _)
theorem numS_mem (st : List κ) (k : κ) : k ∈ numS st k := by
  by_cases h : k ∈ st
  · rw [numS_yes h]
    exact h
  · rw [numS_no h]
    simp
theorem numS_sub {st : List κ} {k j : κ} (h : j ∈ st) : j ∈ numS st k := by
  by_cases h2 : k ∈ st
  · rw [numS_yes h2]
    exact h
  · rw [numS_no h2]
    simp [h]
end
/-- what is the world's own is changed -/
theorem Ext.writeM {M : Addr → Prop} {T : List NTab} {F H F' H' : Hp} {p : Addr} {o u : HO} (e : DV.Ext M T F H F' H') (m : M p) (hf : F' p = none) (hp : H' p = some u) (nt : Wr u) : DV.Ext M T F H F' (upd H' p o) := by
  refine ⟨fun a v q n na => by rw [upd_ne fun z => na (by rw [z]; exact m)]; exact e.hx a v q n na, fun a v q => ?_, e.fx, fun a v q => ?_, e.fr, fun q hq => ?_⟩
  · by_cases z : a = p
    · exact ⟨o, by rw [z]; exact upd_same⟩
    · rw [upd_ne z]
      exact e.dom a v q
  · obtain ⟨h1, h2⟩ := e.sub a v q
    exact ⟨by rw [upd_ne (ne_of_none q hf)]; exact h1, h2⟩
  · obtain ⟨ps, t1, t2, t3⟩ := e.tab q hq
    have k : ∀ b v, H' b = some v → v ≠ u → upd H' p o b = some v := fun b v q z => by
      rw [upd_ne (fun z' => by rw [z', hp] at q; exact z (Option.some.inj q).symm)]
      exact q
    refine ⟨ps, k _ _ t1 (fun z => nt.1 ps z.symm), t2, fun pos cv hc => ?_⟩
    obtain ⟨c, c1, c2⟩ := t3 pos cv hc
    exact ⟨c, c1, k _ _ c2 fun z => nt.2.1 _ z.symm⟩
def rawF (kd ln : Addr) : List (Str × V) := [("known", .ref kd), ("line", .ref ln)]
structure RawAt (C raw dx kd ln : Addr) (st : List Key) (H : Hp) : Prop where
  i : H raw = some (.ins C dx (rawF kd ln))
  o : H dx = some (.own raw)
  k : H kd = some (.dK (idxN 0 st))
  l : H ln = some (.lst (st.map kV))
theorem nt_ins {C dx : Addr} {fs : List (Str × V)} : NT (.ins C dx fs) := fun _ h => by cases h
theorem nt_own {x : Addr} : NT (.own x) := fun _ h => by cases h
theorem wr_ins {C dx : Addr} {fs : List (Str × V)} : Wr (.ins C dx fs) := ⟨fun _ h => (by cases h), fun _ h => (by cases h), fun _ _ h => (by cases h)⟩
theorem wr_own {x : Addr} : Wr (.own x) := ⟨fun _ h => (by cases h), fun _ h => (by cases h), fun _ _ h => (by cases h)⟩
/-- the world of one instance -/
def rawW (C raw dx kd ln : Addr) : Wo where
  S := List Key
  M := fun a => a = raw ∨ a = dx ∨ a = kd ∨ a = ln
  hold := fun st H => RawAt C raw dx kd ln st H
  stab := fun {st H H'} h x => ⟨h _ _ (.inl rfl) x.i nt_ins, h _ _ (.inr (.inl rfl)) x.o nt_own, h _ _ (.inr (.inr (.inl rfl))) x.k nt_dK, h _ _ (.inr (.inr (.inr rfl))) x.l nt_lst⟩
  there := fun {st H a} x m => by
    rcases m with e | e | e | e
    · exact ⟨_, by rw [e]; exact x.i, wr_ins⟩
    · exact ⟨_, by rw [e]; exact x.o, wr_own⟩
    · exact ⟨_, by rw [e]; exact x.k, wr_dK⟩
    · exact ⟨_, by rw [e]; exact x.l, wr_lst⟩
/-- the promise of number -/
def spNum (C : Addr) : Sp := fun vs H Q _ => ∃ raw dx kd ln st k, vs = [.ref raw, kV k] ∧ RawAt C raw dx kd ln st H ∧ st.length ≤ 1100 ∧ (k ∈ st → Q (.int (ixK st k : Int)) H) ∧
  (k ∉ st → ∀ H', H' = upd (upd H kd (.dK (idxN 0 (st ++ [k])))) ln (.lst ((st ++ [k]).map kV)) → Q (.int (st.length : Int)) H')
/-- the promise of __init__ -/
def spRawI (C : Addr) : Sp := fun vs H Q _ => ∃ (raw dx : Addr), vs = [.ref raw] ∧ H raw = some (.ins C dx []) ∧ ∀ kd ln p, H kd = none → H ln = none → H p = none → kd ≠ ln → kd ≠ p → ln ≠ p →
  Q .non (upd (upd (upd (upd H kd (.dK [])) ln (.lst [])) p (.tup [.ref kd, .ref ln])) raw (.ins C dx (rawF kd ln)))
theorem raw_noNum {kd ln : Addr} : (rawF kd ln).lookup ("number" : Str) = none := rfl
section
variable {K : PySem.W.Frag} {T : List NTab} {C raw dx kd ln : Addr} {env : Env} {st st1 : List Key}
theorem raw_known {kd ln : Addr} : (rawF kd ln).lookup ("known" : Str) = some (.ref kd) := rfl
theorem raw_line {kd ln : Addr} : (rawF kd ln).lookup ("line" : Str) = some (.ref ln) := rfl
theorem dv_rawlen {i : Nat} (hi : env[i]? = some (.val (.ref raw))) (c : Cls K C) (n : NoAttr K C "line") : Dv ⟨K, T, rawW C raw dx kd ln⟩ (tCB (rLenS K) (tCons (tFld K (tVar i) "line") tNil)) env st (.dat (.int (st.length : Int))) st := fun F0 H0 σ F H e Q q => by
  obtain ⟨v, h1, rfl⟩ := e.at hi (by intro z; cases z)
  have hd : RawAt C raw dx kd ln st H := e.hold
  refine ⟨_, h1, raw, C, dx, _, _, rfl, hd.i, c, n, raw_line, ?_⟩
  refine ⟨ln, _, rfl, .inl (.of hd.l), ?_⟩
  rw [List.length_map]
  exact q _ F H (.refl e.sub e.tab) e.hold (.int _)
theorem dv_rawat {i j : Nat} {k : Key} {tb : TE} (hi : env[i]? = some (.val (.ref raw))) (c : Cls K C) (n : NoAttr K C "line") (hb : Dv ⟨K, T, rawW C raw dx kd ln⟩ tb env st (.dat (.int (j : Int))) st) (hj : st[j]? = some k) :
    Dv ⟨K, T, rawW C raw dx kd ln⟩ (tOp (rIxL K) (tFld K (tVar i) "line") tb) env st (.dat (kD k)) st := fun F0 H0 σ F H e Q q => by
  obtain ⟨v, h1, rfl⟩ := e.at hi (by intro z; cases z)
  have hd : RawAt C raw dx kd ln st H := e.hold
  refine ⟨_, h1, raw, C, dx, _, _, rfl, hd.i, c, n, raw_line, ?_⟩
  refine hb F0 H0 σ F H e _ fun v F1 H1 e1 o1 b1 => ?_
  have hd1 : RawAt C raw dx kd ln st H1 := o1
  cases b1
  refine ⟨ln, st.map kV, (j : Int), kV k, rfl, rfl, .of hd1.l, ?_, q _ F1 H1 e1 o1 ?_⟩
  · have hl : j < st.length := (List.getElem?_eq_some_iff.mp hj).1
    unfold atI ixN
    rw [if_pos (Int.natCast_nonneg j), if_pos (by rw [List.length_map]; omega)]
    show (st.map kV)[(j : Int).toNat]? = _
    rw [Int.toNat_natCast, List.getElem?_map, hj] <;> rfl
  · cases k with
    | inl i => exact .int i
    | inr x => exact .str x
theorem dv_rawnum {i : Nat} {k : Key} {te : TE} (hi : env[i]? = some (.val (.ref raw))) (hb : Dv ⟨K, T, rawW C raw dx kd ln⟩ te env st (.dat (kD k)) st1) (hl : st1.length ≤ 1100) :
    Dv ⟨K, T, rawW C raw dx kd ln⟩ (tMeth C "number" (spNum C) [] C8.E0 (tVar i) (tCons te tNil)) env st (.dat (.int (ixK (numS st1 k) k : Int))) (numS st1 k) := fun F0 H0 σ F H e Q q => by
  obtain ⟨v, h1, rfl⟩ := e.at hi (by intro z; cases z)
  have hd : RawAt C raw dx kd ln st H := e.hold
  refine ⟨_, h1, raw, dx, _, rfl, hd.i, raw_noNum, ?_⟩
  refine hb F0 H0 σ F H e _ fun v F1 H1 e1 o1 b1 => ?_
  have hd1 : RawAt C raw dx kd ln st1 H1 := o1
  have ev := dp_key (C := ⟨K, T, rawW C raw dx kd ln⟩) b1
  subst ev
  refine ⟨raw, dx, kd, ln, st1, k, rfl, hd1, hl, fun hk => ?_, fun hk H' eH => ?_⟩
  · rw [numS_yes hk] at q
    exact q _ F1 H1 e1 o1 (.int _)
  · rw [numS_no hk, ixK_new hk] at q
    subst eH
    have nkl : kd ≠ ln := ne_of hd1.k hd1.l (by intro z; cases z)
    have nki : raw ≠ kd := ne_of hd1.i hd1.k (by intro z; cases z)
    have nli : raw ≠ ln := ne_of hd1.i hd1.l (by intro z; cases z)
    have nko : dx ≠ kd := ne_of hd1.o hd1.k (by intro z; cases z)
    have nlo : dx ≠ ln := ne_of hd1.o hd1.l (by intro z; cases z)
    have mk : (rawW C raw dx kd ln).M kd := .inr (.inr (.inl rfl))
    have ml : (rawW C raw dx kd ln).M ln := .inr (.inr (.inr rfl))
    have nf := (e.go e1 o1).nf
    refine q _ F1 _ ((e1.writeM mk (nf kd mk) hd1.k wr_dK).writeM ml (nf ln ml) ((upd_ne nkl.symm).trans hd1.l) wr_lst) ?_ (.int _)
    exact ⟨(upd_ne nli).trans ((upd_ne nki).trans hd1.i), (upd_ne nlo).trans ((upd_ne nko).trans hd1.o), (upd_ne nkl).trans upd_same, upd_same⟩
end
/-! ### what the two methods read -/
theorem kl_ne : ¬ (("known" : Str) = "line") := by decide +kernel
theorem putF_raw {kd ln : Addr} : putF "line" (.ref ln) (putF "known" (.ref kd) []) = rawF kd ln := by
  show (if ("known" : Str) = "line" then _ else (("known" : Str), V.ref kd) :: putF "line" (.ref ln) []) = _
  rw [if_neg kl_ne]
  rfl
theorem raw_init_rd {K : PySem.W.Frag} {C : Addr} {D : Ends} {vs : List V} {H : Hp} {Q : VK} {E : XK} {σ : L2.St} (c : Cls K C) (n1 : NoAttr K C "known") (n2 : NoAttr K C "line") (h : spRawI C vs H Q E) (hs : ∀ v, vs = [v] → σ[0]? = some (some v)) (hD : ∀ σ' H', Q .non H' → D.nx σ' H') :
    tAsg (tTup (tCons tDNewK (tCons (tLst tNil) tNil))) (gTup K 2 (gCons (gFld K (tVar 0) "known") (gCons (gFld K (tVar 0) "line") gNil))) D σ H := by
  obtain ⟨raw, dx, rfl, hi, k⟩ := h
  have h0 := hs _ rfl
  intro kd hkd
  refine ⟨sz_of _ (Nat.le_of_ble_eq_true rfl), fun ln hln => ?_⟩
  refine ⟨sz_of _ (Nat.le_of_ble_eq_true rfl), fun p hp => ?_⟩
  have n1' : kd ≠ ln := fun z => by
    rw [← z, upd_same] at hln
    cases hln
  have n2' : kd ≠ p := fun z => by
    rw [← z, upd_ne n1', upd_same] at hp
    cases hp
  have n3' : ln ≠ p := fun z => by
    rw [← z, upd_same] at hp
    cases hp
  have hl0 : H ln = none := (upd_ne n1'.symm).symm.trans hln
  have hp0 : H p = none := ((upd_ne n3'.symm).trans (upd_ne n2'.symm)).symm.trans hp
  have r1 := ne_of_none hi hkd
  have r2 := ne_of_none hi hl0
  have r3 := ne_of_none hi hp0
  have hr : upd (upd (upd H kd (.dK [])) ln (.lst [])) p (.tup [.ref kd, .ref ln]) raw = some (.ins C dx []) := (upd_ne r3).trans ((upd_ne r2).trans ((upd_ne r1).trans hi))
  refine ⟨p, _, rfl, .of upd_same, rfl, ?_⟩
  refine ⟨_, _, rfl, _, h0, raw, C, dx, [], rfl, hr, c, n1, Nat.le_of_ble_eq_true rfl, ?_⟩
  refine ⟨_, _, rfl, _, h0, raw, C, dx, _, rfl, upd_same, c, n2, Nat.le_of_ble_eq_true rfl, rfl, ?_⟩
  refine hD _ _ ?_
  rw [upd_upd, putF_raw]
  exact k kd ln p hkd hl0 hp0 n1' n2' n3'
theorem raw_num_rd {K : PySem.W.Frag} {C : Addr} {D : Ends} {vs : List V} {H : Hp} {Q : VK} {E : XK} {σ : L2.St} (c : Cls K C) (n1 : NoAttr K C "known") (n2 : NoAttr K C "line") (h : spNum C vs H Q E) (hs : ∀ u v, vs = [u, v] → σ[0]? = some (some u) ∧ σ[1]? = some (some v)) (hD : ∀ v H', Q v H' → D.rt v H') :
    tSeq (tIfS (tB (tDNotIn (tVar 1) (tFld K (tVar 0) "known")))
      (tSeq (tIfS (tTest (tOp (rEqD K) (tCB (rLenS K) (tCons (tFld K (tVar 0) "line") tNil)) (tC (V.int 1200)))) tNever tNext)
        (tSeq (sDPut (tFld K (tVar 0) "known") (tVar 1) (tCB (rLenS K) (tCons (tFld K (tVar 0) "line") tNil))) (tDrop (tBM K "list" rAppend (tFld K (tVar 0) "line") (tCons (tVar 1) tNil))))) tNext)
      (tRet (tDGet (tFld K (tVar 0) "known") (tVar 1))) D σ H := by
  obtain ⟨raw, dx, kd, ln, st, k, rfl, hd, hl, h1, h2⟩ := h
  obtain ⟨e0, e1⟩ := hs _ _ rfl
  refine ⟨_, e1, _, e0, raw, C, dx, _, _, rfl, hd.i, c, n1, raw_known, kd, _, rfl, .k hd.k, _, rfl, ?_⟩
  by_cases hk : k ∈ st
  · rw [idxN_yes hk]
    refine iteF ?_
    refine ⟨_, e0, raw, C, dx, _, _, rfl, hd.i, c, n1, raw_known, _, e1, kd, .int (ixK st k : Int), rfl, ?_, hD _ _ (h1 hk)⟩
    have q := DGet.k (k := k) hd.k
    rw [idxN_yes hk, Nat.zero_add] at q
    exact q
  · rw [idxN_no hk]
    refine iteT ?_
    have nkl : kd ≠ ln := ne_of hd.k hd.l (by intro z; cases z)
    have nki : raw ≠ kd := ne_of hd.i hd.k (by intro z; cases z)
    have nli : raw ≠ ln := ne_of hd.i hd.l (by intro z; cases z)
    refine ⟨_, e0, raw, C, dx, _, _, rfl, hd.i, c, n2, raw_line, ln, _, rfl, .inl (.of hd.l), .int ((st.map kV).length : Int), .int 1200, .int _, .int _, rfl, rfl, _, rfl, ?_⟩
    have ne : PyData.eqv (.int ((st.map kV).length : Int)) (.int 1200) = false := by
      show decide (((st.map kV).length : Int) = 1200) = false
      rw [List.length_map]
      exact decide_eq_false (by omega)
    rw [ne]
    refine iteF ?_
    refine ⟨_, e0, raw, C, dx, _, _, rfl, hd.i, c, n2, raw_line, ln, _, rfl, .inl (.of hd.l), ?_⟩
    refine ⟨_, e0, raw, C, dx, _, _, rfl, hd.i, c, n1, raw_known, _, e1, kd, _, rfl, .k hd.k (lt_sz (by rw [idxN_len]; omega)), ?_⟩
    have hp : putK (idxN 0 st) k (.int ((st.map kV).length : Int)) = idxN 0 (st ++ [k]) := by
      rw [putK_new _ (idxN_no hk), idxN_snoc, Nat.zero_add, List.length_map]
    rw [hp]
    refine ⟨_, e0, raw, C, dx, _, _, rfl, (upd_ne nki).trans hd.i, c, n2, raw_line, .inl ⟨rfl, _, .of ((upd_ne nkl.symm).trans hd.l)⟩, _, e1, ln, _, _, rfl, rfl, (upd_ne nkl.symm).trans hd.l, lt_sz (by rw [List.length_map]; omega), ?_⟩
    refine ⟨_, e0, raw, C, dx, _, _, rfl, (upd_ne nli).trans ((upd_ne nki).trans hd.i), c, n1, raw_known, _, e1, kd, .int (st.length : Int), rfl, ?_, ?_⟩
    · have q := DGet.k (k := k) (show upd (upd H kd (.dK (idxN 0 (st ++ [k])))) ln (.lst (st.map kV ++ [kV k])) kd = some (.dK (idxN 0 (st ++ [k]))) from (upd_ne nkl).trans upd_same)
      rw [idxN_yes (show k ∈ st ++ [k] by simp), Nat.zero_add, ixK_new hk] at q
      exact q
    · refine hD _ _ (h2 hk _ ?_)
      rw [List.map_append]
      rfl
end DV
set_option maxHeartbeats 1000000
namespace DV
open PySem PySem.Spec PyProof.Rows L2 LamX NdefX
/-! ### the line of all that is come to -/
section
variable {C : Cf} {env : Env} {s : C.w.S} {o : Out C} {ts : TS}
theorem tr_freeze {i : Nat} {ds : List PyData} (h : env[i]? = some (.own ds)) (t : Tr C ts (env.set i (.dat (.list ds))) s o) : Tr C ts env s o := fun F0 H0 σ F H e D k => let ⟨F2, e2⟩ := e.freeze h; t F0 H0 σ F2 H e2 D k
end
section
variable {κ : Type} [DecidableEq κ]
theorem nodup_len : ∀ {l U : List κ}, l.Nodup → (∀ x ∈ l, x ∈ U) → l.length ≤ U.length
  | [], _, _, _ => Nat.zero_le _
  | x :: r, U, n, h => by
    have n1 := (List.nodup_cons.mp n)
    have h2 : ∀ y ∈ r, y ∈ U.filter fun y => decide (y ≠ x) := fun y hy => List.mem_filter.mpr ⟨h y (List.mem_cons_of_mem _ hy), decide_eq_true fun z => n1.1 (z ▸ hy)⟩
    have h3 := nodup_len n1.2 h2
    have h4 : (U.filter fun y => decide (y ≠ x)).length < U.length := List.length_filter_lt_length_iff_exists.mpr ⟨x, h x List.mem_cons_self, by simp⟩
    show r.length + 1 ≤ U.length
    omega
end
abbrev ViewF := Key → Bool × Key × Key
def encVK (v : Bool × Key × Key) : PyData := .tuple [.bool v.1, kD v.2.1, kD v.2.2]
def rawStep (view : ViewF) (st : List Key) (i : Nat) : List Key := match st[i]? with
  | none => st
  | some k => numS (numS st (view k).2.1) (view k).2.2
def rawSt (view : ViewF) (starts : List Key) : Nat → List Key
  | 0 => starts.foldl numS []
  | i + 1 => rawStep view (rawSt view starts i) i
section
variable {κ : Type} [DecidableEq κ]
theorem numS_pre (st : List κ) (k : κ) : ∃ r, numS st k = st ++ r := by
  by_cases h : k ∈ st
  · exact ⟨[], by rw [numS_yes h]; simp⟩
  · exact ⟨[k], numS_no h⟩
theorem numS_nodup {st : List κ} (k : κ) (n : st.Nodup) : (numS st k).Nodup := by
  by_cases h : k ∈ st
  · rw [numS_yes h]
    exact n
  · rw [numS_no h]
    refine List.nodup_append.mpr ⟨n, by simp, fun a ha b hb => ?_⟩
    rw [List.mem_singleton.mp hb]
    exact fun z => h (z ▸ ha)
theorem numS_in {st U : List κ} {k : κ} (h : ∀ x ∈ st, x ∈ U) (hk : k ∈ U) : ∀ x ∈ numS st k, x ∈ U := fun x hx => by
  by_cases e : k ∈ st
  · rw [numS_yes e] at hx
    exact h x hx
  · rw [numS_no e] at hx
    rcases List.mem_append.mp hx with z | z
    · exact h x z
    · rw [List.mem_singleton.mp z]
      exact hk
theorem ixK_pre {st st' r : List κ} {k : κ} (e : st' = st ++ r) (h : k ∈ st) : ixK st' k = ixK st k := by rw [e, ixK_app r h]
/-- numbered one by one -/
theorem fold_pre : ∀ (l st : List κ), ∃ r, l.foldl numS st = st ++ r
  | [], st => ⟨[], by simp⟩
  | k :: l, st => by
    obtain ⟨r1, e1⟩ := numS_pre st k
    obtain ⟨r2, e2⟩ := fold_pre l (numS st k)
    exact ⟨r1 ++ r2, by rw [List.foldl_cons, e2, e1, List.append_assoc]⟩
theorem fold_nodup : ∀ (l : List κ) {st : List κ}, st.Nodup → (l.foldl numS st).Nodup
  | [], _, n => n
  | k :: l, st, n => fold_nodup l (numS_nodup k n)
theorem fold_in {U : List κ} : ∀ (l : List κ) {st : List κ}, (∀ x ∈ st, x ∈ U) → (∀ x ∈ l, x ∈ U) → ∀ x ∈ l.foldl numS st, x ∈ U
  | [], _, h, _ => h
  | k :: l, st, h, hl => fold_in l (numS_in h (hl k List.mem_cons_self)) fun x hx => hl x (List.mem_cons_of_mem _ hx)
theorem fold_mem : ∀ (l st : List κ) (k : κ), k ∈ l → k ∈ l.foldl numS st
  | j :: l, st, k, h => by
    rcases List.mem_cons.mp h with e | h
    · rw [List.foldl_cons]
      obtain ⟨r, er⟩ := fold_pre l (numS st j)
      rw [er]
      exact List.mem_append_left _ (e ▸ numS_mem st k)
    · exact fold_mem l _ k h
end
section
variable {view : ViewF} {starts U : List Key}
theorem rawStep_pre (st : List Key) (i : Nat) : ∃ r, rawStep view st i = st ++ r := by
  unfold rawStep
  cases st[i]? with
  | none => exact ⟨[], by simp⟩
  | some k =>
    obtain ⟨r1, e1⟩ := numS_pre st (view k).2.1
    obtain ⟨r2, e2⟩ := numS_pre (numS st (view k).2.1) (view k).2.2
    exact ⟨r1 ++ r2, by show numS (numS st _) _ = _; rw [e2, e1, List.append_assoc]⟩
theorem rawSt_pre (i : Nat) : ∀ j, ∃ r, rawSt view starts (i + j) = rawSt view starts i ++ r
  | 0 => ⟨[], by simp⟩
  | j + 1 => by
    obtain ⟨r1, e1⟩ := rawSt_pre i j
    obtain ⟨r2, e2⟩ := rawStep_pre (view := view) (rawSt view starts (i + j)) (i + j)
    exact ⟨r1 ++ r2, by show rawStep view (rawSt view starts (i + j)) (i + j) = _; rw [e2, e1, List.append_assoc]⟩
theorem rawSt_nodup : ∀ i, (rawSt view starts i).Nodup
  | 0 => fold_nodup starts List.nodup_nil
  | i + 1 => by
    show (rawStep view (rawSt view starts i) i).Nodup
    unfold rawStep
    cases (rawSt view starts i)[i]? with
    | none => exact rawSt_nodup i
    | some k => exact numS_nodup _ (numS_nodup _ (rawSt_nodup i))
theorem rawSt_in (hs : ∀ k ∈ starts, k ∈ U) (hU : ∀ k ∈ U, (view k).2.1 ∈ U ∧ (view k).2.2 ∈ U) : ∀ i, ∀ k ∈ rawSt view starts i, k ∈ U
  | 0 => fold_in starts (fun _ h => by cases h) hs
  | i + 1 => by
    show ∀ k ∈ rawStep view (rawSt view starts i) i, k ∈ U
    unfold rawStep
    cases e : (rawSt view starts i)[i]? with
    | none => exact rawSt_in hs hU i
    | some k =>
      have hk := hU k (rawSt_in hs hU i k (List.mem_of_getElem? e))
      exact numS_in (numS_in (rawSt_in hs hU i) hk.1) hk.2
theorem rawSt_len (hs : ∀ k ∈ starts, k ∈ U) (hU : ∀ k ∈ U, (view k).2.1 ∈ U ∧ (view k).2.2 ∈ U) (i : Nat) : (rawSt view starts i).length ≤ U.length := nodup_len (rawSt_nodup i) (rawSt_in hs hU i)
theorem first_turn (f : Nat → Nat) : ∀ n, ∃ k, k ≤ n ∧ (∀ i, i < k → i < f i) ∧ (k = n ∨ f k ≤ k)
  | 0 => ⟨0, Nat.le_refl _, fun i h => absurd h (Nat.not_lt_zero i), .inl rfl⟩
  | n + 1 => by
    obtain ⟨k, h1, h2, h3⟩ := first_turn f n
    by_cases e : f k ≤ k
    · exact ⟨k, by omega, h2, .inr e⟩
    · have ek : k = n := h3.resolve_right e
      exact ⟨n + 1, Nat.le_refl _, fun i hi => by
        by_cases hk : i = k
        · rw [hk]
          omega
        · exact h2 i (by omega), .inl rfl⟩
/-- all is come to within as many turns as there are things -/
theorem rawSt_end (hs : ∀ k ∈ starts, k ∈ U) (hU : ∀ k ∈ U, (view k).2.1 ∈ U ∧ (view k).2.2 ∈ U) :
    ∃ k, k ≤ U.length ∧ (∀ i, i < k → i < (rawSt view starts i).length) ∧ (rawSt view starts k).length = k ∧ ∀ j, rawSt view starts (k + j) = rawSt view starts k := by
  obtain ⟨k, h1, h2, h3⟩ := first_turn (fun i => (rawSt view starts i).length) U.length
  have le : (rawSt view starts k).length ≤ k := by
    rcases h3 with e | e
    · rw [e]
      exact rawSt_len hs hU _
    · exact e
  have ge : k ≤ (rawSt view starts k).length := by
    cases k with
    | zero => exact Nat.zero_le _
    | succ i =>
      have hi := h2 i (Nat.lt_succ_self i)
      obtain ⟨r, er⟩ := rawSt_pre (view := view) (starts := starts) i 1
      rw [er, List.length_append]
      have hi : i < (rawSt view starts i).length := hi
      omega
  have eq := Nat.le_antisymm le ge
  refine ⟨k, h1, h2, eq, fun j => ?_⟩
  induction j with
  | zero => rfl
  | succ j ih =>
    show rawStep view (rawSt view starts (k + j)) (k + j) = _
    rw [ih]
    unfold rawStep
    rw [List.getElem?_eq_none (by omega)]
def rawL (view : ViewF) (starts U : List Key) : List Key := rawSt view starts U.length
theorem rawL_eq {k : Nat} (h1 : k ≤ U.length) (h2 : ∀ j, rawSt view starts (k + j) = rawSt view starts k) : rawL view starts U = rawSt view starts k := by
  unfold rawL
  have e : U.length = k + (U.length - k) := by omega
  rw [e]
  exact h2 _
end
def rowK (view : ViewF) (L : List Key) (k : Key) : PyData := .tuple [.bool (view k).1, .int (ixK L (view k).2.1 : Int), .int (ixK L (view k).2.2 : Int)]
def firstK (starts L : List Key) : List PyData := starts.map fun k => .int (ixK L k : Int)
/-- raw_views: U holds all that can be come to -/
def spViews (P : Program) (w : World) (K : PySem.W.Frag) (mg : Str → Option Value) (base : Heap) (T : List NTab) : SpB := fun bs r => ∃ (starts : List Key) (view : ViewF) (U : List Key) (S : List PyData → B → Prop) (fp : List (Addr × HO)) (F1 : Hp),
  bs = [.dat (.list (starts.map kD)), .fn fp F1 (CalF P w K mg base T 3 S fp F1)] ∧ (∀ k ∈ U, S [kD k] (.dat (encVK (view k)))) ∧ (∀ k ∈ starts, k ∈ U) ∧ (∀ k ∈ U, (view k).2.1 ∈ U ∧ (view k).2.2 ∈ U) ∧ U.length ≤ 1000 ∧ starts.length ≤ 1000 ∧
  r = .dat (.tuple [.list (firstK starts (rawL view starts U)), .list ((rawL view starts U).map (rowK view (rawL view starts U)))])
/-- the readings behind the first row -/
def viewsTs (P : Program) (w : World) (K : PySem.W.Frag) (mg : Str → Option Value) (base : Heap) (T : List NTab) (C : Addr) : TS :=
  tSeq (tAsg (tLc (iList K (tVar 0)) (gName 8) tYes (tMeth C "number" (spNum C) [] E0 (tVar 2) (tCons (tVar 8) tNil)) [8]) (gName 4))
    (tSeq (tWhile (tTest (tOp (rI0 fun i j => V.bl (decide (i < j))) (tCB (rLenS K) (tCons (tVar 3) tNil)) (tCB (rLenS K) (tCons (tFld K (tVar 2) "line") tNil))))
      (tSeq (tAsg (tCallV P w K mg base T 3 1 (tCons (tOp (rIxL K) (tFld K (tVar 2) "line") (tCB (rLenS K) (tCons (tVar 3) tNil))) tNil)) (gTup K 3 (gCons (gName 5) (gCons (gName 6) (gCons (gName 7) gNil)))))
        (tDrop (tBM K "list" rAppend (tVar 3) (tCons (tTup (tCons (tVar 5) (tCons (tMeth C "number" (spNum C) [] E0 (tVar 2) (tCons (tVar 6) tNil)) (tCons (tMeth C "number" (spNum C) [] E0 (tVar 2) (tCons (tVar 7) tNil)) tNil)))) tNil)))))
      (tRet (tTup (tCons (tVar 4) (tCons (tVar 3) tNil)))))
section
variable {P : Program} {w : World} {K : PySem.W.Frag} {mg : Str → Option Value} {base : Heap} {T : List NTab} {C raw dx kd ln : Addr}
theorem tr_views (c : Cls K C) (n : NoAttr K C "line") {starts U : List Key} {view : ViewF} {S : List PyData → B → Prop} {fp : List (Addr × HO)} {F1 : Hp} (hS : ∀ k ∈ U, S [kD k] (.dat (encVK (view k)))) (hs : ∀ k ∈ starts, k ∈ U) (hU : ∀ k ∈ U, (view k).2.1 ∈ U ∧ (view k).2.2 ∈ U) (hz : U.length ≤ 1000) (hz2 : starts.length ≤ 1000) :
    Tr ⟨K, T, rawW C raw dx kd ln⟩ (viewsTs P w K mg base T C) [.dat (.list (starts.map kD)), .fn fp F1 (CalF P w K mg base T 3 S fp F1), .val (.ref raw), .own [], .un, .un, .un, .un, .un] []
      (.rt (.dat (.tuple [.list (firstK starts (rawL view starts U)), .list ((rawL view starts U).map (rowK view (rawL view starts U)))])) (rawL view starts U)) := by
  unfold viewsTs
  obtain ⟨n1, k1, k2, k3, k4⟩ := rawSt_end hs hU
  have eL : rawL view starts U = rawSt view starts n1 := rawL_eq k1 k4
  obtain ⟨L, hL⟩ : ∃ L, L = rawL view starts U := ⟨_, rfl⟩
  rw [← hL] at eL ⊢
  have lenL : L.length = n1 := by rw [eL]; exact k3
  have pre : ∀ i, i ≤ n1 → ∃ r, L = rawSt view starts i ++ r := fun i hi => by
    obtain ⟨r, er⟩ := rawSt_pre (view := view) (starts := starts) i (n1 - i)
    rw [show i + (n1 - i) = n1 by omega, ← eL] at er
    exact ⟨r, er⟩
  have lenU : ∀ i, (rawSt view starts i).length ≤ 1000 := fun i => Nat.le_trans (rawSt_len hs hU i) hz
  refine tr_seq (tr_asgD (dv_lcG (C := ⟨K, T, rawW C raw dx kd ln⟩) (vs := [8]) (fun i => (starts.take i).map fun k => PyData.int (ixK L k : Int)) (fun i => ((starts.take i).foldl numS [] : List Key)) (di_list (dv_var rfl) rfl) rfl (by rw [List.length_map]; omega)
    (fun i => by rw [List.length_map, List.length_take]; omega) fun i d hd => ?_) rfl) ?_
  · rw [List.getElem?_map] at hd
    cases hk : starts[i]? with
    | none =>
      rw [hk] at hd
      cases hd
    | some k =>
      rw [hk] at hd
      cases hd
      have e1 : starts.take (i + 1) = starts.take i ++ [k] := by rw [List.take_add_one, hk]; rfl
      have e2 : (starts.take (i + 1)).foldl numS [] = numS ((starts.take i).foldl numS []) k := by rw [e1, List.foldl_append]; rfl
      have hl : ((starts.take i).foldl numS [] : List Key).length ≤ 1000 := Nat.le_trans (nodup_len (fold_nodup _ List.nodup_nil) (fold_in _ (fun _ h => by cases h) fun x hx => hs x (List.mem_of_mem_take hx))) hz
      refine ⟨_, [8], dg_name, fun j hj => hj, true, _, dt_yes rfl, fun _ => ⟨.dat (.int (ixK (numS ((starts.take i).foldl numS []) k) k : Int)), .int (ixK (numS ((starts.take i).foldl numS []) k) k : Int), ?_, rfl, ?_⟩, fun z => by cases z⟩
      · show Dv ⟨K, T, rawW C raw dx kd ln⟩ _ _ _ _ ((starts.take (i + 1)).foldl numS [] : List Key)
        rw [e2]
        exact dv_rawnum (i := 2) rfl (dv_var rfl) (by omega)
      · show (starts.take (i + 1)).map _ = (starts.take i).map _ ++ _
        rw [e1, List.map_append]
        congr 1
        show [PyData.int (ixK L k : Int)] = _
        have mem : k ∈ numS ((starts.take i).foldl numS []) k := numS_mem _ _
        obtain ⟨r0, h0⟩ := pre 0 (Nat.zero_le _)
        have h0 : L = starts.foldl numS [] ++ r0 := h0
        have e3 : starts.foldl numS [] = (starts.drop (i + 1)).foldl numS ((starts.take (i + 1)).foldl numS []) := by rw [← List.foldl_append, List.take_append_drop]
        obtain ⟨r1, h1⟩ := fold_pre (starts.drop (i + 1)) ((starts.take (i + 1)).foldl numS [])
        rw [ixK_pre (st := numS ((starts.take i).foldl numS []) k) (r := r1 ++ r0) (by rw [h0, e3, h1, e2, List.append_assoc]) mem]
  have e0 : (starts.take (starts.map kD).length).map (fun k => PyData.int (ixK L k : Int)) = firstK starts L := by rw [List.length_map, List.take_length]; rfl
  have e00 : ((starts.take (starts.map kD).length).foldl numS [] : List Key) = rawSt view starts 0 := by rw [List.length_map, List.take_length]; rfl
  rw [e0, e00]
  refine tr_seq (tr_whileG (C := ⟨K, T, rawW C raw dx kd ln⟩) n1 (fun i => [.dat (.list (starts.map kD)), .fn fp F1 (CalF P w K mg base T 3 S fp F1), .val (.ref raw), .own ((L.take i).map (rowK view L)), .dat (.list (firstK starts L)), .un, .un, .un, .un]) (fun i => rawSt view starts i)
    (Wks.refl _) rfl (fun i hi => ?_) (.inl ⟨rawSt view starts n1, ?_, rfl⟩)) ?_
  · have hlt := k2 i hi
    obtain ⟨r, er⟩ := pre i (Nat.le_of_lt hi)
    obtain ⟨k, hk⟩ : ∃ k, (rawSt view starts i)[i]? = some k := ⟨_, List.getElem?_eq_getElem hlt⟩
    have hkL : L[i]? = some k := by rw [er, List.getElem?_append_left hlt]; exact hk
    have hkU : k ∈ U := rawSt_in hs hU i k (List.mem_of_getElem? hk)
    have len1 : ((L.take i).map (rowK view L)).length = i := by rw [List.length_map, List.length_take]; omega
    have es : rawSt view starts (i + 1) = numS (numS (rawSt view starts i) (view k).2.1) (view k).2.2 := by
      show rawStep view (rawSt view starts i) i = _
      unfold rawStep
      rw [hk]
    have dl : Dv ⟨K, T, rawW C raw dx kd ln⟩ (tCB (rLenS K) (tCons (tVar 3) tNil)) [.dat (.list (starts.map kD)), .fn fp F1 (CalF P w K mg base T 3 S fp F1), .val (.ref raw), .own ((L.take i).map (rowK view L)), .dat (.list (firstK starts L)), .un, .un, .un, .un] (rawSt view starts i) (.dat (.int (i : Int))) (rawSt view starts i) :=
      dv_is (dv_cb (C := ⟨K, T, rawW C raw dx kd ln⟩) (da_cons (dv_bor rfl) da_nil) (rcb_len (C := ⟨K, T, rawW C raw dx kd ln⟩) rfl)) (by rw [len1])
    refine ⟨_, dt_test (dv_is (dv_op dl (dv_rawlen rfl c n) rop_IB) (by rw [decide_eq_true (by omega)])), ?_⟩
    have l1 : (rawSt view starts i).length ≤ 1000 := lenU i
    have l2 : (numS (rawSt view starts i) (view k).2.1).length ≤ 1000 := Nat.le_trans (nodup_len (numS_nodup _ (rawSt_nodup i)) (numS_in (rawSt_in hs hU i) (hU k hkU).1)) hz
    refine goes_nxW (tr_seq (tr_asgT (dv_callV (C := ⟨K, T, rawW C raw dx kd ln⟩) (i := 1) rfl (da_cons (dv_rawat rfl c n dl hk) da_nil) (.cons rfl .nil) (hS k hkU) rfl) rfl (dg_tup (dgs_cons dg_name (dgs_cons dg_name (dgs_cons dg_name dgs_nil))) rfl))
      (tr_nxE (tr_app (C := ⟨K, T, rawW C raw dx kd ln⟩) (i := 3) rfl (dv_tup (da_cons (dv_var rfl) (da_cons (dv_rawnum rfl (dv_var rfl) (by omega)) (da_cons (dv_rawnum rfl (dv_var rfl) (by omega)) da_nil))) (.cons rfl (.cons rfl (.cons rfl .nil))) (Nat.le_of_ble_eq_true rfl)) rfl (by omega)) rfl es.symm)) ?_
    refine .eq (.eq (.eq (.eqv ?_ (.eq (.un (.un (.un (.eq .nil))))))))
    have e4 : L.take (i + 1) = L.take i ++ [k] := by rw [List.take_add_one, hkL]; rfl
    rw [e4, List.map_append]
    obtain ⟨r2, er2⟩ := pre (i + 1) hi
    rw [es] at er2
    have m1 := numS_mem (rawSt view starts i) (view k).2.1
    have m2 := numS_mem (numS (rawSt view starts i) (view k).2.1) (view k).2.2
    obtain ⟨r3, er3⟩ := numS_pre (numS (rawSt view starts i) (view k).2.1) (view k).2.2
    congr 1
    congr 1
    show _ = [rowK view L k]
    unfold rowK
    have q1 : L = numS (rawSt view starts i) (view k).2.1 ++ (r3 ++ r2) := by rw [er2, er3, List.append_assoc]
    have q2 := ixK_pre q1 m1
    have q3 := ixK_pre er2 m2
    rw [q2, q3]
  · have len1 : ((L.take n1).map (rowK view L)).length = n1 := by rw [List.length_map, List.length_take]; omega
    exact dt_test (dv_is (dv_op (dv_cb (C := ⟨K, T, rawW C raw dx kd ln⟩) (da_cons (dv_bor rfl) da_nil) (rcb_len (C := ⟨K, T, rawW C raw dx kd ln⟩) rfl)) (dv_rawlen rfl c n) rop_IB) (by rw [decide_eq_false (by omega)]))
  · have e5 : (L.take n1).map (rowK view L) = L.map (rowK view L) := by rw [List.take_of_length_le (by omega)]
    show Tr ⟨K, T, rawW C raw dx kd ln⟩ _ [_, _, _, .own ((L.take n1).map (rowK view L)), _, _, _, _, _] (rawSt view starts n1) _
    rw [e5, ← eL]
    exact tr_freeze (i := 3) rfl (tr_ret (dv_tup (da_cons (dv_var rfl) (da_cons (dv_var rfl) da_nil)) (.cons rfl (.cons rfl .nil)) (Nat.le_of_ble_eq_true rfl)))
theorem ext_pure {F0 H0 F H : Hp} {M : Addr → Prop} (e : DV.Ext M T F0 H0 F H) (n : ∀ a o, H0 a = some o → ¬ M a) : DV.Ext (fun _ => False) T F0 H0 F H := ⟨fun a o h t _ => e.hx a o h t (n a o h), e.dom, e.fx, e.sub, e.fr, e.tab⟩
theorem raw_views_rd (c : Cls K C) (n : NoAttr K C "line") {N : List Str} (hN : N.length = 9) {vs : List V} {H : Hp} {Q : VK} {E : XK} (h : PmB K T (spViews P w K mg base T) vs H Q E) :
    tSeq (tAsg (tTup (tCons (tMake C (spRawI C) [] C8.E0 tNil) (tCons (tLst tNil) tNil))) (gTup K 2 (gCons (gName 2) (gCons (gName 3) gNil)))) (viewsTs P w K mg base T C) { nx := fun _ H' => Q .non H', rt := Q } (L2.start N vs) H := by
  obtain ⟨F, bs, r, _, _, sub, tab, _, _, hb, pl, ⟨starts, view, U, S, fp, F1, rfl, hS, hs, hU, hz, hz2, rfl⟩, k⟩ := h
  cases hb with
  | @cons _ v0 _ vs1 b0 hb1 _ =>
  cases hb1 with
  | @cons _ v1 _ vs2 b1 hb2 _ =>
  cases hb2
  intro x dx nx ndx nex
  refine ⟨x, dx, rfl, upd_same, fun kd ln p hkd hln hp nkl nkp nlp => ⟨rfl, ?_⟩⟩
  refine ⟨sz_of _ (Nat.le_of_ble_eq_true rfl), fun l hl => ?_⟩
  refine ⟨sz_of _ (Nat.le_of_ble_eq_true rfl), fun q hq => ?_⟩
  refine ⟨q, _, rfl, .of upd_same, rfl, ?_⟩
  refine ⟨_, _, rfl, _, _, rfl, rfl, ?_⟩
  -- the heaps, one by one
  have ss : L2.start N [v0, v1] = [some v0, some v1, none, none, none, none, none, none, none] := by
    unfold L2.start
    rw [hN]
    rfl
  have x0 : DV.Ext (fun _ => False) T F H F H := .refl sub tab
  obtain ⟨H1, e1⟩ : ∃ H1, H1 = upd (upd H dx (.own x)) x (.ins C dx []) := ⟨_, rfl⟩
  have x1 : DV.Ext (fun _ => False) T F H F H1 := by
    have y : DV.Ext (fun _ => False) T F H F (upd H dx (.own x)) := .fresh sub tab ndx
    rw [e1]
    exact y.trans (.fresh y.sub y.tab ((upd_ne nex.symm).trans nx))
  have h1x : H1 x = some (.ins C dx []) := by rw [e1]; exact upd_same
  have h1d : H1 dx = some (.own x) := by rw [e1]; exact (upd_ne nex).trans upd_same
  rw [← e1] at hkd hln hp hl hq ⊢
  clear e1
  obtain ⟨H2, e2⟩ : ∃ H2, H2 = upd (upd (upd H1 kd (.dK [])) ln (.lst [])) p (.tup [.ref kd, .ref ln]) := ⟨_, rfl⟩
  have x2 : DV.Ext (fun _ => False) T F H1 F H2 := by
    have y1 : DV.Ext (fun _ => False) T F H1 F (upd H1 kd (.dK [])) := .fresh x1.sub x1.tab hkd
    have y2 : DV.Ext (fun _ => False) T F (upd H1 kd (.dK [])) F (upd (upd H1 kd (.dK [])) ln (.lst [])) := .fresh y1.sub y1.tab ((upd_ne nkl.symm).trans hln)
    rw [e2]
    exact (y1.trans y2).trans (.fresh y2.sub y2.tab ((upd_ne nlp.symm).trans ((upd_ne nkp.symm).trans hp)))
  have h2k : H2 kd = some (.dK []) := by rw [e2]; exact (upd_ne nkp).trans ((upd_ne nkl).trans upd_same)
  have h2l : H2 ln = some (.lst []) := by rw [e2]; exact (upd_ne nlp).trans upd_same
  have h2x : H2 x = some (.ins C dx []) := x2.hx x _ h1x nt_ins id
  have h2d : H2 dx = some (.own x) := x2.hx dx _ h1d nt_own id
  have h2n : ∀ a, H2 a = none → H1 a = none := fun a e => by
    cases z : H1 a with
    | none => rfl
    | some o =>
      obtain ⟨o', z'⟩ := x2.dom a o z
      rw [z'] at e
      cases e
  have h1n : ∀ a, H1 a = none → H a = none := fun a e => by
    cases z : H a with
    | none => rfl
    | some o =>
      obtain ⟨o', z'⟩ := x1.dom a o z
      rw [z'] at e
      cases e
  rw [← e2] at hl hq ⊢
  clear e2
  have fn : ∀ a, H a = none → F a = none := fun a e => by
    cases z : F a with
    | none => rfl
    | some o =>
      rw [(sub a o z).1] at e
      cases e
  have xk : x ≠ kd := ne_of_none h1x hkd
  have xl : x ≠ ln := ne_of_none h1x hln
  have xd : x ≠ dx := nex.symm
  obtain ⟨H3, e3⟩ : ∃ H3, H3 = upd H2 x (.ins C dx (rawF kd ln)) := ⟨_, rfl⟩
  have x3 : DV.Ext (fun _ => False) T F H F H3 := by
    rw [e3]
    exact (x1.trans x2).write nx (fn x nx) h2x wr_ins
  have at3 : ∀ a, a ≠ x → H3 a = H2 a := fun a e => by rw [e3]; exact upd_ne e
  have h3x : H3 x = some (.ins C dx (rawF kd ln)) := by rw [e3]; exact upd_same
  have ra : RawAt C x dx kd ln [] H3 := ⟨h3x, (at3 dx nex).trans h2d, (at3 kd xk.symm).trans h2k, (at3 ln xl.symm).trans h2l⟩
  rw [← e3] at hl hq ⊢
  have h3n : ∀ a, H3 a = none → H a = none := fun a e => by
    cases z : H a with
    | none => rfl
    | some o =>
      obtain ⟨o', z'⟩ := x3.dom a o z
      rw [z'] at e
      cases e
  clear e3
  obtain ⟨H4, e4⟩ : ∃ H4, H4 = upd (upd H3 l (.lst [])) q (.tup [.ref x, .ref l]) := ⟨_, rfl⟩
  rw [← e4]
  have x4 : DV.Ext (fun _ => False) T F H3 F H4 := by
    have y1 : DV.Ext (fun _ => False) T F H3 F (upd H3 l (.lst [])) := .fresh x3.sub x3.tab hl
    rw [e4]
    exact y1.trans (.fresh y1.sub y1.tab hq)
  have lq : l ≠ q := fun z => by
    rw [← z, upd_same] at hq
    cases hq
  have h4l : H4 l = some (.lst []) := by rw [e4]; exact (upd_ne lq).trans upd_same
  have ra4 : RawAt C x dx kd ln [] H4 := (rawW C x dx kd ln).stab (s := ([] : List Key)) (fun a o _ z nt => x4.hx a o z nt id) ra
  have nM : ∀ a o, H a = some o → ¬ (rawW C x dx kd ln).M a := fun a o z m => by
    rcases m with m | m | m | m <;> rw [m] at z
    · rw [nx] at z
      cases z
    · rw [ndx] at z
      cases z
    · rw [h1n _ hkd] at z
      cases z
    · rw [h1n _ hln] at z
      cases z
  have nl : l ≠ x ∧ l ≠ dx ∧ l ≠ kd ∧ l ≠ ln := ⟨(ne_of_none ra.i hl).symm, (ne_of_none ra.o hl).symm, (ne_of_none ra.k hl).symm, (ne_of_none ra.l hl).symm⟩
  have nlM : ¬ (rawW C x dx kd ln).M l := fun m => m.elim nl.1 fun m => m.elim nl.2.1 fun m => m.elim nl.2.2.1 nl.2.2.2
  have x5 := x3.trans x4
  have b0' : Da K F v0 (.list (starts.map kD)) := b0
  have env : EnvOk ⟨K, T, rawW C x dx kd ln⟩ F H (((L2.start N [v0, v1]).set 2 (some (.ref x))).set 3 (some (.ref l))) F H4 [.dat (.list (starts.map kD)), .fn fp F1 (CalF P w K mg base T 3 S fp F1), .val (.ref x), .own [], .un, .un, .un, .un, .un] ([] : List Key) := by
    rw [ss]
    refine ⟨x5.mono fun _ z => z.elim, ra4, rfl, fun i b e => ?_, fun i j b c a e1 e2 o1 o2 _ _ => ?_, fun a m => ?_⟩
    · match i, e with
      | 0, e => cases e; exact ⟨_, rfl, .inr ⟨rfl, v0, rfl, b0'⟩⟩
      | 1, e => cases e; exact ⟨_, rfl, .inr ⟨rfl, v1, rfl, b1.1, b1.2.1, fun p hp => let ⟨z1, z2, z3, _⟩ := b1.2.2 p hp; ⟨x5.hx _ _ z1 z3 id, z2, z3, nM _ _ z1⟩⟩⟩
      | 2, e => cases e; exact ⟨_, rfl, .inr ⟨rfl, .ref x, rfl, rfl⟩⟩
      | 3, e => cases e; exact ⟨_, rfl, .inr ⟨rfl, .ref l, rfl, l, [], rfl, h3n l hl, nlM, fn l (h3n l hl), h4l, .nil⟩⟩
      | 4, e => cases e; exact ⟨_, rfl, .inl rfl⟩
      | 5, e => cases e; exact ⟨_, rfl, .inl rfl⟩
      | 6, e => cases e; exact ⟨_, rfl, .inl rfl⟩
      | 7, e => cases e; exact ⟨_, rfl, .inl rfl⟩
      | 8, e => cases e; exact ⟨_, rfl, .inl rfl⟩
      | n + 9, e => simp at e
    · have f : ∀ (i : Nat) (b : B), ([.dat (.list (starts.map kD)), .fn fp F1 (CalF P w K mg base T 3 S fp F1), .val (.ref x), .own [], .un, .un, .un, .un, .un] : Env)[i]? = some b → b.isOwn = true → i = 3 := fun i b e o => by
        match i, e with
        | 0, e => cases e; cases o
        | 1, e => cases e; cases o
        | 2, e => cases e; cases o
        | 3, e => rfl
        | 4, e => cases e; cases o
        | 5, e => cases e; cases o
        | 6, e => cases e; cases o
        | 7, e => cases e; cases o
        | 8, e => cases e; cases o
        | n + 9, e => simp at e
      rw [f i b e1 o1, f j c e2 o2]
    · refine fn a ?_
      cases z : H a with
      | none => rfl
      | some o => exact absurd m (nM a o z)
  refine tr_views c n hS hs hU hz hz2 F H _ F H4 env _ fun v F' H' e6 _ b6 => ?_
  exact k v F' H' (ext_pure e6 nM) trivial b6
end
end DV
set_option maxHeartbeats 1000000
namespace DV
open PySem PySem.Spec PyProof.Rows L2 LamX NdefX
/-! ### classes of views: plain -/
theorem nodup_of {κ : Type} [DecidableEq κ] : ∀ {X R : List κ}, R.Nodup → (∀ x ∈ R, x ∈ X) → X.length ≤ R.length → X.Nodup
  | [], _, _, _, _ => List.nodup_nil
  | x :: X, R, n, h, l => by
    have hx : x ∉ X := fun hx => by
      have h2 : ∀ y ∈ R, y ∈ X := fun y hy => (List.mem_cons.mp (h y hy)).elim (fun e => e ▸ hx) id
      have := nodup_len n h2
      simp at l
      omega
    refine List.nodup_cons.mpr ⟨hx, ?_⟩
    have nf : (R.filter fun y => decide (y ≠ x)).Nodup := n.filter _
    refine nodup_of nf (fun y hy => ?_) ?_
    · obtain ⟨h1, h2⟩ := List.mem_filter.mp hy
      exact (List.mem_cons.mp (h y h1)).resolve_left (of_decide_eq_true h2)
    · have h3 : R.Nodup → R.length ≤ (R.filter fun y => decide (y ≠ x)).length + 1 := fun n => by
        have h4 := nodup_len (l := R) (U := x :: R.filter fun y => decide (y ≠ x)) n fun y hy => by
          by_cases e : y = x
          · rw [e]
            exact List.mem_cons_self
          · exact List.mem_cons_of_mem _ (List.mem_filter.mpr ⟨hy, decide_eq_true e⟩)
        simpa using h4
      have := h3 n
      simp at l
      omega
section
variable {κ : Type} [DecidableEq κ]
/-- the different ones, as they come -/
def lineOf (ks : List κ) : List κ := ks.foldl numS []
def numbered (ks : List κ) : List Nat := ks.map (ixK (lineOf ks))
theorem lineOf_nodup (ks : List κ) : (lineOf ks).Nodup := fold_nodup ks List.nodup_nil
theorem lineOf_mem {ks : List κ} {k : κ} (h : k ∈ ks) : k ∈ lineOf ks := fold_mem ks [] k h
theorem lineOf_in {ks : List κ} : ∀ k ∈ lineOf ks, k ∈ ks := fold_in ks (fun _ h => by cases h) fun _ h => h
theorem lineOf_len (ks : List κ) : (lineOf ks).length ≤ ks.length := nodup_len (lineOf_nodup ks) lineOf_in
theorem lineOf_take (ks : List κ) (i : Nat) : ∃ r, lineOf ks = lineOf (ks.take i) ++ r := by
  obtain ⟨r, e⟩ := fold_pre (ks.drop i) (lineOf (ks.take i))
  refine ⟨r, ?_⟩
  rw [← e]
  unfold lineOf
  rw [← List.foldl_append, List.take_append_drop]
theorem lineOf_succ {ks : List κ} {i : Nat} {k : κ} (h : ks[i]? = some k) : lineOf (ks.take (i + 1)) = numS (lineOf (ks.take i)) k := by
  unfold lineOf
  rw [List.take_add_one, h, List.foldl_append]
  rfl
theorem ixK_inj {st : List κ} {j k : κ} (hj : j ∈ st) (hk : k ∈ st) (e : ixK st j = ixK st k) : j = k := by
  have h1 := ixK_get hj
  have h2 := ixK_get hk
  rw [e, h2] at h1
  exact (Option.some.inj h1).symm
theorem numbered_len (ks : List κ) : (numbered ks).length = ks.length := by simp [numbered]
theorem numbered_get {ks : List κ} {i : Nat} {k : κ} (h : ks[i]? = some k) : (numbered ks)[i]? = some (ixK (lineOf ks) k) := by
  unfold numbered
  rw [List.getElem?_map, h]
  rfl
theorem numbered_lt {ks : List κ} : ∀ n ∈ numbered ks, n < (lineOf ks).length := fun n h => by
  obtain ⟨k, hk, e⟩ := List.mem_map.mp h
  rw [← e]
  exact ixK_lt (lineOf_mem hk)
theorem nodup_ix {st : List κ} (n : st.Nodup) {i : Nat} {k : κ} (h : st[i]? = some k) : ixK st k = i := by
  have hk : k ∈ st := List.mem_of_getElem? h
  have h1 := ixK_get hk
  have l1 := ixK_lt hk
  have l2 := (List.getElem?_eq_some_iff.mp h).1
  rw [List.getElem?_eq_getElem l1] at h1
  rw [List.getElem?_eq_getElem l2] at h
  exact (List.getElem_inj n).mp ((Option.some.inj h1).trans (Option.some.inj h).symm)
theorem numbered_onto {ks : List κ} {n : Nat} (h : n < (lineOf ks).length) : n ∈ numbered ks := by
  have e : (lineOf ks)[n]? = some (lineOf ks)[n] := List.getElem?_eq_getElem h
  exact List.mem_map.mpr ⟨_, lineOf_in _ (List.mem_of_getElem? e), nodup_ix (lineOf_nodup ks) e⟩
end
abbrev Vw := Bool × Nat × Nat
def encV (v : Vw) : PyData := .tuple [.bool v.1, .int (v.2.1 : Int), .int (v.2.2 : Int)]
def closedV (vs : List Vw) : Prop := ∀ v ∈ vs, v.2.1 < vs.length ∧ v.2.2 < vs.length
/-- what a view is, by the classes f -/
def kindOf (f : List Nat) (i : Nat) (v : Vw) : Nat × Nat × Nat := (f.getD i 0, f.getD v.2.1 0, f.getD v.2.2 0)
def kinds (vs : List Vw) (f : List Nat) : List (Nat × Nat × Nat) := vs.mapIdx (kindOf f)
theorem kinds_len (vs : List Vw) (f : List Nat) : (kinds vs f).length = vs.length := by simp [kinds]
theorem kinds_get {vs : List Vw} {f : List Nat} {i : Nat} {v : Vw} (h : vs[i]? = some v) : (kinds vs f)[i]? = some (kindOf f i v) := by
  unfold kinds
  rw [List.getElem?_mapIdx, h]
  rfl
/-- the classes behind so many laps -/
def clsAt (vs : List Vw) : Nat → List Nat
  | 0 => vs.map fun v => if v.1 then 1 else 0
  | t + 1 => numbered (kinds vs (clsAt vs t))
def manyAt (vs : List Vw) : Nat → Nat
  | 0 => 0
  | t + 1 => (lineOf (kinds vs (clsAt vs t))).length
section
variable {vs : List Vw}
theorem clsAt_len : ∀ t, (clsAt vs t).length = vs.length
  | 0 => by simp [clsAt]
  | t + 1 => by
    show (numbered (kinds vs (clsAt vs t))).length = _
    rw [numbered_len, kinds_len]
theorem manyAt_le : ∀ t, manyAt vs t ≤ vs.length
  | 0 => Nat.zero_le _
  | t + 1 => Nat.le_trans (lineOf_len _) (by rw [kinds_len]; exact Nat.le_refl _)
theorem manyAt_pos (h : 0 < vs.length) (t : Nat) : 0 < manyAt vs (t + 1) := by
  obtain ⟨v, hv⟩ : ∃ v, vs[0]? = some v := ⟨_, List.getElem?_eq_getElem h⟩
  have m := lineOf_mem (List.mem_of_getElem? (kinds_get (f := clsAt vs t) hv))
  exact List.length_pos_of_mem m
/-- the first parts of the kinds: all classes -/
theorem firsts_onto (t : Nat) {n : Nat} (h : n < manyAt vs (t + 1)) : n ∈ (lineOf (kinds vs (clsAt vs (t + 1)))).map (·.1) := by
  have h1 : n ∈ clsAt vs (t + 1) := numbered_onto h
  obtain ⟨i, hi⟩ := List.mem_iff_getElem?.mp h1
  have li : i < vs.length := by rw [← clsAt_len (t + 1)]; exact (List.getElem?_eq_some_iff.mp hi).1
  have hv : vs[i]? = some vs[i] := List.getElem?_eq_getElem li
  refine List.mem_map.mpr ⟨_, lineOf_mem (List.mem_of_getElem? (kinds_get (f := clsAt vs (t + 1)) hv)), ?_⟩
  show (clsAt vs (t + 1)).getD i 0 = n
  rw [List.getD_eq_getElem?_getD, hi]
  rfl
theorem manyAt_mono (t : Nat) : manyAt vs (t + 1) ≤ manyAt vs (t + 2) := by
  have h := nodup_len (l := List.range (manyAt vs (t + 1))) (U := (lineOf (kinds vs (clsAt vs (t + 1)))).map (·.1)) List.nodup_range fun n hn => firsts_onto t (List.mem_range.mp hn)
  rw [List.length_range, List.length_map] at h
  exact h
/-- a lap that finds no more: within as many laps as there are views -/
theorem lap_end (h : 0 < vs.length) : ∃ t, t ≤ vs.length ∧ 1 ≤ t ∧ manyAt vs (t + 1) = manyAt vs t ∧ ∀ i, i < t → manyAt vs (i + 1) ≠ manyAt vs i := by
  obtain ⟨k, h1, h2, h3⟩ := first_turn (fun i => if manyAt vs (i + 1) = manyAt vs i then 0 else i + 1) (vs.length + 1)
  have up : ∀ i, i ≤ k → i ≤ manyAt vs i := by
    intro i
    induction i with
    | zero => intro _; exact Nat.zero_le _
    | succ i ih =>
      intro hi
      have h4 := h2 i (by omega)
      have h5 := ih (by omega)
      by_cases e : manyAt vs (i + 1) = manyAt vs i
      · rw [if_pos e] at h4
        exact absurd h4 (Nat.not_lt_zero i)
      · cases i with
        | zero =>
          have := manyAt_pos h 0
          omega
        | succ i =>
          have h6 := manyAt_mono (vs := vs) i
          have e' : manyAt vs (i + 2) ≠ manyAt vs (i + 1) := e
          show i + 2 ≤ manyAt vs (i + 2)
          omega
  have hk : k ≤ vs.length := Nat.le_trans (up k (Nat.le_refl _)) (manyAt_le k)
  have e : manyAt vs (k + 1) = manyAt vs k := by
    rcases h3 with z | z
    · omega
    · by_cases e : manyAt vs (k + 1) = manyAt vs k
      · exact e
      · rw [if_neg e] at z
        omega
  refine ⟨k, hk, ?_, e, fun i hi z => ?_⟩
  · cases k with
    | zero =>
      have := manyAt_pos h 0
      rw [e] at this
      exact absurd this (Nat.lt_irrefl _)
    | succ k => omega
  · have := h2 i hi
    rw [if_pos z] at this
    exact absurd this (Nat.not_lt_zero i)
/-- what the end classes are: alike ones are alike to both sides -/
theorem cls_kind {t : Nat} (e : manyAt vs (t + 2) = manyAt vs (t + 1)) {i j : Nat} {v w : Vw} (hi : vs[i]? = some v) (hj : vs[j]? = some w) (h : (clsAt vs (t + 1)).getD i 0 = (clsAt vs (t + 1)).getD j 0) : kindOf (clsAt vs (t + 1)) i v = kindOf (clsAt vs (t + 1)) j w := by
  have nd : ((lineOf (kinds vs (clsAt vs (t + 1)))).map (·.1)).Nodup := nodup_of (R := List.range (manyAt vs (t + 1))) List.nodup_range (fun n hn => firsts_onto t (List.mem_range.mp hn)) (by rw [List.length_map, List.length_range]; exact Nat.le_of_eq e)
  have m1 := lineOf_mem (List.mem_of_getElem? (kinds_get (f := clsAt vs (t + 1)) hi))
  have m2 := lineOf_mem (List.mem_of_getElem? (kinds_get (f := clsAt vs (t + 1)) hj))
  obtain ⟨a, ha⟩ := List.mem_iff_getElem?.mp m1
  obtain ⟨b, hb⟩ := List.mem_iff_getElem?.mp m2
  have la := (List.getElem?_eq_some_iff.mp ha).1
  have lb := (List.getElem?_eq_some_iff.mp hb).1
  have q : ((lineOf (kinds vs (clsAt vs (t + 1)))).map (·.1))[a]'(by rw [List.length_map]; exact la) = ((lineOf (kinds vs (clsAt vs (t + 1)))).map (·.1))[b]'(by rw [List.length_map]; exact lb) := by
    rw [List.getElem_map, List.getElem_map]
    rw [List.getElem?_eq_getElem la] at ha
    rw [List.getElem?_eq_getElem lb] at hb
    rw [Option.some.inj ha, Option.some.inj hb]
    exact h
  have ab := (List.getElem_inj nd).mp q
  subst ab
  rw [ha] at hb
  exact Option.some.inj hb
theorem clsAt_succ {t i : Nat} {v : Vw} (hi : vs[i]? = some v) : (clsAt vs (t + 1)).getD i 0 = ixK (lineOf (kinds vs (clsAt vs t))) (kindOf (clsAt vs t) i v) := by
  rw [List.getD_eq_getElem?_getD, show (clsAt vs (t + 1))[i]? = _ from numbered_get (kinds_get hi)]
  rfl
/-- .. and tell the same -/
theorem cls_yes : ∀ (t : Nat) {i j : Nat} {v w : Vw}, vs[i]? = some v → vs[j]? = some w → (clsAt vs t).getD i 0 = (clsAt vs t).getD j 0 → v.1 = w.1
  | 0, i, j, v, w, hi, hj, h => by
    have e : ∀ {i : Nat} {v : Vw}, vs[i]? = some v → (clsAt vs 0).getD i 0 = if v.1 then 1 else 0 := fun {i v} hi => by
      rw [List.getD_eq_getElem?_getD]
      show ((vs.map fun v => if v.1 then 1 else 0)[i]?).getD 0 = _
      rw [List.getElem?_map, hi]
      rfl
    rw [e hi, e hj] at h
    cases hv : v.1 <;> cases hw : w.1 <;> rw [hv, hw] at h <;> simp at h ⊢
  | t + 1, i, j, v, w, hi, hj, h => by
    rw [clsAt_succ hi, clsAt_succ hj] at h
    have q := ixK_inj (lineOf_mem (List.mem_of_getElem? (kinds_get hi))) (lineOf_mem (List.mem_of_getElem? (kinds_get hj))) h
    exact cls_yes t hi hj (congrArg (·.1) q)
end
/-- the classes that are found -/
structure ClsOk (vs : List Vw) (f : List Nat) : Prop where
  len : f.length = vs.length
  lt : ∀ n ∈ f, n < vs.length
  yes : ∀ {i j : Nat} {v w : Vw}, vs[i]? = some v → vs[j]? = some w → f.getD i 0 = f.getD j 0 → v.1 = w.1
  both : ∀ {i j : Nat} {v w : Vw}, vs[i]? = some v → vs[j]? = some w → f.getD i 0 = f.getD j 0 → f.getD v.2.1 0 = f.getD w.2.1 0 ∧ f.getD v.2.2 0 = f.getD w.2.2 0
theorem clsOk_of {vs : List Vw} {t : Nat} (h1 : 1 ≤ t) (e : manyAt vs (t + 1) = manyAt vs t) : ClsOk vs (clsAt vs t) := by
  cases t with
  | zero => omega
  | succ t =>
    refine ⟨clsAt_len _, fun n hn => Nat.lt_of_lt_of_le (numbered_lt n hn) (manyAt_le (t + 1)), fun hi hj h => cls_yes _ hi hj h, fun hi hj h => ?_⟩
    have q := cls_kind e hi hj h
    exact ⟨congrArg (·.2.1) q, congrArg (·.2.2) q⟩
end DV
set_option maxHeartbeats 1000000
namespace DV
open PySem PySem.Spec PyProof.Rows L2 LamX NdefX
/-! ### the reading of classes_of -/
def natsD (f : List Nat) : List PyData := f.map fun (n : Nat) => .int (n : Int)
theorem natsD_len (f : List Nat) : (natsD f).length = f.length := by simp [natsD]
theorem atI_nats {f : List Nat} {i : Nat} (h : i < f.length) : atI (natsD f) (i : Int) = some (.int (f.getD i 0 : Int)) := by
  unfold atI ixN
  rw [if_pos (Int.natCast_nonneg i), if_pos (by rw [natsD_len]; omega)]
  show (natsD f)[(i : Int).toNat]? = _
  rw [Int.toNat_natCast]
  unfold natsD
  rw [List.getElem?_map, List.getD_eq_getElem?_getD, List.getElem?_eq_getElem h]
  rfl
def key3 (k : Nat × Nat × Nat) : List Key := [.inl (k.1 : Int), .inl (k.2.1 : Int), .inl (k.2.2 : Int)]
theorem key3_inj {j k : Nat × Nat × Nat} (h : key3 j = key3 k) : j = k := by
  obtain ⟨a, b, c⟩ := j
  obtain ⟨d, e, f⟩ := k
  unfold key3 at h
  simp only [List.cons.injEq, Sum.inl.injEq, Int.ofNat_inj, and_true] at h
  obtain ⟨h1, h2, h3⟩ := h
  rw [h1, h2, h3]
def idxG {κ μ : Type} (g : κ → μ) : Nat → List κ → List (μ × PyData)
  | _, [] => []
  | n, k :: r => (g k, .int (n : Int)) :: idxG g (n + 1) r
theorem valD_cons {κ : Type} [DecidableEq κ] (p : κ × PyData) (r : List (κ × PyData)) (k : κ) : valD (p :: r) k = if p.1 = k then some p.2 else valD r k := by
  unfold valD
  rw [List.find?_cons]
  by_cases h : p.1 = k
  · rw [if_pos h, decide_eq_true h]
    rfl
  · rw [if_neg h, decide_eq_false h]
theorem valD_any {κ : Type} [DecidableEq κ] (k : κ) : ∀ q : List (κ × PyData), (q.any fun kv => decide (kv.1 = k)) = (valD q k).isSome
  | [] => rfl
  | p :: r => by
    rw [List.any_cons, valD_cons]
    by_cases h : p.1 = k
    · rw [if_pos h, decide_eq_true h]
      rfl
    · rw [if_neg h, decide_eq_false h, Bool.false_or]
      exact valD_any k r
theorem putD_new {κ : Type} [DecidableEq κ] {q : List (κ × PyData)} {k : κ} (d : PyData) (h : valD q k = none) : putD q k d = q ++ [(k, d)] := by
  unfold putD
  rw [valD_any, h]
  exact if_neg (by decide)
section
variable {κ μ : Type} [DecidableEq κ] [DecidableEq μ] {g : κ → μ} (inj : ∀ {j k : κ}, g j = g k → j = k)
theorem idxG_len : ∀ (st : List κ) (n : Nat), (idxG g n st).length = st.length
  | [], _ => rfl
  | k :: r, n => by simp [idxG, idxG_len r (n + 1)]
theorem idxG_snoc (k : κ) : ∀ (st : List κ) (n : Nat), idxG g n (st ++ [k]) = idxG g n st ++ [(g k, .int ((n + st.length : Nat) : Int))]
  | [], n => rfl
  | j :: r, n => by
    show (g j, PyData.int (n : Int)) :: idxG g (n + 1) (r ++ [k]) = (g j, PyData.int (n : Int)) :: (idxG g (n + 1) r ++ _)
    rw [idxG_snoc k r (n + 1)]
    have e : n + 1 + r.length = n + (j :: r).length := by simp; omega
    rw [e]
include inj
theorem idxG_no {k : κ} : ∀ {st : List κ} {n : Nat}, k ∉ st → valD (idxG g n st) (g k) = none
  | [], _, _ => rfl
  | j :: r, n, h => by
    show valD ((g j, PyData.int (n : Int)) :: idxG g (n + 1) r) (g k) = none
    rw [valD_cons, if_neg fun z => h (by rw [inj z]; exact List.mem_cons_self)]
    exact idxG_no fun z => h (List.mem_cons_of_mem _ z)
theorem idxG_yes {k : κ} : ∀ {st : List κ} {n : Nat}, k ∈ st → valD (idxG g n st) (g k) = some (.int ((n + ixK st k : Nat) : Int))
  | [], _, h => by cases h
  | j :: r, n, h => by
    show valD ((g j, PyData.int (n : Int)) :: idxG g (n + 1) r) (g k) = _
    rw [valD_cons]
    unfold ixK
    by_cases e : j = k
    · rw [if_pos (by rw [e]), if_pos e]
      rfl
    · rw [if_neg fun z => e (inj z), if_neg e, idxG_yes ((List.mem_cons.mp h).resolve_left fun z => e z.symm)]
      have e3 : n + 1 + ixK r k = n + (ixK r k + 1) := by omega
      rw [e3]
end
abbrev rInt1 : List V → Hp → VK → Prop := fun xs H Q => (∃ i, xs = [V.int i] ∧ Q (V.int i) H) ∨ ∃ k, xs = [V.bl k] ∧ Q (V.int (if k = true then 1 else 0)) H
def lapTs (K : PySem.W.Frag) : TS := tSeq (tAsg (tTup (tCons (tOp (rIxL K) (tVar 4) (tVar 9)) (tCons (tOp (rIxL K) (tVar 4) (tVar 2)) (tCons (tOp (rIxL K) (tVar 4) (tVar 3)) tNil)))) (gName 10)) (tSeq (tIfS (tB (tDNotIn (tVar 10) (tVar 7))) (sDPut (tVar 7) (tVar 10) (tCB rLenT (tCons (tVar 7) tNil))) tNext) (tDrop (tBM K "list" rAppend (tVar 8) (tCons (tDGet (tVar 7) (tVar 10)) tNil))))
def classesTs (K : PySem.W.Frag) : TS := tSeq (tPar 4 5 (tCons (tLc (iList K (tVar 0)) (gTup K 3 (gCons (gName 1) (gCons (gName 2) (gCons (gName 3) gNil)))) tYes (tCB rInt1 (tCons (tVar 1) tNil)) [1, 2, 3]) (tCons (tC (V.int 0)) tNil))) (tSeq (tFor (iRng1 (tCons (tOp (rI0 fun i j => V.int (i + j)) (tCB (rLenS K) (tCons (tVar 0) tNil)) (tC (V.int 1))) tNil)) (gName 6) (tSeq (tPar 7 8 (tCons tDNewT (tCons (tLst tNil) tNil))) (tSeq (tFor (iEnum K (tCons (tVar 0) tNil)) (gTup K 2 (gCons (gName 9) (gCons (gTup K 3 (gCons (gName 1) (gCons (gName 2) (gCons (gName 3) gNil)))) gNil))) (lapTs K)) (tSeq (tIfS (tTest (tOp (rI0 fun i j => V.bl (decide (j < i))) (tCB rLenT (tCons (tVar 7) tNil)) (tC (V.int 60)))) tNever tNext) (tSeq (tIfS (tTest (tOp (rEqD K) (tCB rLenT (tCons (tVar 7) tNil)) (tVar 5))) (tRet (tVar 4)) tNext) (tPar 4 5 (tCons (tVar 8) (tCons (tCB rLenT (tCons (tVar 7) tNil)) tNil)))))))) (tRet (tVar 4)))
section
variable {C : Cf} {s : C.w.S} {env : Env}
theorem rcb_lenDT {x : B} {q : List (List Key × PyData)} (hx : x.dt = some q) : Rcb C rLenT [x] (.dat (.int (q.length : Int))) := fun H1 F H vs s t m h Q k => by
  obtain ⟨v, rfl, b⟩ := ball1 h
  obtain ⟨a, r, rfl, h1, h2⟩ := b.dt hx
  refine ⟨a, r, rfl, h1, ?_⟩
  rw [kall_len h2]
  exact k _ F H (.refl s t) (.int _)
def lapE (vs : List Vw) (f : List Nat) (many : Nat) (lap : B) (st : List (Nat × Nat × Nat)) (late : List Nat) : Env :=
  [.dat (.list (vs.map encV)), .un, .un, .un, .dat (.list (natsD f)), .dat (.int (many : Int)), lap, .odt (idxG key3 0 st), .own (natsD late), .un, .un]
/-- one lap over the views -/
theorem tr_lap {vs : List Vw} {f : List Nat} {many : Nat} {lap : B} (hc : closedV vs) (hf : f.length = vs.length) (hz : vs.length ≤ 60) :
    Tr C (tFor (iEnum C.K (tCons (tVar 0) tNil)) (gTup C.K 2 (gCons (gName 9) (gCons (gTup C.K 3 (gCons (gName 1) (gCons (gName 2) (gCons (gName 3) gNil)))) gNil))) (lapTs C.K)) (lapE vs f many lap [] []) s (.nx (lapE vs f many lap (lineOf (kinds vs f)) (numbered (kinds vs f))) s) := by
  have h := tr_for0 (C := C) (s1 := s) (p := lapTs C.K) (g := gTup C.K 2 (gCons (gName 9) (gCons (gTup C.K 3 (gCons (gName 1) (gCons (gName 2) (gCons (gName 3) gNil)))) gNil))) (ds := enumD (vs.map encV))
    (fun i => lapE vs f many lap (lineOf ((kinds vs f).take i)) (((kinds vs f).take i).map (ixK (lineOf (kinds vs f))))) (di_enum (da_cons (dv_var (i := 0) rfl) da_nil) rfl) (Wks.refl _) fun i d hd => ?_
  · rw [enumD_len, List.length_map] at h
    have e : (kinds vs f).take vs.length = kinds vs f := List.take_of_length_le (by rw [kinds_len]; exact Nat.le_refl _)
    rw [e] at h
    exact h
  · obtain ⟨x, hx, rfl⟩ := enumD_get hd
    rw [List.getElem?_map] at hx
    cases hv : vs[i]? with
    | none =>
      rw [hv] at hx
      cases hx
    | some v =>
      rw [hv] at hx
      cases hx
      have cv := hc v (List.mem_of_getElem? hv)
      have li : i < vs.length := (List.getElem?_eq_some_iff.mp hv).1
      have hk := kinds_get (f := f) hv
      obtain ⟨r, er⟩ := lineOf_take (kinds vs f) (i + 1)
      have es := lineOf_succ hk
      have mk : kindOf f i v ∈ lineOf ((kinds vs f).take (i + 1)) := by rw [es]; exact numS_mem _ _
      have lz : (lineOf ((kinds vs f).take i)).length ≤ 60 := Nat.le_trans (lineOf_len _) (Nat.le_trans (by rw [List.length_take, kinds_len]; omega) hz)
      have e4 : (kinds vs f).take (i + 1) = (kinds vs f).take i ++ [kindOf f i v] := by rw [List.take_add_one, hk]; rfl
      have ll : ((((kinds vs f).take i).map (ixK (lineOf (kinds vs f))))).length ≤ 60 := by rw [List.length_map, List.length_take, kinds_len]; omega
      refine ⟨_, _, dg_tup (dgs_cons dg_name (dgs_cons (dg_tup (dgs_cons dg_name (dgs_cons dg_name (dgs_cons dg_name dgs_nil))) rfl) dgs_nil)) rfl, ?_⟩
      refine goes_nxW (tr_seq (tr_asg (b := .key (key3 (kindOf f i v))) (dv_tupK (da_cons (dv_op (dv_var rfl) (dv_var rfl) (rop_ixL rfl (atI_nats (by omega)))) (da_cons (dv_op (dv_var rfl) (dv_var rfl) (rop_ixL rfl (atI_nats (by omega)))) (da_cons (dv_op (dv_var rfl) (dv_var rfl) (rop_ixL rfl (atI_nats (by omega)))) da_nil))) (.int (.int (.int .nil))) (Nat.le_of_ble_eq_true rfl)))
        (tr_seq (tr_if (o := .nx [.dat (.list (vs.map encV)), .dat (.bool v.1), .dat (.int (v.2.1 : Int)), .dat (.int (v.2.2 : Int)), .dat (.list (natsD f)), .dat (.int (many : Int)), lap, .odt (idxG key3 0 (numS (lineOf ((kinds vs f).take i)) (kindOf f i v))), .own (natsD (((kinds vs f).take i).map (ixK (lineOf (kinds vs f))))), .dat (.int (i : Int)), .key (key3 (kindOf f i v))] s)
          (dt_B (dv_tnotin (dv_varK rfl) (dv_bdt rfl) rfl)) (fun hn => ?_) (fun hn => ?_)) (tr_app (i := 8) rfl (dv_tget (dv_bdt rfl) rfl (dv_varK rfl) (by rw [← es]; exact idxG_yes key3_inj mk)) rfl (by rw [natsD_len]; omega)))) ?_
      · have nm : kindOf f i v ∉ lineOf ((kinds vs f).take i) := fun z => by
          rw [idxG_yes key3_inj z] at hn
          cases hn
        refine tr_nxE (tr_tput rfl (dv_cb (da_cons (dv_bdt rfl) da_nil) (rcb_lenDT rfl)) rfl (dv_varK rfl) (by rw [idxG_len]; omega)) ?_ rfl
        rw [putD_new _ (idxG_no key3_inj nm), numS_no nm, idxG_snoc, idxG_len, Nat.zero_add]
        rfl
      · have ym : kindOf f i v ∈ lineOf ((kinds vs f).take i) := Classical.byContradiction fun z => by
          rw [idxG_no key3_inj z] at hn
          cases hn
        rw [numS_yes ym]
        exact tr_next
      · refine .eq (.un (.un (.un (.eq (.eq (.eq (.eqv ?_ (.eqv ?_ (.un (.un .nil))))))))))
        · rw [es]
        · rw [e4, List.map_append]
          unfold natsD
          rw [List.map_append]
          congr 1
          congr 1
          show [PyData.int _] = [PyData.int _]
          rw [Nat.zero_add, ← e4, er, ixK_app r mk]
end
def b01 (b : Bool) : Nat := if b then 1 else 0
def spClasses (ds : List PyData) (r : B) : Prop := ∃ (vs : List Vw) (t : Nat), ds = [.list (vs.map encV)] ∧ closedV vs ∧ 0 < vs.length ∧ vs.length ≤ 60 ∧ t ≤ vs.length ∧ manyAt vs (t + 1) = manyAt vs t ∧ (∀ i, i < t → manyAt vs (i + 1) ≠ manyAt vs i) ∧ r = .dat (.list (natsD (clsAt vs t)))
theorem tr_classes {K : PySem.W.Frag} {T : List NTab} {ds : List PyData} {r : B} {N : List Str} (hN : N.length = 11) (h : spClasses ds r) : Tr (Cf.pure K T) (classesTs K) (initE N ds) () (.rt r ()) := by
  obtain ⟨vs, t, rfl, hc, hpos, hz, ht, he, hne, rfl⟩ := h
  have ei : initE N [.list (vs.map encV)] = [.dat (.list (vs.map encV)), .un, .un, .un, .un, .un, .un, .un, .un, .un, .un] := by
    unfold initE
    rw [hN]
    rfl
  rw [ei]
  refine tr_seq (tr_par (da_cons (dv_freeze (dv_lcM (s1 := ()) vs encV (fun v => .int (b2n v.1)) (di_list (dv_var rfl) rfl) rfl (by omega) rfl fun v hv => ⟨_, _, dg_tup (dgs_cons dg_name (dgs_cons dg_name (dgs_cons dg_name dgs_nil))) rfl, by decide, _, dv_cb (da_cons (dv_var rfl) da_nil) rcb_intB, rfl⟩) rfl) (da_cons dv_int da_nil))) ?_
  have e0 : vs.map (fun v => PyData.int (b2n v.1)) = natsD (clsAt vs 0) := by
    unfold natsD clsAt
    rw [List.map_map]
    refine List.map_congr_left fun v _ => ?_
    cases h : v.1 <;> simp [b2n, h]
  rw [e0]
  have hi : Di (Cf.pure K T) (iRng1 (tCons (tOp (rI0 fun i j => V.int (i + j)) (tCB (rLenS K) (tCons (tVar 0) tNil)) (tC (V.int 1))) tNil)) [.dat (.list (vs.map encV)), .un, .un, .un, .dat (.list (natsD (clsAt vs 0))), .dat (.int (manyAt vs 0 : Int)), .un, .un, .un, .un, .un] () (rngD 0 (vs.length + 1)) () := by
    have h : Di (Cf.pure K T) (iRng1 (tCons (tOp (rI0 fun i j => V.int (i + j)) (tCB (rLenS K) (tCons (tVar 0) tNil)) (tC (V.int 1))) tNil)) [.dat (.list (vs.map encV)), .un, .un, .un, .dat (.list (natsD (clsAt vs 0))), .dat (.int (manyAt vs 0 : Int)), .un, .un, .un, .un, .un] () (rngD 0 (((vs.map encV).length : Int) + 1).toNat) () :=
      di_rng1 (da_cons (dv_op (dv_cb (da_cons (dv_var rfl) da_nil) (rcb_len rfl)) dv_int rop_II) da_nil) (by rw [List.length_map]; omega) (by rw [List.length_map]; omega)
    have e : (((vs.map encV).length : Int) + 1).toNat = vs.length + 1 := by rw [List.length_map]; omega
    rw [e] at h
    exact h
  -- a lap's end
  have fin : ∀ (i : Nat) (o : Out (Cf.pure K T)) (lap : B) (q : Bool), (decide ((manyAt vs (i + 1) : Int) = (manyAt vs i : Int)) = q) → (q = true → o = .rt (.dat (.list (natsD (clsAt vs i)))) ()) →
      (q = false → o = .nx [.dat (.list (vs.map encV)), .un, .un, .un, .dat (.list (natsD (clsAt vs (i + 1)))), .dat (.int (manyAt vs (i + 1) : Int)), lap, .odt (idxG key3 0 (lineOf (kinds vs (clsAt vs i)))), .dat (.list (natsD (clsAt vs (i + 1)))), .un, .un] ()) →
      Tr (Cf.pure K T) (tSeq (tIfS (tTest (tOp (rI0 fun i j => V.bl (decide (j < i))) (tCB rLenT (tCons (tVar 7) tNil)) (tC (V.int 60)))) tNever tNext) (tSeq (tIfS (tTest (tOp (rEqD K) (tCB rLenT (tCons (tVar 7) tNil)) (tVar 5))) (tRet (tVar 4)) tNext) (tPar 4 5 (tCons (tVar 8) (tCons (tCB rLenT (tCons (tVar 7) tNil)) tNil)))))
        (lapE vs (clsAt vs i) (manyAt vs i) lap (lineOf (kinds vs (clsAt vs i))) (numbered (kinds vs (clsAt vs i)))) () o := fun i o lap q hq h1 h2 => by
    have lz : (idxG key3 0 (lineOf (kinds vs (clsAt vs i)))).length = manyAt vs (i + 1) := idxG_len _ _
    have lm := manyAt_le (vs := vs) (i + 1)
    refine tr_seq (tr_if (dt_test (dv_op (dv_cb (da_cons (dv_bdt rfl) da_nil) (rcb_lenDT rfl)) dv_int rop_IB)) (fun z => ?_) (fun _ => tr_next)) ?_
    · have z := of_decide_eq_true z
      rw [lz] at z
      omega
    cases q with
    | true =>
      rw [h1 rfl]
      refine tr_seqR (tr_if (dt_test (dv_op (dv_cb (da_cons (dv_bdt rfl) da_nil) (rcb_lenDT rfl)) (dv_var rfl) (rop_eqD rfl rfl rfl rfl))) (fun _ => tr_ret (dv_var rfl)) (fun z => ?_))
      rw [lz] at z
      exact absurd (hq.symm.trans z) (by decide)
    | false =>
      rw [h2 rfl]
      refine tr_seq (tr_if (dt_test (dv_op (dv_cb (da_cons (dv_bdt rfl) da_nil) (rcb_lenDT rfl)) (dv_var rfl) (rop_eqD rfl rfl rfl rfl))) (fun z => ?_) (fun z => tr_next)) ?_
      · rw [lz] at z
        exact absurd (hq.symm.trans z) (by decide)
      · refine tr_freeze (i := 8) rfl (tr_nxE (tr_par (da_cons (dv_var rfl) (da_cons (dv_cb (da_cons (dv_bdt rfl) da_nil) (rcb_lenDT rfl)) da_nil))) ?_ rfl)
        rw [lz]
        rfl
  refine tr_seqR (tr_forG (C := Cf.pure K T) (ds := rngD 0 (vs.length + 1)) t (fun i => [.dat (.list (vs.map encV)), .un, .un, .un, .dat (.list (natsD (clsAt vs i))), .dat (.int (manyAt vs i : Int)), .un, .un, .un, .un, .un]) (fun _ => ()) hi (Wks.refl _) (by rw [rngD_len]; omega) (fun i d hd hi => ?_) (fun d hd => ?_) (fun z => ?_))
  · obtain ⟨_, rfl⟩ := rngD_get hd
    refine ⟨_, _, dg_name, goes_nxW (tr_seq (tr_par (da_cons dv_dnewT (da_cons (dv_lst da_nil .nil (Nat.le_of_ble_eq_true rfl)) da_nil))) (tr_seq (tr_lap hc (clsAt_len i) hz) (fin i _ (.dat (.int (0 + (i : Int)))) false (decide_eq_false (by have := hne i hi; omega)) (fun z => by cases z) (fun _ => rfl)))) ?_⟩
    exact .eq (.un (.un (.un (.eq (.eq (.un (.un (.un (.un (.un .nil))))))))))
  · obtain ⟨_, rfl⟩ := rngD_get hd
    refine ⟨_, _, dg_name, .inr ⟨_, (), rfl, ?_⟩⟩
    exact tr_seq (tr_par (da_cons dv_dnewT (da_cons (dv_lst da_nil .nil (Nat.le_of_ble_eq_true rfl)) da_nil))) (tr_seq (tr_lap hc (clsAt_len t) hz) (fin t _ (.dat (.int (0 + (t : Int)))) true (decide_eq_true (by rw [he])) (fun _ => rfl) (fun z => by cases z)))
  · rw [rngD_len] at z
    omega
end DV
set_option maxHeartbeats 1000000
namespace DV
open PySem PySem.Spec PyProof.Rows L2 LamX NdefX
/-! ### the least lot -/
structure Lot where
  zero : Bool
  top : Bool
  front : Nat
  back : Nat
  views : List Vw
def encL (l : Lot) : PyData := .tuple [.bool l.zero, .bool l.top, .int (l.front : Int), .int (l.back : Int), .tuple (l.views.map encV)]
structure Lot.Ok (l : Lot) : Prop where
  f : l.front < l.views.length
  b : l.back < l.views.length
  v : closedV l.views
  z : l.views.length ≤ 60
def vwOf (view : ViewF) (L : List Key) (k : Key) : Vw := ((view k).1, ixK L (view k).2.1, ixK L (view k).2.2)
def vwsOf (view : ViewF) (L : List Key) : List Vw := L.map (vwOf view L)
theorem rowK_eq (view : ViewF) (L : List Key) : L.map (rowK view L) = (vwsOf view L).map encV := by
  unfold vwsOf
  rw [List.map_map]
  rfl
open Classical in
noncomputable def lapT (vs : List Vw) : Nat := if h : ∃ t, t ≤ vs.length ∧ 1 ≤ t ∧ manyAt vs (t + 1) = manyAt vs t ∧ ∀ i, i < t → manyAt vs (i + 1) ≠ manyAt vs i then Classical.choose h else 0
theorem lapT_ok {vs : List Vw} (h : 0 < vs.length) : lapT vs ≤ vs.length ∧ 1 ≤ lapT vs ∧ manyAt vs (lapT vs + 1) = manyAt vs (lapT vs) ∧ ∀ i, i < lapT vs → manyAt vs (i + 1) ≠ manyAt vs i := by
  unfold lapT
  rw [dif_pos (lap_end h)]
  exact Classical.choose_spec (lap_end h)
noncomputable def clsOf (vs : List Vw) : List Nat := clsAt vs (lapT vs)
theorem clsOf_ok {vs : List Vw} (h : 0 < vs.length) : ClsOk vs (clsOf vs) := clsOk_of (lapT_ok h).2.1 (lapT_ok h).2.2.1
/-- the table of the classes -/
def putV (f : List Nat) (q : List (Key × PyData)) (p : Vw × Nat) : List (Key × PyData) := putD q (.inl (f.getD p.2 0 : Int)) (.tuple [.bool p.1.1, .int (f.getD p.1.2.1 0 : Int), .int (f.getD p.1.2.2 0 : Int)])
def tabAt (vs : List Vw) (f : List Nat) (j : Nat) : List (Key × PyData) := (vs.zipIdx.take j).foldl (putV f) []
theorem valD_put {κ : Type} [DecidableEq κ] (q : List (κ × PyData)) (k j : κ) (d : PyData) : valD (putD q k d) j = if j = k then some d else valD q j := by
  induction q with
  | nil =>
    show valD [(k, d)] j = _
    rw [valD_cons]
    by_cases h : j = k
    · rw [if_pos h, if_pos h.symm]
    · rw [if_neg h, if_neg fun z => h z.symm]
  | cons p r ih =>
    by_cases hp : p.1 = k
    · have e : putD (p :: r) k d = (p.1, d) :: r.map fun kv => if kv.1 = k then (kv.1, d) else kv := by
        unfold putD
        rw [if_pos (by rw [List.any_cons, decide_eq_true hp]; rfl), List.map_cons, if_pos hp]
      rw [e, valD_cons, valD_cons]
      by_cases hj : j = k
      · rw [if_pos (hp.trans hj.symm), if_pos hj]
      · have h2 : ¬ p.1 = j := fun z => hj (z.symm.trans hp)
        rw [if_neg h2, if_neg hj, if_neg h2]
        clear ih e
        induction r with
        | nil => rfl
        | cons x r ih =>
          rw [List.map_cons, valD_cons, valD_cons, ih]
          by_cases hx : x.1 = k
          · rw [if_pos hx]
            have h3 : ¬ x.1 = j := fun z => hj (z.symm.trans hx)
            show (if x.1 = j then some d else valD r j) = _
            rw [if_neg h3, if_neg h3]
          · rw [if_neg hx]
    · have e : putD (p :: r) k d = p :: putD r k d := by
        unfold putD
        rw [List.any_cons, decide_eq_false hp, Bool.false_or, List.map_cons, if_neg hp]
        split <;> simp
      rw [e, valD_cons, ih, valD_cons]
      by_cases hj : p.1 = j
      · rw [if_pos hj, if_pos hj, if_neg fun z => hp (hj.trans z)]
      · rw [if_neg hj, if_neg hj]
theorem putD_len {κ : Type} [DecidableEq κ] (q : List (κ × PyData)) (k : κ) (d : PyData) : (putD q k d).length ≤ q.length + 1 := by
  unfold putD
  split <;> simp
section
variable {vs : List Vw} {f : List Nat}
theorem tabAt_succ {j : Nat} {v : Vw} (h : vs[j]? = some v) : tabAt vs f (j + 1) = putV f (tabAt vs f j) (v, j) := by
  unfold tabAt
  have e : vs.zipIdx[j]? = some (v, j) := by rw [List.getElem?_zipIdx, h]; simp
  rw [List.take_add_one, e, List.foldl_append]
  rfl
theorem tabAt_len : ∀ j, (tabAt vs f j).length ≤ j
  | 0 => by simp [tabAt]
  | j + 1 => by
    cases h : vs[j]? with
    | none =>
      have e : tabAt vs f (j + 1) = tabAt vs f j := by
        unfold tabAt
        have hl : vs.length ≤ j := List.getElem?_eq_none_iff.mp h
        rw [List.take_of_length_le (by rw [List.length_zipIdx]; omega), List.take_of_length_le (by rw [List.length_zipIdx]; omega)]
      rw [e]
      exact Nat.le_trans (tabAt_len j) (Nat.le_succ j)
    | some v =>
      rw [tabAt_succ h]
      exact Nat.le_trans (putD_len _ _ _) (Nat.succ_le_succ (tabAt_len j))
/-- what a class is, by any of its views -/
def clsRow (f : List Nat) (v : Vw) : PyData := .tuple [.bool v.1, .int (f.getD v.2.1 0 : Int), .int (f.getD v.2.2 0 : Int)]
theorem tabAt_val (ok : ClsOk vs f) : ∀ (j : Nat) {i : Nat} {v : Vw}, vs[i]? = some v → i < j → j ≤ vs.length → valD (tabAt vs f j) (.inl (f.getD i 0 : Int)) = some (clsRow f v)
  | 0, i, v, _, h, _ => absurd h (Nat.not_lt_zero i)
  | j + 1, i, v, hv, h, hl => by
    have hj : vs[j]? = some vs[j] := List.getElem?_eq_getElem (by omega)
    rw [tabAt_succ hj]
    unfold putV
    rw [valD_put]
    by_cases e : f.getD i 0 = f.getD j 0
    · rw [if_pos (by rw [e])]
      have h1 := ok.yes hv hj e
      obtain ⟨h2, h3⟩ := ok.both hv hj e
      show some _ = some (clsRow f v)
      unfold clsRow
      rw [h1, h2, h3]
    · rw [if_neg fun z => e (by have z2 : (f.getD i 0 : Int) = (f.getD j 0 : Int) := Sum.inl.inj z; omega)]
      have ij : i ≠ j := fun z => e (by rw [z])
      exact tabAt_val ok j hv (by omega) (by omega)
end
section
variable {view : ViewF} {starts U : List Key}
theorem rawL_nodup : (rawL view starts U).Nodup := rawSt_nodup _
theorem rawL_len (hs : ∀ k ∈ starts, k ∈ U) (hU : ∀ k ∈ U, (view k).2.1 ∈ U ∧ (view k).2.2 ∈ U) : (rawL view starts U).length ≤ U.length := rawSt_len hs hU _
theorem rawL_in (hs : ∀ k ∈ starts, k ∈ U) (hU : ∀ k ∈ U, (view k).2.1 ∈ U ∧ (view k).2.2 ∈ U) : ∀ k ∈ rawL view starts U, k ∈ U := rawSt_in hs hU _
theorem rawL_starts {k : Key} (h : k ∈ starts) : k ∈ rawL view starts U := by
  obtain ⟨r, e⟩ := rawSt_pre (view := view) (starts := starts) 0 U.length
  rw [Nat.zero_add] at e
  unfold rawL
  rw [e]
  exact List.mem_append_left _ (fold_mem starts [] k h)
theorem rawL_closed (hs : ∀ k ∈ starts, k ∈ U) (hU : ∀ k ∈ U, (view k).2.1 ∈ U ∧ (view k).2.2 ∈ U) : ∀ k ∈ rawL view starts U, (view k).2.1 ∈ rawL view starts U ∧ (view k).2.2 ∈ rawL view starts U := fun k hk => by
  obtain ⟨n1, k1, k2, k3, k4⟩ := rawSt_end hs hU
  have eL : rawL view starts U = rawSt view starts n1 := rawL_eq k1 k4
  rw [eL] at hk ⊢
  obtain ⟨i, hi⟩ := List.mem_iff_getElem?.mp hk
  have li : i < n1 := by rw [← k3]; exact (List.getElem?_eq_some_iff.mp hi).1
  have l2 := k2 i li
  obtain ⟨r, er⟩ := rawSt_pre (view := view) (starts := starts) i (n1 - i)
  rw [show i + (n1 - i) = n1 by omega] at er
  have hi2 : (rawSt view starts i)[i]? = some k := by
    rw [er, List.getElem?_append_left l2] at hi
    exact hi
  obtain ⟨r2, er2⟩ := rawSt_pre (view := view) (starts := starts) (i + 1) (n1 - (i + 1))
  rw [show i + 1 + (n1 - (i + 1)) = n1 by omega] at er2
  have es : rawSt view starts (i + 1) = numS (numS (rawSt view starts i) (view k).2.1) (view k).2.2 := by
    show rawStep view (rawSt view starts i) i = _
    unfold rawStep
    rw [hi2]
  rw [er2, es]
  exact ⟨List.mem_append_left _ (numS_sub (numS_mem _ _)), List.mem_append_left _ (numS_mem _ _)⟩
theorem vwsOf_closed {L : List Key} (h : ∀ k ∈ L, (view k).2.1 ∈ L ∧ (view k).2.2 ∈ L) : closedV (vwsOf view L) := fun v hv => by
  obtain ⟨k, hk, rfl⟩ := List.mem_map.mp hv
  rw [show (vwsOf view L).length = L.length from List.length_map _]
  exact ⟨ixK_lt (h k hk).1, ixK_lt (h k hk).2⟩
theorem vwsOf_get {L : List Key} {k : Key} (h : k ∈ L) : (vwsOf view L)[ixK L k]? = some (vwOf view L k) := by
  unfold vwsOf
  rw [List.getElem?_map, ixK_get h]
  rfl
end
/-- the table, seen as views -/
def clsView (vs : List Vw) (f : List Nat) : ViewF
  | .inl c => match vs.zipIdx.find? fun p => decide ((f.getD p.2 0 : Int) = c) with
    | some p => (p.1.1, .inl (f.getD p.1.2.1 0 : Int), .inl (f.getD p.1.2.2 0 : Int))
    | none => (false, .inl c, .inl c)
  | .inr x => (false, .inr x, .inr x)
theorem clsView_at {vs : List Vw} {f : List Nat} (ok : ClsOk vs f) {i : Nat} {v : Vw} (hv : vs[i]? = some v) : clsView vs f (.inl (f.getD i 0 : Int)) = (v.1, .inl (f.getD v.2.1 0 : Int), .inl (f.getD v.2.2 0 : Int)) := by
  have hz : vs.zipIdx[i]? = some (v, i) := by rw [List.getElem?_zipIdx, hv]; simp
  show (match vs.zipIdx.find? fun p => decide ((f.getD p.2 0 : Int) = (f.getD i 0 : Int)) with
    | some p => (p.1.1, .inl (f.getD p.1.2.1 0 : Int), .inl (f.getD p.1.2.2 0 : Int))
    | none => (false, .inl (f.getD i 0 : Int), .inl (f.getD i 0 : Int)) : Bool × Key × Key) = _
  cases hf : vs.zipIdx.find? fun p => decide ((f.getD p.2 0 : Int) = (f.getD i 0 : Int)) with
  | none =>
    have := List.find?_eq_none.mp hf _ (List.mem_of_getElem? hz)
    simp at this
  | some p =>
    have h0 := List.find?_some hf
    have h1 : (f.getD p.2 0 : Int) = (f.getD i 0 : Int) := of_decide_eq_true h0
    have h2 := List.mem_of_find?_eq_some hf
    obtain ⟨j, hj⟩ := List.mem_iff_getElem?.mp h2
    rw [List.getElem?_zipIdx] at hj
    cases hw : vs[j]? with
    | none =>
      rw [hw] at hj
      cases hj
    | some w =>
      rw [hw] at hj
      have hj : some (w, 0 + j) = some p := hj
      have e := (Option.some.inj hj).symm
      rw [Nat.zero_add] at e
      subst e
      have h3 : f.getD j 0 = f.getD i 0 := by
        have h1 : (f.getD j 0 : Int) = (f.getD i 0 : Int) := h1
        omega
      obtain ⟨h4, h5⟩ := ok.both hw hv h3
      show (w.1, _, _) = _
      rw [ok.yes hw hv h3]
      show (v.1, Sum.inl (f.getD w.2.1 0 : Int), Sum.inl (f.getD w.2.2 0 : Int)) = _
      rw [h4, h5]
def clsKeys (f : List Nat) : List Key := f.map fun (c : Nat) => .inl (c : Int)
noncomputable def leastLot (zero top : Bool) (front back : Key) (view : ViewF) (U : List Key) : Lot :=
  let L := rawL view [front, back] U
  let f := clsOf (vwsOf view L)
  let v2 := clsView (vwsOf view L) f
  let a : Key := .inl (f.getD (ixK L front) 0 : Int)
  let b : Key := .inl (f.getD (ixK L back) 0 : Int)
  let L2 := rawL v2 [a, b] (clsKeys f)
  ⟨zero, top, ixK L2 a, ixK L2 b, vwsOf v2 L2⟩
def spLeast (P : Program) (w : World) (K : PySem.W.Frag) (mg : Str → Option Value) (base : Heap) (T : List NTab) : SpB := fun bs r => ∃ (zero top : Bool) (front back : Key) (view : ViewF) (U : List Key) (S : List PyData → B → Prop) (fp : List (Addr × HO)) (F1 : Hp),
  bs = [.dat (.bool zero), .dat (.bool top), .dat (kD front), .dat (kD back), .fn fp F1 (CalF P w K mg base T 3 S fp F1)] ∧ (∀ k ∈ U, S [kD k] (.dat (encVK (view k)))) ∧ front ∈ U ∧ back ∈ U ∧ (∀ k ∈ U, (view k).2.1 ∈ U ∧ (view k).2.2 ∈ U) ∧ U.length ≤ 60 ∧ r = .dat (encL (leastLot zero top front back view U))
/-- the words of a lambda that looks into a dict -/
structure LamGet (P : Program) (w : World) (K : PySem.W.Frag) (mg : Str → Option Value) (k : Nat) (G0 : Addr → NF) (body : Expr) (cl : List (Str × Addr)) (x y : Str) : Prop where
  hcl : ∀ d, (G0 d).cl = cl
  hc : ∀ d, (G0 d).c = d
  hS : ∀ d, NScope [x, y] [x] [y] (G0 d).scope
  hb : ∀ (d : Addr) (pm ctv : Value) (us : List Value), us.length = 1 → bindArgs (PySem.W.kla_fn (G0 d).name (G0 d).qual (G0 d).params body (G0 d).scope (G0 d).cl pm (.ref (G0 d).c) ctv) ⟨us, []⟩ = pure ([x].zip us)
  hbody : ∀ (B : Heap) (d f : Addr) (A : Around) (outer : List PySem.Env) (s : Shared) (H : Hp), Room k (A.deeper (envF (G0 d) f s.heap.objs.size)) → PE (ncx C8.CX0 P w K mg B [x, y] (G0 d) f A outer s H C8.E0) body (tDGet (tVar 1) (tVar 0))
theorem dv_lamW {C : Cf} {env : Env} {s s1 : C.w.S} {P : Program} {w : World} {mg : Str → Option Value} {base : Heap} {k i : Nat} {q : List (Key × PyData)} {G0 : Addr → NF} {body : Expr} {cl : List (Str × Addr)} {x y : Str} {ta : TA} {xs bs : List B} {SB : Heap → SpB} {r : B} {E : XK}
    (W : LamGet P w C.K mg k G0 body cl x y) (hi : env[i]? = some (.odk q)) (hA : DvL C ta (tLamN C.T G0 body) (env.set i .un) s xs s1) (hbs : ToBs xs bs)
    (hcall : ∀ (B : Heap) (fp : List (Addr × HO)) (F1 : Hp), SB B (bs ++ [.fn fp F1 (CalF P w C.K mg B C.T (k + 1) (dgetS q) fp F1)]) r) (nb : r.isBor = false) :
    DvF C (tFrz i (tCallG (fun B => PmB C.K C.T (SB B)) base cl [y] [i] [] E ta)) env s (env.set i .un) s1 r :=
  dv_lamget hi hA hbs W.hcl W.hc W.hS rfl W.hb W.hbody hcall nb
def leastTs (P : Program) (w : World) (K : PySem.W.Frag) (mg : Str → Option Value) (base : Heap) (T : List NTab) (G0 : Addr → NF) (body : Expr) (cl : List (Str × Addr)) (y : Str) : TS :=
  tSeq (tAsg (tCall (PmB K T (spViews P w K mg base T)) [] C8.E0 (tCons (tLst (tCons (tVar 2) (tCons (tVar 3) tNil))) (tCons (tVar 4) tNil))) (gTup K 2 (gCons (gName 5) (gCons (gName 6) gNil))))
    (tSeq (tAsg (tCall (Pm K T spClasses) [] C8.E0 (tCons (tVar 6) tNil)) (gName 7))
      (tSeq (tAsg tDNewK (gName 14))
        (tSeq (tFor (iEnum K (tCons (tVar 6) tNil)) (gTup K 2 (gCons (gName 8) (gCons (gTup K 3 (gCons (gName 9) (gCons (gName 10) (gCons (gName 11) gNil)))) gNil)))
            (sDPut (tVar 14) (tOp (rIxL K) (tVar 7) (tVar 8)) (tTup (tCons (tVar 9) (tCons (tOp (rIxL K) (tVar 7) (tVar 10)) (tCons (tOp (rIxL K) (tVar 7) (tVar 11)) tNil))))))
          (tSeq (tAsg (tFrz 14 (tCallG (fun B => PmB K T (spViews P w K mg B T)) base cl [y] [14] [] C8.E0 (tCons (tLc (iList K (tVar 5)) (gName 15) tYes (tOp (rIxL K) (tVar 7) (tVar 15)) [15]) (tCons (tLamN T G0 body) tNil)))) (gTup K 2 (gCons (gName 12) (gCons (gName 13) gNil))))
            (tRet (tTup (tCons (tVar 0) (tCons (tVar 1) (tCons (tOp (rIxL K) (tVar 12) (tC (V.int 0))) (tCons (tOp (rIxL K) (tVar 12) (tC (V.int 1))) (tCons (tCB (rTupS K) (tCons (tVar 13) tNil)) tNil)))))))))))
theorem tr_least {P : Program} {w : World} {K : PySem.W.Frag} {mg : Str → Option Value} {base : Heap} {T : List NTab} {G0 : Addr → NF} {body : Expr} {cl : List (Str × Addr)} {x y : Str} (W : LamGet P w K mg 2 G0 body cl x y) {bs : List B} {r : B} {N : List Str} (hN : N.length = 16) (h : spLeast P w K mg base T bs r) :
    Tr (Cf.pure K T) (leastTs P w K mg base T G0 body cl y) (initB N bs) () (.rt r ()) := by
  obtain ⟨zero, top, front, back, view, U, S, fp, F1, rfl, hS, hf, hb, hU, hz, rfl⟩ := h
  have ei : initB N [.dat (.bool zero), .dat (.bool top), .dat (kD front), .dat (kD back), .fn fp F1 (CalF P w K mg base T 3 S fp F1)] =
      [.dat (.bool zero), .dat (.bool top), .dat (kD front), .dat (kD back), .fn fp F1 (CalF P w K mg base T 3 S fp F1), .un, .un, .un, .un, .un, .un, .un, .un, .un, .un, .un] := by
    unfold initB
    rw [hN]
    rfl
  rw [ei]
  have hs : ∀ k ∈ [front, back], k ∈ U := fun k hk => by
    rcases List.mem_cons.mp hk with e | hk
    · rw [e]; exact hf
    · rw [List.mem_singleton.mp hk]; exact hb
  obtain ⟨L, hL⟩ : ∃ L, L = rawL view [front, back] U := ⟨_, rfl⟩
  obtain ⟨vs, hvs⟩ : ∃ vs, vs = vwsOf view L := ⟨_, rfl⟩
  obtain ⟨f, hf2⟩ : ∃ f, f = clsOf vs := ⟨_, rfl⟩
  have mf : front ∈ L := by rw [hL]; exact rawL_starts (by simp)
  have mb : back ∈ L := by rw [hL]; exact rawL_starts (by simp)
  have Lc : ∀ k ∈ L, (view k).2.1 ∈ L ∧ (view k).2.2 ∈ L := by rw [hL]; exact rawL_closed hs hU
  have Lz : L.length ≤ 60 := Nat.le_trans (by rw [hL]; exact rawL_len hs hU) hz
  have lv : vs.length = L.length := by rw [hvs]; exact List.length_map _
  have vc : closedV vs := by rw [hvs]; exact vwsOf_closed Lc
  have vp : 0 < vs.length := by rw [lv]; exact List.length_pos_of_mem mf
  have ok : ClsOk vs f := by rw [hf2]; exact clsOf_ok vp
  have vz : vs.length ≤ 60 := by omega
  refine tr_seq (tr_asgT (d := .tuple [.list (firstK [front, back] L), .list (vs.map encV)]) (pmb_call (C := Cf.pure K T) (S := spViews P w K mg base T) (r := .dat (.tuple [.list (firstK [front, back] L), .list (vs.map encV)])) (da_cons (dv_lst (da_cons (dv_var rfl) (da_cons (dv_var rfl) da_nil)) (.cons rfl (.cons rfl .nil)) (Nat.le_of_ble_eq_true rfl)) (da_cons (dv_fn rfl) da_nil)) (.dat rfl (.fn .nil))
    ⟨[front, back], view, U, S, fp, F1, rfl, hS, hs, hU, by omega, Nat.le_of_ble_eq_true rfl, by rw [hvs, ← rowK_eq, ← hL]⟩ rfl) rfl (dg_tup (dgs_cons dg_name (dgs_cons dg_name dgs_nil)) rfl)) ?_
  refine tr_seq (tr_asg (b := .dat (.list (natsD f))) (pm_call (C := Cf.pure K T) (S := spClasses) (da_cons (dv_var rfl) da_nil) (.cons rfl .nil) ⟨vs, lapT vs, rfl, vc, vp, vz, (lapT_ok vp).1, (lapT_ok vp).2.2.1, (lapT_ok vp).2.2.2, by rw [hf2]; rfl⟩ rfl)) ?_
  refine tr_seq (tr_asg dv_dnewK) ?_
  have tab := tr_for0 (C := Cf.pure K T) (s1 := ()) (g := gTup K 2 (gCons (gName 8) (gCons (gTup K 3 (gCons (gName 9) (gCons (gName 10) (gCons (gName 11) gNil)))) gNil))) (ds := enumD (vs.map encV)) (wi := iEnum K (tCons (tVar 6) tNil))
    (p := sDPut (tVar 14) (tOp (rIxL K) (tVar 7) (tVar 8)) (tTup (tCons (tVar 9) (tCons (tOp (rIxL K) (tVar 7) (tVar 10)) (tCons (tOp (rIxL K) (tVar 7) (tVar 11)) tNil)))))
    (env := [.dat (.bool zero), .dat (.bool top), .dat (kD front), .dat (kD back), .fn fp F1 (CalF P w K mg base T 3 S fp F1), .dat (.list (firstK [front, back] L)), .dat (.list (vs.map encV)), .dat (.list (natsD f)), .un, .un, .un, .un, .un, .un, .odk [], .un])
    (fun j => [.dat (.bool zero), .dat (.bool top), .dat (kD front), .dat (kD back), .fn fp F1 (CalF P w K mg base T 3 S fp F1), .dat (.list (firstK [front, back] L)), .dat (.list (vs.map encV)), .dat (.list (natsD f)), .un, .un, .un, .un, .un, .un, .odk (tabAt vs f j), .un])
    (di_enum (s1 := ()) (da_cons (dv_var (i := 6) rfl) da_nil) rfl) (.eq (.eq (.eq (.eq (.eq (.eq (.eq (.eq (.un (.un (.un (.un (.un (.un (.eqv (by simp [tabAt]) (.un .nil)))))))))))))))) fun j d hd => by
      obtain ⟨e, he, rfl⟩ := enumD_get hd
      rw [List.getElem?_map] at he
      cases hv : vs[j]? with
      | none =>
        rw [hv] at he
        cases he
      | some v =>
        rw [hv] at he
        cases he
        have cv := vc v (List.mem_of_getElem? hv)
        have lj : j < vs.length := (List.getElem?_eq_some_iff.mp hv).1
        have lf := ok.len
        refine ⟨_, _, dg_tup (dgs_cons dg_name (dgs_cons (dg_tup (dgs_cons dg_name (dgs_cons dg_name (dgs_cons dg_name dgs_nil))) rfl) dgs_nil)) rfl, ?_⟩
        refine goes_nxW (tr_dput (C := Cf.pure K T) (q := tabAt vs f j) (k := .inl (f.getD j 0 : Int)) (i := 14) (d := .tuple [.bool v.1, .int (f.getD v.2.1 0 : Int), .int (f.getD v.2.2 0 : Int)]) (s1 := ()) (s2 := ()) rfl (dv_tup (da_cons (dv_var rfl) (da_cons (dv_op (dv_var rfl) (dv_var rfl) (rop_ixL rfl (atI_nats (by omega)))) (da_cons (dv_op (dv_var rfl) (dv_var rfl) (rop_ixL rfl (atI_nats (by omega)))) da_nil))) (.cons rfl (.cons rfl (.cons rfl .nil))) (Nat.le_of_ble_eq_true rfl)) rfl
          (dv_op (dv_var rfl) (dv_var rfl) (rop_ixL rfl (atI_nats (by omega)))) (Nat.lt_of_le_of_lt (tabAt_len j) (by omega))) ?_
        exact .eq (.eq (.eq (.eq (.eq (.eq (.eq (.eq (.un (.un (.un (.un (.un (.un (.eqv (by rw [tabAt_succ hv]; rfl) (.un .nil)))))))))))))))
  rw [enumD_len, List.length_map] at tab
  refine tr_seq tab ?_
  obtain ⟨v2, hv2⟩ : ∃ v2, v2 = clsView vs f := ⟨_, rfl⟩
  obtain ⟨a, ha⟩ : ∃ a : Key, a = .inl (f.getD (ixK L front) 0 : Int) := ⟨_, rfl⟩
  obtain ⟨b, hb2⟩ : ∃ b : Key, b = .inl (f.getD (ixK L back) 0 : Int) := ⟨_, rfl⟩
  obtain ⟨L2, hL2⟩ : ∃ L2, L2 = rawL v2 [a, b] (clsKeys f) := ⟨_, rfl⟩
  have at_ : ∀ i, i < vs.length → f.getD i 0 ∈ f := fun i hi => by
    rw [List.getD_eq_getElem?_getD, List.getElem?_eq_getElem (by rw [ok.len]; exact hi)]
    exact List.getElem_mem _
  have inC : ∀ i, i < vs.length → (Sum.inl (f.getD i 0 : Int) : Key) ∈ clsKeys f := fun i hi => List.mem_map.mpr ⟨_, at_ i hi, rfl⟩
  have lif : ixK L front < vs.length := by rw [lv]; exact ixK_lt mf
  have lib : ixK L back < vs.length := by rw [lv]; exact ixK_lt mb
  have hs2 : ∀ k ∈ [a, b], k ∈ clsKeys f := fun k hk => by
    rcases List.mem_cons.mp hk with e | hk
    · rw [e, ha]; exact inC _ lif
    · rw [List.mem_singleton.mp hk, hb2]; exact inC _ lib
  have any : ∀ k ∈ clsKeys f, ∃ i v, vs[i]? = some v ∧ k = .inl (f.getD i 0 : Int) := fun k hk => by
    obtain ⟨c, hc, rfl⟩ := List.mem_map.mp hk
    obtain ⟨i, hi⟩ := List.mem_iff_getElem?.mp hc
    have li : i < vs.length := by rw [← ok.len]; exact (List.getElem?_eq_some_iff.mp hi).1
    refine ⟨i, _, List.getElem?_eq_getElem li, ?_⟩
    rw [List.getD_eq_getElem?_getD, hi]
    rfl
  have hU2 : ∀ k ∈ clsKeys f, (v2 k).2.1 ∈ clsKeys f ∧ (v2 k).2.2 ∈ clsKeys f := fun k hk => by
    obtain ⟨i, v, hv, rfl⟩ := any k hk
    rw [hv2, clsView_at ok hv]
    have cv := vc v (List.mem_of_getElem? hv)
    exact ⟨inC _ cv.1, inC _ cv.2⟩
  have hS2 : ∀ k ∈ clsKeys f, dgetS (tabAt vs f vs.length) [kD k] (.dat (encVK (v2 k))) := fun k hk => by
    obtain ⟨i, v, hv, rfl⟩ := any k hk
    refine ⟨_, _, rfl, tabAt_val ok vs.length hv (List.getElem?_eq_some_iff.mp hv).1 (Nat.le_refl _), ?_⟩
    rw [hv2, clsView_at ok hv]
    rfl
  have cz : (clsKeys f).length ≤ 60 := by
    unfold clsKeys
    rw [List.length_map, ok.len]
    exact vz
  refine tr_seq (tr_asgF (d := .tuple [.list (firstK [a, b] L2), .list ((vwsOf v2 L2).map encV)]) (dv_lamW (C := Cf.pure K T) (k := 2) (q := tabAt vs f vs.length) (SB := fun B => spViews P w K mg B T) (r := .dat (.tuple [.list (firstK [a, b] L2), .list ((vwsOf v2 L2).map encV)])) W rfl
    (dl_cons (dv_lcM (C := Cf.pure K T) (s1 := ()) [ixK L front, ixK L back] (fun n => .int (n : Int)) (fun n => .int (f.getD n 0 : Int)) (di_list (dv_var rfl) rfl) rfl (Nat.le_of_ble_eq_true rfl) rfl fun n hn => ⟨_, _, dg_name, by decide, _, dv_op (dv_var rfl) (dv_var rfl) (rop_ixL rfl (atI_nats (by
      rw [ok.len]
      rcases List.mem_cons.mp hn with e | hn
      · rw [e]; exact lif
      · rw [List.mem_singleton.mp hn]; exact lib))), rfl⟩) dl_last) (.dat rfl .nil)
    (fun B fp F1 => ⟨[a, b], v2, clsKeys f, _, fp, F1, by rw [ha, hb2]; rfl, hS2, hs2, hU2, by omega, Nat.le_of_ble_eq_true rfl, by rw [← rowK_eq, ← hL2]⟩) rfl) (dg_tup (dgs_cons dg_name (dgs_cons dg_name dgs_nil)) rfl)) ?_
  have el : leastLot zero top front back view U = ⟨zero, top, ixK L2 a, ixK L2 b, vwsOf v2 L2⟩ := by
    rw [hL2, hv2, ha, hb2, hf2, hvs, hL]
    rfl
  rw [el]
  refine tr_ret (dv_tup (da_cons (dv_var rfl) (da_cons (dv_var rfl) (da_cons (dv_op (dv_var rfl) dv_int (rop_ixL (ds := firstK [a, b] L2) (d := .int (ixK L2 a : Int)) rfl rfl)) (da_cons (dv_op (dv_var rfl) dv_int (rop_ixL (ds := firstK [a, b] L2) (d := .int (ixK L2 b : Int)) rfl rfl)) (da_cons (dv_cb (da_cons (dv_var rfl) da_nil) (rcb_tupL rfl)) da_nil))))) (.cons rfl (.cons rfl (.cons rfl (.cons rfl (.cons rfl .nil))))) (Nat.le_of_ble_eq_true rfl))
end DV
set_option maxHeartbeats 1000000
namespace DV
open PySem PySem.Spec PyProof.Rows L2 LamX NdefX
/-! ### a lot told by modes -/
abbrev Mode := Str × Bool × Str × Str
def encM (m : Mode) : PyData := .tuple [.str m.1, .bool m.2.1, .str m.2.2.1, .str m.2.2.2]
def rowM (m : Mode) : PyData := .tuple [.bool m.2.1, .str m.2.2.1, .str m.2.2.2]
def modeView (modes : List Mode) : ViewF
  | .inr x => match modes.find? fun m => decide (m.1 = x) with
    | some m => (m.2.1, .inr m.2.2.1, .inr m.2.2.2)
    | none => (false, .inr x, .inr x)
  | .inl c => (false, .inl c, .inl c)
def modeKeys (modes : List Mode) : List Key := modes.map fun m => .inr m.1
structure ModesOk (modes : List Mode) : Prop where
  nd : (modes.map (·.1)).Nodup
  cl : ∀ m ∈ modes, m.2.2.1 ∈ modes.map (·.1) ∧ m.2.2.2 ∈ modes.map (·.1)
  z : modes.length ≤ 60
theorem nodup_name {modes : List Mode} (n : (modes.map (·.1)).Nodup) {m m' : Mode} (h : m ∈ modes) (h' : m' ∈ modes) (e : m.1 = m'.1) : m = m' := by
  obtain ⟨i, hi, ei⟩ := List.mem_iff_getElem.mp h
  obtain ⟨j, hj, ej⟩ := List.mem_iff_getElem.mp h'
  have h2 : (modes.map (·.1))[i]'(by simpa using hi) = (modes.map (·.1))[j]'(by simpa using hj) := by simp [ei, ej, e]
  have h3 := (List.getElem_inj n).mp h2
  subst h3
  rw [← ei, ← ej]
theorem modeView_at {modes : List Mode} (n : (modes.map (·.1)).Nodup) {m : Mode} (h : m ∈ modes) : modeView modes (.inr m.1) = (m.2.1, .inr m.2.2.1, .inr m.2.2.2) := by
  show (match modes.find? fun x => decide (x.1 = m.1) with
    | some m => (m.2.1, .inr m.2.2.1, .inr m.2.2.2)
    | none => (false, .inr m.1, .inr m.1) : Bool × Key × Key) = _
  cases hf : modes.find? fun x => decide (x.1 = m.1) with
  | none =>
    have := List.find?_eq_none.mp hf _ h
    simp at this
  | some x =>
    have h0 := List.find?_some hf
    have h1 : x.1 = m.1 := of_decide_eq_true h0
    rw [nodup_name n (List.mem_of_find?_eq_some hf) h h1]
theorem modeKeys_mem {modes : List Mode} {k : Key} : k ∈ modeKeys modes ↔ ∃ m ∈ modes, k = .inr m.1 := by
  unfold modeKeys
  rw [List.mem_map]
  exact ⟨fun ⟨m, h, e⟩ => ⟨m, h, e.symm⟩, fun ⟨m, h, e⟩ => ⟨m, h, e.symm⟩⟩
theorem modeKeys_name {modes : List Mode} {x : Str} (h : x ∈ modes.map (·.1)) : (Sum.inr x : Key) ∈ modeKeys modes := by
  obtain ⟨m, hm, e⟩ := List.mem_map.mp h
  exact modeKeys_mem.mpr ⟨m, hm, by rw [← e]⟩
theorem modeView_closed {modes : List Mode} (ok : ModesOk modes) : ∀ k ∈ modeKeys modes, (modeView modes k).2.1 ∈ modeKeys modes ∧ (modeView modes k).2.2 ∈ modeKeys modes := fun k hk => by
  obtain ⟨m, hm, rfl⟩ := modeKeys_mem.mp hk
  rw [modeView_at ok.nd hm]
  exact ⟨modeKeys_name (ok.cl m hm).1, modeKeys_name (ok.cl m hm).2⟩
def tabM (modes : List Mode) (j : Nat) : List (Key × PyData) := (modes.take j).foldl (fun q m => putD q (.inr m.1) (rowM m)) []
section
variable {modes : List Mode}
theorem tabM_succ {j : Nat} {m : Mode} (h : modes[j]? = some m) : tabM modes (j + 1) = putD (tabM modes j) (.inr m.1) (rowM m) := by
  unfold tabM
  rw [List.take_add_one, h, List.foldl_append]
  rfl
theorem tabM_len : ∀ j, (tabM modes j).length ≤ j
  | 0 => by simp [tabM]
  | j + 1 => by
    cases h : modes[j]? with
    | none =>
      have hl : modes.length ≤ j := List.getElem?_eq_none_iff.mp h
      have e : tabM modes (j + 1) = tabM modes j := by
        unfold tabM
        rw [List.take_of_length_le (by omega), List.take_of_length_le (by omega)]
      rw [e]
      exact Nat.le_trans (tabM_len j) (Nat.le_succ j)
    | some v =>
      rw [tabM_succ h]
      exact Nat.le_trans (putD_len _ _ _) (Nat.succ_le_succ (tabM_len j))
theorem tabM_val (n : (modes.map (·.1)).Nodup) : ∀ (j : Nat) {i : Nat} {m : Mode}, modes[i]? = some m → i < j → j ≤ modes.length → valD (tabM modes j) (.inr m.1) = some (rowM m)
  | 0, i, m, _, h, _ => absurd h (Nat.not_lt_zero i)
  | j + 1, i, m, hm, h, hl => by
    have hj : modes[j]? = some modes[j] := List.getElem?_eq_getElem (by omega)
    rw [tabM_succ hj, valD_put]
    by_cases e : m.1 = modes[j].1
    · rw [if_pos (by rw [e]), nodup_name n (List.mem_of_getElem? hm) (List.mem_of_getElem? hj) e]
    · rw [if_neg fun z => e (Sum.inr.inj z)]
      have ij : i ≠ j := fun z => by
        subst z
        rw [hm] at hj
        exact e (by rw [← Option.some.inj hj])
      exact tabM_val n j hm (by omega) (by omega)
end
def spLot (ds : List PyData) (r : B) : Prop := ∃ (zero top : Bool) (front back : Str) (modes : List Mode), ds = [.bool zero, .bool top, .str front, .str back, .tuple (modes.map encM)] ∧ ModesOk modes ∧ front ∈ modes.map (·.1) ∧ back ∈ modes.map (·.1) ∧
  r = .dat (encL (leastLot zero top (.inr front) (.inr back) (modeView modes) (modeKeys modes)))
def lotTs (P : Program) (w : World) (K : PySem.W.Frag) (mg : Str → Option Value) (base : Heap) (T : List NTab) (G0 : Addr → NF) (body : Expr) (cl : List (Str × Addr)) (y : Str) : TS :=
  tSeq (tAsg tDNewK (gName 9)) (tSeq (tFor (iTup K (tVar 4)) (gTup K 4 (gCons (gName 5) (gCons (gName 6) (gCons (gName 7) (gCons (gName 8) gNil))))) (sDPut (tVar 9) (tVar 5) (tTup (tCons (tVar 6) (tCons (tVar 7) (tCons (tVar 8) tNil))))))
    (tRet (tFrz 9 (tCallG (fun B => PmB K T (spLeast P w K mg B T)) base cl [y] [9] [] C8.E0 (tCons (tVar 0) (tCons (tVar 1) (tCons (tVar 2) (tCons (tVar 3) (tCons (tLamN T G0 body) tNil)))))))))
theorem tr_lot {P : Program} {w : World} {K : PySem.W.Frag} {mg : Str → Option Value} {base : Heap} {T : List NTab} {G0 : Addr → NF} {body : Expr} {cl : List (Str × Addr)} {x y : Str} (W : LamGet P w K mg 2 G0 body cl x y) {ds : List PyData} {r : B} {N : List Str} (hN : N.length = 10) (h : spLot ds r) :
    Tr (Cf.pure K T) (lotTs P w K mg base T G0 body cl y) (initE N ds) () (.rt r ()) := by
  obtain ⟨zero, top, front, back, modes, rfl, ok, hf, hb, rfl⟩ := h
  have ei : initE N [.bool zero, .bool top, .str front, .str back, .tuple (modes.map encM)] = [.dat (.bool zero), .dat (.bool top), .dat (.str front), .dat (.str back), .dat (.tuple (modes.map encM)), .un, .un, .un, .un, .un] := by
    unfold initE
    rw [hN]
    rfl
  rw [ei]
  have mz := ok.z
  refine tr_seq (tr_asg dv_dnewK) ?_
  have tab := tr_for0 (C := Cf.pure K T) (s1 := ()) (g := gTup K 4 (gCons (gName 5) (gCons (gName 6) (gCons (gName 7) (gCons (gName 8) gNil))))) (ds := modes.map encM) (wi := iTup K (tVar 4))
    (p := sDPut (tVar 9) (tVar 5) (tTup (tCons (tVar 6) (tCons (tVar 7) (tCons (tVar 8) tNil)))))
    (env := [.dat (.bool zero), .dat (.bool top), .dat (.str front), .dat (.str back), .dat (.tuple (modes.map encM)), .un, .un, .un, .un, .odk []])
    (fun j => [.dat (.bool zero), .dat (.bool top), .dat (.str front), .dat (.str back), .dat (.tuple (modes.map encM)), .un, .un, .un, .un, .odk (tabM modes j)])
    (di_tup (s1 := ()) (dv_var rfl)) (.eq (.eq (.eq (.eq (.eq (.un (.un (.un (.un (.eqv (by simp [tabM]) .nil)))))))))) fun j d hd => by
      rw [List.getElem?_map] at hd
      cases hm : modes[j]? with
      | none =>
        rw [hm] at hd
        cases hd
      | some m =>
        rw [hm] at hd
        cases hd
        refine ⟨_, _, dg_tup (dgs_cons dg_name (dgs_cons dg_name (dgs_cons dg_name (dgs_cons dg_name dgs_nil)))) rfl, ?_⟩
        refine goes_nxW (tr_dput (C := Cf.pure K T) (q := tabM modes j) (k := .inr m.1) (i := 9) (d := rowM m) (s1 := ()) (s2 := ()) rfl (dv_tup (da_cons (dv_var rfl) (da_cons (dv_var rfl) (da_cons (dv_var rfl) da_nil))) (.cons rfl (.cons rfl (.cons rfl .nil))) (Nat.le_of_ble_eq_true rfl)) rfl (dv_var rfl) (Nat.lt_of_le_of_lt (tabM_len j) (by
          have := (List.getElem?_eq_some_iff.mp hm).1
          omega))) ?_
        exact .eq (.eq (.eq (.eq (.eq (.un (.un (.un (.un (.eqv (by rw [tabM_succ hm]) .nil)))))))))
  rw [List.length_map] at tab
  refine tr_seq tab ?_
  refine tr_retF (dv_lamW (C := Cf.pure K T) (k := 2) (q := tabM modes modes.length) (SB := fun B => spLeast P w K mg B T) (r := .dat (encL (leastLot zero top (.inr front) (.inr back) (modeView modes) (modeKeys modes)))) W rfl
    (dl_cons (dv_var rfl) (dl_cons (dv_var rfl) (dl_cons (dv_var rfl) (dl_cons (dv_var rfl) dl_last)))) (.dat rfl (.dat rfl (.dat rfl (.dat rfl .nil))))
    (fun B fp F1 => ⟨zero, top, .inr front, .inr back, modeView modes, modeKeys modes, _, fp, F1, rfl, fun k hk => ?_, modeKeys_name hf, modeKeys_name hb, modeView_closed ok, by unfold modeKeys; rw [List.length_map]; exact mz, rfl⟩) rfl)
  obtain ⟨m, hm, rfl⟩ := modeKeys_mem.mp hk
  obtain ⟨i, hi⟩ := List.mem_iff_getElem?.mp hm
  refine ⟨.inr m.1, _, rfl, tabM_val ok.nd modes.length hi (List.getElem?_eq_some_iff.mp hi).1 (Nat.le_refl _), ?_⟩
  rw [modeView_at ok.nd hm]
  rfl
end DV
set_option maxHeartbeats 1000000
namespace DV
open PySem PySem.Spec PyProof.Rows L2
/-! ### enumerate over a tuple -/
theorem enum1_new {v : Value} {o : Obj} {H : Heap → Prop} (G : Begins v o H) :
    Meets (Builtin.«enumerate.__new__» ⟨[.type "enumerate", v], []⟩) (fun _ R s => H s.heap ∧ R (.ok (.ret (.ref (s.heap.push o).objs.size))) { s with heap := (s.heap.push o).push { cls := .type "enumerate", data := .fields #[.none, .bool false, .ref s.heap.objs.size, rawInt 0, .none, .none] } }) :=
  .of_wp fun prog w A R s h => by
    obtain ⟨hp, gn, dr, tk, os⟩ := s
    obtain ⟨h1, h2⟩ := h
    have hs := sub_enumerate
    have q1 : ∀ {A' : Around} {E : Value → Shared → Prop} {Q : Value → Shared → Prop}, Q (.ref hp.objs.size) ⟨hp.push o, gn, dr, tk, os⟩ → wpAny (model prog w) A' (pyIter v) Q E ⟨hp, gn, dr, tk, os⟩ := fun q => G.iter prog w _ _ ⟨hp, gn, dr, tk, os⟩ _ h1 q
    wp_walk using q1
    refine wpAny_stack_any fun st => wpAny_pure ?_
    split
    · rename_i c _ _ _ _ _
      cases (c == Value.type "enumerate")
      · wp_walk using q1
        exact ⟨_, rfl, h2⟩
      · wp_walk using q1
        exact ⟨_, rfl, h2⟩
    · wp_walk using q1
      exact ⟨_, rfl, h2⟩
theorem enum1_call {prog : Program} {w : World} {A : Around} {E : Value → Shared → Prop} {s : Shared} {v : Value} {o : Obj} {H : Heap → Prop} {Q : Value → Shared → Prop} (G : Begins v o H) (h1 : H s.heap)
    (h : ∀ h', IsEnum h' (s.heap.objs.size + 1) s.heap.objs.size 0 .none → h'.get? s.heap.objs.size = some o → (∀ b o, s.heap.get? b = some o → h'.get? b = some o) → Q (.ref (s.heap.objs.size + 1)) { s with heap := h' }) :
    wpAny (model prog w) A (call (.type "enumerate") [v]) Q E s := by
  refine callType_new F.called_enumerate (by decide) (F.typeCall_enumerate_1 _) (F.newCall_enumerate_1 _) (fun obj => F.args_object_init_2 obj _) F.entry_enumerate_new (enum1_new G) ⟨h1, ?_⟩
  have hz : (s.heap.push o).objs.size = s.heap.objs.size + 1 := Heap.size_push ..
  show _ ∧ _
  rw [hz]
  have he : IsEnum ((s.heap.push o).push { cls := .type "enumerate", data := .fields #[.none, .bool false, .ref s.heap.objs.size, rawInt 0, .none, .none] }) (s.heap.objs.size + 1) s.heap.objs.size 0 .none := by
    have q := Heap.get?_push_size (s.heap.push o) (o := { cls := .type "enumerate", data := .fields #[.none, .bool false, .ref s.heap.objs.size, rawInt 0, .none, .none] }) rfl
    rw [hz] at q
    exact q
  exact ⟨⟨_, he, rfl⟩, h _ he (Heap.get?_push_of_some _ (Heap.get?_push_size _ G.free)) fun b u x => Heap.get?_push_of_some _ (Heap.get?_push_of_some _ x)⟩
def Item (K : PySem.W.Frag) (a : Addr) : It :=
  ⟨fun i H => ∃ (xs : List V) (x : V), SqT K H a xs ∧ xs[i]? = some x, fun i H v H' => ∃ p x, v = .ref p ∧ H p = none ∧ H' = upd H p (.tup [.int (i : Nat), x]) ∧ ∀ xs, SqT K H a xs → xs[i]? = some x, fun i H => ∃ xs : List V, SqT K H a xs ∧ xs.length ≤ i⟩
theorem turn_item {P : Program} {w : World} {K : PySem.W.Frag} {elts : List Expr} {kk : Nat} {tpos : Pos} (a e it : Addr) :
    Turn P w K (.Tuple elts kk tpos) (Item K a) [e, it] e (fun i h => (∃ old, IsEnum h e it ((i : Nat) : Int) old) ∧ h.IsTupleIter it a i ∧ e ≠ it ∧ a ≠ it ∧ e ≠ a) where
  mem := by simp
  obj := fun i h st b hb => by
    obtain ⟨⟨old, he⟩, ⟨o, ho, hc, hd⟩, _⟩ := st
    rcases List.mem_cons.mp hb with z | hb
    · rw [z]
      exact ⟨_, he, fun v q => nomatch q⟩
    · rw [List.mem_singleton.mp hb]
      exact ⟨o, ho, fun v q => by rw [hd] at q; cases q⟩
  keep := fun i h h' st k => let ⟨⟨old, he⟩, hi, hne⟩ := st; ⟨⟨old, k e (by simp) _ he⟩, hi.at fun o q => k it (by simp) o q, hne⟩
  item := by
    intro X hP hw hK hc i pins s σ H E I hf st hg
    subst hP hw hK
    obtain ⟨⟨old, he⟩, hit, hne, hai, hea⟩ := st
    obtain ⟨xs, x, hq, hx⟩ := hg
    obtain ⟨its, rv, p, hz⟩ := I.tuple hq
    obtain ⟨u, hu, ru⟩ := rv.get hx
    have p : s.heap.IsTuple a its.toArray := p
    have hel : e < s.heap.objs.size := Heap.lt_size he
    have hil : it < s.heap.objs.size := by obtain ⟨_, q, _⟩ := hit; exact Heap.lt_size q
    have hi : i < its.toArray.size := by
      have := (List.getElem?_eq_some_iff.mp hu).1
      simpa using this
    have hef : e ∉ [it, a] := fun z => (List.mem_cons.mp z).elim hne fun z => hea (List.mem_singleton.mp z)
    refine wpAny_pyNext_enum_itemD (Draws.tuple (A := X.A.in1) (I.ok.hd hc) it a hai its.toArray) he ⟨hit, p⟩ hi hne hef fun x' h' tk hP ho hst hT hsz hk => ?_
    have hx' : x' = u := by
      have z : its.toArray[i]? = some x' := hP
      simp only [List.getElem?_toArray] at z
      rw [hu] at z
      exact (Option.some.inj z).symm
    subst hx'
    refine ⟨_, rfl, wpAny_letOwnedTupleGo_enum (s := { s with heap := h', toks := tk + 1 }) ho fun h'' he' sb => ?_⟩
    have hT2 : h''.get? s.heap.objs.size = some { cls := .type "tuple", data := .seq #[.int i tk, x'] } := (sb.2 _ (Nat.ne_of_gt hel)).trans hT
    have new : ObjOk X.prog X.w (upd H s.heap.objs.size (.tup [.int (i : Nat), x])) h'' s.heap.objs.size (.tup [.int (i : Nat), x]) :=
      ⟨by show 2 ≤ sizeLine; decide, [.int i tk, x'], .cons ⟨_, rfl⟩ (.cons ru .nil), ⟨_, hT2, rfl, _, rfl⟩⟩
    have I1 : Inv X pins σ (upd H s.heap.objs.size (.tup [.int (i : Nat), x])) { s with heap := h'', toks := tk + 1 } :=
      I.turnedNew (ch := [e, it]) (fun b ob hb q => (sb.2 b (fun z => hb (by simp [z]))).trans (hk b ob (fun z => hb (by simp [z])) (fun z => hb (by simp [z])) q)) hf (Nat.le_refl _) new
    refine ⟨.ref s.heap.objs.size, _, I1, rfl, ⟨_, x, rfl, I.hok.fresh (Nat.le_refl _), rfl, fun ys hy => by rw [I.tuple_inj hy hq]; exact hx⟩, ⟨⟨x', ?_⟩, hst.1.at fun o q => (sb.2 it (Ne.symm hne)).trans q, hne, hai, hea⟩, fun b hb => ?_⟩
    · have e1 : ((i + 1 : Nat) : Int) = (i : Int) + 1 := by omega
      rw [e1]
      exact he'
    · have hb' : b < s.heap.objs.size := by
        rcases List.mem_cons.mp hb with z | z
        · rw [z]; exact hel
        · rw [List.mem_singleton.mp z]; exact hil
      rw [upd_ne (Nat.ne_of_lt hb')]
      exact (hf b hb).1
  done := by
    intro X hP hw hK hc i pins s σ H E I hf st hg
    subst hP hw hK
    obtain ⟨⟨old, he⟩, hit, hne, hai, hea⟩ := st
    obtain ⟨xs, hq, hx⟩ := hg
    obtain ⟨its, rv, p, hz⟩ := I.tuple hq
    obtain ⟨f0, f1, f2, f3, f4, f5⟩ := hf it (by simp)
    have hl := rv.length
    have p : s.heap.IsTuple a its.toArray := p
    have D : Draws X.prog X.w X.A.in1 it [it, a] i (fun _ _ => False) (fun j h => h.IsTupleIter it a j ∧ h.IsTuple a its.toArray ∧ j = i) :=
      { live := fun _ _ st => let ⟨o, ho, _⟩ := st.1; ⟨o, ho⟩
        frame := fun _ _ _ st hk => ⟨st.1.at fun o e => hk it (by simp) o e, st.2.1.at fun o e => hk a (by simp) o e, st.2.2⟩
        item := fun j s Q E hj st _ => absurd hj (by rw [st.2.2]; exact Nat.lt_irrefl _)
        done := fun s Q E st hE => wpAny_nextOf_tuple_end (A := X.A.in1) (I.ok.hd hc) st.1 st.2.1 (by simp; omega) hE }
    exact wpAny_pyNext_enum_endD D he ⟨hit, p, rfl⟩ fun h' eb => ⟨rfl, I.turned (t' := s.toks) (fun b o hb q => eb b o hb q) f0 f1 f3 f4 f5⟩
  self := fun A i s Q E st h => let ⟨⟨_, he⟩, _⟩ := st; wpAny_pyIter_enum he h
def iEnumT (K : PySem.W.Frag) (ta : TA) : TI := fun σ H R => ta σ H fun vs H1 => ∃ a xs, vs = [.ref a] ∧ SqT K H1 a xs ∧ R (Item K a) H1
theorem pi_enumT {X : Cx} (K : PySem.W.Frag) {e : Expr} {ta : TA} {p pos tpos : Pos} {elts : List Expr} {kk : Nat} (hg : Gl X "enumerate") (hm : X.mg "enumerate" = none) (ha : PA X [e] ta) (hK : X.K = K := by rfl) (hs : starEach [e] X.env = [(false, eval e X.env)] := by rfl) :
    PI X (.Tuple elts kk tpos) (.Call (.Name "enumerate" p) [e] [] pos) (iEnumT K ta) := by
  subst hK
  refine ⟨fun pins s σ H R I h => ?_⟩
  refine Call_ (ld_blt I hg hm boot_enumerate (PyProof.Rows.callWith_type1 (thn (ha.run pos pins s σ H _ I h) fun us s1 ⟨vs, H1, I1, r1, q1⟩ => ?_) hs rfl))
  obtain ⟨a, xs, ex, hq, q⟩ := q1
  subst ex
  cases r1 with
  | cons r rr =>
    cases rr
    cases r
    obtain ⟨its, rv, p', hz⟩ := I1.tuple hq
    have p' : s1.heap.IsTuple a its.toArray := p'
    have la : a < s1.heap.objs.size := by
      obtain ⟨o, ho, _⟩ := p'
      exact Heap.lt_size ho
    refine enum1_call (begins_tuple a its.toArray) p' fun h' he hit hk => wpAny_pyIter_enum he ?_
    have I2 : Inv X pins σ H1 { s1 with heap := h' } := I1.kept (t' := s1.toks) hk
    refine ⟨s1.heap.objs.size + 1, [s1.heap.objs.size + 1, s1.heap.objs.size], _, _, H1, rfl, I2, turn_item a (s1.heap.objs.size + 1) s1.heap.objs.size, ⟨⟨.none, he⟩, ⟨_, hit, rfl, rfl⟩, Nat.succ_ne_self _, Nat.ne_of_lt la, fun z => ?_⟩, fun b hb => ?_, q⟩
    · rw [← z] at la
      exact absurd la (Nat.not_lt_of_le (Nat.le_succ _))
    · have hle : s1.heap.objs.size ≤ b := by
        rcases List.mem_cons.mp hb with z | z
        · rw [z]; exact Nat.le_succ _
        · rw [List.mem_singleton.mp z]; exact Nat.le_refl _
      exact I1.fpOk hle (I1.hok.fresh hle)
section
variable {C : Cf} {env : Env} {s s1 : C.w.S} {ds : List PyData}
theorem ylds_enumT {F : Hp} {a : Addr} {xs : List V} (h : SqT C.K F a xs) (hd : DaAll C.K F xs ds) : Ylds C (Item C.K a) F (enumD ds) := fun F' H' le sub tab => by
  have hq : SqT C.K H' a xs := sqT_le (le.trans sub.le) h
  refine ⟨fun i d e => ?_, fun i hi => ⟨xs, hq, by rw [dps_len hd, ← enumD_len]; exact hi⟩⟩
  obtain ⟨w, e1, rfl⟩ := enumD_get e
  obtain ⟨v, h1, h2⟩ := dps_get hd e1
  refine ⟨⟨xs, v, hq, h1⟩, fun x H2 ⟨p, x', ex, hp, eH, hx⟩ => ?_⟩
  have h3 := hx xs hq
  rw [h1] at h3
  cases h3
  subst ex
  subst eH
  exact pair_new sub tab hp (.int _) (dp_le le _ _ h2)
theorem di_enumT {ta : TA} (h : DvA C ta env s [.dat (.tuple ds)] s1) : Di C (iEnumT C.K ta) env s (enumD ds) s1 := fun F0 H0 σ F H e R r => h F0 H0 σ F H e _ fun vs F1 H1 e1 h1 b1 => by
  obtain ⟨v, rfl, bv⟩ := ball1 b1
  obtain ⟨a, xs, rfl, q1, q2⟩ := dp_tupI bv
  exact ⟨a, xs, rfl, sqT_le e1.sub.le q1, r _ F1 H1 e1 h1 (ylds_enumT q1 q2)⟩
end
end DV
set_option maxHeartbeats 1000000
namespace DV
open PySem PySem.Spec PyProof.Rows L2 LamX NdefX
set_option exponentiation.threshold 2000
/-! ### numbers that are not long -/
theorem str_len {n : Int} (h0 : 0 ≤ n) {k : Nat} (hk : 0 < k) (h : n.natAbs < 10 ^ k) : (Str.ofString (toString n)).length ≤ k := by
  obtain ⟨m, rfl⟩ := Int.eq_ofNat_of_zero_le h0
  have h : m < 10 ^ k := by simpa using h
  have e : (Str.ofString (toString ((m : Nat) : Int))).cps.toList = (Nat.toDigits 10 m).map Char.toNat := by
    exact PySem.W.KIN.signs_num m
  show (Str.ofString (toString ((m : Nat) : Int))).cps.size ≤ k
  rw [← Array.length_toList, e, List.length_map]
  have q := (Nat.length_repr_le_iff (n := m) hk).mpr h
  rwa [← String.length_toList, Nat.toList_repr] at q
abbrev rStrLen : List V → Hp → VK → Prop := fun xs H Q => ∃ z, xs = [V.str z] ∧ z.length ≤ sizeLine ∧ Q (V.int (z.length : Int)) H
abbrev rStrInt : List V → Hp → VK → Prop := fun xs H Q => ∃ i, xs = [V.int i] ∧ i.natAbs.log2 < 1920 ∧ Q (V.str (Str.ofString (toString i))) H
abbrev rAbs : List V → Hp → VK → Prop := fun xs H Q => ∃ i, xs = [V.int i] ∧ Q (V.int (if i < 0 then -i else i)) H
section
variable {C : Cf} {env : Env} {s s1 s2 : C.w.S}
theorem rcb_strLen {x : Str} (h : x.length ≤ 100000) : Rcb C rStrLen [.dat (.str x)] (.dat (.int (x.length : Int))) := fun H1 F H vs s t m hb Q q => by
  obtain ⟨v, rfl, b⟩ := ball1 hb
  cases b
  exact ⟨x, rfl, sz_of _ h, q _ F H (.refl s t) (.int _)⟩
theorem log2_lt {n : Nat} {k : Nat} (hk : 0 < k) (h : n < 2 ^ k) : n.log2 < k := PySem.Flt.log2_lt_of hk h
theorem pow300 : (10 : Nat) ^ 300 < 2 ^ 997 := by decide +kernel
theorem rcb_strInt {i : Int} (h : i.natAbs < 10 ^ 300) : Rcb C rStrInt [.dat (.int i)] (.dat (.str (Str.ofString (toString i)))) := fun H1 F H vs s t m hb Q q => by
  obtain ⟨v, rfl, b⟩ := ball1 hb
  cases b
  exact ⟨i, rfl, Nat.lt_of_lt_of_le (log2_lt (by decide) (Nat.lt_trans h pow300)) (by decide), q _ F H (.refl s t) (.str _)⟩
theorem rcb_abs {i : Int} : Rcb C rAbs [.dat (.int i)] (.dat (.int (i.natAbs : Int))) := fun H1 F H vs s t m hb Q q => by
  obtain ⟨v, rfl, b⟩ := ball1 hb
  cases b
  refine ⟨i, rfl, ?_⟩
  have e : (if i < 0 then -i else i) = (i.natAbs : Int) := by split <;> omega
  rw [e]
  exact q _ F H (.refl s t) (.int _)
theorem dv_bits {to : TE} {i : Int} (h : Dv C to env s (.dat (.int i)) s1) : Dv C (tBits to) env s (.dat (.int (Builtin.Int.intBits i : Nat))) s1 := fun F0 H0 σ F H e Q q => h F0 H0 σ F H e _ fun v F1 H1 e1 h1 b1 => by
  cases b1
  exact ⟨i, rfl, q _ F1 H1 e1 h1 (.int _)⟩
theorem rcb_any {b : B} {bs : List Bool} (hb : b.lst = some (bs.map .bool)) : Rcb C (rAny C.K) [b] (.dat (.bool (bs.any id))) := fun H1 F H vs s t m h Q q => by
  obtain ⟨v, rfl, bb⟩ := ball1 h
  obtain ⟨a, xs, rfl, h1, h2⟩ := bb.lst s hb
  have e : xs = bs.map V.bl := by
    clear q h1 bb hb h
    induction bs generalizing xs with
    | nil => cases h2; rfl
    | cons c bs ih =>
      cases h2 with
      | cons x1 x2 =>
        cases x1
        rw [ih _ x2]
        rfl
  exact ⟨a, bs, rfl, by rw [← e]; exact h1, q _ F H (.refl s t) (.bl _)⟩
theorem rcb_gcd {a b : Int} : Rcb C rGcd [.dat (.int a), .dat (.int b)] (.dat (.int ((Nat.gcd a.natAbs b.natAbs : Nat) : Int))) := fun H1 F H vs s t m h Q q => by
  cases h with
  | cons h1 h2 =>
    cases h2 with
    | cons h3 h4 =>
      cases h4
      cases h1
      cases h3
      exact ⟨a, b, rfl, q _ F H (.refl s t) (.int _)⟩
theorem tr_aug {i : Nat} {te : TE} {a b : Int} {f : Int → Int → Int} (h : env[i]? = some (.dat (.int a))) (he : Dv C te env s (.dat (.int b)) s1) : Tr C (tAug i te (ipI f)) env s (.nx (env.set i (.dat (.int (f a b)))) s1) := fun F0 H0 σ F H e D k => by
  obtain ⟨v, h1, h2⟩ := e.at h (by intro z; cases z)
  cases h2
  refine ⟨.int a, h1, he F0 H0 σ F H e _ fun w F1 H1 e1 o1 b1 => ?_⟩
  cases b1
  exact ⟨a, b, rfl, rfl, k _ F1 H1 (e.put e1 o1 i (b := .dat (.int (f a b))) rfl (.int _))⟩
end
def isLongTs : TS := tRet (tOrV (tOp (rI0 fun i j => V.bl (decide (j < i))) (tBits (tVar 0)) (tC (V.int 997))) (tOp (rI0 fun i j => V.bl (decide (j < i))) (tCB rStrLen (tCons (tCB rStrInt (tCons (tCB rAbs (tCons (tVar 0) tNil)) tNil)) tNil)) (tC (V.int 300))))
def spIsLong (ds : List PyData) (r : B) : Prop := ∃ n : Int, ds = [.int n] ∧ n.natAbs < 10 ^ 300 ∧ r = .dat (.bool false)
section
variable {K : PySem.W.Frag} {T : List NTab} {ds : List PyData} {r : B} {N : List Str}
theorem bits_le {n : Int} (h : n.natAbs < 10 ^ 300) : Builtin.Int.intBits n ≤ 997 := by
  have h2 := log2_lt (k := 997) (by decide) (Nat.lt_trans h pow300)
  unfold Builtin.Int.intBits
  split <;> omega
theorem tr_isLong (hN : N.length = 1) (h : spIsLong ds r) : Tr (Cf.pure K T) isLongTs (initE N ds) () (.rt r ()) := by
  obtain ⟨n, rfl, hn, rfl⟩ := h
  have ei : initE N [.int n] = [.dat (.int n)] := by
    unfold initE
    rw [hN]
    rfl
  rw [ei]
  have hl := str_len (n := (n.natAbs : Int)) (by omega) (k := 300) (by decide) (by simpa using hn)
  have hb := bits_le hn
  refine tr_ret (dv_is (dv_orV (a := false) (b := false) (dv_is (dv_op (dv_bits (dv_var rfl)) dv_int rop_IB) (by rw [decide_eq_false (by omega)])) fun _ => dv_is (dv_op (dv_cb (da_cons (dv_cb (da_cons (dv_cb (da_cons (dv_var rfl) da_nil) rcb_abs) da_nil) (rcb_strInt (by simpa using hn))) da_nil) (rcb_strLen (by omega))) dv_int rop_IB) (by rw [decide_eq_false (by omega)])) rfl)
end
end DV
set_option maxHeartbeats 1000000
set_option exponentiation.threshold 2000
namespace DV
open PySem PySem.Spec PyProof.Rows L2 LamX NdefX
/-! ### fractions and ways: readings -/
def Small (n : Int) : Prop := n.natAbs < 10 ^ 140
theorem small300 {n : Int} (h : Small n) : n.natAbs < 10 ^ 300 := Nat.lt_trans h (by decide +kernel)
theorem pow140 : (10 : Nat) ^ 140 < 2 ^ 500 := by decide +kernel
theorem small_mul {i j : Int} (hi : Small i) (hj : Small j) : CMulW i j := wide_mul (a := 500) (b := 500) (Nat.lt_trans hi pow140) (Nat.lt_trans hj pow140) (by decide) (by decide) (by decide)
theorem small_div {i j : Int} (h : 0 < j) (hj : j.natAbs < 10 ^ 300) : CDivW i j := wide_div (b := 997) h (Nat.lt_trans hj pow300) (by decide) (by decide)
def notLongTs (K : PySem.W.Frag) (T : List NTab) : TS := tSeq (tIfS (tB (tCB (rAny K) (tCons (tLc (iTup K (tVar 0)) (gName 1) tYes (tCall (Pm K T spIsLong) [] C8.E0 (tCons (tVar 1) tNil)) [1]) tNil))) tNever tNext) (tRet (tVar 0))
def spNotLong (ds : List PyData) (r : B) : Prop := ∃ ns : List Int, ds = [.tuple (ns.map .int)] ∧ (∀ n ∈ ns, n.natAbs < 10 ^ 300) ∧ ns.length ≤ 10 ∧ r = .dat (.tuple (ns.map .int))
section
variable {K : PySem.W.Frag} {T : List NTab} {ds : List PyData} {r : B} {N : List Str}
theorem init_eq {K : PySem.W.Frag} {T : List NTab} {ts : TS} {o : Out (Cf.pure K T)} {n : Nat} (hN : N.length = n) (h : Tr (Cf.pure K T) ts (ds.map .dat ++ List.replicate (n - ds.length) .un) () o) : Tr (Cf.pure K T) ts (initE N ds) () o := by
  unfold initE
  rw [hN]
  exact h
theorem tr_notLong (hN : N.length = 2) (h : spNotLong ds r) : Tr (Cf.pure K T) (notLongTs K T) (initE N ds) () (.rt r ()) := by
  obtain ⟨ns, rfl, hn, hz, rfl⟩ := h
  refine init_eq hN ?_
  show Tr (Cf.pure K T) (notLongTs K T) [.dat (.tuple (ns.map .int)), .un] () _
  have lc := dv_lcM (C := Cf.pure K T) (s1 := ()) (env := [.dat (.tuple (ns.map .int)), .un]) (wi := iTup K (tVar 0)) (g := gName 1) (tt := tYes) (te := tCall (Pm K T spIsLong) [] C8.E0 (tCons (tVar 1) tNil)) (vs := [1]) ns .int (fun _ => .bool false) (di_tup (dv_var rfl)) rfl (by omega) rfl
    fun n hm => ⟨_, _, dg_name, by decide, _, pm_call (C := Cf.pure K T) (S := spIsLong) (da_cons (dv_var rfl) da_nil) (.cons rfl .nil) ⟨n, rfl, hn n hm, rfl⟩ rfl, rfl⟩
  have e : ns.map (fun _ => PyData.bool false) = (ns.map fun _ => false).map .bool := by rw [List.map_map]; rfl
  rw [e] at lc
  have ea : (ns.map fun _ => false).any id = false := by simp
  refine tr_seq (tr_if (dt_B (dv_is (dv_cb (da_cons lc da_nil) (rcb_any (C := Cf.pure K T) rfl)) (by rw [ea]))) (fun z => by cases z) (fun _ => tr_next)) (tr_ret (dv_var rfl))
end
def fracTs (K : PySem.W.Frag) (T : List NTab) : TS := tSeq (tAsg (tCB rGcd (tCons (tVar 0) (tCons (tVar 1) tNil))) (gName 2)) (tSeq (tAsg (tIf (tOr (tTest (tOp (rI0 fun i j => V.bl (decide (i < j))) (tVar 1) (tC (V.int 0)))) (tAnd (tTest (tOp (rEqD K) (tVar 1) (tC (V.int 0)))) (tTest (tOp (rI0 fun i j => V.bl (decide (i < j))) (tVar 0) (tC (V.int 0)))))) (tUn (rU fun i => V.int (-i)) (tVar 2)) (tVar 2)) (gName 2)) (tRet (tCall (Pm K T spNotLong) [] C8.E0 (tCons (tTup (tCons (tOp (rI CDivW fun i j => V.int (i / j)) (tVar 0) (tVar 2)) (tCons (tOp (rI CDivW fun i j => V.int (i / j)) (tVar 1) (tVar 2)) tNil))) tNil))))
/-- in lowest terms, the bottom above 0 -/
def lowest (a b : Int) : Int × Int := (a / (Nat.gcd a.natAbs b.natAbs : Nat), b / (Nat.gcd a.natAbs b.natAbs : Nat))
def spFrac (ds : List PyData) (r : B) : Prop := ∃ a b : Int, ds = [.int a, .int b] ∧ 0 < b ∧ a.natAbs < 10 ^ 300 ∧ b.natAbs < 10 ^ 300 ∧ r = .dat (.tuple [.int (lowest a b).1, .int (lowest a b).2])
theorem div_small {a : Int} {g : Nat} (hg : 0 < g) (h : a.natAbs < 10 ^ 300) : (a / (g : Int)).natAbs < 10 ^ 300 := by
  exact Nat.lt_of_le_of_lt (by first | exact Int.natAbs_ediv_le_natAbs a g | exact Int.natAbs_div_le_natAbs a g) h
section
variable {K : PySem.W.Frag} {T : List NTab} {ds : List PyData} {r : B} {N : List Str}
theorem tr_frac (hN : N.length = 3) (h : spFrac ds r) : Tr (Cf.pure K T) (fracTs K T) (initE N ds) () (.rt r ()) := by
  obtain ⟨a, b, rfl, hb, ha3, hb3, rfl⟩ := h
  refine init_eq hN ?_
  show Tr (Cf.pure K T) (fracTs K T) [.dat (.int a), .dat (.int b), .un] () _
  have gp : 0 < Nat.gcd a.natAbs b.natAbs := Nat.gcd_pos_of_pos_right _ (by omega)
  have gs : (Nat.gcd a.natAbs b.natAbs) < 10 ^ 300 := Nat.lt_of_le_of_lt (Nat.gcd_le_right _ (by omega)) hb3
  refine tr_seq (tr_asg (dv_cb (da_cons (dv_var rfl) (da_cons (dv_var rfl) da_nil)) rcb_gcd)) ?_
  refine tr_seq (tr_asg (b := .dat (.int ((Nat.gcd a.natAbs b.natAbs : Nat) : Int))) (dv_if (b := false) (dt_is (dt_or0 (a := false) (b := false) (dt_is (dt_test (dv_op (dv_var rfl) dv_int rop_IB)) (decide_eq_false (by omega))) fun _ => dt_is (dt_and0 (a := false) (b := false) (dt_is (dt_test (dv_op (dv_var rfl) dv_int (rop_eqD rfl rfl rfl rfl))) (by show decide (b = 0) = false; exact decide_eq_false (by omega))) fun z => by cases z) rfl) rfl)
    (fun z => by cases z) fun _ => dv_var rfl)) ?_
  refine tr_ret (pm_call (C := Cf.pure K T) (S := spNotLong) (da_cons (dv_tup (da_cons (dv_op (dv_var rfl) (dv_var rfl) (rop_IIc (small_div (by omega) (by simpa using gs)))) (da_cons (dv_op (dv_var rfl) (dv_var rfl) (rop_IIc (small_div (by omega) (by simpa using gs)))) da_nil)) (.cons rfl (.cons rfl .nil)) (Nat.le_of_ble_eq_true rfl)) da_nil) (.cons rfl .nil)
    ⟨[a / (Nat.gcd a.natAbs b.natAbs : Nat), b / (Nat.gcd a.natAbs b.natAbs : Nat)], rfl, fun n hn => ?_, Nat.le_of_ble_eq_true rfl, rfl⟩ rfl)
  rcases List.mem_cons.mp hn with e | hn
  · rw [e]; exact div_small gp ha3
  · rw [List.mem_singleton.mp hn]; exact div_small gp hb3
end
/-! floors, maps -/
def floorTs (K : PySem.W.Frag) : TS := tSeq (tIfS (tTest (tOp (rEqD K) (tCB (rLenS K) (tCons (tVar 0) tNil)) (tC (V.int 2)))) (tRet (tOp (rI CDivW fun i j => V.int (i / j)) (tOp (rIxT K) (tVar 0) (tC (V.int 0))) (tOp (rIxT K) (tVar 0) (tC (V.int 1))))) tNext) (tSeq tNever tNever)
def spFloor (ds : List PyData) (r : B) : Prop := ∃ a b : Int, ds = [.tuple [.int a, .int b]] ∧ 0 < b ∧ b.natAbs < 10 ^ 300 ∧ r = .dat (.int (a / b))
def belowTs (K : PySem.W.Frag) (T : List NTab) : TS := tRet (tOp (rI0 fun i j => V.bl (decide (i < j))) (tCall (Pm K T spFloor) [] C8.E0 (tCons (tVar 0) tNil)) (tC (V.int 0)))
def spBelow (ds : List PyData) (r : B) : Prop := ∃ a b : Int, ds = [.tuple [.int a, .int b]] ∧ 0 < b ∧ b.natAbs < 10 ^ 300 ∧ r = .dat (.bool (decide (a / b < 0)))
def mapTs (K : PySem.W.Frag) (T : List NTab) : TS := tSeq (tIfS (tTest (tOp (rEqD K) (tCB (rLenS K) (tCons (tVar 1) tNil)) (tC (V.int 4)))) tNever tNext) (tSeq (tAsg (tVar 0) (gTup K 4 (gCons (gName 2) (gCons (gName 3) (gCons (gName 4) (gCons (gName 5) gNil)))))) (tSeq (tAsg (tVar 1) (gTup K 2 (gCons (gName 6) (gCons (gName 7) gNil)))) (tRet (tCall (Pm K T spFrac) [] C8.E0 (tCons (tOp (rI0 fun i j => V.int (i + j)) (tOp (rI CMulW fun i j => V.int (i * j)) (tVar 2) (tVar 6)) (tOp (rI CMulW fun i j => V.int (i * j)) (tVar 3) (tVar 7))) (tCons (tOp (rI0 fun i j => V.int (i + j)) (tOp (rI CMulW fun i j => V.int (i * j)) (tVar 4) (tVar 6)) (tOp (rI CMulW fun i j => V.int (i * j)) (tVar 5) (tVar 7))) tNil))))))
def spMap (ds : List PyData) (r : B) : Prop := ∃ a b c d t u : Int, ds = [.tuple [.int a, .int b, .int c, .int d], .tuple [.int t, .int u]] ∧ Small a ∧ Small b ∧ Small c ∧ Small d ∧ Small t ∧ Small u ∧ 0 < c * t + d * u ∧ r = .dat (.tuple [.int (lowest (a * t + b * u) (c * t + d * u)).1, .int (lowest (a * t + b * u) (c * t + d * u)).2])
theorem small_sum {a b t u : Int} (ha : Small a) (hb : Small b) (ht : Small t) (hu : Small u) : (a * t + b * u).natAbs < 10 ^ 300 := by
  unfold Small at ha hb ht hu
  have h1 : (a * t).natAbs ≤ 10 ^ 280 := by
    rw [Int.natAbs_mul]
    exact Nat.le_trans (Nat.mul_le_mul (Nat.le_of_lt ha) (Nat.le_of_lt ht)) (by decide +kernel)
  have h2 : (b * u).natAbs ≤ 10 ^ 280 := by
    rw [Int.natAbs_mul]
    exact Nat.le_trans (Nat.mul_le_mul (Nat.le_of_lt hb) (Nat.le_of_lt hu)) (by decide +kernel)
  have h3 := Int.natAbs_add_le (a * t) (b * u)
  have h4 : (10 : Nat) ^ 280 + 10 ^ 280 < 10 ^ 300 := by decide +kernel
  exact Nat.lt_of_le_of_lt (Nat.le_trans h3 (Nat.add_le_add h1 h2)) h4
section
variable {K : PySem.W.Frag} {T : List NTab} {ds : List PyData} {r : B} {N : List Str}
theorem tr_floor (hN : N.length = 2) (h : spFloor ds r) : Tr (Cf.pure K T) (floorTs K) (initE N ds) () (.rt r ()) := by
  obtain ⟨a, b, rfl, hb, hb3, rfl⟩ := h
  refine init_eq hN ?_
  show Tr (Cf.pure K T) (floorTs K) [.dat (.tuple [.int a, .int b]), .un] () _
  exact tr_seqR (tr_if (c := true) (dt_is (dt_test (dv_op (dv_cb (da_cons (dv_var rfl) da_nil) rcb_lenT) dv_int (rop_eqD rfl rfl rfl rfl))) rfl) (fun _ => tr_ret (dv_op (dv_op (dv_var rfl) dv_int (rop_ixT (d := .int a) rfl)) (dv_op (dv_var rfl) dv_int (rop_ixT (d := .int b) rfl)) (rop_IIc (small_div hb hb3)))) fun z => by cases z)
theorem tr_below (hN : N.length = 1) (h : spBelow ds r) : Tr (Cf.pure K T) (belowTs K T) (initE N ds) () (.rt r ()) := by
  obtain ⟨a, b, rfl, hb, hb3, rfl⟩ := h
  refine init_eq hN ?_
  show Tr (Cf.pure K T) (belowTs K T) [.dat (.tuple [.int a, .int b])] () _
  exact tr_ret (dv_op (pm_call (C := Cf.pure K T) (S := spFloor) (r := .dat (.int (a / b))) (da_cons (dv_var rfl) da_nil) (.cons rfl .nil) ⟨a, b, rfl, hb, hb3, rfl⟩ rfl) dv_int rop_IB)
theorem tr_map (hN : N.length = 8) (h : spMap ds r) : Tr (Cf.pure K T) (mapTs K T) (initE N ds) () (.rt r ()) := by
  obtain ⟨a, b, c, d, t, u, rfl, ha, hb, hc, hd, ht, hu, hp, rfl⟩ := h
  refine init_eq hN ?_
  show Tr (Cf.pure K T) (mapTs K T) [.dat (.tuple [.int a, .int b, .int c, .int d]), .dat (.tuple [.int t, .int u]), .un, .un, .un, .un, .un, .un] () _
  refine tr_seq (tr_if (c := false) (dt_is (dt_test (dv_op (dv_cb (da_cons (dv_var rfl) da_nil) rcb_lenT) dv_int (rop_eqD rfl rfl rfl rfl))) rfl) (fun z => by cases z) fun _ => tr_next) ?_
  refine tr_seq (tr_asgT (dv_var rfl) rfl (dg_tup (dgs_cons dg_name (dgs_cons dg_name (dgs_cons dg_name (dgs_cons dg_name dgs_nil)))) rfl)) ?_
  refine tr_seq (tr_asgT (dv_var rfl) rfl (dg_tup (dgs_cons dg_name (dgs_cons dg_name dgs_nil)) rfl)) ?_
  exact tr_ret (pm_call (C := Cf.pure K T) (S := spFrac) (da_cons (dv_op (dv_op (dv_var rfl) (dv_var rfl) (rop_IIc (small_mul ha ht))) (dv_op (dv_var rfl) (dv_var rfl) (rop_IIc (small_mul hb hu))) rop_II) (da_cons (dv_op (dv_op (dv_var rfl) (dv_var rfl) (rop_IIc (small_mul hc ht))) (dv_op (dv_var rfl) (dv_var rfl) (rop_IIc (small_mul hd hu))) rop_II) da_nil)) (.cons rfl (.cons rfl .nil))
    ⟨_, _, rfl, hp, small_sum ha hb ht hu, small_sum hc hd ht hu, rfl⟩ rfl)
end
end DV
set_option maxHeartbeats 1000000
set_option exponentiation.threshold 2000
namespace DV
open PySem PySem.Spec PyProof.Rows L2 LamX NdefX
/-! ### ways: readings -/
/-- a list that is handed through -/
def spSame : Sp := fun vs H Q _ => ∃ a xs, vs = [.ref a] ∧ H a = some (.lst xs) ∧ xs.length < 200 ∧ Q (.ref a) H
def sameTs (K : PySem.W.Frag) : TS := tSeq (tIfS (tTest (tOp (rI0 fun i j => V.bl (decide (j ≤ i))) (tCB (rLenS K) (tCons (tVar 0) tNil)) (tC (V.int 200)))) tNever tNext) (tRet (tVar 0))
theorem same_rd {K : PySem.W.Frag} {vs : List V} {H : Hp} {Q : VK} {E : XK} (h : spSame vs H Q E) {N : List Str} (hN : N.length = 1) : sameTs K { nx := fun _ H' => Q .non H', rt := Q } (L2.start N vs) H := by
  obtain ⟨a, xs, rfl, ha, hz, hQ⟩ := h
  have e : L2.start N [V.ref a] = [some (.ref a)] := by
    unfold L2.start
    rw [hN]
    rfl
  rw [e]
  refine ⟨_, rfl, a, xs, rfl, .inl (.of ha), _, _, rfl, rfl, _, rfl, ?_⟩
  rw [decide_eq_false (by omega)]
  exact ⟨_, rfl, hQ⟩
section
variable {C : Cf} {env : Env} {s s1 : C.w.S} {ds : List PyData} {b : B} {d : PyData} {te : TE}
theorem tr_appV {i : Nat} (h : env[i]? = some (.own ds)) (he : Dv C te env s b s1) (k : b.toD = some d) (n : ds.length < 200) :
    Tr C (tDrop (tBM C.K "list" rAppend (tCall spSame [] C8.E0 (tCons (tVar i) tNil)) (tCons te tNil))) env s (.nx (env.set i (.own (ds ++ [d]))) s1) := fun F0 H0 σ F H e D on => by
  obtain ⟨a, xs, h1, h2, h3, h4, h5, h6⟩ := e.ownAt h
  refine ⟨.ref a, h1, a, xs, rfl, h5, by rw [dps_len h6]; exact n, .inl ⟨rfl, xs, .of h5⟩, dv_freeze he k F0 H0 σ F H e _ fun v F1 H1 e1 o1 b1 => ?_⟩
  have e2 := e.go e1 o1
  have h5' : H1 a = some (.lst xs) := e1.hx a _ h5 nt_lst h3
  have h4' : F1 a = none := (e1.fr a _ h5).trans h4
  refine ⟨a, xs, v, rfl, rfl, h5', lt_sz (by rw [dps_len h6]; omega), ?_⟩
  exact on σ F1 _ (e2.write h rfl rfl rfl h1 (b' := .own (ds ++ [d])) ⟨a, xs ++ [v], rfl, h2, h3, h4', upd_same, dps_app (dps_le e1.fx _ _ h6) (dps_one b1)⟩)
end
abbrev Run := Str × Nat
def encR (x : Run) : PyData := .tuple [.str x.1, .int (x.2 : Int)]
def strL : Str := "left"
def strR : Str := "right"
def frStep (p : Nat × Nat) : Nat × Nat := if p.2 < p.1 then (p.1 - (p.1 - 1) / p.2 * p.2, p.2) else (p.1, p.2 - (p.2 - 1) / p.1 * p.1)
def frRun (p : Nat × Nat) : Run := if p.2 < p.1 then ("right", (p.1 - 1) / p.2) else ("left", (p.2 - 1) / p.1)
def frAt (p : Nat × Nat) : Nat → Nat × Nat
  | 0 => p
  | i + 1 => frStep (frAt p i)
def frRuns (p : Nat × Nat) (k : Nat) : List Run := (List.range k).map fun i => frRun (frAt p i)
structure FrEnd (p : Nat × Nat) (k : Nat) : Prop where
  z : k ≤ 150
  pos : ∀ i, i ≤ k → 0 < (frAt p i).1 ∧ 0 < (frAt p i).2
  ne : ∀ i, i < k → (frAt p i).1 ≠ (frAt p i).2
  eq : (frAt p k).1 = (frAt p k).2
  s1 : p.1 < 10 ^ 140
  s2 : p.2 < 10 ^ 140
def spRuns (ds : List PyData) (r : B) : Prop := ∃ (p : Nat × Nat) (k : Nat), ds = [.int (p.1 : Int), .int (p.2 : Int)] ∧ FrEnd p k ∧ r = .dat (.tuple ((frRuns p k).map encR))
def runsTs (K : PySem.W.Frag) : TS := tSeq (tAsg (tLst tNil) (gName 2)) (tSeq (tWhile (tTest (tOp (rNeD K) (tVar 0) (tVar 1))) (tIfS (tTest (tOp (rI0 fun i j => V.bl (decide (j < i))) (tVar 0) (tVar 1))) (tSeq (tAsg (tOp (rI CDivW fun i j => V.int (i / j)) (tOp (rI0 fun i j => V.int (i - j)) (tVar 0) (tC (V.int 1))) (tVar 1)) (gName 3)) (tSeq (tDrop (tBM K "list" rAppend (tCall spSame [] C8.E0 (tCons (tVar 2) tNil)) (tCons (tTup (tCons (tC (V.str (Str.ofString "right"))) (tCons (tVar 3) tNil))) tNil))) (tAug 0 (tOp (rI CMulW fun i j => V.int (i * j)) (tVar 3) (tVar 1)) (ipI fun i j => i - j)))) (tSeq (tAsg (tOp (rI CDivW fun i j => V.int (i / j)) (tOp (rI0 fun i j => V.int (i - j)) (tVar 1) (tC (V.int 1))) (tVar 0)) (gName 3)) (tSeq (tDrop (tBM K "list" rAppend (tCall spSame [] C8.E0 (tCons (tVar 2) tNil)) (tCons (tTup (tCons (tC (V.str (Str.ofString "left"))) (tCons (tVar 3) tNil))) tNil))) (tAug 1 (tOp (rI CMulW fun i j => V.int (i * j)) (tVar 3) (tVar 0)) (ipI fun i j => i - j)))))) (tRet (tCB (rTupS K) (tCons (tVar 2) tNil))))
theorem frAt_le (p : Nat × Nat) : ∀ i, (frAt p i).1 ≤ p.1 ∧ (frAt p i).2 ≤ p.2
  | 0 => ⟨Nat.le_refl _, Nat.le_refl _⟩
  | i + 1 => by
    have h := frAt_le p i
    show (frStep (frAt p i)).1 ≤ _ ∧ (frStep (frAt p i)).2 ≤ _
    unfold frStep
    split
    · exact ⟨Nat.le_trans (Nat.sub_le _ _) h.1, h.2⟩
    · exact ⟨h.1, Nat.le_trans (Nat.sub_le _ _) h.2⟩
theorem neV {a b : Nat} (h : a ≠ b) : (!PyData.eqv (.int (a : Int)) (.int (b : Int))) = true := by
  show (!decide ((a : Int) = b)) = true
  rw [decide_eq_false (by omega)]
  rfl
theorem neV0 {a b : Nat} (h : a = b) : (!PyData.eqv (.int (a : Int)) (.int (b : Int))) = false := by
  show (!decide ((a : Int) = b)) = false
  rw [decide_eq_true (by omega)]
  rfl
section
variable {K : PySem.W.Frag} {T : List NTab} {ds : List PyData} {r : B} {N : List Str}
theorem tr_runs (hN : N.length = 4) (h : spRuns ds r) : Tr (Cf.pure K T) (runsTs K) (initE N ds) () (.rt r ()) := by
  obtain ⟨p, k, rfl, fe, rfl⟩ := h
  refine init_eq hN ?_
  show Tr (Cf.pure K T) (runsTs K) [.dat (.int (p.1 : Int)), .dat (.int (p.2 : Int)), .un, .un] () _
  have kz := fe.z
  refine tr_seq (tr_asg (dv_lst da_nil .nil (Nat.le_of_ble_eq_true rfl))) ?_
  have lp := tr_whileG (C := Cf.pure K T) (s := ()) (t := tTest (tOp (rNeD K) (tVar 0) (tVar 1))) (env := [.dat (.int (p.1 : Int)), .dat (.int (p.2 : Int)), .own [], .un]) (o := .nx [.dat (.int ((frAt p k).1 : Int)), .dat (.int ((frAt p k).2 : Int)), .own ((frRuns p k).map encR), .un] ())
    (p := tIfS (tTest (tOp (rI0 fun i j => V.bl (decide (j < i))) (tVar 0) (tVar 1))) (tSeq (tAsg (tOp (rI CDivW fun i j => V.int (i / j)) (tOp (rI0 fun i j => V.int (i - j)) (tVar 0) (tC (V.int 1))) (tVar 1)) (gName 3)) (tSeq (tDrop (tBM K "list" rAppend (tCall spSame [] C8.E0 (tCons (tVar 2) tNil)) (tCons (tTup (tCons (tC (V.str (Str.ofString "right"))) (tCons (tVar 3) tNil))) tNil))) (tAug 0 (tOp (rI CMulW fun i j => V.int (i * j)) (tVar 3) (tVar 1)) (ipI fun i j => i - j)))) (tSeq (tAsg (tOp (rI CDivW fun i j => V.int (i / j)) (tOp (rI0 fun i j => V.int (i - j)) (tVar 1) (tC (V.int 1))) (tVar 0)) (gName 3)) (tSeq (tDrop (tBM K "list" rAppend (tCall spSame [] C8.E0 (tCons (tVar 2) tNil)) (tCons (tTup (tCons (tC (V.str (Str.ofString "left"))) (tCons (tVar 3) tNil))) tNil))) (tAug 1 (tOp (rI CMulW fun i j => V.int (i * j)) (tVar 3) (tVar 0)) (ipI fun i j => i - j)))))
    k (fun i => [.dat (.int ((frAt p i).1 : Int)), .dat (.int ((frAt p i).2 : Int)), .own ((frRuns p i).map encR), .un]) (fun _ => ()) (Wks.refl _) rfl (fun i hi => ?_) (.inl ⟨(), dt_is (dt_test (dv_op (dv_var rfl) (dv_var rfl) (rop_neD rfl rfl rfl rfl))) (neV0 fe.eq), rfl⟩)
  · refine tr_seq lp (tr_ret (dv_is (dv_cb (da_cons (dv_bor rfl) da_nil) (rcb_tupL rfl)) rfl))
  · obtain ⟨t, ht⟩ : ∃ t, t = (frAt p i).1 := ⟨_, rfl⟩
    obtain ⟨b, hb⟩ : ∃ b, b = (frAt p i).2 := ⟨_, rfl⟩
    have pos := fe.pos i (Nat.le_of_lt hi)
    have ne := fe.ne i hi
    have le := frAt_le p i
    have b1 := fe.s1
    have b2 := fe.s2
    have er : frRuns p (i + 1) = frRuns p i ++ [frRun (frAt p i)] := by
      unfold frRuns
      rw [List.range_succ, List.map_append]
      rfl
    have es : frAt p (i + 1) = frStep (frAt p i) := rfl
    have ln : ((frRuns p i).map encR).length = i := by
      unfold frRuns
      rw [List.length_map, List.length_map, List.length_range]
    have ep : frAt p i = (t, b) := by rw [ht, hb]
    rw [ep] at pos ne le er es ⊢
    have pos : 0 < t ∧ 0 < b := pos
    have ne : t ≠ b := ne
    have le : t ≤ p.1 ∧ b ≤ p.2 := le
    have st : Small (t : Int) := by unfold Small; simpa using Nat.lt_of_le_of_lt le.1 b1
    have sb : Small (b : Int) := by unfold Small; simpa using Nat.lt_of_le_of_lt le.2 b2
    refine ⟨(), dt_is (dt_test (dv_op (dv_var rfl) (dv_var rfl) (rop_neD rfl rfl rfl rfl))) (neV ne), ?_⟩
    by_cases c : b < t
    · have em : ((t : Int) - 1) / (b : Int) = (((t - 1) / b : Nat) : Int) := by
        rw [Int.natCast_ediv]
        congr 1
        omega
      have ml : (t - 1) / b * b ≤ t - 1 := Nat.div_mul_le_self _ _
      have sm : Small (((t - 1) / b : Nat) : Int) := by
        unfold Small at st ⊢
        have : (t - 1) / b ≤ t := Nat.le_trans (Nat.div_le_self _ _) (Nat.sub_le _ _)
        simp only [Int.natAbs_natCast] at st ⊢
        omega
      have e2 : frRun (t, b) = (((Str.ofString "right"), (t - 1) / b) : Run) := if_pos c
      have e3 : frStep (t, b) = (t - (t - 1) / b * b, b) := if_pos c
      refine goes_nxW (tr_if (dt_is (b := true) (dt_test (dv_op (dv_var rfl) (dv_var rfl) rop_IB)) (decide_eq_true (by omega))) (fun _ => tr_seq (tr_asg (dv_is (dv_op (dv_op (dv_var rfl) dv_int rop_II) (dv_var rfl) (rop_IIc (small_div (by omega) (small300 sb)))) (by rw [em])))
        (tr_seq (tr_appV (C := Cf.pure K T) (i := 2) rfl (dv_tup (da_cons (dv_c fun _ => .str _) (da_cons (dv_var rfl) da_nil)) (.cons rfl (.cons rfl .nil)) (Nat.le_of_ble_eq_true rfl)) rfl (by rw [ln]; omega)) (tr_aug rfl (dv_op (dv_var rfl) (dv_var rfl) (rop_IIc (small_mul sm sb)))))) (fun z => by cases z)) ?_
      rw [er, e2, es, e3, List.map_append]
      refine .eqv ?_ (.eq (.eq (.un .nil)))
      congr 2
      show (t : Int) - (((t - 1) / b : Nat) : Int) * (b : Int) = ((t - (t - 1) / b * b : Nat) : Int)
      rw [← Int.natCast_mul]
      omega
    · have c2 : t < b := by omega
      have em : ((b : Int) - 1) / (t : Int) = (((b - 1) / t : Nat) : Int) := by
        rw [Int.natCast_ediv]
        congr 1
        omega
      have ml : (b - 1) / t * t ≤ b - 1 := Nat.div_mul_le_self _ _
      have sm : Small (((b - 1) / t : Nat) : Int) := by
        unfold Small at sb ⊢
        have : (b - 1) / t ≤ b := Nat.le_trans (Nat.div_le_self _ _) (Nat.sub_le _ _)
        simp only [Int.natAbs_natCast] at sb ⊢
        omega
      have e2 : frRun (t, b) = (((Str.ofString "left"), (b - 1) / t) : Run) := if_neg c
      have e3 : frStep (t, b) = (t, b - (b - 1) / t * t) := if_neg c
      refine goes_nxW (tr_if (dt_is (b := false) (dt_test (dv_op (dv_var rfl) (dv_var rfl) rop_IB)) (decide_eq_false (by omega))) (fun z => by cases z) (fun _ => tr_seq (tr_asg (dv_is (dv_op (dv_op (dv_var rfl) dv_int rop_II) (dv_var rfl) (rop_IIc (small_div (by omega) (small300 st)))) (by rw [em])))
        (tr_seq (tr_appV (C := Cf.pure K T) (i := 2) rfl (dv_tup (da_cons (dv_c fun _ => .str _) (da_cons (dv_var rfl) da_nil)) (.cons rfl (.cons rfl .nil)) (Nat.le_of_ble_eq_true rfl)) rfl (by rw [ln]; omega)) (tr_aug rfl (dv_op (dv_var rfl) (dv_var rfl) (rop_IIc (small_mul sm st))))))) ?_
      rw [er, e2, es, e3, List.map_append]
      refine .eq (.eqv ?_ (.eq (.un .nil)))
      congr 2
      show (b : Int) - (((b - 1) / t : Nat) : Int) * (t : Int) = ((b - (b - 1) / t * t : Nat) : Int)
      rw [← Int.natCast_mul]
      omega
end
end DV
set_option maxHeartbeats 1000000
set_option exponentiation.threshold 2000
namespace DV
open PySem PySem.Spec PyProof.Rows L2 LamX NdefX
/-! ### edges, ways to numbers and back: readings -/
abbrev Edge := Int × Int × Int × Int
def encE (e : Edge) : PyData := .tuple [.int e.1, .int e.2.1, .int e.2.2.1, .int e.2.2.2]
def edgeStep (e : Edge) (x : Run) : Edge := if x.1 = "left" then (e.1 + x.2 * e.2.1, e.2.1, e.2.2.1 + x.2 * e.2.2.2, e.2.2.2) else (e.1, e.2.1 + x.2 * e.1, e.2.2.1, e.2.2.2 + x.2 * e.2.2.1)
def edgeOf (e : Edge) (xs : List Run) : Edge := xs.foldl edgeStep e
def SmallE (e : Edge) : Prop := Small e.1 ∧ Small e.2.1 ∧ Small e.2.2.1 ∧ Small e.2.2.2
structure EdgeOk (e : Edge) (xs : List Run) : Prop where
  z : xs.length ≤ 1000
  s : ∀ i, i ≤ xs.length → SmallE (edgeOf e (xs.take i))
  r : ∀ x ∈ xs, x.2 < 10 ^ 140
  sh : ∀ x ∈ xs, SeqAt.shaped (.str x.1) = true
def spEdge (ds : List PyData) (r : B) : Prop := ∃ (e : Edge) (xs : List Run), ds = [encE e, .tuple (xs.map encR)] ∧ EdgeOk e xs ∧ r = .dat (encE (edgeOf e xs))
def edgeTs (K : PySem.W.Frag) : TS := tSeq (tAsg (tVar 0) (gTup K 4 (gCons (gName 2) (gCons (gName 3) (gCons (gName 4) (gCons (gName 5) gNil)))))) (tSeq (tFor (iTup K (tVar 1)) (gTup K 2 (gCons (gName 6) (gCons (gName 7) gNil))) (tIfS (tTest (tOp (rEqD K) (tVar 6) (tC (V.str (Str.ofString "left"))))) (tPar 2 4 (tCons (tOp (rI0 fun i j => V.int (i + j)) (tVar 2) (tOp (rI CMulW fun i j => V.int (i * j)) (tVar 7) (tVar 3))) (tCons (tOp (rI0 fun i j => V.int (i + j)) (tVar 4) (tOp (rI CMulW fun i j => V.int (i * j)) (tVar 7) (tVar 5))) tNil))) (tPar 3 5 (tCons (tOp (rI0 fun i j => V.int (i + j)) (tVar 3) (tOp (rI CMulW fun i j => V.int (i * j)) (tVar 7) (tVar 2))) (tCons (tOp (rI0 fun i j => V.int (i + j)) (tVar 5) (tOp (rI CMulW fun i j => V.int (i * j)) (tVar 7) (tVar 4))) tNil))))) (tRet (tTup (tCons (tVar 2) (tCons (tVar 3) (tCons (tVar 4) (tCons (tVar 5) tNil)))))))
theorem sh_left : SeqAt.shaped (.str (Str.ofString "left")) = true := by decide +kernel
theorem sh_right : SeqAt.shaped (.str (Str.ofString "right")) = true := by decide +kernel
theorem sh_down : SeqAt.shaped (.str (Str.ofString "down")) = true := by decide +kernel
theorem sh_up : SeqAt.shaped (.str (Str.ofString "up")) = true := by decide +kernel
theorem eqv_str {x y : Str} : PyData.eqv (.str x) (.str y) = decide (x = y) := rfl
section
variable {K : PySem.W.Frag} {T : List NTab} {ds : List PyData} {r : B} {N : List Str}
theorem tr_edge (hN : N.length = 8) (h : spEdge ds r) : Tr (Cf.pure K T) (edgeTs K) (initE N ds) () (.rt r ()) := by
  obtain ⟨e, xs, rfl, ok, rfl⟩ := h
  refine init_eq hN ?_
  show Tr (Cf.pure K T) (edgeTs K) [.dat (encE e), .dat (.tuple (xs.map encR)), .un, .un, .un, .un, .un, .un] () _
  refine tr_seq (tr_asgT (dv_var rfl) rfl (dg_tup (dgs_cons dg_name (dgs_cons dg_name (dgs_cons dg_name (dgs_cons dg_name dgs_nil)))) rfl)) ?_
  have lp := tr_for0 (C := Cf.pure K T) (s1 := ()) (g := gTup K 2 (gCons (gName 6) (gCons (gName 7) gNil))) (ds := xs.map encR) (wi := iTup K (tVar 1))
    (p := tIfS (tTest (tOp (rEqD K) (tVar 6) (tC (V.str (Str.ofString "left"))))) (tPar 2 4 (tCons (tOp (rI0 fun i j => V.int (i + j)) (tVar 2) (tOp (rI CMulW fun i j => V.int (i * j)) (tVar 7) (tVar 3))) (tCons (tOp (rI0 fun i j => V.int (i + j)) (tVar 4) (tOp (rI CMulW fun i j => V.int (i * j)) (tVar 7) (tVar 5))) tNil))) (tPar 3 5 (tCons (tOp (rI0 fun i j => V.int (i + j)) (tVar 3) (tOp (rI CMulW fun i j => V.int (i * j)) (tVar 7) (tVar 2))) (tCons (tOp (rI0 fun i j => V.int (i + j)) (tVar 5) (tOp (rI CMulW fun i j => V.int (i * j)) (tVar 7) (tVar 4))) tNil))))
    (env := [.dat (encE e), .dat (.tuple (xs.map encR)), .dat (.int e.1), .dat (.int e.2.1), .dat (.int e.2.2.1), .dat (.int e.2.2.2), .un, .un])
    (fun i => [.dat (encE e), .dat (.tuple (xs.map encR)), .dat (.int (edgeOf e (xs.take i)).1), .dat (.int (edgeOf e (xs.take i)).2.1), .dat (.int (edgeOf e (xs.take i)).2.2.1), .dat (.int (edgeOf e (xs.take i)).2.2.2), .un, .un])
    (di_tup (dv_var rfl)) (Wks.refl _) fun i d hd => by
      rw [List.getElem?_map] at hd
      cases hx : xs[i]? with
      | none =>
        rw [hx] at hd
        cases hd
      | some x =>
        rw [hx] at hd
        cases hd
        have li := (List.getElem?_eq_some_iff.mp hx).1
        have se := ok.s i (Nat.le_of_lt li)
        have sr : Small (x.2 : Int) := by
          have := ok.r x (List.mem_of_getElem? hx)
          unfold Small
          simpa using this
        have es : edgeOf e (xs.take (i + 1)) = edgeStep (edgeOf e (xs.take i)) x := by
          unfold edgeOf
          rw [List.take_add_one, hx, List.foldl_append]
          rfl
        obtain ⟨E, hE⟩ : ∃ E, E = edgeOf e (xs.take i) := ⟨_, rfl⟩
        rw [← hE] at se es ⊢
        obtain ⟨s1, s2, s3, s4⟩ := se
        refine ⟨_, _, dg_tup (dgs_cons dg_name (dgs_cons dg_name dgs_nil)) rfl, ?_⟩
        by_cases c : x.1 = "left"
        · have e2 : edgeStep E x = (E.1 + x.2 * E.2.1, E.2.1, E.2.2.1 + x.2 * E.2.2.2, E.2.2.2) := if_pos c
          refine goes_nxW (tr_if (c := true) (dt_is (dt_test (dv_op (dv_var rfl) (dv_c fun _ => .str _) (rop_eqD rfl rfl (ok.sh x (List.mem_of_getElem? hx)) sh_left))) (by rw [eqv_str]; exact decide_eq_true c)) (fun _ => tr_par (da_cons (dv_op (dv_var rfl) (dv_op (dv_var rfl) (dv_var rfl) (rop_IIc (small_mul sr s2))) rop_II) (da_cons (dv_op (dv_var rfl) (dv_op (dv_var rfl) (dv_var rfl) (rop_IIc (small_mul sr s4))) rop_II) da_nil))) fun z => by cases z) ?_
          rw [es, e2]
          exact .eq (.eq (.eq (.eq (.eq (.eq (.un (.un .nil)))))))
        · have e2 : edgeStep E x = (E.1, E.2.1 + x.2 * E.1, E.2.2.1, E.2.2.2 + x.2 * E.2.2.1) := if_neg c
          refine goes_nxW (tr_if (c := false) (dt_is (dt_test (dv_op (dv_var rfl) (dv_c fun _ => .str _) (rop_eqD rfl rfl (ok.sh x (List.mem_of_getElem? hx)) sh_left))) (by rw [eqv_str]; exact decide_eq_false c)) (fun z => by cases z) fun _ => tr_par (da_cons (dv_op (dv_var rfl) (dv_op (dv_var rfl) (dv_var rfl) (rop_IIc (small_mul sr s1))) rop_II) (da_cons (dv_op (dv_var rfl) (dv_op (dv_var rfl) (dv_var rfl) (rop_IIc (small_mul sr s3))) rop_II) da_nil))) ?_
          rw [es, e2]
          exact .eq (.eq (.eq (.eq (.eq (.eq (.un (.un .nil)))))))
  rw [List.length_map] at lp
  have et : xs.take xs.length = xs := List.take_length
  rw [et] at lp
  refine tr_seq lp (tr_ret (dv_tup (da_cons (dv_var rfl) (da_cons (dv_var rfl) (da_cons (dv_var rfl) (da_cons (dv_var rfl) da_nil)))) (.cons rfl (.cons rfl (.cons rfl (.cons rfl .nil)))) (Nat.le_of_ble_eq_true rfl)))
end
def firstEdge (side : Str) : Edge := if side = "down" then (0, -1, 1, 0) else (1, 0, 0, 1)
def spFirst (ds : List PyData) (r : B) : Prop := ∃ side : Str, ds = [.str side] ∧ SeqAt.shaped (.str side) = true ∧ r = .dat (encE (firstEdge side))
def firstTs (K : PySem.W.Frag) : TS := tRet (tIf (tTest (tOp (rEqD K) (tVar 0) (tC (V.str (Str.ofString "down"))))) (tTup (tCons (tC (V.int 0)) (tCons (tUn (rU fun i => V.int (-i)) (tC (V.int 1))) (tCons (tC (V.int 1)) (tCons (tC (V.int 0)) tNil))))) (tTup (tCons (tC (V.int 1)) (tCons (tC (V.int 0)) (tCons (tC (V.int 0)) (tCons (tC (V.int 1)) tNil))))))
/-- the edge that a way comes to -/
def wayEdge (side : Str) (xs : List Run) : Edge := edgeOf (firstEdge side) xs
def spWayN (ds : List PyData) (r : B) : Prop := ∃ (side : Str) (xs : List Run), ds = [.tuple [.str side, .tuple (xs.map encR)]] ∧ SeqAt.shaped (.str side) = true ∧ EdgeOk (firstEdge side) xs ∧ 0 < (wayEdge side xs).2.2.1 + (wayEdge side xs).2.2.2 ∧
  r = .dat (.tuple [.int (lowest ((wayEdge side xs).1 + (wayEdge side xs).2.1) ((wayEdge side xs).2.2.1 + (wayEdge side xs).2.2.2)).1, .int (lowest ((wayEdge side xs).1 + (wayEdge side xs).2.1) ((wayEdge side xs).2.2.1 + (wayEdge side xs).2.2.2)).2])
def wayNTs (K : PySem.W.Frag) (T : List NTab) (rz : Addr) : TS := tSeq (tIfS (tTest (tOp (rEqD K) (tCB (rLenS K) (tCons (tVar 0) tNil)) (tC (V.int 1)))) (tRet (tIf (tTest (tOp (rEqD K) (tVar 0) (tC (V.ref rz)))) (tTup (tCons (tC (V.int 0)) (tCons (tC (V.int 1)) tNil))) (tTup (tCons (tC (V.int 1)) (tCons (tC (V.int 0)) tNil))))) tNext) (tSeq (tAsg (tCall (Pm K T spEdge) [] C8.E0 (tCons (tCall (Pm K T spFirst) [] C8.E0 (tCons (tOp (rIxT K) (tVar 0) (tC (V.int 0))) tNil)) (tCons (tOp (rIxT K) (tVar 0) (tC (V.int 1))) tNil))) (gTup K 4 (gCons (gName 1) (gCons (gName 2) (gCons (gName 3) (gCons (gName 4) gNil)))))) (tSeq (tIfS (tTest (tOp (rEqD K) (tCB (rLenS K) (tCons (tVar 0) tNil)) (tC (V.int 2)))) (tRet (tCall (Pm K T spFrac) [] C8.E0 (tCons (tOp (rI0 fun i j => V.int (i + j)) (tVar 1) (tVar 2)) (tCons (tOp (rI0 fun i j => V.int (i + j)) (tVar 3) (tVar 4)) tNil)))) tNext) (tSeq tNever tNever)))
theorem small_add {a b : Int} (ha : Small a) (hb : Small b) : (a + b).natAbs < 10 ^ 300 := by
  have h := small_sum (a := 1) (b := 1) (t := a) (u := b) (show (1 : Nat) < 10 ^ 140 by decide +kernel) (show (1 : Nat) < 10 ^ 140 by decide +kernel) ha hb
  simpa using h
section
variable {K : PySem.W.Frag} {T : List NTab} {ds : List PyData} {r : B} {N : List Str}
theorem tr_first (hN : N.length = 1) (h : spFirst ds r) : Tr (Cf.pure K T) (firstTs K) (initE N ds) () (.rt r ()) := by
  obtain ⟨side, rfl, sh, rfl⟩ := h
  refine init_eq hN ?_
  show Tr (Cf.pure K T) (firstTs K) [.dat (.str side)] () _
  by_cases c : side = "down"
  · have e : firstEdge side = (0, -1, 1, 0) := if_pos c
    rw [e]
    exact tr_ret (dv_if (b := true) (dt_is (dt_test (dv_op (dv_var rfl) (dv_c fun _ => .str _) (rop_eqD rfl rfl sh sh_down))) (by rw [eqv_str]; exact decide_eq_true c)) (fun _ => dv_tup (da_cons dv_int (da_cons (dv_neg dv_int) (da_cons dv_int (da_cons dv_int da_nil)))) (.cons rfl (.cons rfl (.cons rfl (.cons rfl .nil)))) (Nat.le_of_ble_eq_true rfl)) fun z => by cases z)
  · have e : firstEdge side = (1, 0, 0, 1) := if_neg c
    rw [e]
    exact tr_ret (dv_if (b := false) (dt_is (dt_test (dv_op (dv_var rfl) (dv_c fun _ => .str _) (rop_eqD rfl rfl sh sh_down))) (by rw [eqv_str]; exact decide_eq_false c)) (fun z => by cases z) fun _ => dv_tup (da_cons dv_int (da_cons dv_int (da_cons dv_int (da_cons dv_int da_nil)))) (.cons rfl (.cons rfl (.cons rfl (.cons rfl .nil)))) (Nat.le_of_ble_eq_true rfl))
theorem tr_wayN {rz : Addr} (hN : N.length = 9) (h : spWayN ds r) : Tr (Cf.pure K T) (wayNTs K T rz) (initE N ds) () (.rt r ()) := by
  obtain ⟨side, xs, rfl, sh, ok, hp, rfl⟩ := h
  refine init_eq hN ?_
  show Tr (Cf.pure K T) (wayNTs K T rz) [.dat (.tuple [.str side, .tuple (xs.map encR)]), .un, .un, .un, .un, .un, .un, .un, .un] () _
  have se : SmallE (wayEdge side xs) := by
    have h := ok.s xs.length (Nat.le_refl _)
    rw [List.take_length] at h
    exact h
  obtain ⟨E, hE⟩ : ∃ E, E = wayEdge side xs := ⟨_, rfl⟩
  rw [← hE] at se hp ⊢
  obtain ⟨s1, s2, s3, s4⟩ := se
  refine tr_seq (tr_if (c := false) (dt_is (dt_test (dv_op (dv_cb (da_cons (dv_var rfl) da_nil) rcb_lenT) dv_int (rop_eqD rfl rfl rfl rfl))) rfl) (fun z => by cases z) fun _ => tr_next) ?_
  refine tr_seq (tr_asgT (d := encE E) (pm_call (C := Cf.pure K T) (S := spEdge) (r := .dat (encE E)) (da_cons (pm_call (C := Cf.pure K T) (S := spFirst) (r := .dat (encE (firstEdge side))) (da_cons (dv_op (dv_var rfl) dv_int (rop_ixT (d := .str side) rfl)) da_nil) (.cons rfl .nil) ⟨side, rfl, sh, rfl⟩ rfl) (da_cons (dv_op (dv_var rfl) dv_int (rop_ixT (d := .tuple (xs.map encR)) rfl)) da_nil)) (.cons rfl (.cons rfl .nil))
    ⟨firstEdge side, xs, rfl, ok, by rw [hE]; rfl⟩ rfl) rfl (dg_tup (dgs_cons dg_name (dgs_cons dg_name (dgs_cons dg_name (dgs_cons dg_name dgs_nil)))) rfl)) ?_
  exact tr_seqR (tr_if (c := true) (dt_is (dt_test (dv_op (dv_cb (da_cons (dv_var rfl) da_nil) rcb_lenT) dv_int (rop_eqD rfl rfl rfl rfl))) rfl) (fun _ => tr_ret (pm_call (C := Cf.pure K T) (S := spFrac) (da_cons (dv_op (dv_var rfl) (dv_var rfl) rop_II) (da_cons (dv_op (dv_var rfl) (dv_var rfl) rop_II) da_nil)) (.cons rfl (.cons rfl .nil)) ⟨_, _, rfl, hp, small_add s1 s2, small_add s3 s4, rfl⟩ rfl)) fun z => by cases z)
end
end DV
set_option maxHeartbeats 1000000
set_option exponentiation.threshold 2000
namespace DV
open PySem PySem.Spec PyProof.Rows L2 LamX NdefX
/-! ### a number's way; views behind steps: readings -/
def spWayT (ds : List PyData) (r : B) : Prop := ∃ (t b : Int) (p : Nat × Nat) (k : Nat), ds = [.tuple [.int t, .int b]] ∧ t ≠ 0 ∧ 0 < b ∧ Small t ∧ Small b ∧ (t < 0 → lowest b (-t) = ((p.1 : Int), (p.2 : Int))) ∧ (0 < t → t = p.1 ∧ b = p.2) ∧ FrEnd p k ∧
  r = .dat (.tuple [.str (if t < 0 then "down" else "up"), .tuple ((frRuns p k).map encR)])
def wayTTs (K : PySem.W.Frag) (T : List NTab) (rz rt rn : Addr) : TS := tSeq (tIfS (tTest (tOp (rEqD K) (tOp (rIxT K) (tVar 0) (tC (V.int 0))) (tC (V.int 0)))) (tRet (tC (V.ref rz))) tNext) (tSeq (tIfS (tAnd (tTest (tOp (rEqD K) (tOp (rIxT K) (tVar 0) (tC (V.int 1))) (tC (V.int 0)))) (tTest (tOp (rEqD K) (tCB (rLenS K) (tCons (tVar 0) tNil)) (tC (V.int 2))))) (tRet (tC (V.ref rt))) tNext) (tSeq (tAsg (tIf (tB (tCall (Pm K T spBelow) [] C8.E0 (tCons (tVar 0) tNil))) (tC (V.str (Str.ofString "down"))) (tC (V.str (Str.ofString "up")))) (gName 1)) (tSeq (tAsg (tIf (tTest (tOp (rEqD K) (tVar 1) (tC (V.str (Str.ofString "down"))))) (tCall (Pm K T spMap) [] C8.E0 (tCons (tC (V.ref rn)) (tCons (tVar 0) tNil))) (tVar 0)) (gName 2)) (tSeq (tIfS (tTest (tOp (rEqD K) (tCB (rLenS K) (tCons (tVar 0) tNil)) (tC (V.int 2)))) (tRet (tTup (tCons (tVar 1) (tCons (tCall (Pm K T spRuns) [] C8.E0 (tCons (tOp (rIxT K) (tVar 2) (tC (V.int 0))) (tCons (tOp (rIxT K) (tVar 2) (tC (V.int 1))) tNil))) tNil)))) tNext) (tSeq tNever tNever)))))
theorem ud_ne : ¬ ((Str.ofString "up") = (Str.ofString "down")) := by decide +kernel
section
variable {K : PySem.W.Frag} {T : List NTab} {ds : List PyData} {r : B} {N : List Str}
theorem tr_wayT {rz rt rn : Addr} (hT : ∀ F, SqT K F rn [.int 0, .int 1, .int (-1), .int 0]) (hN : N.length = 5) (h : spWayT ds r) : Tr (Cf.pure K T) (wayTTs K T rz rt rn) (initE N ds) () (.rt r ()) := by
  obtain ⟨t, b, p, k, rfl, t0, hb, st, sb, h1, h2, fe, rfl⟩ := h
  refine init_eq hN ?_
  show Tr (Cf.pure K T) (wayTTs K T rz rt rn) [.dat (.tuple [.int t, .int b]), .un, .un, .un, .un] () _
  refine tr_seq (tr_if (c := false) (dt_is (dt_test (dv_op (dv_op (dv_var rfl) dv_int (rop_ixT (d := .int t) rfl)) dv_int (rop_eqD rfl rfl rfl rfl))) (decide_eq_false t0)) (fun z => by cases z) fun _ => tr_next) ?_
  refine tr_seq (tr_if (c := false) (dt_is (dt_and0 (a := false) (b := false) (dt_is (dt_test (dv_op (dv_op (dv_var rfl) dv_int (rop_ixT (d := .int b) rfl)) dv_int (rop_eqD rfl rfl rfl rfl))) (by show decide (b = 0) = false; exact decide_eq_false (by omega))) fun z => by cases z) rfl) (fun z => by cases z) fun _ => tr_next) ?_
  have below : ∀ q : Bool, decide (t / b < 0) = q → Dt (Cf.pure K T) (tB (tCall (Pm K T spBelow) [] C8.E0 (tCons (tVar 0) tNil))) [.dat (.tuple [.int t, .int b]), .un, .un, .un, .un] () q () := fun q hq => dt_is (dt_B (pm_call (C := Cf.pure K T) (S := spBelow) (r := .dat (.bool (decide (t / b < 0)))) (da_cons (dv_var rfl) da_nil) (.cons rfl .nil) ⟨t, b, rfl, hb, small300 sb, rfl⟩ rfl)) hq
  by_cases c : t < 0
  · have hq : decide (t / b < 0) = true := decide_eq_true (Int.ediv_neg_of_neg_of_pos c hb)
    obtain ⟨l1, l2⟩ : (lowest b (-t)).1 = (p.1 : Int) ∧ (lowest b (-t)).2 = (p.2 : Int) := by rw [h1 c]; exact ⟨rfl, rfl⟩
    refine tr_seq (tr_asg (b := .dat (.str (Str.ofString "down"))) (dv_if (below true hq) (fun _ => dv_c fun _ => .str _) fun z => by cases z)) ?_
    have e1 : (0 : Int) * t + 1 * b = b := by omega
    have e2 : (-1 : Int) * t + 0 * b = -t := by omega
    refine tr_seq (tr_asg (b := .dat (.tuple [.int (p.1 : Int), .int (p.2 : Int)])) (dv_if (b := true) (dt_is (dt_test (dv_op (dv_var rfl) (dv_c fun _ => .str _) (rop_eqD rfl rfl sh_down sh_down))) (by rw [eqv_str]; exact decide_eq_true rfl)) (fun _ => pm_call (C := Cf.pure K T) (S := spMap) (da_cons (dv_c (d := .tuple [.int 0, .int 1, .int (-1), .int 0]) fun F => .tup (hT F) (.cons (.int _) (.cons (.int _) (.cons (.int _) (.cons (.int _) .nil))))) (da_cons (dv_var rfl) da_nil)) (.cons rfl (.cons rfl .nil))
      ⟨0, 1, -1, 0, t, b, rfl, show (0 : Nat) < 10 ^ 140 by decide +kernel, show (1 : Nat) < 10 ^ 140 by decide +kernel, show (1 : Nat) < 10 ^ 140 by decide +kernel, show (0 : Nat) < 10 ^ 140 by decide +kernel, st, sb, by omega, by rw [e1, e2, l1, l2]⟩ rfl) fun z => by cases z)) ?_
    rw [if_pos c]
    exact tr_seqR (tr_if (c := true) (dt_is (dt_test (dv_op (dv_cb (da_cons (dv_var rfl) da_nil) rcb_lenT) dv_int (rop_eqD rfl rfl rfl rfl))) rfl) (fun _ => tr_ret (dv_tup (da_cons (dv_var rfl) (da_cons (pm_call (C := Cf.pure K T) (S := spRuns) (r := .dat (.tuple ((frRuns p k).map encR))) (da_cons (dv_op (dv_var rfl) dv_int (rop_ixT (d := .int (p.1 : Int)) rfl)) (da_cons (dv_op (dv_var rfl) dv_int (rop_ixT (d := .int (p.2 : Int)) rfl)) da_nil)) (.cons rfl (.cons rfl .nil)) ⟨p, k, rfl, fe, rfl⟩ rfl) da_nil)) (.cons rfl (.cons rfl .nil)) (Nat.le_of_ble_eq_true rfl))) fun z => by cases z)
  · have hq : decide (t / b < 0) = false := decide_eq_false (by have := Int.ediv_nonneg (a := t) (b := b) (by omega) (by omega); omega)
    obtain ⟨l1, l2⟩ := h2 (by omega)
    refine tr_seq (tr_asg (b := .dat (.str (Str.ofString "up"))) (dv_if (below false hq) (fun z => by cases z) fun _ => dv_c fun _ => .str _)) ?_
    refine tr_seq (tr_asg (b := .dat (.tuple [.int t, .int b])) (dv_if (b := false) (dt_is (dt_test (dv_op (dv_var rfl) (dv_c fun _ => .str _) (rop_eqD rfl rfl sh_up sh_down))) (by rw [eqv_str]; exact decide_eq_false ud_ne)) (fun z => by cases z) fun _ => dv_var rfl)) ?_
    rw [if_neg c]
    exact tr_seqR (tr_if (c := true) (dt_is (dt_test (dv_op (dv_cb (da_cons (dv_var rfl) da_nil) rcb_lenT) dv_int (rop_eqD rfl rfl rfl rfl))) rfl) (fun _ => tr_ret (dv_tup (da_cons (dv_var rfl) (da_cons (pm_call (C := Cf.pure K T) (S := spRuns) (r := .dat (.tuple ((frRuns p k).map encR))) (da_cons (dv_op (dv_var rfl) dv_int (rop_ixT (d := .int t) rfl)) (da_cons (dv_op (dv_var rfl) dv_int (rop_ixT (d := .int b) rfl)) da_nil)) (.cons rfl (.cons rfl .nil)) ⟨p, k, by rw [l1, l2], fe, rfl⟩ rfl) da_nil)) (.cons rfl (.cons rfl .nil)) (Nat.le_of_ble_eq_true rfl))) fun z => by cases z)
end
end DV
set_option maxHeartbeats 1000000
namespace DV
open PySem PySem.Spec PyProof.Rows L2 LamX NdefX
/-! ### views behind steps -/
def nextV (vs : List Vw) (left : Bool) (v : Nat) : Nat := match vs[v]? with
  | some w => if left then w.2.1 else w.2.2
  | none => v
def stepsV (vs : List Vw) (left : Bool) (v : Nat) : Nat → Nat
  | 0 => v
  | i + 1 => nextV vs left (stepsV vs left v i)
theorem nextV_lt {vs : List Vw} (hc : closedV vs) {left : Bool} {v : Nat} (h : v < vs.length) : nextV vs left v < vs.length := by
  unfold nextV
  have e : vs[v]? = some vs[v] := List.getElem?_eq_getElem h
  rw [e]
  have c := hc vs[v] (List.getElem_mem h)
  cases left
  · exact c.2
  · exact c.1
theorem stepsV_lt {vs : List Vw} (hc : closedV vs) {left : Bool} {v : Nat} (h : v < vs.length) : ∀ i, stepsV vs left v i < vs.length
  | 0 => h
  | i + 1 => nextV_lt hc (stepsV_lt hc h i)
def lineV (vs : List Vw) (left : Bool) (v i : Nat) : List Nat := (List.range i).map (stepsV vs left v)
section
variable {vs : List Vw} {left : Bool} {v : Nat}
theorem lineV_succ (i : Nat) : lineV vs left v (i + 1) = lineV vs left v i ++ [stepsV vs left v i] := by
  unfold lineV
  rw [List.range_succ, List.map_append]
  rfl
theorem lineV_len (i : Nat) : (lineV vs left v i).length = i := by simp [lineV]
theorem lineV_get {i j : Nat} (h : j < i) : (lineV vs left v i)[j]? = some (stepsV vs left v j) := by
  unfold lineV
  rw [List.getElem?_map, List.getElem?_range h]
  rfl
theorem stepsV_add (j m : Nat) : stepsV vs left v (j + m) = stepsV vs left (stepsV vs left v j) m := by
  induction m with
  | zero => rfl
  | succ m ih =>
    show nextV vs left (stepsV vs left v (j + m)) = _
    rw [ih]
    rfl
/-- the first turn that meets a view again -/
theorem line_end (hc : closedV vs) (h : v < vs.length) : ∃ k, k ≤ vs.length ∧ (∀ i, i < k → stepsV vs left v i ∉ lineV vs left v i) ∧ stepsV vs left v k ∈ lineV vs left v k := by
  obtain ⟨k, h1, h2, h3⟩ := first_turn (fun i => if stepsV vs left v i ∈ lineV vs left v i then 0 else i + 1) (vs.length + 1)
  have nin : ∀ i, i < k → stepsV vs left v i ∉ lineV vs left v i := fun i hi z => by
    have := h2 i hi
    rw [if_pos z] at this
    exact absurd this (Nat.not_lt_zero i)
  have nd : ∀ i, i ≤ k → (lineV vs left v i).Nodup := by
    intro i
    induction i with
    | zero => intro _; simp [lineV]
    | succ i ih =>
      intro hi
      rw [lineV_succ]
      refine List.nodup_append.mpr ⟨ih (by omega), by simp, fun a ha b hb => ?_⟩
      rw [List.mem_singleton.mp hb]
      exact fun z => nin i (by omega) (z ▸ ha)
  have kl : k ≤ vs.length := by
    have q := nodup_len (l := lineV vs left v k) (U := List.range vs.length) (nd k (Nat.le_refl _)) fun x hx => by
      obtain ⟨j, _, rfl⟩ := List.mem_map.mp hx
      exact List.mem_range.mpr (stepsV_lt hc h j)
    rw [lineV_len, List.length_range] at q
    exact q
  refine ⟨k, kl, nin, Classical.byContradiction fun z => ?_⟩
  rcases h3 with e | e
  · omega
  · rw [if_neg z] at e
    omega
/-- it goes round from there on -/
theorem steps_round {k j : Nat} (h : stepsV vs left v k = stepsV vs left v j) (hj : j < k) : ∀ m, j ≤ m → stepsV vs left v m = stepsV vs left v (j + (m - j) % (k - j)) := by
  have one : ∀ m, stepsV vs left v (j + (m + (k - j))) = stepsV vs left v (j + m) := fun m => by
    have e : j + (m + (k - j)) = k + m := by omega
    rw [e, stepsV_add k m, h, ← stepsV_add]
  have many : ∀ q m, stepsV vs left v (j + (m + q * (k - j))) = stepsV vs left v (j + m) := fun q => by
    induction q with
    | zero => intro m; simp
    | succ q ih =>
      intro m
      have e : m + (q + 1) * (k - j) = (m + q * (k - j)) + (k - j) := by rw [Nat.succ_mul]; omega
      rw [e, one, ih]
  intro m hm
  have e : m = j + ((m - j) % (k - j) + (m - j) / (k - j) * (k - j)) := by
    have := Nat.mod_add_div (m - j) (k - j)
    rw [Nat.mul_comm] at this
    omega
  have q := many ((m - j) / (k - j)) ((m - j) % (k - j))
  rw [← e] at q
  exact q
end
def keyI (n : Nat) : Key := .inl (n : Int)
theorem keyI_inj {j k : Nat} (h : keyI j = keyI k) : j = k := by
  have := Sum.inl.inj h
  omega
def isL (x : Str) : Bool := decide (x = "left")
def spBehind (ds : List PyData) (r : B) : Prop := ∃ (vs : List Vw) (v : Nat) (x : Str) (many : Nat), ds = [.tuple (vs.map encV), .int (v : Int), .str x, .int (many : Int)] ∧ closedV vs ∧ v < vs.length ∧ vs.length ≤ 1000 ∧ (x = "left" ∨ x = "right") ∧ r = .dat (.int (stepsV vs (isL x) v many : Int))
def behindTs (K : PySem.W.Frag) (w : World) (rs : Addr) : TS := tSeq (tPar3 4 5 6 (tCons (tIxDX K w (fun _ _ _ _ => False) (tC (V.ref rs)) (tVar 2)) (tCons (tLst tNil) (tCons tDNewK tNil)))) (tSeq (tWhile (tB (tDNotIn (tVar 1) (tVar 6))) (tSeq (sDPut (tVar 6) (tVar 1) (tCB (rLenS K) (tCons (tVar 5) tNil))) (tSeq (tDrop (tBM K "list" rAppend (tVar 5) (tCons (tVar 1) tNil))) (tAsg (tOp (rIxT K) (tOp (rIxT K) (tVar 0) (tVar 1)) (tVar 4)) (gName 1))))) (tSeq (tAsg (tDGet (tVar 6) (tVar 1)) (gName 7)) (tSeq (tIfS (tTest (tOp (rI0 fun i j => V.bl (decide (i < j))) (tVar 3) (tCB (rLenS K) (tCons (tVar 5) tNil)))) (tRet (tOp (rIxL K) (tVar 5) (tVar 3))) tNext) (tRet (tOp (rIxL K) (tVar 5) (tOp (rI0 fun i j => V.int (i + j)) (tVar 7) (tOp (rI (fun x j => 0 < j) fun i j => V.int (i % j)) (tOp (rI0 fun i j => V.int (i - j)) (tVar 3) (tVar 7)) (tOp (rI0 fun i j => V.int (i - j)) (tCB (rLenS K) (tCons (tVar 5) tNil)) (tVar 7)))))))))
/-- the sides' numbers, as they are written -/
structure SidesOk (K : PySem.W.Frag) (w : World) (rs : Addr) : Prop where
  l : KDct K w rs "left" (.int 1)
  r : KDct K w rs "right" (.int 2)
theorem atI_tupV {vs : List Vw} {i : Nat} {v : Vw} (h : vs[i]? = some v) : atI (vs.map encV) (i : Int) = some (encV v) := by
  have li := (List.getElem?_eq_some_iff.mp h).1
  unfold atI ixN
  rw [if_pos (Int.natCast_nonneg i), if_pos (by rw [List.length_map]; omega)]
  show (vs.map encV)[(i : Int).toNat]? = _
  rw [Int.toNat_natCast, List.getElem?_map, h]
  rfl
section
variable {K : PySem.W.Frag} {T : List NTab} {ds : List PyData} {r : B} {N : List Str} {w : World}
theorem dv_side {C : Cf} {env : Env} {s : C.w.S} {rs : Addr} (so : SidesOk C.K w rs) {i : Nat} {x : Str} (h : env[i]? = some (.dat (.str x))) (hx : x = "left" ∨ x = "right") : Dv C (tIxDX C.K w (fun _ _ _ _ => False) (tC (V.ref rs)) (tVar i)) env s (.dat (.int (if isL x then 1 else 2))) s := fun F0 H0 σ F H e Q q => by
  obtain ⟨v, h1, h2⟩ := e.at h (by intro z; cases z)
  cases h2
  refine ⟨_, h1, rs, x, rfl, rfl, .inl ?_⟩
  rcases hx with c | c
  · refine ⟨.int 1, by rw [c]; exact so.l, q _ F H (.refl e.sub e.tab) e.hold ?_⟩
    have : isL x = true := decide_eq_true c
    rw [this]
    exact .int _
  · refine ⟨.int 2, by rw [c]; exact so.r, q _ F H (.refl e.sub e.tab) e.hold ?_⟩
    have : isL x = false := by
      rw [c]
      decide +kernel
    rw [this]
    exact .int _
theorem tr_behind {rs : Addr} (so : SidesOk K w rs) (hN : N.length = 8) (h : spBehind ds r) : Tr (Cf.pure K T) (behindTs K w rs) (initE N ds) () (.rt r ()) := by
  obtain ⟨vs, v, x, many, rfl, hc, hv, hz, hx, rfl⟩ := h
  refine init_eq hN ?_
  show Tr (Cf.pure K T) (behindTs K w rs) [.dat (.tuple (vs.map encV)), .dat (.int (v : Int)), .dat (.str x), .dat (.int (many : Int)), .un, .un, .un, .un] () _
  obtain ⟨lf, hlf⟩ : ∃ lf, lf = isL x := ⟨_, rfl⟩
  have sd : Dv (Cf.pure K T) (tIxDX K w (fun _ _ _ _ => False) (tC (V.ref rs)) (tVar 2)) [.dat (.tuple (vs.map encV)), .dat (.int (v : Int)), .dat (.str x), .dat (.int (many : Int)), .un, .un, .un, .un] () (.dat (.int (if lf then 1 else 2))) () := by
    rw [hlf]
    exact dv_side (C := Cf.pure K T) so rfl hx
  rw [← hlf]
  obtain ⟨k, k1, k2, k3⟩ := line_end (left := lf) hc hv
  refine tr_seq (tr_par3 (da_cons sd (da_cons (dv_lst da_nil .nil (Nat.le_of_ble_eq_true rfl)) (da_cons dv_dnewK da_nil)))) ?_
  have lp := tr_while (C := Cf.pure K T) (s := ()) (t := tB (tDNotIn (tVar 1) (tVar 6))) (env := [.dat (.tuple (vs.map encV)), .dat (.int (v : Int)), .dat (.str x), .dat (.int (many : Int)), .dat (.int (if lf then 1 else 2)), .own [], .odk [], .un])
    (p := tSeq (sDPut (tVar 6) (tVar 1) (tCB (rLenS K) (tCons (tVar 5) tNil))) (tSeq (tDrop (tBM K "list" rAppend (tVar 5) (tCons (tVar 1) tNil))) (tAsg (tOp (rIxT K) (tOp (rIxT K) (tVar 0) (tVar 1)) (tVar 4)) (gName 1))))
    k (fun i => [.dat (.tuple (vs.map encV)), .dat (.int (stepsV vs lf v i : Int)), .dat (.str x), .dat (.int (many : Int)), .dat (.int (if lf then 1 else 2)), .own (natsD (lineV vs lf v i)), .odk (idxG keyI 0 (lineV vs lf v i)), .un]) (Wks.refl _) (fun i hi => ?_) (fun i hi => ?_)
  · refine tr_seq lp ?_
    obtain ⟨j, hj⟩ : ∃ j, j = ixK (lineV vs lf v k) (stepsV vs lf v k) := ⟨_, rfl⟩
    have jk : j < k := by
      have h := ixK_lt k3
      rw [lineV_len, ← hj] at h
      exact h
    have ej : stepsV vs lf v k = stepsV vs lf v j := by
      have h1 := ixK_get k3
      rw [← hj, lineV_get jk] at h1
      exact (Option.some.inj h1).symm
    have get : ∀ m, m < k → (lineV vs lf v k).getD m 0 = stepsV vs lf v m := fun m hm => by
      rw [List.getD_eq_getElem?_getD, lineV_get hm]
      rfl
    have dl : ∀ bg, Dv (Cf.pure K T) (tCB (rLenS K) (tCons (tVar 5) tNil)) [.dat (.tuple (vs.map encV)), .dat (.int (stepsV vs lf v k : Int)), .dat (.str x), .dat (.int (many : Int)), .dat (.int (if lf then 1 else 2)), .own (natsD (lineV vs lf v k)), .odk (idxG keyI 0 (lineV vs lf v k)), bg] () (.dat (.int (k : Int))) () := fun bg =>
      dv_is (dv_cb (da_cons (dv_bor rfl) da_nil) (rcb_len rfl)) (by rw [natsD_len, lineV_len])
    refine tr_seq (tr_asg (b := .dat (.int (j : Int))) (dv_dget (k := keyI (stepsV vs lf v k)) (dv_bdk rfl) rfl (dv_var rfl) (by rw [idxG_yes keyI_inj k3, Nat.zero_add, ← hj]))) ?_
    by_cases c : many < k
    · refine tr_seqR (tr_if (c := true) (dt_is (dt_test (dv_op (dv_var rfl) (dl _) rop_IB)) (decide_eq_true (by omega))) (fun _ => tr_ret (dv_is (dv_op (dv_bor rfl) (dv_var rfl) (rop_ixL rfl (atI_nats (by rw [lineV_len]; exact c)))) (by rw [get many c]))) fun z => by cases z)
    · refine tr_seq (tr_if (c := false) (dt_is (dt_test (dv_op (dv_var rfl) (dl _) rop_IB)) (decide_eq_false (by omega))) (fun z => by cases z) fun _ => tr_next) ?_
      have lt : j + (many - j) % (k - j) < k := by
        have := Nat.mod_lt (many - j) (show 0 < k - j by omega)
        omega
      have ei : (j : Int) + ((many : Int) - j) % ((k : Int) - j) = ((j + (many - j) % (k - j) : Nat) : Int) := by
        rw [Int.natCast_add, Int.natCast_emod, Int.natCast_sub (by omega), Int.natCast_sub (by omega)]
      refine tr_ret (dv_is (dv_op (dv_bor rfl) (dv_is (dv_op (dv_var rfl) (dv_op (dv_op (dv_var rfl) (dv_var rfl) rop_II) (dv_op (dl _) (dv_var rfl) rop_II) (rop_IIc (by show 0 < (k : Int) - j; omega))) rop_II) (by rw [ei])) (rop_ixL rfl (atI_nats (by rw [lineV_len]; exact lt)))) ?_)
      rw [get _ lt, ← steps_round ej jk many (by omega)]
  · by_cases c : i < k
    · exact dt_is (dt_B (dv_dnotin (k := keyI (stepsV vs lf v i)) (dv_var rfl) (dv_bdk rfl) rfl)) (by rw [idxG_no keyI_inj (k2 i c), decide_eq_true c]; rfl)
    · have e : i = k := by omega
      subst e
      exact dt_is (dt_B (dv_dnotin (k := keyI (stepsV vs lf v i)) (dv_var rfl) (dv_bdk rfl) rfl)) (by rw [idxG_yes keyI_inj k3, decide_eq_false c]; rfl)
  · have sl := stepsV_lt (left := lf) hc hv i
    have hw : vs[stepsV vs lf v i]? = some vs[stepsV vs lf v i] := List.getElem?_eq_getElem sl
    have en : stepsV vs lf v (i + 1) = if lf then (vs[stepsV vs lf v i]).2.1 else (vs[stepsV vs lf v i]).2.2 := by
      show nextV vs lf (stepsV vs lf v i) = _
      unfold nextV
      rw [hw]
    have ix : atI [PyData.bool (vs[stepsV vs lf v i]).1, .int ((vs[stepsV vs lf v i]).2.1 : Int), .int ((vs[stepsV vs lf v i]).2.2 : Int)] (if lf then 1 else 2) = some (.int (stepsV vs lf v (i + 1) : Int)) := by
      rw [en]
      cases lf <;> rfl
    refine goes_nxW (tr_seq (tr_dput (C := Cf.pure K T) (k := keyI (stepsV vs lf v i)) (i := 6) (q := idxG keyI 0 (lineV vs lf v i)) (s1 := ()) (s2 := ()) rfl (dv_cb (da_cons (dv_bor rfl) da_nil) (rcb_len rfl)) rfl (dv_var rfl) (by rw [idxG_len, lineV_len]; omega)) (tr_seq (tr_app (i := 5) rfl (dv_var rfl) rfl (by rw [natsD_len, lineV_len]; omega)) (tr_asg (dv_op (dv_op (dv_var rfl) (dv_var rfl) (rop_ixT (atI_tupV hw))) (dv_var rfl) (rop_ixT ix))))) ?_
    refine .eq (.eq (.eq (.eq (.eq (.eqv ?_ (.eqv ?_ (.eq .nil)))))))
    · rw [lineV_succ]
      unfold natsD
      rw [List.map_append]
      rfl
    · rw [putD_new _ (idxG_no keyI_inj (k2 i hi)), lineV_succ, idxG_snoc, natsD_len, Nat.zero_add]
def alongV (vs : List Vw) (v : Nat) (xs : List Run) : Nat := xs.foldl (fun v x => stepsV vs (isL x.1) v x.2) v
def spAlong (ds : List PyData) (r : B) : Prop := ∃ (vs : List Vw) (v : Nat) (xs : List Run), ds = [.tuple (vs.map encV), .int (v : Int), .tuple (xs.map encR)] ∧ closedV vs ∧ v < vs.length ∧ vs.length ≤ 1000 ∧ (∀ x ∈ xs, x.1 = "left" ∨ x.1 = "right") ∧ r = .dat (.int (alongV vs v xs : Int))
def alongTs (K : PySem.W.Frag) (T : List NTab) : TS := tSeq (tAsg (tVar 1) (gName 3)) (tSeq (tFor (iTup K (tVar 2)) (gTup K 2 (gCons (gName 4) (gCons (gName 5) gNil))) (tAsg (tCall (Pm K T spBehind) [] C8.E0 (tCons (tVar 0) (tCons (tVar 3) (tCons (tVar 4) (tCons (tVar 5) tNil))))) (gName 3))) (tRet (tVar 3)))
theorem alongV_lt {vs : List Vw} (hc : closedV vs) : ∀ (xs : List Run) {v : Nat}, v < vs.length → alongV vs v xs < vs.length
  | [], _, h => h
  | x :: xs, v, h => alongV_lt hc xs (stepsV_lt hc h x.2)
theorem tr_along (hN : N.length = 6) (h : spAlong ds r) : Tr (Cf.pure K T) (alongTs K T) (initE N ds) () (.rt r ()) := by
  obtain ⟨vs, v, xs, rfl, hc, hv, hz, hx, rfl⟩ := h
  refine init_eq hN ?_
  show Tr (Cf.pure K T) (alongTs K T) [.dat (.tuple (vs.map encV)), .dat (.int (v : Int)), .dat (.tuple (xs.map encR)), .un, .un, .un] () _
  refine tr_seq (tr_asg (dv_var rfl)) ?_
  have lp := tr_for0 (C := Cf.pure K T) (s1 := ()) (g := gTup K 2 (gCons (gName 4) (gCons (gName 5) gNil))) (ds := xs.map encR) (wi := iTup K (tVar 2)) (p := tAsg (tCall (Pm K T spBehind) [] C8.E0 (tCons (tVar 0) (tCons (tVar 3) (tCons (tVar 4) (tCons (tVar 5) tNil))))) (gName 3))
    (env := [.dat (.tuple (vs.map encV)), .dat (.int (v : Int)), .dat (.tuple (xs.map encR)), .dat (.int (v : Int)), .un, .un])
    (fun i => [.dat (.tuple (vs.map encV)), .dat (.int (v : Int)), .dat (.tuple (xs.map encR)), .dat (.int (alongV vs v (xs.take i) : Int)), .un, .un]) (di_tup (dv_var rfl)) (Wks.refl _) fun i d hd => by
      rw [List.getElem?_map] at hd
      cases hm : xs[i]? with
      | none =>
        rw [hm] at hd
        cases hd
      | some x =>
        rw [hm] at hd
        cases hd
        have es : alongV vs v (xs.take (i + 1)) = stepsV vs (isL x.1) (alongV vs v (xs.take i)) x.2 := by
          unfold alongV
          rw [List.take_add_one, hm, List.foldl_append]
          rfl
        refine ⟨_, _, dg_tup (dgs_cons dg_name (dgs_cons dg_name dgs_nil)) rfl, ?_⟩
        refine goes_nxW (tr_asg (b := .dat (.int (alongV vs v (xs.take (i + 1)) : Int))) (pm_call (C := Cf.pure K T) (S := spBehind) (da_cons (dv_var rfl) (da_cons (dv_var rfl) (da_cons (dv_var rfl) (da_cons (dv_var rfl) da_nil)))) (.cons rfl (.cons rfl (.cons rfl (.cons rfl .nil)))) ⟨vs, _, x.1, x.2, rfl, hc, alongV_lt hc (xs.take i) hv, hz, hx x (List.mem_of_getElem? hm), by rw [es]⟩ rfl)) ?_
        exact .eq (.eq (.eq (.eq (.un (.un .nil)))))
  rw [List.length_map] at lp
  have et : xs.take xs.length = xs := List.take_length
  rw [et] at lp
  exact tr_seq lp (tr_ret (dv_var rfl))
/-- what a lot tells of a fraction -/
def spHas (ds : List PyData) (r : B) : Prop := ∃ (l : Lot) (t b : Int) (p : Nat × Nat) (k : Nat), ds = [encL l, .tuple [.int t, .int b]] ∧ l.Ok ∧ t ≠ 0 ∧ 0 < b ∧ Small t ∧ Small b ∧ (t < 0 → lowest b (-t) = ((p.1 : Int), (p.2 : Int))) ∧ (0 < t → t = p.1 ∧ b = p.2) ∧ FrEnd p k ∧
  ∃ v : Vw, l.views[alongV l.views (if t < 0 then l.back else l.front) (frRuns p k)]? = some v ∧ r = .dat (.bool v.1)
def hasTs (K : PySem.W.Frag) (T : List NTab) : TS := tSeq (tAsg (tVar 0) (gTup K 5 (gCons (gName 2) (gCons (gName 3) (gCons (gName 4) (gCons (gName 5) (gCons (gName 6) gNil))))))) (tSeq (tIfS (tTest (tOp (rI0 fun i j => V.bl (decide (j < i))) (tCB (rLenS K) (tCons (tVar 1) tNil)) (tC (V.int 2)))) (tRet (tC (V.bl false))) tNext) (tSeq (tAsg (tCall (Pm K T spWayT) [] C8.E0 (tCons (tVar 1) tNil)) (gName 7)) (tSeq (tIfS (tTest (tOp (rEqD K) (tCB (rLenS K) (tCons (tVar 7) tNil)) (tC (V.int 1)))) (tRet (tIf (tTest (tOp (rEqD K) (tOp (rIxT K) (tVar 7) (tC (V.int 0))) (tC (V.str (Str.ofString "zero"))))) (tVar 2) (tVar 3))) tNext) (tSeq (tAsg (tVar 7) (gTup K 2 (gCons (gName 8) (gCons (gName 9) gNil)))) (tRet (tOp (rIxT K) (tOp (rIxT K) (tVar 6) (tCall (Pm K T spAlong) [] C8.E0 (tCons (tVar 6) (tCons (tIf (tTest (tOp (rEqD K) (tVar 8) (tC (V.str (Str.ofString "up"))))) (tVar 4) (tVar 5)) (tCons (tVar 9) tNil))))) (tC (V.int 0))))))))
theorem frRuns_side {p : Nat × Nat} {k : Nat} : ∀ x ∈ frRuns p k, x.1 = "left" ∨ x.1 = "right" := fun x hx => by
  obtain ⟨i, _, rfl⟩ := List.mem_map.mp hx
  unfold frRun
  split
  · exact .inr rfl
  · exact .inl rfl
theorem du_ne : ¬ ((Str.ofString "down") = (Str.ofString "up")) := by decide +kernel
theorem tr_has (hN : N.length = 10) (h : spHas ds r) : Tr (Cf.pure K T) (hasTs K T) (initE N ds) () (.rt r ()) := by
  obtain ⟨l, t, b, p, k, rfl, ok, t0, hb, st, sb, h1, h2, fe, v, hv, rfl⟩ := h
  refine init_eq hN ?_
  show Tr (Cf.pure K T) (hasTs K T) [.dat (encL l), .dat (.tuple [.int t, .int b]), .un, .un, .un, .un, .un, .un, .un, .un] () _
  refine tr_seq (tr_asgT (dv_var rfl) rfl (dg_tup (dgs_cons dg_name (dgs_cons dg_name (dgs_cons dg_name (dgs_cons dg_name (dgs_cons dg_name dgs_nil))))) rfl)) ?_
  refine tr_seq (tr_if (c := false) (dt_is (dt_test (dv_op (dv_cb (da_cons (dv_var rfl) da_nil) rcb_lenT) dv_int rop_IB)) rfl) (fun z => by cases z) fun _ => tr_next) ?_
  refine tr_seq (tr_asg (b := .dat (.tuple [.str (if t < 0 then "down" else "up"), .tuple ((frRuns p k).map encR)])) (pm_call (C := Cf.pure K T) (S := spWayT) (da_cons (dv_var rfl) da_nil) (.cons rfl .nil) ⟨t, b, p, k, rfl, t0, hb, st, sb, h1, h2, fe, rfl⟩ rfl)) ?_
  refine tr_seq (tr_if (c := false) (dt_is (dt_test (dv_op (dv_cb (da_cons (dv_var rfl) da_nil) rcb_lenT) dv_int (rop_eqD rfl rfl rfl rfl))) rfl) (fun z => by cases z) fun _ => tr_next) ?_
  refine tr_seq (tr_asgT (dv_var rfl) rfl (dg_tup (dgs_cons dg_name (dgs_cons dg_name dgs_nil)) rfl)) ?_
  have z60 := ok.z
  by_cases c : t < 0
  · rw [if_pos c] at hv ⊢
    exact tr_ret (dv_op (dv_op (dv_var rfl) (pm_call (C := Cf.pure K T) (S := spAlong) (r := .dat (.int (alongV l.views l.back (frRuns p k) : Int))) (da_cons (dv_var rfl) (da_cons (dv_if (x := .dat (.int (l.back : Int))) (b := false) (dt_is (dt_test (dv_op (dv_var rfl) (dv_c fun _ => .str _) (rop_eqD rfl rfl sh_down sh_up))) (by rw [eqv_str]; exact decide_eq_false du_ne)) (fun z => by cases z) fun _ => dv_var rfl) (da_cons (dv_var rfl) da_nil))) (.cons rfl (.cons rfl (.cons rfl .nil)))
      ⟨l.views, l.back, frRuns p k, rfl, ok.v, ok.b, by omega, frRuns_side, rfl⟩ rfl) (rop_ixT (atI_tupV hv))) dv_int (rop_ixT (d := .bool v.1) rfl))
  · rw [if_neg c] at hv ⊢
    exact tr_ret (dv_op (dv_op (dv_var rfl) (pm_call (C := Cf.pure K T) (S := spAlong) (r := .dat (.int (alongV l.views l.front (frRuns p k) : Int))) (da_cons (dv_var rfl) (da_cons (dv_if (x := .dat (.int (l.front : Int))) (b := true) (dt_is (dt_test (dv_op (dv_var rfl) (dv_c fun _ => .str _) (rop_eqD rfl rfl sh_up sh_up))) (by rw [eqv_str]; exact decide_eq_true rfl)) (fun _ => dv_var rfl) fun z => by cases z) (da_cons (dv_var rfl) da_nil))) (.cons rfl (.cons rfl (.cons rfl .nil)))
      ⟨l.views, l.front, frRuns p k, rfl, ok.v, ok.f, by omega, frRuns_side, rfl⟩ rfl) (rop_ixT (atI_tupV hv))) dv_int (rop_ixT (d := .bool v.1) rfl))
end
end DV
set_option maxHeartbeats 1000000
set_option exponentiation.threshold 2000
namespace DV
open PySem PySem.Spec PyProof.Rows L2 LamX NdefX
/-! ### counts: readings -/
theorem cutD_to (xs : List PyData) (n : Nat) : cutD xs none (some (n : Int)) = xs.take n := by
  unfold cutD
  rw [HT.sIx_none, HT.sIx_nat]
  simp
def intsD (xs : List Int) : List PyData := xs.map .int
/-- by views, how many fractions of n more steps -/
def vals (vs : List Vw) : Nat → List Int
  | 0 => vs.map fun v => b2n v.1
  | n + 1 => vs.map fun v => (vals vs n).getD v.2.1 0 + (vals vs n).getD v.2.2 0
theorem vals_len (vs : List Vw) (n : Nat) : (vals vs n).length = vs.length := by cases n <;> simp [vals]
def cnt (l : Lot) : Nat → Int
  | 0 => b2n l.zero + b2n l.top
  | n + 1 => (vals l.views n).getD l.front 0 + (vals l.views n).getD l.back 0
def spCounts (ds : List PyData) (r : B) : Prop := ∃ (l : Lot) (n : Nat), ds = [encL l, .int (n : Int)] ∧ l.Ok ∧ 1 ≤ n ∧ n ≤ 4000 ∧ r = .own (intsD ((List.range n).map (cnt l)))
theorem atI_ints {xs : List Int} {i : Nat} (h : i < xs.length) : atI (intsD xs) (i : Int) = some (.int (xs.getD i 0)) := by
  unfold atI ixN
  have h1 : (0 : Int) ≤ (i : Int) := Int.natCast_nonneg i
  have h2 : (i : Int) < ((intsD xs).length : Int) := by simp [intsD]; exact h
  rw [if_pos h1, if_pos h2]
  simp [intsD, List.getD, h]
def countsTs (K : PySem.W.Frag) : TS := tSeq (tAsg (tVar 0) (gTup K 5 (gCons (gName 2) (gCons (gName 3) (gCons (gName 4) (gCons (gName 5) (gCons (gName 6) gNil))))))) (tSeq (tAsg (tTup (tCons (tLst (tCons (tOp (rI0 fun i j => V.int (i + j)) (tCB rInt1 (tCons (tVar 2) tNil)) (tCB rInt1 (tCons (tVar 3) tNil))) tNil)) (tCons (tLc (iTup K (tVar 6)) (gTup K 3 (gCons (gName 10) (gCons (gName 11) (gCons (gName 12) gNil)))) tYes (tCB rInt1 (tCons (tVar 10) tNil)) [10, 11, 12]) tNil))) (gTup K 2 (gCons (gName 7) (gCons (gName 8) gNil)))) (tSeq (tFor (iRng1 (tCons (tOp (rI0 fun i j => V.int (i - j)) (tVar 1) (tC (V.int 1))) tNil)) (gName 9) (tSeq (tDrop (tBM K "list" rAppend (tVar 7) (tCons (tOp (rI0 fun i j => V.int (i + j)) (tOp (rIxL K) (tVar 8) (tVar 4)) (tOp (rIxL K) (tVar 8) (tVar 5))) tNil))) (tAsg (tLc (iTup K (tVar 6)) (gTup K 3 (gCons (gName 10) (gCons (gName 11) (gCons (gName 12) gNil)))) tYes (tOp (rI0 fun i j => V.int (i + j)) (tOp (rIxL K) (tVar 8) (tVar 11)) (tOp (rIxL K) (tVar 8) (tVar 12))) [10, 11, 12]) (gName 8)))) (tRet (tSl (rSlL K) (tVar 7) tNoPart (tPart (tVar 1))))))
def toldTs (K : PySem.W.Frag) (T : List NTab) : TS := tSeq (tIfS (tTest (tOp (rI0 fun i j => V.bl (decide (j < i))) (tVar 1) (tC (V.int 3000)))) tNever tNext) (tSeq (tAsg (tOp (rIxL K) (tCall (Pm K T spCounts) [] C8.E0 (tCons (tVar 0) (tCons (tOp (rI0 fun i j => V.int (i + j)) (tVar 1) (tC (V.int 1))) tNil))) (tVar 1)) (gName 2)) (tSeq (tIfS (tTest (tOp (rI0 fun i j => V.bl (decide (j < i))) (tCB rStrLen (tCons (tCB rStrInt (tCons (tVar 2) tNil)) tNil)) (tC (V.int 300)))) tNever tNext) (tRet (tVar 2))))
section
variable {K : PySem.W.Frag} {T : List NTab} {ds : List PyData} {r : B} {N : List Str}
theorem tr_counts (hN : N.length = 13) (h : spCounts ds r) : Tr (Cf.pure K T) (countsTs K) (initE N ds) () (.rt r ()) := by
  obtain ⟨l, n, rfl, ok, n1, n2, rfl⟩ := h
  refine init_eq hN ?_
  show Tr (Cf.pure K T) (countsTs K) [.dat (encL l), .dat (.int (n : Int)), .un, .un, .un, .un, .un, .un, .un, .un, .un, .un, .un] () _
  refine tr_seq (tr_asgT (dv_var rfl) rfl (dg_tup (dgs_cons dg_name (dgs_cons dg_name (dgs_cons dg_name (dgs_cons dg_name (dgs_cons dg_name dgs_nil))))) rfl)) ?_
  refine tr_seq (tr_tupN (is := [7, 8]) (da_cons (dv_lst (da_cons (dv_op (dv_cb (da_cons (dv_var rfl) da_nil) rcb_intB) (dv_cb (da_cons (dv_var rfl) da_nil) rcb_intB) rop_II) da_nil) (.cons rfl .nil) (Nat.le_of_ble_eq_true rfl)) (da_cons (dv_freeze (dv_lcM l.views encV (fun v => .int (b2n v.1)) (di_tup (dv_var rfl)) rfl (Nat.le_trans ok.z (by decide)) rfl fun v hv => ?_) rfl) da_nil)) rfl rfl (by decide) rfl) ?_
  · exact ⟨_, _, dg_tup (dgs_cons dg_name (dgs_cons dg_name (dgs_cons dg_name dgs_nil))) rfl, by decide, _, dv_cb (da_cons (dv_var rfl) da_nil) rcb_intB, rfl⟩
  have e0 : l.views.map (fun v => PyData.int (b2n v.1)) = intsD (vals l.views 0) := by simp [intsD, vals]
  rw [e0]
  have nz : ∀ n, (vals l.views n).length = l.views.length := vals_len l.views
  have eg : ((n : Int) - 1).toNat = n - 1 := by omega
  have step : ∀ (i : Nat) (v : Vw), v ∈ l.views → PyData.int ((vals l.views i).getD v.2.1 0 + (vals l.views i).getD v.2.2 0) = .int ((vals l.views i).getD v.2.1 0 + (vals l.views i).getD v.2.2 0) := fun _ _ _ => rfl
  refine tr_seq (tr_for0 (s1 := ()) (ds := rngD 0 ((n : Int) - 1).toNat) (fun i => [.dat (encL l), .dat (.int (n : Int)), .dat (.bool l.zero), .dat (.bool l.top), .dat (.int l.front), .dat (.int l.back), .dat (.tuple (l.views.map encV)), .own (intsD ((List.range (i + 1)).map (cnt l))), .dat (.list (intsD (vals l.views i))), .un, .un, .un, .un]) ?_ (Wks.refl _) ?_) ?_
  · exact di_rng1 (da_cons (dv_op (dv_var rfl) dv_int rop_II) da_nil) (by omega) (by omega)
  · intro i d hd
    obtain ⟨hi, rfl⟩ := rngD_get hd
    refine ⟨_, _, dg_name, goes_nxW (tr_seq (tr_app (i := 7) (s1 := ()) rfl (dv_op (dv_op (dv_var rfl) (dv_var rfl) (rop_ixL rfl (atI_ints (by rw [nz]; exact ok.f)))) (dv_op (dv_var rfl) (dv_var rfl) (rop_ixL rfl (atI_ints (by rw [nz]; exact ok.b)))) rop_II) rfl ?_)
      (tr_asgD (dv_lcM (s1 := ()) l.views encV (fun v => .int ((vals l.views i).getD v.2.1 0 + (vals l.views i).getD v.2.2 0)) (di_tup (dv_var rfl)) rfl (Nat.le_trans ok.z (by decide)) rfl fun v hv => ⟨_, _, dg_tup (dgs_cons dg_name (dgs_cons dg_name (dgs_cons dg_name dgs_nil))) rfl, by decide, _, dv_op (dv_op (dv_var rfl) (dv_var rfl) (rop_ixL rfl (atI_ints ?_))) (dv_op (dv_var rfl) (dv_var rfl) (rop_ixL rfl (atI_ints ?_))) rop_II, rfl⟩) rfl)) (.eq (.eq (.eq (.eq (.eq (.eq (.eq (.eqv ?_ (.eqv ?_ (.un (.un (.un (.un .nil)))))))))))))⟩
    · simp [intsD]; omega
    · rw [nz]; exact (ok.v v hv).1
    · rw [nz]; exact (ok.v v hv).2
    · simp [intsD, List.range_succ, cnt]
    · simp [intsD, vals]
  · refine tr_ret (dv_is (dv_sliceL (dv_bor rfl) rfl do_none (do_some (dv_var rfl))) ?_)
    have e2 : (rngD 0 ((n : Int) - 1).toNat).length + 1 = n := by rw [rngD_len]; omega
    rw [e2]
    show B.own (cutD (intsD ((List.range n).map (cnt l))) none (some (n : Int))) = _
    rw [cutD_to, List.take_of_length_le (by simp [intsD])]
theorem vals_pos (vs : List Vw) : ∀ n i, 0 ≤ (vals vs n).getD i 0
  | 0, i => by
    rw [List.getD_eq_getElem?_getD]
    show 0 ≤ ((vs.map fun v => b2n v.1)[i]?).getD 0
    rw [List.getElem?_map]
    cases vs[i]? with
    | none => exact Int.le_refl 0
    | some v => cases h : v.1 <;> simp [b2n, h]
  | n + 1, i => by
    rw [List.getD_eq_getElem?_getD]
    show 0 ≤ ((vs.map fun v => (vals vs n).getD v.2.1 0 + (vals vs n).getD v.2.2 0)[i]?).getD 0
    rw [List.getElem?_map]
    cases vs[i]? with
    | none => exact Int.le_refl 0
    | some v => exact Int.add_nonneg (vals_pos vs n _) (vals_pos vs n _)
theorem cnt_pos (l : Lot) (n : Nat) : 0 ≤ cnt l n := by
  cases n with
  | zero => cases h : l.zero <;> cases h2 : l.top <;> simp [cnt, b2n, h, h2]
  | succ n => exact Int.add_nonneg (vals_pos _ _ _) (vals_pos _ _ _)
def spTold (ds : List PyData) (r : B) : Prop := ∃ (l : Lot) (n : Nat), ds = [encL l, .int (n : Int)] ∧ l.Ok ∧ n ≤ 3000 ∧ (cnt l n).natAbs < 10 ^ 300 ∧ r = .dat (.int (cnt l n))
theorem tr_told (hN : N.length = 3) (h : spTold ds r) : Tr (Cf.pure K T) (toldTs K T) (initE N ds) () (.rt r ()) := by
  obtain ⟨l, n, rfl, ok, hn, hs, rfl⟩ := h
  refine init_eq hN ?_
  show Tr (Cf.pure K T) (toldTs K T) [.dat (encL l), .dat (.int (n : Int)), .un] () _
  have hl := str_len (cnt_pos l n) (k := 300) (by decide) hs
  refine tr_seq (tr_if (c := false) (dt_is (dt_test (dv_op (dv_var rfl) dv_int rop_IB)) (decide_eq_false (by omega))) (fun z => by cases z) fun _ => tr_next) ?_
  refine tr_seq (tr_asg (b := .dat (.int (cnt l n))) (dv_is (dv_op (pm_call (C := Cf.pure K T) (S := spCounts) (r := .own (intsD ((List.range (n + 1)).map (cnt l)))) (da_cons (dv_var rfl) (da_cons (dv_op (dv_var rfl) dv_int rop_II) da_nil)) (.cons rfl (.cons rfl .nil)) ⟨l, n + 1, rfl, ok, by omega, by omega, rfl⟩ rfl) (dv_var rfl) (rop_ixL rfl (atI_ints (i := n) (by simp)))) (by simp [List.getD]))) ?_
  refine tr_seq (tr_if (c := false) (dt_is (dt_test (dv_op (dv_cb (da_cons (dv_cb (da_cons (dv_var rfl) da_nil) (rcb_strInt hs)) da_nil) (rcb_strLen (by omega))) dv_int rop_IB)) (decide_eq_false (by omega))) (fun z => by cases z) fun _ => tr_next) (tr_ret (dv_var rfl))
end
end DV
set_option maxHeartbeats 1000000
namespace DV
open PySem PySem.Spec PyProof.Rows L2 LamX NdefX
/-! ### live views, sizes: readings -/
def boolsD (f : List Bool) : List PyData := f.map .bool
theorem atI_bools {f : List Bool} {i : Nat} (h : i < f.length) : atI (boolsD f) (i : Int) = some (.bool (f.getD i false)) := by
  unfold atI ixN
  rw [if_pos (Int.natCast_nonneg i), if_pos (by simp [boolsD]; exact h)]
  show (boolsD f)[(i : Int).toNat]? = _
  rw [Int.toNat_natCast]
  unfold boolsD
  rw [List.getElem?_map, List.getD_eq_getElem?_getD, List.getElem?_eq_getElem h]
  rfl
def encP (p : Vw × Nat) : PyData := .tuple [.int (p.2 : Int), encV p.1]
theorem enum_zip (vs : List Vw) : enumD (vs.map encV) = vs.zipIdx.map encP := by
  unfold enumD
  refine List.ext_getElem? fun i => ?_
  rw [List.getElem?_mapIdx, List.getElem?_map, List.getElem?_map, List.getElem?_zipIdx]
  cases vs[i]? with
  | none => rfl
  | some v =>
    show some _ = some (encP (v, 0 + i))
    rw [Nat.zero_add]
    rfl
def liveAt (vs : List Vw) : Nat → List Bool
  | 0 => vs.map (·.1)
  | t + 1 => vs.zipIdx.map fun p => (liveAt vs t).getD p.2 false || ((liveAt vs t).getD p.1.2.1 false || (liveAt vs t).getD p.1.2.2 false)
theorem liveAt_len (vs : List Vw) : ∀ t, (liveAt vs t).length = vs.length
  | 0 => by simp [liveAt]
  | t + 1 => by simp [liveAt]
theorem zip_mem {vs : List Vw} {p : Vw × Nat} (h : p ∈ vs.zipIdx) : vs[p.2]? = some p.1 := by
  obtain ⟨i, hi⟩ := List.mem_iff_getElem?.mp h
  rw [List.getElem?_zipIdx] at hi
  cases hv : vs[i]? with
  | none =>
    rw [hv] at hi
    cases hi
  | some v =>
    rw [hv] at hi
    have e : (v, 0 + i) = p := Option.some.inj hi
    rw [← e, Nat.zero_add]
    exact hv
def spLive (ds : List PyData) (r : B) : Prop := ∃ vs : List Vw, ds = [.tuple (vs.map encV)] ∧ closedV vs ∧ vs.length ≤ 60 ∧ r = .dat (.list (boolsD (liveAt vs vs.length)))
def liveTs (K : PySem.W.Frag) : TS := tSeq (tAsg (tLc (iTup K (tVar 0)) (gTup K 3 (gCons (gName 3) (gCons (gName 4) (gCons (gName 5) gNil)))) tYes (tVar 3) [3, 4, 5]) (gName 1)) (tSeq (tFor (iRng1 (tCons (tCB (rLenS K) (tCons (tVar 0) tNil)) tNil)) (gName 2) (tAsg (tLc (iEnumT K (tCons (tVar 0) tNil)) (gTup K 2 (gCons (gName 6) (gCons (gTup K 3 (gCons (gName 3) (gCons (gName 4) (gCons (gName 5) gNil)))) gNil))) tYes (tOrV (tOp (rIxL K) (tVar 1) (tVar 6)) (tOrV (tOp (rIxL K) (tVar 1) (tVar 4)) (tOp (rIxL K) (tVar 1) (tVar 5)))) [6, 3, 4, 5]) (gName 1))) (tRet (tVar 1)))
section
variable {K : PySem.W.Frag} {T : List NTab} {ds : List PyData} {r : B} {N : List Str}
theorem tr_live (hN : N.length = 7) (h : spLive ds r) : Tr (Cf.pure K T) (liveTs K) (initE N ds) () (.rt r ()) := by
  obtain ⟨vs, rfl, hc, hz, rfl⟩ := h
  refine init_eq hN ?_
  show Tr (Cf.pure K T) (liveTs K) [.dat (.tuple (vs.map encV)), .un, .un, .un, .un, .un, .un] () _
  refine tr_seq (tr_asgD (dv_lcM (C := Cf.pure K T) (s1 := ()) vs encV (fun v => .bool v.1) (di_tup (dv_var rfl)) rfl (by omega) rfl fun v hv => ⟨_, _, dg_tup (dgs_cons dg_name (dgs_cons dg_name (dgs_cons dg_name dgs_nil))) rfl, by decide, _, dv_var rfl, rfl⟩) rfl) ?_
  have e0 : vs.map (fun v => PyData.bool v.1) = boolsD (liveAt vs 0) := by
    unfold boolsD liveAt
    rw [List.map_map]
    rfl
  rw [e0]
  have hi : Di (Cf.pure K T) (iRng1 (tCons (tCB (rLenS K) (tCons (tVar 0) tNil)) tNil)) [.dat (.tuple (vs.map encV)), .dat (.list (boolsD (liveAt vs 0))), .un, .un, .un, .un, .un] () (rngD 0 (((vs.map encV).length : Int)).toNat) () :=
    di_rng1 (da_cons (dv_cb (da_cons (dv_var rfl) da_nil) rcb_lenT) da_nil) (by rw [List.length_map]; omega) (by rw [List.length_map]; omega)
  rw [show (((vs.map encV).length : Int)).toNat = vs.length by rw [List.length_map]; omega] at hi
  have lp := tr_for0 (C := Cf.pure K T) (s1 := ()) (g := gName 2) (ds := rngD 0 vs.length) (p := tAsg (tLc (iEnumT K (tCons (tVar 0) tNil)) (gTup K 2 (gCons (gName 6) (gCons (gTup K 3 (gCons (gName 3) (gCons (gName 4) (gCons (gName 5) gNil)))) gNil))) tYes (tOrV (tOp (rIxL K) (tVar 1) (tVar 6)) (tOrV (tOp (rIxL K) (tVar 1) (tVar 4)) (tOp (rIxL K) (tVar 1) (tVar 5)))) [6, 3, 4, 5]) (gName 1))
    (fun i => [.dat (.tuple (vs.map encV)), .dat (.list (boolsD (liveAt vs i))), .un, .un, .un, .un, .un]) hi (Wks.refl _) fun i d hd => by
      obtain ⟨_, rfl⟩ := rngD_get hd
      have ll := liveAt_len vs i
      refine ⟨_, _, dg_name, goes_nxW (tr_asgD (dv_lcM (C := Cf.pure K T) (s1 := ()) vs.zipIdx encP (fun p => .bool ((liveAt vs i).getD p.2 false || ((liveAt vs i).getD p.1.2.1 false || (liveAt vs i).getD p.1.2.2 false))) (di_enumT (da_cons (dv_var rfl) da_nil)) (enum_zip vs) (by simp; omega) rfl fun p hp => ?_) rfl) ?_⟩
      · have hv := zip_mem hp
        have lp := (List.getElem?_eq_some_iff.mp hv).1
        have cv := hc p.1 (List.mem_of_getElem? hv)
        refine ⟨_, _, dg_tup (dgs_cons dg_name (dgs_cons (dg_tup (dgs_cons dg_name (dgs_cons dg_name (dgs_cons dg_name dgs_nil))) rfl) dgs_nil)) rfl, by decide, _, dv_orV (dv_op (dv_var rfl) (dv_var rfl) (rop_ixL rfl (atI_bools (by omega)))) (fun _ => dv_orV (dv_op (dv_var rfl) (dv_var rfl) (rop_ixL rfl (atI_bools (by omega)))) fun _ => dv_op (dv_var rfl) (dv_var rfl) (rop_ixL rfl (atI_bools (by omega)))), rfl⟩
      · refine .eq (.eqv ?_ (.un (.un (.un (.un (.un .nil))))))
        have e : liveAt vs (i + 1) = vs.zipIdx.map fun p => (liveAt vs i).getD p.2 false || ((liveAt vs i).getD p.1.2.1 false || (liveAt vs i).getD p.1.2.2 false) := rfl
        rw [e]
        unfold boolsD
        rw [List.map_map]
        rfl
  rw [rngD_len] at lp
  exact tr_seq lp (tr_ret (dv_var rfl))
end
abbrev rIsN : R2 := fun x y H Q => y = V.non ∧ Q (V.bl (decide (x = V.non))) H
abbrev rNotN : R2 := fun x y H Q => y = V.non ∧ Q (V.bl !decide (x = V.non)) H
def optD : Option Int → PyData
  | none => .none
  | some i => .int i
def optsD (m : List (Option Int)) : List PyData := m.map optD
def sizeStep (m : List (Option Int)) (p : Vw × Nat) : List (Option Int) := match m.getD p.2 none, m.getD p.1.2.1 none, m.getD p.1.2.2 none with
  | none, some a, some b => m.set p.2 (some (b2n p.1.1 + a + b))
  | _, _, _ => m
def sizeLap (vs : List Vw) (m : List (Option Int)) (j : Nat) : List (Option Int) := (vs.zipIdx.take j).foldl sizeStep m
def sizeAt (vs : List Vw) : Nat → List (Option Int)
  | 0 => (liveAt vs vs.length).map fun b => if b then none else some 0
  | t + 1 => sizeLap vs (sizeAt vs t) vs.length
def sizeOf (l : Lot) : Option Int := if none ∈ sizeAt l.views l.views.length then none else some (b2n l.zero + b2n l.top + ((sizeAt l.views l.views.length).getD l.front none).getD 0 + ((sizeAt l.views l.views.length).getD l.back none).getD 0)
theorem sizeStep_len (m : List (Option Int)) (p : Vw × Nat) : (sizeStep m p).length = m.length := by
  unfold sizeStep
  split <;> simp
theorem sizeFold_len : ∀ (l : List (Vw × Nat)) (m : List (Option Int)), (l.foldl sizeStep m).length = m.length
  | [], _ => rfl
  | p :: l, m => (sizeFold_len l _).trans (sizeStep_len m p)
theorem sizeAt_len (vs : List Vw) : ∀ t, (sizeAt vs t).length = vs.length
  | 0 => by
    show ((liveAt vs vs.length).map _).length = _
    rw [List.length_map, liveAt_len]
  | t + 1 => (sizeFold_len _ _).trans (sizeAt_len vs t)
theorem atI_opts {m : List (Option Int)} {i : Nat} (h : i < m.length) : atI (optsD m) (i : Int) = some (optD (m.getD i none)) := by
  unfold atI ixN
  rw [if_pos (Int.natCast_nonneg i), if_pos (by simp [optsD]; exact h)]
  show (optsD m)[(i : Int).toNat]? = _
  rw [Int.toNat_natCast]
  unfold optsD
  rw [List.getElem?_map, List.getD_eq_getElem?_getD, List.getElem?_eq_getElem h]
  rfl
def spSize (ds : List PyData) (r : B) : Prop := ∃ l : Lot, ds = [encL l] ∧ l.Ok ∧ r = .dat (optD (sizeOf l))
def sizeTs (K : PySem.W.Frag) (T : List NTab) : TS := tSeq (tAsg (tVar 0) (gTup K 5 (gCons (gName 1) (gCons (gName 2) (gCons (gName 3) (gCons (gName 4) (gCons (gName 5) gNil))))))) (tSeq (tAsg (tLc (iList K (tCall (Pm K T spLive) [] C8.E0 (tCons (tVar 5) tNil))) (gName 12) tYes (tIf (tB (tVar 12)) (tC V.non) (tC (V.int 0))) [12]) (gName 6)) (tSeq (tFor (iRng1 (tCons (tCB (rLenS K) (tCons (tVar 5) tNil)) tNil)) (gName 7) (tFor (iEnumT K (tCons (tVar 5) tNil)) (gTup K 2 (gCons (gName 8) (gCons (gTup K 3 (gCons (gName 9) (gCons (gName 10) (gCons (gName 11) gNil)))) gNil))) (tIfS (tAnd (tTest (tOp rIsN (tOp (rIxL K) (tVar 6) (tVar 8)) (tC V.non))) (tAnd (tTest (tOp rNotN (tOp (rIxL K) (tVar 6) (tVar 10)) (tC V.non))) (tTest (tOp rNotN (tOp (rIxL K) (tVar 6) (tVar 11)) (tC V.non))))) (tAsg (tOp (rI0 fun i j => V.int (i + j)) (tOp (rI0 fun i j => V.int (i + j)) (tCB rInt1 (tCons (tVar 9) tNil)) (tOp (rIxL K) (tVar 6) (tVar 10))) (tOp (rIxL K) (tVar 6) (tVar 11))) (gSub (tVar 6) (tVar 8) rSetL)) tNext))) (tRet (tIf (tTest (tOp (rInD K) (tC V.non) (tVar 6))) (tC V.non) (tOp (rI0 fun i j => V.int (i + j)) (tOp (rI0 fun i j => V.int (i + j)) (tOp (rI0 fun i j => V.int (i + j)) (tCB rInt1 (tCons (tVar 1) tNil)) (tCB rInt1 (tCons (tVar 2) tNil))) (tOp (rIxL K) (tVar 6) (tVar 3))) (tOp (rIxL K) (tVar 6) (tVar 4)))))))
theorem opt_non {K : PySem.W.Frag} {o : Option Int} : ∀ F v, Da K F v (optD o) → (decide (v = .non)) = o.isNone := fun F v h => by
  cases o with
  | none => cases h; rfl
  | some i => cases h; rfl
theorem sizeLap_succ {vs : List Vw} {m : List (Option Int)} {j : Nat} {v : Vw} (h : vs[j]? = some v) : sizeLap vs m (j + 1) = sizeStep (sizeLap vs m j) (v, j) := by
  unfold sizeLap
  have e : vs.zipIdx[j]? = some (v, j) := by rw [List.getElem?_zipIdx, h]; simp
  rw [List.take_add_one, e, List.foldl_append]
  rfl
theorem any_none (m : List (Option Int)) : ((optsD m).any fun z => PyData.eqv z .none) = decide (none ∈ m) := by
  unfold optsD
  induction m with
  | nil => simp
  | cons o m ih =>
    rw [List.map_cons, List.any_cons, ih]
    cases o with
    | none =>
      show (true || _) = _
      simp
    | some i =>
      show (false || _) = _
      simp
theorem layAll_of : ∀ {ds : List PyData}, (∀ d ∈ ds, d.canLay0 = true) → PyData.canLayAll0 ds = true
  | [], _ => by simp [PyData.canLayAll0]
  | d :: ds, h => by
    simp only [PyData.canLayAll0, Bool.and_eq_true]
    exact ⟨h d List.mem_cons_self, layAll_of fun x hx => h x (List.mem_cons_of_mem _ hx)⟩
theorem depthAll_of {n : Nat} : ∀ {ds : List PyData}, (∀ d ∈ ds, d.depth ≤ n) → PyData.depthAll ds ≤ n
  | [], _ => by simp [PyData.depthAll]
  | d :: ds, h => by
    have h1 := h d List.mem_cons_self
    have h2 := depthAll_of fun x hx => h x (List.mem_cons_of_mem _ hx)
    simp only [PyData.depthAll]
    omega
theorem shaped_list {ds : List PyData} (h : ∀ d ∈ ds, d.canLay0 = true ∧ d.depth ≤ 60) : SeqAt.shaped (.list ds) = true := by
  have h1 := layAll_of fun d hd => (h d hd).1
  have h2 := depthAll_of (n := 60) fun d hd => (h d hd).2
  have h3 : PyData.depth (.list ds) ≤ 64 := by
    simp only [PyData.depth]
    omega
  show (PyData.canLay0 (.list ds) && decide (PyData.depth (.list ds) ≤ 64)) = true
  rw [Bool.and_eq_true]
  exact ⟨by simp only [PyData.canLay0]; exact h1, decide_eq_true h3⟩
theorem shaped_opts (m : List (Option Int)) : SeqAt.shaped (.list (optsD m)) = true := shaped_list fun d hd => by
  obtain ⟨o, _, rfl⟩ := List.mem_map.mp hd
  cases o with
  | none => exact ⟨rfl, by show PyData.depth .none ≤ 60; simp [PyData.depth]⟩
  | some i => exact ⟨by show PyData.canLay0 (.int i) = true; simp [PyData.canLay0], by show PyData.depth (.int i) ≤ 60; simp [PyData.depth]⟩
theorem ixN_nat {n k : Nat} (h : k < n) : ixN n (k : Int) = some k := by
  unfold ixN
  rw [if_pos (Int.natCast_nonneg k), if_pos (by omega), Int.toNat_natCast]
section
variable {K : PySem.W.Frag} {T : List NTab} {ds : List PyData} {r : B} {N : List Str}
def innerTs (K : PySem.W.Frag) : TS := tFor (iEnumT K (tCons (tVar 5) tNil)) (gTup K 2 (gCons (gName 8) (gCons (gTup K 3 (gCons (gName 9) (gCons (gName 10) (gCons (gName 11) gNil)))) gNil))) (tIfS (tAnd (tTest (tOp rIsN (tOp (rIxL K) (tVar 6) (tVar 8)) (tC V.non))) (tAnd (tTest (tOp rNotN (tOp (rIxL K) (tVar 6) (tVar 10)) (tC V.non))) (tTest (tOp rNotN (tOp (rIxL K) (tVar 6) (tVar 11)) (tC V.non))))) (tAsg (tOp (rI0 fun i j => V.int (i + j)) (tOp (rI0 fun i j => V.int (i + j)) (tCB rInt1 (tCons (tVar 9) tNil)) (tOp (rIxL K) (tVar 6) (tVar 10))) (tOp (rIxL K) (tVar 6) (tVar 11))) (gSub (tVar 6) (tVar 8) rSetL)) tNext)
def sizeE (l : Lot) (m : List (Option Int)) (lap : B) : Env := [.dat (encL l), .dat (.bool l.zero), .dat (.bool l.top), .dat (.int (l.front : Int)), .dat (.int (l.back : Int)), .dat (.tuple (l.views.map encV)), .own (optsD m), lap, .un, .un, .un, .un, .un]
theorem tr_sizeLap {l : Lot} (ok : l.Ok) {m : List (Option Int)} (hm : m.length = l.views.length) {lap : B} : Tr (Cf.pure K T) (innerTs K) (sizeE l m lap) () (.nx (sizeE l (sizeLap l.views m l.views.length) lap) ()) := by
  obtain ⟨vs, hvs⟩ : ∃ vs, vs = l.views := ⟨_, rfl⟩
  have vc := ok.v
  have lp := tr_for0 (C := Cf.pure K T) (s1 := ()) (env := sizeE l m lap) (ds := enumD (l.views.map encV)) (fun j => sizeE l (sizeLap l.views m j) lap) (di_enumT (da_cons (dv_var (i := 5) rfl) da_nil)) (Wks.refl _) (g := gTup K 2 (gCons (gName 8) (gCons (gTup K 3 (gCons (gName 9) (gCons (gName 10) (gCons (gName 11) gNil)))) gNil)))
    (p := tIfS (tAnd (tTest (tOp rIsN (tOp (rIxL K) (tVar 6) (tVar 8)) (tC V.non))) (tAnd (tTest (tOp rNotN (tOp (rIxL K) (tVar 6) (tVar 10)) (tC V.non))) (tTest (tOp rNotN (tOp (rIxL K) (tVar 6) (tVar 11)) (tC V.non))))) (tAsg (tOp (rI0 fun i j => V.int (i + j)) (tOp (rI0 fun i j => V.int (i + j)) (tCB rInt1 (tCons (tVar 9) tNil)) (tOp (rIxL K) (tVar 6) (tVar 10))) (tOp (rIxL K) (tVar 6) (tVar 11))) (gSub (tVar 6) (tVar 8) rSetL)) tNext)
    fun j d hd => by
      obtain ⟨e, he, rfl⟩ := enumD_get hd
      rw [List.getElem?_map] at he
      cases hv : l.views[j]? with
      | none =>
        rw [hv] at he
        cases he
      | some v =>
        rw [hv] at he
        cases he
        have lj := (List.getElem?_eq_some_iff.mp hv).1
        have cv := vc v (List.mem_of_getElem? hv)
        have es := sizeLap_succ (m := m) hv
        have ml : (sizeLap l.views m j).length = l.views.length := (sizeFold_len _ _).trans hm
        obtain ⟨M, hM⟩ : ∃ M, M = sizeLap l.views m j := ⟨_, rfl⟩
        rw [← hM] at es ml ⊢
        refine ⟨_, _, dg_tup (dgs_cons dg_name (dgs_cons (dg_tup (dgs_cons dg_name (dgs_cons dg_name (dgs_cons dg_name dgs_nil))) rfl) dgs_nil)) rfl, ?_⟩
        have test : ∀ q : Bool, ((M.getD j none).isNone && ((!(M.getD v.2.1 none).isNone) && (!(M.getD v.2.2 none).isNone))) = q → Dt (Cf.pure K T) (tAnd (tTest (tOp rIsN (tOp (rIxL K) (tVar 6) (tVar 8)) (tC V.non))) (tAnd (tTest (tOp rNotN (tOp (rIxL K) (tVar 6) (tVar 10)) (tC V.non))) (tTest (tOp rNotN (tOp (rIxL K) (tVar 6) (tVar 11)) (tC V.non)))))
            [.dat (encL l), .dat (.bool l.zero), .dat (.bool l.top), .dat (.int (l.front : Int)), .dat (.int (l.back : Int)), .dat (.tuple (l.views.map encV)), .own (optsD M), lap, .dat (.int (j : Int)), .dat (.bool v.1), .dat (.int (v.2.1 : Int)), .dat (.int (v.2.2 : Int)), .un] () q () := fun q hq =>
          dt_is (dt_and0 (dt_test (dv_op (dv_op (dv_bor rfl) (dv_var rfl) (rop_ixL rfl (atI_opts (by omega)))) dv_non (rop_isN opt_non))) fun _ => dt_and0 (dt_test (dv_op (dv_op (dv_bor rfl) (dv_var rfl) (rop_ixL rfl (atI_opts (by omega)))) dv_non (rop_notN opt_non))) fun _ => dt_test (dv_op (dv_op (dv_bor rfl) (dv_var rfl) (rop_ixL rfl (atI_opts (by omega)))) dv_non (rop_notN opt_non))) hq
        have no : sizeStep M (v, j) = M → ((M.getD j none).isNone && ((!(M.getD v.2.1 none).isNone) && (!(M.getD v.2.2 none).isNone))) = false → Goes (Cf.pure K T) (tIfS (tAnd (tTest (tOp rIsN (tOp (rIxL K) (tVar 6) (tVar 8)) (tC V.non))) (tAnd (tTest (tOp rNotN (tOp (rIxL K) (tVar 6) (tVar 10)) (tC V.non))) (tTest (tOp rNotN (tOp (rIxL K) (tVar 6) (tVar 11)) (tC V.non))))) (tAsg (tOp (rI0 fun i j => V.int (i + j)) (tOp (rI0 fun i j => V.int (i + j)) (tCB rInt1 (tCons (tVar 9) tNil)) (tOp (rIxL K) (tVar 6) (tVar 10))) (tOp (rIxL K) (tVar 6) (tVar 11))) (gSub (tVar 6) (tVar 8) rSetL)) tNext)
            [.dat (encL l), .dat (.bool l.zero), .dat (.bool l.top), .dat (.int (l.front : Int)), .dat (.int (l.back : Int)), .dat (.tuple (l.views.map encV)), .own (optsD M), lap, .dat (.int (j : Int)), .dat (.bool v.1), .dat (.int (v.2.1 : Int)), .dat (.int (v.2.2 : Int)), .un] () (sizeE l (sizeLap l.views m (j + 1)) lap) () := fun e1 e2 => by
          refine goes_nxW (tr_if (test false e2) (fun z => by cases z) fun _ => tr_next) ?_
          rw [es, e1]
          exact .eq (.eq (.eq (.eq (.eq (.eq (.eq (.eq (.un (.un (.un (.un (.un .nil))))))))))))
        cases h1 : M.getD j none with
        | some a => exact no (by unfold sizeStep; rw [h1]) (by rw [h1]; rfl)
        | none =>
          cases h2 : M.getD v.2.1 none with
          | none => exact no (by unfold sizeStep; rw [h1, h2]) (by rw [h1, h2]; rfl)
          | some a =>
            cases h3 : M.getD v.2.2 none with
            | none => exact no (by unfold sizeStep; rw [h1, h2, h3]) (by rw [h1, h2, h3]; rfl)
            | some b =>
              have e1 : sizeStep M (v, j) = M.set j (some (b2n v.1 + a + b)) := by unfold sizeStep; rw [h1, h2, h3]
              refine goes_nxW (tr_if (test true (by rw [h1, h2, h3]; rfl)) (fun _ => tr_setL (i := 6) (j := (j : Int)) (k := j) rfl (dv_op (dv_op (dv_cb (da_cons (dv_var rfl) da_nil) rcb_intB) (dv_is (dv_op (dv_bor rfl) (dv_var rfl) (rop_ixL rfl (atI_opts (by omega)))) (congrArg (fun o => B.dat (optD o)) h2)) rop_II) (dv_is (dv_op (dv_bor rfl) (dv_var rfl) (rop_ixL rfl (atI_opts (by omega)))) (congrArg (fun o => B.dat (optD o)) h3)) rop_II) rfl (dv_var rfl) (ixN_nat (by simp [optsD]; omega))) fun z => by cases z) ?_
              rw [es, e1]
              refine .eq (.eq (.eq (.eq (.eq (.eq (.eqv ?_ (.eq (.un (.un (.un (.un (.un .nil))))))))))))
              unfold optsD
              rw [List.map_set]
              rfl
  rw [enumD_len, List.length_map] at lp
  exact lp
theorem tr_size (hN : N.length = 13) (h : spSize ds r) : Tr (Cf.pure K T) (sizeTs K T) (initE N ds) () (.rt r ()) := by
  obtain ⟨l, rfl, ok, rfl⟩ := h
  refine init_eq hN ?_
  show Tr (Cf.pure K T) (sizeTs K T) [.dat (encL l), .un, .un, .un, .un, .un, .un, .un, .un, .un, .un, .un, .un] () _
  have z60 := ok.z
  refine tr_seq (tr_asgT (dv_var rfl) rfl (dg_tup (dgs_cons dg_name (dgs_cons dg_name (dgs_cons dg_name (dgs_cons dg_name (dgs_cons dg_name dgs_nil))))) rfl)) ?_
  refine tr_seq (tr_asg (dv_lcM (C := Cf.pure K T) (s1 := ()) (liveAt l.views l.views.length) .bool (fun b => optD (if b then none else some 0)) (di_list (pm_call (C := Cf.pure K T) (S := spLive) (r := .dat (.list (boolsD (liveAt l.views l.views.length)))) (da_cons (dv_var rfl) da_nil) (.cons rfl .nil) ⟨l.views, rfl, ok.v, z60, rfl⟩ rfl) rfl) rfl (by rw [liveAt_len]; omega) rfl
    fun b hb => ⟨_, _, dg_name, by decide, _, dv_if (x := .dat (optD (if b then none else some 0))) (dt_B (dv_var rfl)) (fun z => by rw [z]; exact dv_non) (fun z => by rw [z]; exact dv_int), rfl⟩)) ?_
  have e0 : (liveAt l.views l.views.length).map (fun b => optD (if b then none else some 0)) = optsD (sizeAt l.views 0) := by
    unfold optsD
    show _ = ((liveAt l.views l.views.length).map fun b => if b then none else some 0).map optD
    rw [List.map_map]
    rfl
  rw [e0]
  have hi : Di (Cf.pure K T) (iRng1 (tCons (tCB (rLenS K) (tCons (tVar 5) tNil)) tNil)) (sizeE l (sizeAt l.views 0) .un) () (rngD 0 (((l.views.map encV).length : Int)).toNat) () :=
    di_rng1 (da_cons (dv_cb (da_cons (dv_var (i := 5) rfl) da_nil) rcb_lenT) da_nil) (by rw [List.length_map]; omega) (by rw [List.length_map]; omega)
  rw [show (((l.views.map encV).length : Int)).toNat = l.views.length by rw [List.length_map]; omega] at hi
  have lp := tr_for0 (C := Cf.pure K T) (s1 := ()) (g := gName 7) (ds := rngD 0 l.views.length) (p := innerTs K) (fun i => sizeE l (sizeAt l.views i) .un) hi (Wks.refl _) fun i d hd => by
    obtain ⟨_, rfl⟩ := rngD_get hd
    refine ⟨_, _, dg_name, goes_nxW (tr_sizeLap ok (sizeAt_len l.views i)) ?_⟩
    exact .eq (.eq (.eq (.eq (.eq (.eq (.eq (.un (.un (.un (.un (.un (.un .nil))))))))))))
  rw [rngD_len] at lp
  refine tr_seq lp ?_
  have ml := sizeAt_len l.views l.views.length
  obtain ⟨M, hM⟩ : ∃ M, M = sizeAt l.views l.views.length := ⟨_, rfl⟩
  unfold sizeOf
  rw [← hM] at ml ⊢
  have okf := ok.f
  have okb := ok.b
  by_cases c : none ∈ M
  · rw [if_pos c]
    exact tr_ret (dv_if (x := .dat .none) (b := true) (dt_is (dt_test (dv_op dv_non (dv_bor rfl) (rop_inD rfl rfl rfl (shaped_opts M)))) (by rw [any_none, decide_eq_true c])) (fun _ => dv_non) fun z => by cases z)
  · rw [if_neg c]
    have so : ∀ i, i < M.length → ∃ a, M.getD i none = some a := fun i hi => by
      cases h : M.getD i none with
      | some a => exact ⟨a, rfl⟩
      | none =>
        rw [List.getD_eq_getElem?_getD, List.getElem?_eq_getElem hi] at h
        have h : M[i] = none := h
        exact absurd (h ▸ List.getElem_mem hi) c
    obtain ⟨a, ha⟩ := so l.front (by omega)
    obtain ⟨b, hb⟩ := so l.back (by omega)
    rw [ha, hb]
    exact tr_ret (dv_if (x := .dat (.int (b2n l.zero + b2n l.top + a + b))) (b := false) (dt_is (dt_test (dv_op dv_non (dv_bor rfl) (rop_inD rfl rfl rfl (shaped_opts M)))) (by rw [any_none, decide_eq_false c])) (fun z => by cases z) fun _ => dv_op (dv_op (dv_op (dv_cb (da_cons (dv_var rfl) da_nil) rcb_intB) (dv_cb (da_cons (dv_var rfl) da_nil) rcb_intB) rop_II) (dv_is (dv_op (dv_bor rfl) (dv_var rfl) (rop_ixL rfl (atI_opts (by omega)))) (congrArg (fun o => B.dat (optD o)) ha)) rop_II) (dv_is (dv_op (dv_bor rfl) (dv_var rfl) (rop_ixL rfl (atI_opts (by omega)))) (congrArg (fun o => B.dat (optD o)) hb)) rop_II)
end
end DV
set_option maxHeartbeats 1000000
namespace W45
open PySem L2 NdefX LamX DV
def topS (i : Nat) : Stmt := PySem.Challenge.pw_waylots_k45_whole_counts_by_all_steps.main.body.getD i (.Pass ⟨0, 0, 0, 0⟩)
abbrev N_Raw___init__ : List Str := ["self"]
abbrev s_Raw___init__ : Stmt := inClass (topS 16) 0
theorem sc_Raw___init__ : FnScope N_Raw___init__ ["self"] (defScope s_Raw___init__) := ⟨rfl, rfl, rfl, by decide +kernel, rfl, by decide +kernel, by decide +kernel⟩
abbrev N_Raw_number : List Str := ["self", "state"]
abbrev s_Raw_number : Stmt := inClass (topS 16) 1
theorem sc_Raw_number : FnScope N_Raw_number ["self", "state"] (defScope s_Raw_number) := ⟨rfl, rfl, rfl, by decide +kernel, rfl, by decide +kernel, by decide +kernel⟩
abbrev N_raw_views : List Str := ["starts", "view_of", "raw", "found", "first", "yes", "left", "right", "state"]
abbrev s_raw_views : Stmt := topS 17
theorem sc_raw_views : FnScope N_raw_views ["starts", "view_of"] (defScope s_raw_views) := ⟨rfl, rfl, rfl, by decide +kernel, rfl, by decide +kernel, by decide +kernel⟩
abbrev N_counts_row : List Str := ["lot", "many", "zero", "top", "front", "back", "views", "row", "found", "lap", "yes", "left", "right"]
abbrev s_counts_row : Stmt := topS 8
theorem sc_counts_row : FnScope N_counts_row ["lot", "many"] (defScope s_counts_row) := ⟨rfl, rfl, rfl, by decide +kernel, rfl, by decide +kernel, by decide +kernel⟩
abbrev N_count_told : List Str := ["lot", "n", "number"]
abbrev s_count_told : Stmt := topS 9
theorem sc_count_told : FnScope N_count_told ["lot", "n"] (defScope s_count_told) := ⟨rfl, rfl, rfl, by decide +kernel, rfl, by decide +kernel, by decide +kernel⟩
abbrev N_classes_of : List Str := ["views", "yes", "left", "right", "found", "many", "lap", "known", "late", "number", "kind"]
abbrev s_classes_of : Stmt := topS 18
theorem sc_classes_of : FnScope N_classes_of ["views"] (defScope s_classes_of) := ⟨rfl, rfl, rfl, by decide +kernel, rfl, by decide +kernel, by decide +kernel⟩
abbrev N_least_lot : List Str := ["zero", "top", "front", "back", "view_of", "starts", "views", "classes", "number", "yes", "left", "right", "first", "found", "table", "start"]
abbrev s_least_lot : Stmt := topS 19
abbrev lsc_least_lot : Scope := { kind := .function, names := [("one", .local), ("table", .free)], isGenerator := false, isCoroutine := false }
theorem sc_least_lot : FnScope N_least_lot ["zero", "top", "front", "back", "view_of"] (defScope s_least_lot) := ⟨rfl, rfl, rfl, by decide +kernel, rfl, by decide +kernel, by decide +kernel⟩
abbrev N_view_behind : List Str := ["views", "view", "letter", "many", "side", "line", "known", "begin"]
abbrev s_view_behind : Stmt := topS 20
theorem sc_view_behind : FnScope N_view_behind ["views", "view", "letter", "many"] (defScope s_view_behind) := ⟨rfl, rfl, rfl, by decide +kernel, rfl, by decide +kernel, by decide +kernel⟩
abbrev N_view_along : List Str := ["views", "view", "runs", "found", "letter", "many"]
abbrev s_view_along : Stmt := topS 21
theorem sc_view_along : FnScope N_view_along ["views", "view", "runs"] (defScope s_view_along) := ⟨rfl, rfl, rfl, by decide +kernel, rfl, by decide +kernel, by decide +kernel⟩
abbrev N_is_long : List Str := ["number"]
abbrev s_is_long : Stmt := topS 26
theorem sc_is_long : FnScope N_is_long ["number"] (defScope s_is_long) := ⟨rfl, rfl, rfl, by decide +kernel, rfl, by decide +kernel, by decide +kernel⟩
abbrev N_not_long : List Str := ["numbers", "number"]
abbrev s_not_long : Stmt := topS 27
theorem sc_not_long : FnScope N_not_long ["numbers"] (defScope s_not_long) := ⟨rfl, rfl, rfl, by decide +kernel, rfl, by decide +kernel, by decide +kernel⟩
abbrev N_fraction_told : List Str := ["top", "bottom", "part"]
abbrev s_fraction_told : Stmt := topS 31
theorem sc_fraction_told : FnScope N_fraction_told ["top", "bottom"] (defScope s_fraction_told) := ⟨rfl, rfl, rfl, by decide +kernel, rfl, by decide +kernel, by decide +kernel⟩
abbrev N_number_floor : List Str := ["number", "root"]
abbrev s_number_floor : Stmt := topS 33
theorem sc_number_floor : FnScope N_number_floor ["number"] (defScope s_number_floor) := ⟨rfl, rfl, rfl, by decide +kernel, rfl, by decide +kernel, by decide +kernel⟩
abbrev N_map_led : List Str := ["one", "number", "a", "b", "c", "d", "top", "bottom"]
abbrev s_map_led : Stmt := topS 37
theorem sc_map_led : FnScope N_map_led ["one", "number"] (defScope s_map_led) := ⟨rfl, rfl, rfl, by decide +kernel, rfl, by decide +kernel, by decide +kernel⟩
abbrev N_not_long_2 : List Str := ["runs"]
abbrev s_not_long_2 : Stmt := topS 48
theorem sc_not_long_2 : FnScope N_not_long_2 ["runs"] (defScope s_not_long_2) := ⟨rfl, rfl, rfl, by decide +kernel, rfl, by decide +kernel, by decide +kernel⟩
abbrev N_fraction_runs : List Str := ["top", "bottom", "runs", "many"]
abbrev s_fraction_runs : Stmt := topS 50
theorem sc_fraction_runs : FnScope N_fraction_runs ["top", "bottom"] (defScope s_fraction_runs) := ⟨rfl, rfl, rfl, by decide +kernel, rfl, by decide +kernel, by decide +kernel⟩
abbrev N_is_below : List Str := ["number"]
abbrev s_is_below : Stmt := topS 55
theorem sc_is_below : FnScope N_is_below ["number"] (defScope s_is_below) := ⟨rfl, rfl, rfl, by decide +kernel, rfl, by decide +kernel, by decide +kernel⟩
abbrev N_way_told : List Str := ["number", "side", "above", "head", "around"]
abbrev s_way_told : Stmt := topS 56
theorem sc_way_told : FnScope N_way_told ["number"] (defScope s_way_told) := ⟨rfl, rfl, rfl, by decide +kernel, rfl, by decide +kernel, by decide +kernel⟩
abbrev N_edge_behind : List Str := ["edge", "runs", "a", "b", "c", "d", "letter", "many"]
abbrev s_edge_behind : Stmt := topS 57
theorem sc_edge_behind : FnScope N_edge_behind ["edge", "runs"] (defScope s_edge_behind) := ⟨rfl, rfl, rfl, by decide +kernel, rfl, by decide +kernel, by decide +kernel⟩
abbrev N_first_edge : List Str := ["side"]
abbrev s_first_edge : Stmt := topS 58
theorem sc_first_edge : FnScope N_first_edge ["side"] (defScope s_first_edge) := ⟨rfl, rfl, rfl, by decide +kernel, rfl, by decide +kernel, by decide +kernel⟩
abbrev N_way_number : List Str := ["way", "a", "b", "c", "d", "e", "f", "g", "h"]
abbrev s_way_number : Stmt := topS 59
theorem sc_way_number : FnScope N_way_number ["way"] (defScope s_way_number) := ⟨rfl, rfl, rfl, by decide +kernel, rfl, by decide +kernel, by decide +kernel⟩
abbrev N_lot_told : List Str := ["zero", "top", "front", "back", "modes", "name", "yes", "left", "right", "known"]
abbrev s_lot_told : Stmt := topS 62
abbrev lsc_lot_told : Scope := { kind := .function, names := [("name", .local), ("known", .free)], isGenerator := false, isCoroutine := false }
theorem sc_lot_told : FnScope N_lot_told ["zero", "top", "front", "back", "modes"] (defScope s_lot_told) := ⟨rfl, rfl, rfl, by decide +kernel, rfl, by decide +kernel, by decide +kernel⟩
abbrev N_has_fraction : List Str := ["lot", "x", "zero", "top", "front", "back", "views", "way", "side", "runs"]
abbrev s_has_fraction : Stmt := topS 63
theorem sc_has_fraction : FnScope N_has_fraction ["lot", "x"] (defScope s_has_fraction) := ⟨rfl, rfl, rfl, by decide +kernel, rfl, by decide +kernel, by decide +kernel⟩
abbrev N_live_views : List Str := ["views", "found", "lap", "yes", "left", "right", "k"]
abbrev s_live_views : Stmt := topS 64
theorem sc_live_views : FnScope N_live_views ["views"] (defScope s_live_views) := ⟨rfl, rfl, rfl, by decide +kernel, rfl, by decide +kernel, by decide +kernel⟩
abbrev N_lot_size : List Str := ["lot", "zero", "top", "front", "back", "views", "many", "lap", "k", "yes", "left", "right", "is_live"]
abbrev s_lot_size : Stmt := topS 65
theorem sc_lot_size : FnScope N_lot_size ["lot"] (defScope s_lot_size) := ⟨rfl, rfl, rfl, by decide +kernel, rfl, by decide +kernel, by decide +kernel⟩
abbrev N__law_source : List Str := ["script", "mixed", "cell"]
abbrev s__law_source : Stmt := topS 67
theorem sc__law_source : FnScope N__law_source ["script"] (defScope s__law_source) := ⟨rfl, rfl, rfl, by decide +kernel, rfl, by decide +kernel, by decide +kernel⟩
abbrev N__law_pick : List Str := ["source", "many", "left", "mixed"]
abbrev s__law_pick : Stmt := topS 68
theorem sc__law_pick : FnScope N__law_pick ["source", "many"] (defScope s__law_pick) := ⟨rfl, rfl, rfl, by decide +kernel, rfl, by decide +kernel, by decide +kernel⟩
abbrev N__law_of : List Str := ["source", "some"]
abbrev s__law_of : Stmt := topS 69
theorem sc__law_of : FnScope N__law_of ["source", "some"] (defScope s__law_of) := ⟨rfl, rfl, rfl, by decide +kernel, rfl, by decide +kernel, by decide +kernel⟩
abbrev N__law_modulo : List Str := ["source", "many", "lets", "k", "top", "bottom", "other", "starts", "line", "modes", "a", "b", "c", "d", "middle", "late", "yes", "edge", "one"]
abbrev s__law_modulo : Stmt := topS 70
theorem sc__law_modulo : FnScope N__law_modulo ["source", "many"] (defScope s__law_modulo) := ⟨rfl, rfl, rfl, by decide +kernel, rfl, by decide +kernel, by decide +kernel⟩
abbrev N__law_key : List Str := ["edge", "many", "one", "number"]
abbrev s__law_key : Stmt := topS 71
theorem sc__law_key : FnScope N__law_key ["edge", "many"] (defScope s__law_key) := ⟨rfl, rfl, rfl, by decide +kernel, rfl, by decide +kernel, by decide +kernel⟩
abbrev N__law_named : List Str := ["edge", "number"]
abbrev s__law_named : Stmt := topS 72
theorem sc__law_named : FnScope N__law_named ["edge"] (defScope s__law_named) := ⟨rfl, rfl, rfl, by decide +kernel, rfl, by decide +kernel, by decide +kernel⟩
abbrev N__law_lot : List Str := ["source", "many", "names", "modes", "name", "some"]
abbrev s__law_lot : Stmt := topS 73
theorem sc__law_lot : FnScope N__law_lot ["source", "many"] (defScope s__law_lot) := ⟨rfl, rfl, rfl, by decide +kernel, rfl, by decide +kernel, by decide +kernel⟩
abbrev N__law_modes : List Str := ["modes", "name"]
abbrev s__law_modes : Stmt := topS 74
theorem sc__law_modes : FnScope N__law_modes ["modes"] (defScope s__law_modes) := ⟨rfl, rfl, rfl, by decide +kernel, rfl, by decide +kernel, by decide +kernel⟩
abbrev N__law_rows : List Str := ["head", "modes", "most", "line", "found", "lap", "side", "way", "name", "late"]
abbrev s__law_rows : Stmt := topS 75
theorem sc__law_rows : FnScope N__law_rows ["head", "modes", "most"] (defScope s__law_rows) := ⟨rfl, rfl, rfl, by decide +kernel, rfl, by decide +kernel, by decide +kernel⟩
abbrev N__law_runs : List Str := ["way", "found", "letter", "word"]
abbrev s__law_runs : Stmt := topS 76
theorem sc__law_runs : FnScope N__law_runs ["way"] (defScope s__law_runs) := ⟨rfl, rfl, rfl, by decide +kernel, rfl, by decide +kernel, by decide +kernel⟩
abbrev N__law_far : List Str := ["modes", "name", "steps", "found", "lap", "one"]
abbrev s__law_far : Stmt := topS 77
theorem sc__law_far : FnScope N__law_far ["modes", "name", "steps"] (defScope s__law_far) := ⟨rfl, rfl, rfl, by decide +kernel, rfl, by decide +kernel, by decide +kernel⟩
abbrev N__law_few : List Str := ["source", "many", "k", "names", "modes", "some"]
abbrev s__law_few : Stmt := topS 78
theorem sc__law_few : FnScope N__law_few ["source"] (defScope s__law_few) := ⟨rfl, rfl, rfl, by decide +kernel, rfl, by decide +kernel, by decide +kernel⟩
abbrev N_law : List Str := ["script", "source", "is_few", "head", "modes", "lot", "rows", "side", "way", "yes", "counts", "n", "lap", "x", "told", "far", "due", "row", "letter", "many"]
abbrev s_law : Stmt := topS 79
theorem sc_law : FnScope N_law ["script"] (defScope s_law) := ⟨rfl, rfl, rfl, by decide +kernel, rfl, by decide +kernel, by decide +kernel⟩
structure GA where
  d_Raw___init__ : Addr
  f_Raw___init__ : FuncData
  d_Raw_number : Addr
  f_Raw_number : FuncData
  d_raw_views : Addr
  f_raw_views : FuncData
  d_counts_row : Addr
  f_counts_row : FuncData
  d_count_told : Addr
  f_count_told : FuncData
  d_classes_of : Addr
  f_classes_of : FuncData
  d_least_lot : Addr
  f_least_lot : FuncData
  d_view_behind : Addr
  f_view_behind : FuncData
  d_view_along : Addr
  f_view_along : FuncData
  d_is_long : Addr
  f_is_long : FuncData
  d_not_long : Addr
  f_not_long : FuncData
  d_fraction_told : Addr
  f_fraction_told : FuncData
  d_number_floor : Addr
  f_number_floor : FuncData
  d_map_led : Addr
  f_map_led : FuncData
  d_not_long_2 : Addr
  f_not_long_2 : FuncData
  d_fraction_runs : Addr
  f_fraction_runs : FuncData
  d_is_below : Addr
  f_is_below : FuncData
  d_way_told : Addr
  f_way_told : FuncData
  d_edge_behind : Addr
  f_edge_behind : FuncData
  d_first_edge : Addr
  f_first_edge : FuncData
  d_way_number : Addr
  f_way_number : FuncData
  d_lot_told : Addr
  f_lot_told : FuncData
  d_has_fraction : Addr
  f_has_fraction : FuncData
  d_live_views : Addr
  f_live_views : FuncData
  d_lot_size : Addr
  f_lot_size : FuncData
  d__law_source : Addr
  f__law_source : FuncData
  d__law_pick : Addr
  f__law_pick : FuncData
  d__law_of : Addr
  f__law_of : FuncData
  d__law_modulo : Addr
  f__law_modulo : FuncData
  d__law_key : Addr
  f__law_key : FuncData
  d__law_named : Addr
  f__law_named : FuncData
  d__law_lot : Addr
  f__law_lot : FuncData
  d__law_modes : Addr
  f__law_modes : FuncData
  d__law_rows : Addr
  f__law_rows : FuncData
  d__law_runs : Addr
  f__law_runs : FuncData
  d__law_far : Addr
  f__law_far : FuncData
  d__law_few : Addr
  f__law_few : FuncData
  d_law : Addr
  f_law : FuncData
  c_Raw : Addr
  t_DOWN : Nat
  t_GREAT_COUNT : Nat
  t_LEFT : Nat
  t_LONG_NUMBER : Nat
  t_LONG_WAY : Nat
  t_MANY_RAW : Nat
  t_MANY_VIEWS : Nat
  t_MOST_FIGURES_circlenumbers : Nat
  t_MOST_FIGURES_counts : Nat
  t_MOST_RAW : Nat
  t_MOST_RUNS : Nat
  t_MOST_STEPS : Nat
  t_MOST_VIEWS : Nat
  t_RIGHT : Nat
  r_SIDES : Addr
  t_SURE_BITS : Nat
  r_TOP_WAY : Addr
  r_TURNED : Addr
  t_UP_lots : Nat
  t_UP_ways : Nat
  r_ZERO_WAY : Addr
  p_lot_told : Addr
  o_lot_told : Addr
  p_least_lot : Addr
  o_least_lot : Addr
structure Glob (K : PySem.W.Frag) (mg : Str → Option Value) (w : World) (g : GA) : Prop where
  F_Raw___init__ : Fun K "__init__" "Raw.__init__" s_Raw___init__ g.d_Raw___init__ g.f_Raw___init__
  b_Raw___init__ : Binds K g.f_Raw___init__ ["self"] []
  k_Raw : Mk K g.c_Raw g.d_Raw___init__
  F_Raw_number : Fun K "number" "Raw.number" s_Raw_number g.d_Raw_number g.f_Raw_number
  b_Raw_number : Binds K g.f_Raw_number ["self", "state"] []
  e_Raw_number : Meth K g.c_Raw "number" g.d_Raw_number
  F_raw_views : Fun K "raw_views" "raw_views" s_raw_views g.d_raw_views g.f_raw_views
  b_raw_views : Binds K g.f_raw_views ["starts", "view_of"] []
  F_counts_row : Fun K "counts_row" "counts_row" s_counts_row g.d_counts_row g.f_counts_row
  b_counts_row : Binds K g.f_counts_row ["lot", "many"] []
  F_count_told : Fun K "count_told" "count_told" s_count_told g.d_count_told g.f_count_told
  b_count_told : Binds K g.f_count_told ["lot", "n"] []
  F_classes_of : Fun K "classes_of" "classes_of" s_classes_of g.d_classes_of g.f_classes_of
  b_classes_of : Binds K g.f_classes_of ["views"] []
  F_least_lot : FunC K "least_lot" "least_lot" s_least_lot g.d_least_lot g.f_least_lot g.o_least_lot
  b_least_lot : Binds K g.f_least_lot ["zero", "top", "front", "back", "view_of"] []
  F_view_behind : Fun K "view_behind" "view_behind" s_view_behind g.d_view_behind g.f_view_behind
  b_view_behind : Binds K g.f_view_behind ["views", "view", "letter", "many"] []
  F_view_along : Fun K "view_along" "view_along" s_view_along g.d_view_along g.f_view_along
  b_view_along : Binds K g.f_view_along ["views", "view", "runs"] []
  F_is_long : Fun K "is_long" "is_long" s_is_long g.d_is_long g.f_is_long
  b_is_long : Binds K g.f_is_long ["number"] []
  F_not_long : Fun K "not_long" "not_long" s_not_long g.d_not_long g.f_not_long
  b_not_long : Binds K g.f_not_long ["numbers"] []
  F_fraction_told : Fun K "fraction_told" "fraction_told" s_fraction_told g.d_fraction_told g.f_fraction_told
  b_fraction_told : Binds K g.f_fraction_told ["top", "bottom"] []
  F_number_floor : Fun K "number_floor" "number_floor" s_number_floor g.d_number_floor g.f_number_floor
  b_number_floor : Binds K g.f_number_floor ["number"] []
  F_map_led : Fun K "map_led" "map_led" s_map_led g.d_map_led g.f_map_led
  b_map_led : Binds K g.f_map_led ["one", "number"] []
  F_not_long_2 : Fun K "not_long" "not_long" s_not_long_2 g.d_not_long_2 g.f_not_long_2
  b_not_long_2 : Binds K g.f_not_long_2 ["runs"] []
  F_fraction_runs : Fun K "fraction_runs" "fraction_runs" s_fraction_runs g.d_fraction_runs g.f_fraction_runs
  b_fraction_runs : Binds K g.f_fraction_runs ["top", "bottom"] []
  F_is_below : Fun K "is_below" "is_below" s_is_below g.d_is_below g.f_is_below
  b_is_below : Binds K g.f_is_below ["number"] []
  F_way_told : Fun K "way_told" "way_told" s_way_told g.d_way_told g.f_way_told
  b_way_told : Binds K g.f_way_told ["number"] []
  F_edge_behind : Fun K "edge_behind" "edge_behind" s_edge_behind g.d_edge_behind g.f_edge_behind
  b_edge_behind : Binds K g.f_edge_behind ["edge", "runs"] []
  F_first_edge : Fun K "first_edge" "first_edge" s_first_edge g.d_first_edge g.f_first_edge
  b_first_edge : Binds K g.f_first_edge ["side"] []
  F_way_number : Fun K "way_number" "way_number" s_way_number g.d_way_number g.f_way_number
  b_way_number : Binds K g.f_way_number ["way"] []
  F_lot_told : FunC K "lot_told" "lot_told" s_lot_told g.d_lot_told g.f_lot_told g.o_lot_told
  b_lot_told : Binds K g.f_lot_told ["zero", "top", "front", "back", "modes"] []
  F_has_fraction : Fun K "has_fraction" "has_fraction" s_has_fraction g.d_has_fraction g.f_has_fraction
  b_has_fraction : Binds K g.f_has_fraction ["lot", "x"] []
  F_live_views : Fun K "live_views" "live_views" s_live_views g.d_live_views g.f_live_views
  b_live_views : Binds K g.f_live_views ["views"] []
  F_lot_size : Fun K "lot_size" "lot_size" s_lot_size g.d_lot_size g.f_lot_size
  b_lot_size : Binds K g.f_lot_size ["lot"] []
  F__law_source : Fun K "_law_source" "_law_source" s__law_source g.d__law_source g.f__law_source
  b__law_source : Binds K g.f__law_source ["script"] []
  F__law_pick : Fun K "_law_pick" "_law_pick" s__law_pick g.d__law_pick g.f__law_pick
  b__law_pick : Binds K g.f__law_pick ["source", "many"] []
  F__law_of : Fun K "_law_of" "_law_of" s__law_of g.d__law_of g.f__law_of
  b__law_of : Binds K g.f__law_of ["source", "some"] []
  F__law_modulo : Fun K "_law_modulo" "_law_modulo" s__law_modulo g.d__law_modulo g.f__law_modulo
  b__law_modulo : Binds K g.f__law_modulo ["source", "many"] []
  F__law_key : Fun K "_law_key" "_law_key" s__law_key g.d__law_key g.f__law_key
  b__law_key : Binds K g.f__law_key ["edge", "many"] []
  F__law_named : Fun K "_law_named" "_law_named" s__law_named g.d__law_named g.f__law_named
  b__law_named : Binds K g.f__law_named ["edge"] []
  F__law_lot : Fun K "_law_lot" "_law_lot" s__law_lot g.d__law_lot g.f__law_lot
  b__law_lot : Binds K g.f__law_lot ["source", "many"] []
  F__law_modes : Fun K "_law_modes" "_law_modes" s__law_modes g.d__law_modes g.f__law_modes
  b__law_modes : Binds K g.f__law_modes ["modes"] []
  F__law_rows : Fun K "_law_rows" "_law_rows" s__law_rows g.d__law_rows g.f__law_rows
  b__law_rows : Binds K g.f__law_rows ["head", "modes", "most"] []
  F__law_runs : Fun K "_law_runs" "_law_runs" s__law_runs g.d__law_runs g.f__law_runs
  b__law_runs : Binds K g.f__law_runs ["way"] []
  F__law_far : Fun K "_law_far" "_law_far" s__law_far g.d__law_far g.f__law_far
  b__law_far : Binds K g.f__law_far ["modes", "name", "steps"] []
  F__law_few : Fun K "_law_few" "_law_few" s__law_few g.d__law_few g.f__law_few
  b__law_few : Binds K g.f__law_few ["source"] []
  F_law : Fun K "law" "law" s_law g.d_law g.f_law
  b_law : Binds K g.f_law ["script"] []
  C_Raw : Cls K g.c_Raw
  m_Raw : mg "Raw" = some (.ref g.c_Raw)
  a_Raw_known : NoAttr K g.c_Raw "known"
  a_Raw_line : NoAttr K g.c_Raw "line"
  m_DOWN : mg "DOWN" = some (.str "down" g.t_DOWN)
  m_GREAT_COUNT : mg "GREAT_COUNT" = some (.int 4 g.t_GREAT_COUNT)
  m_LEFT : mg "LEFT" = some (.str "left" g.t_LEFT)
  m_LONG_NUMBER : mg "LONG_NUMBER" = some (.int 4 g.t_LONG_NUMBER)
  m_LONG_WAY : mg "LONG_WAY" = some (.int 3 g.t_LONG_WAY)
  m_MANY_RAW : mg "MANY_RAW" = some (.int 1 g.t_MANY_RAW)
  m_MANY_VIEWS : mg "MANY_VIEWS" = some (.int 0 g.t_MANY_VIEWS)
  m_MOST_FIGURES_circlenumbers : mg "MOST_FIGURES_circlenumbers" = some (.int 300 g.t_MOST_FIGURES_circlenumbers)
  m_MOST_FIGURES_counts : mg "MOST_FIGURES_counts" = some (.int 300 g.t_MOST_FIGURES_counts)
  m_MOST_RAW : mg "MOST_RAW" = some (.int 1200 g.t_MOST_RAW)
  m_MOST_RUNS : mg "MOST_RUNS" = some (.int 200 g.t_MOST_RUNS)
  m_MOST_STEPS : mg "MOST_STEPS" = some (.int 3000 g.t_MOST_STEPS)
  m_MOST_VIEWS : mg "MOST_VIEWS" = some (.int 60 g.t_MOST_VIEWS)
  m_RIGHT : mg "RIGHT" = some (.str "right" g.t_RIGHT)
  m_SIDES : mg "SIDES" = some (.ref g.r_SIDES)
  m_SURE_BITS : mg "SURE_BITS" = some (.int 997 g.t_SURE_BITS)
  m_TOP_WAY : mg "TOP_WAY" = some (.ref g.r_TOP_WAY)
  m_TURNED : mg "TURNED" = some (.ref g.r_TURNED)
  m_UP_lots : mg "UP_lots" = some (.str "up" g.t_UP_lots)
  m_UP_ways : mg "UP_ways" = some (.str "up" g.t_UP_ways)
  m_ZERO_WAY : mg "ZERO_WAY" = some (.ref g.r_ZERO_WAY)
  m__law_far : mg "_law_far" = some (.ref g.d__law_far)
  m__law_few : mg "_law_few" = some (.ref g.d__law_few)
  m__law_key : mg "_law_key" = some (.ref g.d__law_key)
  m__law_lot : mg "_law_lot" = some (.ref g.d__law_lot)
  m__law_modes : mg "_law_modes" = some (.ref g.d__law_modes)
  m__law_modulo : mg "_law_modulo" = some (.ref g.d__law_modulo)
  m__law_named : mg "_law_named" = some (.ref g.d__law_named)
  m__law_of : mg "_law_of" = some (.ref g.d__law_of)
  m__law_pick : mg "_law_pick" = some (.ref g.d__law_pick)
  m__law_rows : mg "_law_rows" = some (.ref g.d__law_rows)
  m__law_runs : mg "_law_runs" = some (.ref g.d__law_runs)
  m__law_source : mg "_law_source" = some (.ref g.d__law_source)
  m_abs : mg "abs" = none
  m_any : mg "any" = none
  m_classes_of : mg "classes_of" = some (.ref g.d_classes_of)
  m_count_told : mg "count_told" = some (.ref g.d_count_told)
  m_counts_row : mg "counts_row" = some (.ref g.d_counts_row)
  m_dict : mg "dict" = none
  m_edge_behind : mg "edge_behind" = some (.ref g.d_edge_behind)
  m_enumerate : mg "enumerate" = none
  m_first_edge : mg "first_edge" = some (.ref g.d_first_edge)
  m_fraction_runs : mg "fraction_runs" = some (.ref g.d_fraction_runs)
  m_fraction_told : mg "fraction_told" = some (.ref g.d_fraction_told)
  m_gcd : mg "gcd" = some (.builtin "math.gcd")
  m_has_fraction : mg "has_fraction" = some (.ref g.d_has_fraction)
  m_int : mg "int" = none
  m_is_below : mg "is_below" = some (.ref g.d_is_below)
  m_is_long : mg "is_long" = some (.ref g.d_is_long)
  m_isqrt : mg "isqrt" = some (.builtin "math.isqrt")
  m_least_lot : mg "least_lot" = some (.ref g.d_least_lot)
  m_len : mg "len" = none
  m_list : mg "list" = none
  m_live_views : mg "live_views" = some (.ref g.d_live_views)
  m_lot_size : mg "lot_size" = some (.ref g.d_lot_size)
  m_lot_told : mg "lot_told" = some (.ref g.d_lot_told)
  m_map_led : mg "map_led" = some (.ref g.d_map_led)
  m_max : mg "max" = none
  m_min : mg "min" = none
  m_not_long_circlenumbers : mg "not_long_circlenumbers" = some (.ref g.d_not_long)
  m_not_long_ways : mg "not_long_ways" = some (.ref g.d_not_long_2)
  m_number_floor : mg "number_floor" = some (.ref g.d_number_floor)
  -- ? one
  m_range : mg "range" = none
  m_raw_views : mg "raw_views" = some (.ref g.d_raw_views)
  m_repr : mg "repr" = none
  m_sorted : mg "sorted" = none
  m_str : mg "str" = none
  m_sum : mg "sum" = none
  m_tuple : mg "tuple" = none
  m_view_along : mg "view_along" = some (.ref g.d_view_along)
  m_view_behind : mg "view_behind" = some (.ref g.d_view_behind)
  m_way_number : mg "way_number" = some (.ref g.d_way_number)
  m_way_told : mg "way_told" = some (.ref g.d_way_told)
  n_lot_told_least_lot : g.p_lot_told ≠ g.p_least_lot
  sides : SidesOk K w g.r_SIDES
  turned : ∀ F, SqT K F g.r_TURNED [.int 0, .int 1, .int (-1), .int 0]
structure Bs (mg : Str → Option Value) (base : Heap) (g : GA) : Prop where
  t_lot_told : TabB base mg g.o_lot_told g.p_lot_told
  t_least_lot : TabB base mg g.o_least_lot g.p_least_lot
theorem Bs.up {mg : Str → Option Value} {base B : Heap} {g : GA} (z : Bs mg base g) (le : BLe base B) : Bs mg B g := ⟨tabB_up z.t_lot_told le, tabB_up z.t_least_lot le⟩
def TT (g : GA) : List NTab := [(g.p_lot_told, fun _ _ => "lot_told.<locals>.<lambda>"), (g.p_least_lot, fun _ _ => "least_lot.<locals>.<lambda>")]
theorem in_lot_told (g : GA) : (g.p_lot_told, fun _ _ => ("lot_told.<locals>.<lambda>" : Str)) ∈ TT g := by simp [TT]
theorem of_lot_told {K : PySem.W.Frag} {mg : Str → Option Value} {w : World} {g : GA} (G : Glob K mg w g) : ∀ p ∈ TT g, p.1 = g.p_lot_told → p.2 = fun _ _ => ("lot_told.<locals>.<lambda>" : Str) := by
  have N : [g.p_lot_told, g.p_least_lot].Nodup := by simp [G.n_lot_told_least_lot]
  intro p hp e
  exact tab_only N rfl hp (in_lot_told g) e
theorem in_least_lot (g : GA) : (g.p_least_lot, fun _ _ => ("least_lot.<locals>.<lambda>" : Str)) ∈ TT g := by simp [TT]
theorem of_least_lot {K : PySem.W.Frag} {mg : Str → Option Value} {w : World} {g : GA} (G : Glob K mg w g) : ∀ p ∈ TT g, p.1 = g.p_least_lot → p.2 = fun _ _ => ("least_lot.<locals>.<lambda>" : Str) := by
  have N : [g.p_lot_told, g.p_least_lot].Nodup := by simp [G.n_lot_told_least_lot]
  intro p hp e
  exact tab_only N rfl hp (in_least_lot g) e
end W45
set_option maxHeartbeats 1000000
namespace W45
open PySem L2 NdefX LamX DV
section
variable {P : Program} {w : World} {K : PySem.W.Frag} {mg : Str → Option Value} {base : Heap} {g : GA}
theorem ok_Raw___init__ (G : Glob K mg w g) : FnOk P w K mg base CX0 1 g.d_Raw___init__ g.f_Raw___init__ ["self"] (spRawI g.c_Raw) := by
  refine G.F_Raw___init__.ok sc_Raw___init__ (fun vs H Q E ⟨_, _, e, _⟩ => by rw [e]; rfl) (fun cdv A outer s H vs Q E hr h => ?_)
  refine ⟨_, (pss_one (ps_asg (pe_tup (pa_cons pe_dnewK (pa_cons (pe_lst pa_nil) pa_nil))) (pgT K 2 rfl (pgs_cons (pg_fld K (pv 0)) (pgs_cons (pg_fld K (pv 0)) pgs_nil))))), ?_⟩
  exact raw_init_rd G.C_Raw G.a_Raw_known G.a_Raw_line h (fun v e => by rw [e]; rfl) (fun _ _ q => q)
theorem ok_Raw_number (G : Glob K mg w g) : FnOk P w K mg base CX0 1 g.d_Raw_number g.f_Raw_number ["self", "state"] (spNum g.c_Raw) := by
  refine G.F_Raw_number.ok sc_Raw_number (fun vs H Q E ⟨_, _, _, _, _, _, e, _⟩ => by rw [e]; rfl) (fun cdv A outer s H vs Q E hr h => ?_)
  refine ⟨_, (pss_cons (ps_if (pt_cmp (pc_dnotin (hu1 hr) (pv 1) (peF K (pv 0) rfl)))
    (pss_cons (ps_if (pt_cmpR (eqD K (hu64 hr)) (pe_callB (cLen K) (by rfl) G.m_len PySem.boot_len (pa_cons (peF K (pv 0) rfl) pa_nil)) (pe_glob (v := .int 1200) rfl G.m_MOST_RAW ⟨_, rfl⟩) (nomark _))
    (pss_one ps_never)
    pss_nil)
  (pss_cons (ps_dput (hu1 hr) (peF K (pv 0) rfl) (pv 1) (pe_callB (cLen K) (by rfl) G.m_len PySem.boot_len (pa_cons (peF K (pv 0) rfl) pa_nil)) rfl)
  (pss_one (ps_expr (pe_bm PySem.F.plainAttrs_list PySem.F.slot_list_append PySem.F.type_list_append mt_append (peF K (pv 0) rfl) (pa_cons (pv 1) pa_nil))))))
    pss_nil)
  (pss_one (ps_ret (pe_dget (hu1 hr) (peF K (pv 0) rfl) (pv 1) (fun _ _ => rfl))))), ?_⟩
  exact raw_num_rd G.C_Raw G.a_Raw_known G.a_Raw_line h (fun u v e => by rw [e]; exact ⟨rfl, rfl⟩) (fun _ _ q => q)
theorem ok_raw_views (G : Glob K mg w g) : FnOk P w K mg base CX0 5 g.d_raw_views g.f_raw_views ["starts", "view_of"] (PmB K (TT g) (spViews P w K mg base (TT g))) := by
  refine G.F_raw_views.ok sc_raw_views (pmw_len fun bs s r s' ⟨_, _, _, _, _, _, e, _⟩ => by rw [e]; rfl) (fun cdv A outer s H vs Q E hr h => ?_)
  refine ⟨_, (pss_cons (ps_asg (pe_tup (pa_cons (pe_make0 G.k_Raw (ok_Raw___init__ G) (hr.mono (by decide)) rfl G.m_Raw G.b_Raw___init__ .nil pass0) (pa_cons (pe_lst pa_nil) pa_nil))) (pgT K 2 rfl (pgs_cons (pg_name (i := 2) sc_raw_views.nd rfl (.inr rfl) (.inl rfl)) (pgs_cons (pg_name (i := 3) sc_raw_views.nd rfl (.inl rfl) (.inl rfl)) pgs_nil))))
  (pss_cons (ps_setLc (i := 4) (own := [("state", 8)]) rfl sc_raw_views.nd rfl rfl (sw_true rfl rfl rfl (by decide +kernel)) (piL K (pv 0)) (blkOk_by (N := N_raw_views) (sc := defScope s_raw_views) (by decide +kernel)) (fun _ _ _ _ _ => (pg_name (i := 8) sc_raw_views.nd rfl (.inl rfl) (.inr rfl))) (fun _ _ _ _ _ => pts_nil) (fun _ _ _ _ _ => (pe_meth (pv 2) G.C_Raw G.e_Raw_number (ok_Raw_number G) (hr.mono (by decide)) G.b_Raw_number .nil pass0 (pa_cons (pv 8) pa_nil))))
  (pss_cons (ps_while PassesOwn.never (pt_cmpR op_lt (pe_callB (cLen K) (by rfl) G.m_len PySem.boot_len (pa_cons (pv 3) pa_nil)) (pe_callB (cLen K) (by rfl) G.m_len PySem.boot_len (pa_cons (peF K (pv 2) rfl) pa_nil)) (nomark _))
    (pss_cons (ps_asg (pe_callV (T := TT g) (i := 1) (k := 3) hr (by decide) rfl (.inl rfl) (pa_cons (pe_ix (ixL K) (peF K (pv 2) rfl) (pe_callB (cLen K) (by rfl) G.m_len PySem.boot_len (pa_cons (pv 3) pa_nil)) (fun _ _ => rfl)) pa_nil)) (pgT K 3 rfl (pgs_cons (pg_name (i := 5) sc_raw_views.nd rfl (.inl rfl) (.inl rfl)) (pgs_cons (pg_name (i := 6) sc_raw_views.nd rfl (.inl rfl) (.inl rfl)) (pgs_cons (pg_name (i := 7) sc_raw_views.nd rfl (.inl rfl) (.inl rfl)) pgs_nil)))))
  (pss_one (ps_expr (pe_bm PySem.F.plainAttrs_list PySem.F.slot_list_append PySem.F.type_list_append mt_append (pv 3) (pa_cons (pe_tup (pa_cons (pv 5) (pa_cons (pe_meth (pv 2) G.C_Raw G.e_Raw_number (ok_Raw_number G) (hr.mono (by decide)) G.b_Raw_number .nil pass0 (pa_cons (pv 6) pa_nil)) (pa_cons (pe_meth (pv 2) G.C_Raw G.e_Raw_number (ok_Raw_number G) (hr.mono (by decide)) G.b_Raw_number .nil pass0 (pa_cons (pv 7) pa_nil)) pa_nil)))) pa_nil))))))
  (pss_one (ps_ret (pe_tup (pa_cons (pv 4) (pa_cons (pv 3) pa_nil)))))))), ?_⟩
  exact raw_views_rd G.C_Raw G.a_Raw_line rfl h
end
end W45
set_option maxHeartbeats 1000000
namespace W45
open PySem L2 NdefX LamX DV
section
variable {P : Program} {w : World} {K : PySem.W.Frag} {mg : Str → Option Value} {base : Heap} {g : GA}
theorem ok_classes_of (G : Glob K mg w g) : FnOk P w K mg base CX0 1 g.d_classes_of g.f_classes_of ["views"] (Pm K (TT g) spClasses) := by
  refine G.F_classes_of.ok sc_classes_of (pm_len fun ds r ⟨_, _, e, _⟩ => by rw [e]; rfl) (fun cdv A outer s H vs Q E hr h => ?_)
  refine ⟨_, (pss_cons (ps_par (i := 4) (j := 5) rfl sc_classes_of.nd rfl rfl (by decide) rfl rfl (pa_cons (pe_lc (own := [("yes", 1), ("left", 2), ("right", 3)]) rfl sc_classes_of.nd (piL K (pv 0)) (blkOk_by (N := N_classes_of) (sc := defScope s_classes_of) (by decide +kernel)) (fun _ _ _ _ _ => (pgT K 3 rfl (pgs_cons (pg_name (i := 1) sc_classes_of.nd rfl (.inl rfl) (.inr rfl)) (pgs_cons (pg_name (i := 2) sc_classes_of.nd rfl (.inl rfl) (.inr rfl)) (pgs_cons (pg_name (i := 3) sc_classes_of.nd rfl (.inl rfl) (.inr rfl)) pgs_nil))))) (fun _ _ _ _ _ => pts_nil) (fun _ _ _ _ _ => (pe_callTy call_int1 (by rfl) G.m_int (by decide +kernel) (pa_cons (pv 1) pa_nil)))) (pa_cons pe_int pa_nil)) rfl)
  (pss_cons (ps_for PassesOwn.never rfl (pi_range1 rfl G.m_range (pa_cons (pe_op op_add (pe_callB (cLen K) (by rfl) G.m_len PySem.boot_len (pa_cons (pv 0) pa_nil)) pe_int) pa_nil)) (pg_name (i := 6) sc_classes_of.nd rfl (.inl rfl) (.inl rfl))
    (pss_cons (ps_par (i := 7) (j := 8) rfl sc_classes_of.nd rfl rfl (by decide) rfl rfl (pa_cons pe_dnewT (pa_cons (pe_lst pa_nil) pa_nil)) rfl)
  (pss_cons (ps_for PassesOwn.never rfl (pi_enum rfl G.m_enumerate (pa_cons (pv 0) pa_nil)) (pgT K 2 rfl (pgs_cons (pg_name (i := 9) sc_classes_of.nd rfl (.inl rfl) (.inl rfl)) (pgs_cons (pgT K 3 rfl (pgs_cons (pg_name (i := 1) sc_classes_of.nd rfl (.inl rfl) (.inl rfl)) (pgs_cons (pg_name (i := 2) sc_classes_of.nd rfl (.inl rfl) (.inl rfl)) (pgs_cons (pg_name (i := 3) sc_classes_of.nd rfl (.inl rfl) (.inl rfl)) pgs_nil)))) pgs_nil)))
    (pss_cons (ps_set (i := 10) sc_classes_of.nd rfl (.inl rfl) (pe_tup (pa_cons (pe_ix (ixL K) (pv 4) (pv 9) (fun _ _ => rfl)) (pa_cons (pe_ix (ixL K) (pv 4) (pv 2) (fun _ _ => rfl)) (pa_cons (pe_ix (ixL K) (pv 4) (pv 3) (fun _ _ => rfl)) pa_nil)))))
  (pss_cons (ps_if (pt_cmp (pc_dnotin (hu1 hr) (pv 10) (pv 7)))
    (pss_one (ps_dput (hu1 hr) (pv 7) (pv 10) (pe_callB call_len_dT (by rfl) G.m_len PySem.boot_len (pa_cons (pv 7) pa_nil)) rfl))
    pss_nil)
  (pss_one (ps_expr (pe_bm PySem.F.plainAttrs_list PySem.F.slot_list_append PySem.F.type_list_append mt_append (pv 8) (pa_cons (pe_dget (hu1 hr) (pv 7) (pv 10) (fun _ _ => rfl)) pa_nil)))))))
  (pss_cons (ps_if (pt_cmpR op_gt (pe_callB call_len_dT (by rfl) G.m_len PySem.boot_len (pa_cons (pv 7) pa_nil)) (pe_glob (v := .int 60) rfl G.m_MOST_VIEWS ⟨_, rfl⟩) (nomark _))
    (pss_one ps_never)
    pss_nil)
  (pss_cons (ps_if (pt_cmpR (eqD K (hu64 hr)) (pe_callB call_len_dT (by rfl) G.m_len PySem.boot_len (pa_cons (pv 7) pa_nil)) (pv 5) (nomark _))
    (pss_one (ps_ret (pv 4)))
    pss_nil)
  (pss_one (ps_par (i := 4) (j := 5) rfl sc_classes_of.nd rfl rfl (by decide) rfl rfl (pa_cons (pv 8) (pa_cons (pe_callB call_len_dT (by rfl) G.m_len PySem.boot_len (pa_cons (pv 7) pa_nil)) pa_nil)) rfl)))))))
  (pss_one (ps_ret (pv 4))))), ?_⟩
  exact pm_body h fun ds r hS => tr_classes rfl hS
theorem ok_least_lot (G : Glob K mg w g) (Z : Bs mg base g) : FnOk P w K mg base CX0 7 g.d_least_lot g.f_least_lot ["zero", "top", "front", "back", "view_of"] (PmB K (TT g) (spLeast P w K mg base (TT g))) := by
  refine G.F_least_lot.ok sc_least_lot (pmw_len fun bs s r s' ⟨_, _, _, _, _, _, _, _, _, e, _⟩ => by rw [e]; rfl) (fun A outer s H vs Q E hr h => ?_)
  refine ⟨_, (pss_cons (ps_asg (pe_call (ok_raw_views G) (hr.mono (by decide)) rfl G.m_raw_views G.F_raw_views.kp G.b_raw_views .nil pass0 (pa_cons (pe_lst (pa_cons (pv 2) (pa_cons (pv 3) pa_nil))) (pa_cons (pv 4) pa_nil))) (pgT K 2 rfl (pgs_cons (pg_name (i := 5) sc_least_lot.nd rfl (.inl rfl) (.inl rfl)) (pgs_cons (pg_name (i := 6) sc_least_lot.nd rfl (.inl rfl) (.inl rfl)) pgs_nil))))
  (pss_cons (ps_set (i := 7) sc_least_lot.nd rfl (.inr rfl) (pe_call (ok_classes_of G) (hr.mono (by decide)) rfl G.m_classes_of G.F_classes_of.kp G.b_classes_of .nil pass0 (pa_cons (pv 6) pa_nil)))
  (pss_cons (ps_set (i := 14) sc_least_lot.nd rfl (.inr rfl) pe_dnewK)
  (pss_cons (ps_for PassesOwn.never rfl (pi_enum rfl G.m_enumerate (pa_cons (pv 6) pa_nil)) (pgT K 2 rfl (pgs_cons (pg_name (i := 8) sc_least_lot.nd rfl (.inl rfl) (.inl rfl)) (pgs_cons (pgT K 3 rfl (pgs_cons (pg_name (i := 9) sc_least_lot.nd rfl (.inl rfl) (.inl rfl)) (pgs_cons (pg_name (i := 10) sc_least_lot.nd rfl (.inl rfl) (.inl rfl)) (pgs_cons (pg_name (i := 11) sc_least_lot.nd rfl (.inl rfl) (.inl rfl)) pgs_nil)))) pgs_nil)))
    (pss_one (ps_dput (hu1 hr) (pv 14) (pe_ix (ixL K) (pv 7) (pv 8) (fun _ _ => rfl)) (pe_tup (pa_cons (pv 9) (pa_cons (pe_ix (ixL K) (pv 7) (pv 10) (fun _ _ => rfl)) (pa_cons (pe_ix (ixL K) (pv 7) (pv 11) (fun _ _ => rfl)) pa_nil)))) rfl)))
  (pss_cons (ps_asg (pe_frz (i := 14) (pe_callG (fr := ["table"]) (js := [14]) (fun B le => ok_raw_views G) (hr.mono (by decide)) rfl G.m_raw_views G.F_raw_views.kp G.b_raw_views .nil pass0 (fun ok => Caps.made (scope := lsc_least_lot) ok (ndef_free (sc := defScope s_least_lot) (fr := ["table"]) (by decide +kernel)) (ndef_fr (sc := defScope s_least_lot) (nsc := lsc_least_lot) (by decide +kernel)) rfl) (fun _ => rfl) (pa_cons (pe_lc (own := [("start", 15)]) rfl sc_least_lot.nd (piL K (pv 5)) (blkOk_by (N := N_least_lot) (sc := defScope s_least_lot) (by decide +kernel)) (fun _ _ _ _ _ => (pg_name (i := 15) sc_least_lot.nd rfl (.inl rfl) (.inr rfl))) (fun _ _ _ _ _ => pts_nil) (fun _ _ _ _ _ => (pe_ix (ixL K) (pv 7) (pv 15) (fun _ _ => rfl)))) (pa_cons (pe_lamN (nm := fun _ _ => "least_lot.<locals>.<lambda>") (Z.t_least_lot) rfl (in_least_lot g) rfl (of_least_lot G) rfl (ndef_free (sc := defScope s_least_lot) (nsc := lsc_least_lot) (fr := ["table"]) (by decide +kernel))) pa_nil)))) (pgT K 2 rfl (pgs_cons (pg_name (i := 12) sc_least_lot.nd rfl (.inl rfl) (.inl rfl)) (pgs_cons (pg_name (i := 13) sc_least_lot.nd rfl (.inl rfl) (.inl rfl)) pgs_nil))))
  (pss_one (ps_ret (pe_tup (pa_cons (pv 0) (pa_cons (pv 1) (pa_cons (pe_ix (ixL K) (pv 12) pe_int (fun _ _ => rfl)) (pa_cons (pe_ix (ixL K) (pv 12) pe_int (fun _ _ => rfl)) (pa_cons (pe_callTy (cTup K) (by rfl) G.m_tuple (by decide +kernel) (pa_cons (pv 13) pa_nil)) pa_nil))))))))))))), ?_⟩
  refine pmw_body h fun bs _ r _ hS => tr_least (x := "one") (y := "table") ?W rfl hS
  case W => exact ⟨fun _ => rfl, fun _ => rfl, fun _ => nscope_by (sc := lsc_least_lot) (by decide +kernel), fun _ _ _ us hl => match us, hl with | [_], _ => rfl, fun B d f A outer s H hr => pe_dget (hu1 hr) (pv 1) (pv 0) (fun _ _ => rfl)⟩
theorem ok_lot_told (G : Glob K mg w g) (Z : Bs mg base g) : FnOk P w K mg base CX0 9 g.d_lot_told g.f_lot_told ["zero", "top", "front", "back", "modes"] (Pm K (TT g) spLot) := by
  refine G.F_lot_told.ok sc_lot_told (pm_len fun ds r ⟨_, _, _, _, _, e, _⟩ => by rw [e]; rfl) (fun A outer s H vs Q E hr h => ?_)
  refine ⟨_, (pss_cons (ps_set (i := 9) sc_lot_told.nd rfl (.inr rfl) pe_dnewK)
  (pss_cons (ps_for PassesOwn.never rfl (piT K (pv 4)) (pgT K 4 rfl (pgs_cons (pg_name (i := 5) sc_lot_told.nd rfl (.inl rfl) (.inl rfl)) (pgs_cons (pg_name (i := 6) sc_lot_told.nd rfl (.inl rfl) (.inl rfl)) (pgs_cons (pg_name (i := 7) sc_lot_told.nd rfl (.inl rfl) (.inl rfl)) (pgs_cons (pg_name (i := 8) sc_lot_told.nd rfl (.inl rfl) (.inl rfl)) pgs_nil)))))
    (pss_one (ps_dput (hu1 hr) (pv 9) (pv 5) (pe_tup (pa_cons (pv 6) (pa_cons (pv 7) (pa_cons (pv 8) pa_nil)))) rfl)))
  (pss_one (ps_ret (pe_frz (i := 9) (pe_callG (fr := ["known"]) (js := [9]) (fun B le => ok_least_lot G (Z.up le)) (hr.mono (by decide)) rfl G.m_least_lot G.F_least_lot.kp G.b_least_lot .nil pass0 (fun ok => Caps.made (scope := lsc_lot_told) ok (ndef_free (sc := defScope s_lot_told) (fr := ["known"]) (by decide +kernel)) (ndef_fr (sc := defScope s_lot_told) (nsc := lsc_lot_told) (by decide +kernel)) rfl) (fun _ => rfl) (pa_cons (pv 0) (pa_cons (pv 1) (pa_cons (pv 2) (pa_cons (pv 3) (pa_cons (pe_lamN (nm := fun _ _ => "lot_told.<locals>.<lambda>") (Z.t_lot_told) rfl (in_lot_told g) rfl (of_lot_told G) rfl (ndef_free (sc := defScope s_lot_told) (nsc := lsc_lot_told) (fr := ["known"]) (by decide +kernel))) pa_nil))))))))))), ?_⟩
  refine pm_body h fun ds r hS => tr_lot (x := "name") (y := "known") ?W rfl hS
  case W => exact ⟨fun _ => rfl, fun _ => rfl, fun _ => nscope_by (sc := lsc_lot_told) (by decide +kernel), fun _ _ _ us hl => match us, hl with | [_], _ => rfl, fun B d f A outer s H hr => pe_dget (hu1 hr) (pv 1) (pv 0) (fun _ _ => rfl)⟩
end
end W45
set_option maxHeartbeats 1000000
namespace W45
open PySem L2 NdefX LamX DV
section
variable {P : Program} {w : World} {K : PySem.W.Frag} {mg : Str → Option Value} {base : Heap} {g : GA}
theorem ok_counts_row (G : Glob K mg w g) : FnOk P w K mg base CX0 1 g.d_counts_row g.f_counts_row ["lot", "many"] (Pm K (TT g) spCounts) := by
  refine G.F_counts_row.ok sc_counts_row (pm_len fun ds r ⟨_, _, e, _⟩ => by rw [e]; rfl) (fun cdv A outer s H vs Q E hr h => ?_)
  refine ⟨_, (pss_cons (ps_asg (pv 0) (pgT K 5 rfl (pgs_cons (pg_name (i := 2) sc_counts_row.nd rfl (.inl rfl) (.inl rfl)) (pgs_cons (pg_name (i := 3) sc_counts_row.nd rfl (.inl rfl) (.inl rfl)) (pgs_cons (pg_name (i := 4) sc_counts_row.nd rfl (.inl rfl) (.inl rfl)) (pgs_cons (pg_name (i := 5) sc_counts_row.nd rfl (.inl rfl) (.inl rfl)) (pgs_cons (pg_name (i := 6) sc_counts_row.nd rfl (.inl rfl) (.inl rfl)) pgs_nil)))))))
  (pss_cons (ps_asg (pe_tup (pa_cons (pe_lst (pa_cons (pe_op op_add (pe_callTy call_int1 (by rfl) G.m_int (by decide +kernel) (pa_cons (pv 2) pa_nil)) (pe_callTy call_int1 (by rfl) G.m_int (by decide +kernel) (pa_cons (pv 3) pa_nil))) pa_nil)) (pa_cons (pe_lc (own := [("yes", 10), ("left", 11), ("right", 12)]) rfl sc_counts_row.nd (piT K (pv 6)) (blkOk_by (N := N_counts_row) (sc := defScope s_counts_row) (by decide +kernel)) (fun _ _ _ _ _ => (pgT K 3 rfl (pgs_cons (pg_name (i := 10) sc_counts_row.nd rfl (.inl rfl) (.inr rfl)) (pgs_cons (pg_name (i := 11) sc_counts_row.nd rfl (.inl rfl) (.inr rfl)) (pgs_cons (pg_name (i := 12) sc_counts_row.nd rfl (.inl rfl) (.inr rfl)) pgs_nil))))) (fun _ _ _ _ _ => pts_nil) (fun _ _ _ _ _ => (pe_callTy call_int1 (by rfl) G.m_int (by decide +kernel) (pa_cons (pv 10) pa_nil)))) pa_nil))) (pgT K 2 rfl (pgs_cons (pg_name (i := 7) sc_counts_row.nd rfl (.inl rfl) (.inl rfl)) (pgs_cons (pg_name (i := 8) sc_counts_row.nd rfl (.inr rfl) (.inl rfl)) pgs_nil))))
  (pss_cons (ps_for PassesOwn.never rfl (pi_range1 rfl G.m_range (pa_cons (pe_op op_sub (pv 1) pe_int) pa_nil)) (pg_name (i := 9) sc_counts_row.nd rfl (.inl rfl) (.inl rfl))
    (pss_cons (ps_expr (pe_bm PySem.F.plainAttrs_list PySem.F.slot_list_append PySem.F.type_list_append mt_append (pv 7) (pa_cons (pe_op op_add (pe_ix (ixL K) (pv 8) (pv 4) (fun _ _ => rfl)) (pe_ix (ixL K) (pv 8) (pv 5) (fun _ _ => rfl))) pa_nil)))
  (pss_one (ps_set (i := 8) sc_counts_row.nd rfl (.inr rfl) (pe_lc (own := [("yes", 10), ("left", 11), ("right", 12)]) rfl sc_counts_row.nd (piT K (pv 6)) (blkOk_by (N := N_counts_row) (sc := defScope s_counts_row) (by decide +kernel)) (fun _ _ _ _ _ => (pgT K 3 rfl (pgs_cons (pg_name (i := 10) sc_counts_row.nd rfl (.inl rfl) (.inr rfl)) (pgs_cons (pg_name (i := 11) sc_counts_row.nd rfl (.inl rfl) (.inr rfl)) (pgs_cons (pg_name (i := 12) sc_counts_row.nd rfl (.inl rfl) (.inr rfl)) pgs_nil))))) (fun _ _ _ _ _ => pts_nil) (fun _ _ _ _ _ => (pe_op op_add (pe_ix (ixL K) (pv 8) (pv 11) (fun _ _ => rfl)) (pe_ix (ixL K) (pv 8) (pv 12) (fun _ _ => rfl)))))))))
  (pss_one (ps_ret (pe_slice (slL K) (pv 7) po_none (po_some (pv 1)))))))), ?_⟩
  exact pm_body h fun ds r hS => tr_counts rfl hS
theorem ok_count_told (G : Glob K mg w g) : FnOk P w K mg base CX0 2 g.d_count_told g.f_count_told ["lot", "n"] (Pm K (TT g) spTold) := by
  refine G.F_count_told.ok sc_count_told (pm_len fun ds r ⟨_, _, e, _⟩ => by rw [e]; rfl) (fun cdv A outer s H vs Q E hr h => ?_)
  refine ⟨_, (pss_cons (ps_if (pt_cmpR op_gt (pv 1) (pe_glob (v := .int 3000) rfl G.m_MOST_STEPS ⟨_, rfl⟩) (nomark _))
    (pss_one ps_never)
    pss_nil)
  (pss_cons (ps_set (i := 2) sc_count_told.nd rfl (.inl rfl) (pe_ix (ixL K) (pe_call (ok_counts_row G) (hr.mono (by decide)) rfl G.m_counts_row G.F_counts_row.kp G.b_counts_row .nil pass0 (pa_cons (pv 0) (pa_cons (pe_op op_add (pv 1) pe_int) pa_nil))) (pv 1) (fun _ _ => rfl)))
  (pss_cons (ps_if (pt_cmpR op_gt (pe_callB call_len_str (by rfl) G.m_len PySem.boot_len (pa_cons (pe_callTy call_str_int (by rfl) G.m_str (by decide +kernel) (pa_cons (pv 2) pa_nil)) pa_nil)) (pe_glob (v := .int 300) rfl G.m_MOST_FIGURES_counts ⟨_, rfl⟩) (nomark _))
    (pss_one ps_never)
    pss_nil)
  (pss_one (ps_ret (pv 2)))))), ?_⟩
  exact pm_body h fun ds r hS => tr_told rfl hS
theorem ok_view_behind (G : Glob K mg w g) : FnOk P w K mg base CX0 1 g.d_view_behind g.f_view_behind ["views", "view", "letter", "many"] (Pm K (TT g) spBehind) := by
  refine G.F_view_behind.ok sc_view_behind (pm_len fun ds r ⟨_, _, _, _, e, _⟩ => by rw [e]; rfl) (fun cdv A outer s H vs Q E hr h => ?_)
  refine ⟨_, (pss_cons (ps_par3 (i := 4) (j := 5) (l := 6) rfl sc_view_behind.nd rfl rfl rfl (by decide) (by decide) (by decide) rfl rfl rfl (pa_cons (pe_ixDX (W := fun _ _ _ _ => False) rfl takes0 (pe_glob (v := .ref g.r_SIDES) rfl G.m_SIDES rfl) (pv 2) (fun _ _ => rfl)) (pa_cons (pe_lst pa_nil) (pa_cons pe_dnewK pa_nil))) rfl)
  (pss_cons (ps_while PassesOwn.never (pt_cmp (pc_dnotin (hu1 hr) (pv 1) (pv 6)))
    (pss_cons (ps_dput (hu1 hr) (pv 6) (pv 1) (pe_callB (cLen K) (by rfl) G.m_len PySem.boot_len (pa_cons (pv 5) pa_nil)) rfl)
  (pss_cons (ps_expr (pe_bm PySem.F.plainAttrs_list PySem.F.slot_list_append PySem.F.type_list_append mt_append (pv 5) (pa_cons (pv 1) pa_nil)))
  (pss_one (ps_set (i := 1) sc_view_behind.nd rfl (.inl rfl) (pe_ix (ixT K) (pe_ix (ixT K) (pv 0) (pv 1) (fun _ _ => rfl)) (pv 4) (fun _ _ => rfl)))))))
  (pss_cons (ps_set (i := 7) sc_view_behind.nd rfl (.inl rfl) (pe_dget (hu1 hr) (pv 6) (pv 1) (fun _ _ => rfl)))
  (pss_cons (ps_if (pt_cmpR op_lt (pv 3) (pe_callB (cLen K) (by rfl) G.m_len PySem.boot_len (pa_cons (pv 5) pa_nil)) (nomark _))
    (pss_one (ps_ret (pe_ix (ixL K) (pv 5) (pv 3) (fun _ _ => rfl))))
    pss_nil)
  (pss_one (ps_ret (pe_ix (ixL K) (pv 5) (pe_op op_add (pv 7) (pe_op op_mod (pe_op op_sub (pv 3) (pv 7)) (pe_op op_sub (pe_callB (cLen K) (by rfl) G.m_len PySem.boot_len (pa_cons (pv 5) pa_nil)) (pv 7)))) (fun _ _ => rfl)))))))), ?_⟩
  exact pm_body h fun ds r hS => tr_behind G.sides rfl hS
theorem ok_view_along (G : Glob K mg w g) : FnOk P w K mg base CX0 2 g.d_view_along g.f_view_along ["views", "view", "runs"] (Pm K (TT g) spAlong) := by
  refine G.F_view_along.ok sc_view_along (pm_len fun ds r ⟨_, _, _, e, _⟩ => by rw [e]; rfl) (fun cdv A outer s H vs Q E hr h => ?_)
  refine ⟨_, (pss_cons (ps_set (i := 3) sc_view_along.nd rfl (.inl rfl) (pv 1))
  (pss_cons (ps_for PassesOwn.never rfl (piT K (pv 2)) (pgT K 2 rfl (pgs_cons (pg_name (i := 4) sc_view_along.nd rfl (.inl rfl) (.inl rfl)) (pgs_cons (pg_name (i := 5) sc_view_along.nd rfl (.inl rfl) (.inl rfl)) pgs_nil)))
    (pss_one (ps_set (i := 3) sc_view_along.nd rfl (.inl rfl) (pe_call (ok_view_behind G) (hr.mono (by decide)) rfl G.m_view_behind G.F_view_behind.kp G.b_view_behind .nil pass0 (pa_cons (pv 0) (pa_cons (pv 3) (pa_cons (pv 4) (pa_cons (pv 5) pa_nil))))))))
  (pss_one (ps_ret (pv 3))))), ?_⟩
  exact pm_body h fun ds r hS => tr_along rfl hS
theorem ok_is_long (G : Glob K mg w g) : FnOk P w K mg base CX0 1 g.d_is_long g.f_is_long ["number"] (Pm K (TT g) spIsLong) := by
  refine G.F_is_long.ok sc_is_long (pm_len fun ds r ⟨_, e, _⟩ => by rw [e]; rfl) (fun cdv A outer s H vs Q E hr h => ?_)
  refine ⟨_, (pss_one (ps_ret (pe_or (pe_cmpR op_gt (pe_bits (pv 0)) (pe_glob (v := .int 997) rfl G.m_SURE_BITS ⟨_, rfl⟩) (nomark _)) (pe_one (pe_cmpR op_gt (pe_callB call_len_str (by rfl) G.m_len PySem.boot_len (pa_cons (pe_callTy call_str_int (by rfl) G.m_str (by decide +kernel) (pa_cons (pe_callB call_abs (by rfl) G.m_abs (by decide +kernel) (pa_cons (pv 0) pa_nil)) pa_nil)) pa_nil)) (pe_glob (v := .int 300) rfl G.m_MOST_FIGURES_circlenumbers ⟨_, rfl⟩) (nomark _)))))), ?_⟩
  exact pm_body h fun ds r hS => tr_isLong rfl hS
theorem ok_not_long (G : Glob K mg w g) : FnOk P w K mg base CX0 2 g.d_not_long g.f_not_long ["numbers"] (Pm K (TT g) spNotLong) := by
  refine G.F_not_long.ok sc_not_long (pm_len fun ds r ⟨_, e, _⟩ => by rw [e]; rfl) (fun cdv A outer s H vs Q E hr h => ?_)
  refine ⟨_, (pss_cons (ps_if (pt_val (pe_callB (cAny K rfl) (by rfl) G.m_any (by decide +kernel) (pa_cons (pe_lc (own := [("number", 1)]) rfl sc_not_long.nd (piT K (pv 0)) (blkOk_by (N := N_not_long) (sc := defScope s_not_long) (by decide +kernel)) (fun _ _ _ _ _ => (pg_name (i := 1) sc_not_long.nd rfl (.inl rfl) (.inr rfl))) (fun _ _ _ _ _ => pts_nil) (fun _ _ _ _ _ => (pe_call (ok_is_long G) (hr.mono (by decide)) rfl G.m_is_long G.F_is_long.kp G.b_is_long .nil pass0 (pa_cons (pv 1) pa_nil)))) pa_nil)))
    (pss_one ps_never)
    pss_nil)
  (pss_one (ps_ret (pv 0)))), ?_⟩
  exact pm_body h fun ds r hS => tr_notLong rfl hS
theorem ok_fraction_told (G : Glob K mg w g) : FnOk P w K mg base CX0 3 g.d_fraction_told g.f_fraction_told ["top", "bottom"] (Pm K (TT g) spFrac) := by
  refine G.F_fraction_told.ok sc_fraction_told (pm_len fun ds r ⟨_, _, e, _⟩ => by rw [e]; rfl) (fun cdv A outer s H vs Q E hr h => ?_)
  refine ⟨_, (pss_cons (ps_set (i := 2) sc_fraction_told.nd rfl (.inl rfl) (pe_callBfun cr_gcd rfl G.m_gcd (pa_cons (pv 0) (pa_cons (pv 1) pa_nil))))
  (pss_cons (ps_set (i := 2) sc_fraction_told.nd rfl (.inl rfl) (pe_ifExp (pw_or (pt_cmpR op_lt (pv 1) pe_int (nomark _)) (pw_or1 (pw_and (pt_cmpR (eqD K (hu64 hr)) (pv 1) pe_int (nomark _)) (pw_and1 (pt_cmpR op_lt (pv 0) pe_int (nomark _)))).pt)).pt (pe_un un_neg (pv 2)) (pv 2)))
  (pss_one (ps_ret (pe_call (ok_not_long G) (hr.mono (by decide)) rfl G.m_not_long_circlenumbers G.F_not_long.kp G.b_not_long .nil pass0 (pa_cons (pe_tup (pa_cons (pe_op op_fdivW (pv 0) (pv 2)) (pa_cons (pe_op op_fdivW (pv 1) (pv 2)) pa_nil))) pa_nil)))))), ?_⟩
  exact pm_body h fun ds r hS => tr_frac rfl hS
theorem ok_number_floor (G : Glob K mg w g) : FnOk P w K mg base CX0 1 g.d_number_floor g.f_number_floor ["number"] (Pm K (TT g) spFloor) := by
  refine G.F_number_floor.ok sc_number_floor (pm_len fun ds r ⟨_, _, e, _⟩ => by rw [e]; rfl) (fun cdv A outer s H vs Q E hr h => ?_)
  refine ⟨_, (pss_cons (ps_if (pt_cmpR (eqD K (hu64 hr)) (pe_callB (cLen K) (by rfl) G.m_len PySem.boot_len (pa_cons (pv 0) pa_nil)) pe_int (nomark _))
    (pss_one (ps_ret (pe_op op_fdivW (pe_ix (ixT K) (pv 0) pe_int (fun _ _ => rfl)) (pe_ix (ixT K) (pv 0) pe_int (fun _ _ => rfl)))))
    pss_nil)
  (pss_cons ps_never
  (pss_one ps_never))), ?_⟩
  exact pm_body h fun ds r hS => tr_floor rfl hS
theorem ok_map_led (G : Glob K mg w g) : FnOk P w K mg base CX0 4 g.d_map_led g.f_map_led ["one", "number"] (Pm K (TT g) spMap) := by
  refine G.F_map_led.ok sc_map_led (pm_len fun ds r ⟨_, _, _, _, _, _, e, _⟩ => by rw [e]; rfl) (fun cdv A outer s H vs Q E hr h => ?_)
  refine ⟨_, (pss_cons (ps_if (pt_cmpR (eqD K (hu64 hr)) (pe_callB (cLen K) (by rfl) G.m_len PySem.boot_len (pa_cons (pv 1) pa_nil)) pe_int (nomark _))
    (pss_one ps_never)
    pss_nil)
  (pss_cons (ps_asg (pv 0) (pgT K 4 rfl (pgs_cons (pg_name (i := 2) sc_map_led.nd rfl (.inl rfl) (.inl rfl)) (pgs_cons (pg_name (i := 3) sc_map_led.nd rfl (.inl rfl) (.inl rfl)) (pgs_cons (pg_name (i := 4) sc_map_led.nd rfl (.inl rfl) (.inl rfl)) (pgs_cons (pg_name (i := 5) sc_map_led.nd rfl (.inl rfl) (.inl rfl)) pgs_nil))))))
  (pss_cons (ps_asg (pv 1) (pgT K 2 rfl (pgs_cons (pg_name (i := 6) sc_map_led.nd rfl (.inl rfl) (.inl rfl)) (pgs_cons (pg_name (i := 7) sc_map_led.nd rfl (.inl rfl) (.inl rfl)) pgs_nil))))
  (pss_one (ps_ret (pe_call (ok_fraction_told G) (hr.mono (by decide)) rfl G.m_fraction_told G.F_fraction_told.kp G.b_fraction_told .nil pass0 (pa_cons (pe_op op_add (pe_op op_mulW (pv 2) (pv 6)) (pe_op op_mulW (pv 3) (pv 7))) (pa_cons (pe_op op_add (pe_op op_mulW (pv 4) (pv 6)) (pe_op op_mulW (pv 5) (pv 7))) pa_nil)))))))), ?_⟩
  exact pm_body h fun ds r hS => tr_map rfl hS
theorem ok_not_long_2 (G : Glob K mg w g) : FnOk P w K mg base CX0 1 g.d_not_long_2 g.f_not_long_2 ["runs"] spSame := by
  refine G.F_not_long_2.ok sc_not_long_2 (fun vs H Q E ⟨_, _, e, _⟩ => by rw [e]; rfl) (fun cdv A outer s H vs Q E hr h => ?_)
  refine ⟨_, (pss_cons (ps_if (pt_cmpR op_ge (pe_callB (cLen K) (by rfl) G.m_len PySem.boot_len (pa_cons (pv 0) pa_nil)) (pe_glob (v := .int 200) rfl G.m_MOST_RUNS ⟨_, rfl⟩) (nomark _))
    (pss_one ps_never)
    pss_nil)
  (pss_one (ps_ret (pv 0)))), ?_⟩
  exact same_rd h rfl
theorem ok_fraction_runs (G : Glob K mg w g) : FnOk P w K mg base CX0 2 g.d_fraction_runs g.f_fraction_runs ["top", "bottom"] (Pm K (TT g) spRuns) := by
  refine G.F_fraction_runs.ok sc_fraction_runs (pm_len fun ds r ⟨_, _, e, _⟩ => by rw [e]; rfl) (fun cdv A outer s H vs Q E hr h => ?_)
  refine ⟨_, (pss_cons (ps_set (i := 2) sc_fraction_runs.nd rfl (.inl rfl) (pe_lst pa_nil))
  (pss_cons (ps_while PassesOwn.never (pt_cmpR (neD K (hu64 hr)) (pv 0) (pv 1) (nomark _))
    (pss_one (ps_if (pt_cmpR op_gt (pv 0) (pv 1) (nomark _))
    (pss_cons (ps_set (i := 3) sc_fraction_runs.nd rfl (.inl rfl) (pe_op op_fdivW (pe_op op_sub (pv 0) pe_int) (pv 1)))
  (pss_cons (ps_expr (pe_bm PySem.F.plainAttrs_list PySem.F.slot_list_append PySem.F.type_list_append mt_append (pe_call (ok_not_long_2 G) (hr.mono (by decide)) rfl G.m_not_long_ways G.F_not_long_2.kp G.b_not_long_2 .nil pass0 (pa_cons (pv 2) pa_nil)) (pa_cons (pe_tup (pa_cons (pe_glob (v := .str "right") rfl G.m_RIGHT ⟨_, rfl⟩) (pa_cons (pv 3) pa_nil))) pa_nil)))
  (pss_one (ps_aug (i := 0) sc_fraction_runs.nd rfl (.inl rfl) (pe_op op_mulW (pv 3) (pv 1)) ip_sub))))
    (pss_cons (ps_set (i := 3) sc_fraction_runs.nd rfl (.inl rfl) (pe_op op_fdivW (pe_op op_sub (pv 1) pe_int) (pv 0)))
  (pss_cons (ps_expr (pe_bm PySem.F.plainAttrs_list PySem.F.slot_list_append PySem.F.type_list_append mt_append (pe_call (ok_not_long_2 G) (hr.mono (by decide)) rfl G.m_not_long_ways G.F_not_long_2.kp G.b_not_long_2 .nil pass0 (pa_cons (pv 2) pa_nil)) (pa_cons (pe_tup (pa_cons (pe_glob (v := .str "left") rfl G.m_LEFT ⟨_, rfl⟩) (pa_cons (pv 3) pa_nil))) pa_nil)))
  (pss_one (ps_aug (i := 1) sc_fraction_runs.nd rfl (.inl rfl) (pe_op op_mulW (pv 3) (pv 0)) ip_sub)))))))
  (pss_one (ps_ret (pe_callTy (cTup K) (by rfl) G.m_tuple (by decide +kernel) (pa_cons (pv 2) pa_nil)))))), ?_⟩
  exact pm_body h fun ds r hS => tr_runs rfl hS
theorem ok_is_below (G : Glob K mg w g) : FnOk P w K mg base CX0 2 g.d_is_below g.f_is_below ["number"] (Pm K (TT g) spBelow) := by
  refine G.F_is_below.ok sc_is_below (pm_len fun ds r ⟨_, _, e, _⟩ => by rw [e]; rfl) (fun cdv A outer s H vs Q E hr h => ?_)
  refine ⟨_, (pss_one (ps_ret (pe_cmpR op_lt (pe_call (ok_number_floor G) (hr.mono (by decide)) rfl G.m_number_floor G.F_number_floor.kp G.b_number_floor .nil pass0 (pa_cons (pv 0) pa_nil)) pe_int (nomark _)))), ?_⟩
  exact pm_body h fun ds r hS => tr_below rfl hS
theorem ok_way_told (G : Glob K mg w g) : FnOk P w K mg base CX0 5 g.d_way_told g.f_way_told ["number"] (Pm K (TT g) spWayT) := by
  refine G.F_way_told.ok sc_way_told (pm_len fun ds r ⟨_, _, _, _, e, _⟩ => by rw [e]; rfl) (fun cdv A outer s H vs Q E hr h => ?_)
  refine ⟨_, (pss_cons (ps_if (pt_cmpR (eqD K (hu64 hr)) (pe_ix (ixT K) (pv 0) pe_int (fun _ _ => rfl)) pe_int (nomark _))
    (pss_one (ps_ret (pe_glob (v := .ref g.r_ZERO_WAY) rfl G.m_ZERO_WAY rfl)))
    pss_nil)
  (pss_cons (ps_if (pw_and (pt_cmpR (eqD K (hu64 hr)) (pe_ix (ixT K) (pv 0) pe_int (fun _ _ => rfl)) pe_int (nomark _)) (pw_and1 (pt_cmpR (eqD K (hu64 hr)) (pe_callB (cLen K) (by rfl) G.m_len PySem.boot_len (pa_cons (pv 0) pa_nil)) pe_int (nomark _)))).pt
    (pss_one (ps_ret (pe_glob (v := .ref g.r_TOP_WAY) rfl G.m_TOP_WAY rfl)))
    pss_nil)
  (pss_cons (ps_set (i := 1) sc_way_told.nd rfl (.inl rfl) (pe_ifExp (pt_val (pe_call (ok_is_below G) (hr.mono (by decide)) rfl G.m_is_below G.F_is_below.kp G.b_is_below .nil pass0 (pa_cons (pv 0) pa_nil))) (pe_glob (v := .str "down") rfl G.m_DOWN ⟨_, rfl⟩) (pe_glob (v := .str "up") rfl G.m_UP_ways ⟨_, rfl⟩)))
  (pss_cons (ps_set (i := 2) sc_way_told.nd rfl (.inl rfl) (pe_ifExp (pt_cmpR (eqD K (hu64 hr)) (pv 1) (pe_glob (v := .str "down") rfl G.m_DOWN ⟨_, rfl⟩) (nomark _)) (pe_call (ok_map_led G) (hr.mono (by decide)) rfl G.m_map_led G.F_map_led.kp G.b_map_led .nil pass0 (pa_cons (pe_glob (v := .ref g.r_TURNED) rfl G.m_TURNED rfl) (pa_cons (pv 0) pa_nil))) (pv 0)))
  (pss_cons (ps_if (pt_cmpR (eqD K (hu64 hr)) (pe_callB (cLen K) (by rfl) G.m_len PySem.boot_len (pa_cons (pv 0) pa_nil)) pe_int (nomark _))
    (pss_one (ps_ret (pe_tup (pa_cons (pv 1) (pa_cons (pe_call (ok_fraction_runs G) (hr.mono (by decide)) rfl G.m_fraction_runs G.F_fraction_runs.kp G.b_fraction_runs .nil pass0 (pa_cons (pe_ix (ixT K) (pv 2) pe_int (fun _ _ => rfl)) (pa_cons (pe_ix (ixT K) (pv 2) pe_int (fun _ _ => rfl)) pa_nil))) pa_nil)))))
    pss_nil)
  (pss_cons ps_never
  (pss_one ps_never))))))), ?_⟩
  exact pm_body h fun ds r hS => tr_wayT G.turned rfl hS
theorem ok_edge_behind (G : Glob K mg w g) : FnOk P w K mg base CX0 1 g.d_edge_behind g.f_edge_behind ["edge", "runs"] (Pm K (TT g) spEdge) := by
  refine G.F_edge_behind.ok sc_edge_behind (pm_len fun ds r ⟨_, _, e, _⟩ => by rw [e]; rfl) (fun cdv A outer s H vs Q E hr h => ?_)
  refine ⟨_, (pss_cons (ps_asg (pv 0) (pgT K 4 rfl (pgs_cons (pg_name (i := 2) sc_edge_behind.nd rfl (.inl rfl) (.inl rfl)) (pgs_cons (pg_name (i := 3) sc_edge_behind.nd rfl (.inl rfl) (.inl rfl)) (pgs_cons (pg_name (i := 4) sc_edge_behind.nd rfl (.inl rfl) (.inl rfl)) (pgs_cons (pg_name (i := 5) sc_edge_behind.nd rfl (.inl rfl) (.inl rfl)) pgs_nil))))))
  (pss_cons (ps_for PassesOwn.never rfl (piT K (pv 1)) (pgT K 2 rfl (pgs_cons (pg_name (i := 6) sc_edge_behind.nd rfl (.inl rfl) (.inl rfl)) (pgs_cons (pg_name (i := 7) sc_edge_behind.nd rfl (.inl rfl) (.inl rfl)) pgs_nil)))
    (pss_one (ps_if (pt_cmpR (eqD K (hu64 hr)) (pv 6) (pe_glob (v := .str "left") rfl G.m_LEFT ⟨_, rfl⟩) (nomark _))
    (pss_one (ps_par (i := 2) (j := 4) rfl sc_edge_behind.nd rfl rfl (by decide) rfl rfl (pa_cons (pe_op op_add (pv 2) (pe_op op_mulW (pv 7) (pv 3))) (pa_cons (pe_op op_add (pv 4) (pe_op op_mulW (pv 7) (pv 5))) pa_nil)) rfl))
    (pss_one (ps_par (i := 3) (j := 5) rfl sc_edge_behind.nd rfl rfl (by decide) rfl rfl (pa_cons (pe_op op_add (pv 3) (pe_op op_mulW (pv 7) (pv 2))) (pa_cons (pe_op op_add (pv 5) (pe_op op_mulW (pv 7) (pv 4))) pa_nil)) rfl)))))
  (pss_one (ps_ret (pe_tup (pa_cons (pv 2) (pa_cons (pv 3) (pa_cons (pv 4) (pa_cons (pv 5) pa_nil))))))))), ?_⟩
  exact pm_body h fun ds r hS => tr_edge rfl hS
theorem ok_first_edge (G : Glob K mg w g) : FnOk P w K mg base CX0 1 g.d_first_edge g.f_first_edge ["side"] (Pm K (TT g) spFirst) := by
  refine G.F_first_edge.ok sc_first_edge (pm_len fun ds r ⟨_, e, _⟩ => by rw [e]; rfl) (fun cdv A outer s H vs Q E hr h => ?_)
  refine ⟨_, (pss_one (ps_ret (pe_ifExp (pt_cmpR (eqD K (hu64 hr)) (pv 0) (pe_glob (v := .str "down") rfl G.m_DOWN ⟨_, rfl⟩) (nomark _)) (pe_tup (pa_cons pe_int (pa_cons (pe_un un_neg pe_int) (pa_cons pe_int (pa_cons pe_int pa_nil))))) (pe_tup (pa_cons pe_int (pa_cons pe_int (pa_cons pe_int (pa_cons pe_int pa_nil)))))))), ?_⟩
  exact pm_body h fun ds r hS => tr_first rfl hS
theorem ok_way_number (G : Glob K mg w g) : FnOk P w K mg base CX0 4 g.d_way_number g.f_way_number ["way"] (Pm K (TT g) spWayN) := by
  refine G.F_way_number.ok sc_way_number (pm_len fun ds r ⟨_, _, e, _⟩ => by rw [e]; rfl) (fun cdv A outer s H vs Q E hr h => ?_)
  refine ⟨_, (pss_cons (ps_if (pt_cmpR (eqD K (hu64 hr)) (pe_callB (cLen K) (by rfl) G.m_len PySem.boot_len (pa_cons (pv 0) pa_nil)) pe_int (nomark _))
    (pss_one (ps_ret (pe_ifExp (pt_cmpR (eqD K (hu64 hr)) (pv 0) (pe_glob (v := .ref g.r_ZERO_WAY) rfl G.m_ZERO_WAY rfl) (nomark _)) (pe_tup (pa_cons pe_int (pa_cons pe_int pa_nil))) (pe_tup (pa_cons pe_int (pa_cons pe_int pa_nil))))))
    pss_nil)
  (pss_cons (ps_asg (pe_call (ok_edge_behind G) (hr.mono (by decide)) rfl G.m_edge_behind G.F_edge_behind.kp G.b_edge_behind .nil pass0 (pa_cons (pe_call (ok_first_edge G) (hr.mono (by decide)) rfl G.m_first_edge G.F_first_edge.kp G.b_first_edge .nil pass0 (pa_cons (pe_ix (ixT K) (pv 0) pe_int (fun _ _ => rfl)) pa_nil)) (pa_cons (pe_ix (ixT K) (pv 0) pe_int (fun _ _ => rfl)) pa_nil))) (pgT K 4 rfl (pgs_cons (pg_name (i := 1) sc_way_number.nd rfl (.inl rfl) (.inl rfl)) (pgs_cons (pg_name (i := 2) sc_way_number.nd rfl (.inl rfl) (.inl rfl)) (pgs_cons (pg_name (i := 3) sc_way_number.nd rfl (.inl rfl) (.inl rfl)) (pgs_cons (pg_name (i := 4) sc_way_number.nd rfl (.inl rfl) (.inl rfl)) pgs_nil))))))
  (pss_cons (ps_if (pt_cmpR (eqD K (hu64 hr)) (pe_callB (cLen K) (by rfl) G.m_len PySem.boot_len (pa_cons (pv 0) pa_nil)) pe_int (nomark _))
    (pss_one (ps_ret (pe_call (ok_fraction_told G) (hr.mono (by decide)) rfl G.m_fraction_told G.F_fraction_told.kp G.b_fraction_told .nil pass0 (pa_cons (pe_op op_add (pv 1) (pv 2)) (pa_cons (pe_op op_add (pv 3) (pv 4)) pa_nil)))))
    pss_nil)
  (pss_cons ps_never
  (pss_one ps_never))))), ?_⟩
  exact pm_body h fun ds r hS => tr_wayN rfl hS
theorem ok_has_fraction (G : Glob K mg w g) : FnOk P w K mg base CX0 6 g.d_has_fraction g.f_has_fraction ["lot", "x"] (Pm K (TT g) spHas) := by
  refine G.F_has_fraction.ok sc_has_fraction (pm_len fun ds r ⟨_, _, _, _, _, e, _⟩ => by rw [e]; rfl) (fun cdv A outer s H vs Q E hr h => ?_)
  refine ⟨_, (pss_cons (ps_asg (pv 0) (pgT K 5 rfl (pgs_cons (pg_name (i := 2) sc_has_fraction.nd rfl (.inl rfl) (.inl rfl)) (pgs_cons (pg_name (i := 3) sc_has_fraction.nd rfl (.inl rfl) (.inl rfl)) (pgs_cons (pg_name (i := 4) sc_has_fraction.nd rfl (.inl rfl) (.inl rfl)) (pgs_cons (pg_name (i := 5) sc_has_fraction.nd rfl (.inl rfl) (.inl rfl)) (pgs_cons (pg_name (i := 6) sc_has_fraction.nd rfl (.inl rfl) (.inl rfl)) pgs_nil)))))))
  (pss_cons (ps_if (pt_cmpR op_gt (pe_callB (cLen K) (by rfl) G.m_len PySem.boot_len (pa_cons (pv 1) pa_nil)) pe_int (nomark _))
    (pss_one (ps_ret pe_bl))
    pss_nil)
  (pss_cons (ps_set (i := 7) sc_has_fraction.nd rfl (.inl rfl) (pe_call (ok_way_told G) (hr.mono (by decide)) rfl G.m_way_told G.F_way_told.kp G.b_way_told .nil pass0 (pa_cons (pv 1) pa_nil)))
  (pss_cons (ps_if (pt_cmpR (eqD K (hu64 hr)) (pe_callB (cLen K) (by rfl) G.m_len PySem.boot_len (pa_cons (pv 7) pa_nil)) pe_int (nomark _))
    (pss_one (ps_ret (pe_ifExp (pt_cmpR (eqD K (hu64 hr)) (pe_ix (ixT K) (pv 7) pe_int (fun _ _ => rfl)) pe_str (nomark _)) (pv 2) (pv 3))))
    pss_nil)
  (pss_cons (ps_asg (pv 7) (pgT K 2 rfl (pgs_cons (pg_name (i := 8) sc_has_fraction.nd rfl (.inl rfl) (.inl rfl)) (pgs_cons (pg_name (i := 9) sc_has_fraction.nd rfl (.inl rfl) (.inl rfl)) pgs_nil))))
  (pss_one (ps_ret (pe_ix (ixT K) (pe_ix (ixT K) (pv 6) (pe_call (ok_view_along G) (hr.mono (by decide)) rfl G.m_view_along G.F_view_along.kp G.b_view_along .nil pass0 (pa_cons (pv 6) (pa_cons (pe_ifExp (pt_cmpR (eqD K (hu64 hr)) (pv 8) (pe_glob (v := .str "up") rfl G.m_UP_lots ⟨_, rfl⟩) (nomark _)) (pv 4) (pv 5)) (pa_cons (pv 9) pa_nil)))) (fun _ _ => rfl)) pe_int (fun _ _ => rfl))))))))), ?_⟩
  exact pm_body h fun ds r hS => tr_has rfl hS
theorem ok_live_views (G : Glob K mg w g) : FnOk P w K mg base CX0 1 g.d_live_views g.f_live_views ["views"] (Pm K (TT g) spLive) := by
  refine G.F_live_views.ok sc_live_views (pm_len fun ds r ⟨_, e, _⟩ => by rw [e]; rfl) (fun cdv A outer s H vs Q E hr h => ?_)
  refine ⟨_, (pss_cons (ps_set (i := 1) sc_live_views.nd rfl (.inr rfl) (pe_lc (own := [("yes", 3), ("left", 4), ("right", 5)]) rfl sc_live_views.nd (piT K (pv 0)) (blkOk_by (N := N_live_views) (sc := defScope s_live_views) (by decide +kernel)) (fun _ _ _ _ _ => (pgT K 3 rfl (pgs_cons (pg_name (i := 3) sc_live_views.nd rfl (.inl rfl) (.inr rfl)) (pgs_cons (pg_name (i := 4) sc_live_views.nd rfl (.inl rfl) (.inr rfl)) (pgs_cons (pg_name (i := 5) sc_live_views.nd rfl (.inl rfl) (.inr rfl)) pgs_nil))))) (fun _ _ _ _ _ => pts_nil) (fun _ _ _ _ _ => (pv 3))))
  (pss_cons (ps_for PassesOwn.never rfl (pi_range1 rfl G.m_range (pa_cons (pe_callB (cLen K) (by rfl) G.m_len PySem.boot_len (pa_cons (pv 0) pa_nil)) pa_nil)) (pg_name (i := 2) sc_live_views.nd rfl (.inl rfl) (.inl rfl))
    (pss_one (ps_set (i := 1) sc_live_views.nd rfl (.inr rfl) (pe_lc (own := [("k", 6), ("yes", 3), ("left", 4), ("right", 5)]) rfl sc_live_views.nd (pi_enumT K rfl G.m_enumerate (pa_cons (pv 0) pa_nil)) (blkOk_by (N := N_live_views) (sc := defScope s_live_views) (by decide +kernel)) (fun _ _ _ _ _ => (pgT K 2 rfl (pgs_cons (pg_name (i := 6) sc_live_views.nd rfl (.inl rfl) (.inr rfl)) (pgs_cons (pgT K 3 rfl (pgs_cons (pg_name (i := 3) sc_live_views.nd rfl (.inl rfl) (.inr rfl)) (pgs_cons (pg_name (i := 4) sc_live_views.nd rfl (.inl rfl) (.inr rfl)) (pgs_cons (pg_name (i := 5) sc_live_views.nd rfl (.inl rfl) (.inr rfl)) pgs_nil)))) pgs_nil)))) (fun _ _ _ _ _ => pts_nil) (fun _ _ _ _ _ => (pe_or (pe_ix (ixL K) (pv 1) (pv 6) (fun _ _ => rfl)) (pe_or (pe_ix (ixL K) (pv 1) (pv 4) (fun _ _ => rfl)) (pe_one (pe_ix (ixL K) (pv 1) (pv 5) (fun _ _ => rfl))))))))))
  (pss_one (ps_ret (pv 1))))), ?_⟩
  exact pm_body h fun ds r hS => tr_live rfl hS
theorem ok_lot_size (G : Glob K mg w g) : FnOk P w K mg base CX0 2 g.d_lot_size g.f_lot_size ["lot"] (Pm K (TT g) spSize) := by
  refine G.F_lot_size.ok sc_lot_size (pm_len fun ds r ⟨_, e, _⟩ => by rw [e]; rfl) (fun cdv A outer s H vs Q E hr h => ?_)
  refine ⟨_, (pss_cons (ps_asg (pv 0) (pgT K 5 rfl (pgs_cons (pg_name (i := 1) sc_lot_size.nd rfl (.inl rfl) (.inl rfl)) (pgs_cons (pg_name (i := 2) sc_lot_size.nd rfl (.inl rfl) (.inl rfl)) (pgs_cons (pg_name (i := 3) sc_lot_size.nd rfl (.inl rfl) (.inl rfl)) (pgs_cons (pg_name (i := 4) sc_lot_size.nd rfl (.inl rfl) (.inl rfl)) (pgs_cons (pg_name (i := 5) sc_lot_size.nd rfl (.inl rfl) (.inl rfl)) pgs_nil)))))))
  (pss_cons (ps_setLc (i := 6) (own := [("is_live", 12)]) rfl sc_lot_size.nd rfl rfl (sw_true rfl rfl rfl (by decide +kernel)) (piL K (pe_call (ok_live_views G) (hr.mono (by decide)) rfl G.m_live_views G.F_live_views.kp G.b_live_views .nil pass0 (pa_cons (pv 5) pa_nil))) (blkOk_by (N := N_lot_size) (sc := defScope s_lot_size) (by decide +kernel)) (fun _ _ _ _ _ => (pg_name (i := 12) sc_lot_size.nd rfl (.inl rfl) (.inr rfl))) (fun _ _ _ _ _ => pts_nil) (fun _ _ _ _ _ => (pe_ifExp (pt_val (pv 12)) pe_non pe_int)))
  (pss_cons (ps_for PassesOwn.never rfl (pi_range1 rfl G.m_range (pa_cons (pe_callB (cLen K) (by rfl) G.m_len PySem.boot_len (pa_cons (pv 5) pa_nil)) pa_nil)) (pg_name (i := 7) sc_lot_size.nd rfl (.inl rfl) (.inl rfl))
    (pss_one (ps_for PassesOwn.never rfl (pi_enumT K rfl G.m_enumerate (pa_cons (pv 5) pa_nil)) (pgT K 2 rfl (pgs_cons (pg_name (i := 8) sc_lot_size.nd rfl (.inl rfl) (.inl rfl)) (pgs_cons (pgT K 3 rfl (pgs_cons (pg_name (i := 9) sc_lot_size.nd rfl (.inl rfl) (.inl rfl)) (pgs_cons (pg_name (i := 10) sc_lot_size.nd rfl (.inl rfl) (.inl rfl)) (pgs_cons (pg_name (i := 11) sc_lot_size.nd rfl (.inl rfl) (.inl rfl)) pgs_nil)))) pgs_nil)))
    (pss_one (ps_if (pw_and (pt_cmpR op_isN (pe_ix (ixL K) (pv 6) (pv 8) (fun _ _ => rfl)) pe_non (nomark _)) (pw_and (pt_cmpR op_notN (pe_ix (ixL K) (pv 6) (pv 10) (fun _ _ => rfl)) pe_non (nomark _)) (pw_and1 (pt_cmpR op_notN (pe_ix (ixL K) (pv 6) (pv 11) (fun _ _ => rfl)) pe_non (nomark _))))).pt
    (pss_one (ps_asg (pe_op op_add (pe_op op_add (pe_callTy call_int1 (by rfl) G.m_int (by decide +kernel) (pa_cons (pv 9) pa_nil)) (pe_ix (ixL K) (pv 6) (pv 10) (fun _ _ => rfl))) (pe_ix (ixL K) (pv 6) (pv 11) (fun _ _ => rfl))) (pg_sub (pv 6) (pv 8) set_list)))
    pss_nil)))))
  (pss_one (ps_ret (pe_ifExp (pt_cmpR (inDK K (hu65 hr)) pe_non (pv 6) (by with_unfolding_all rfl)) pe_non (pe_op op_add (pe_op op_add (pe_op op_add (pe_callTy call_int1 (by rfl) G.m_int (by decide +kernel) (pa_cons (pv 1) pa_nil)) (pe_callTy call_int1 (by rfl) G.m_int (by decide +kernel) (pa_cons (pv 2) pa_nil))) (pe_ix (ixL K) (pv 6) (pv 3) (fun _ _ => rfl))) (pe_ix (ixL K) (pv 6) (pv 4) (fun _ _ => rfl))))))))), ?_⟩
  exact pm_body h fun ds r hS => tr_size rfl hS
end
end W45
set_option maxHeartbeats 1000000
namespace DV
open PySem PySem.Spec PyProof.Rows L2 LamX NdefX
/-! ### the law's source of numbers, as a world -/
theorem op_mulS {X : Cx} : OpR X (binaryOp .Mult) (rI IntMulOk fun i j => .int (i * j)) := opI fun _ _ _ _ _ _ _ hc q => mul_int q hc
theorem mulS_r {i j : Int} (h : j.natAbs < 2 ^ 64) : IntMulOk i j := IntMulOk.of_right (by
  have h2 := log2_lt (k := 64) (by decide) h
  unfold Builtin.Int.intBits
  split <;> omega)
/-- its state: the cells from the end -/
structure Src where
  cells : List Int
  left : Int
  mixed : Int
  turn : Int
def srcK (l : Addr) (s : Src) : List (Key × V) := [(.inr "cells", .ref l), (.inr "left", .int s.left), (.inr "mixed", .int s.mixed), (.inr "turn", .int s.turn)]
structure SrcAt (a l : Addr) (s : Src) (H : Hp) : Prop where
  d : H a = some (.dK (srcK l s))
  l : H l = some (.lst (s.cells.reverse.map .int))
def srcW (a l : Addr) : Wo where
  S := Src
  M := fun x => x = a ∨ x = l
  hold := fun s H => SrcAt a l s H
  stab := fun {s H H'} h x => ⟨h _ _ (.inl rfl) x.d nt_dK, h _ _ (.inr rfl) x.l nt_lst⟩
  there := fun {s H b} x m => by
    rcases m with e | e
    · exact ⟨_, by rw [e]; exact x.d, wr_dK⟩
    · exact ⟨_, by rw [e]; exact x.l, wr_lst⟩
theorem k12 : ¬ ((Sum.inr (Str.ofString "cells") : Key) = Sum.inr (Str.ofString "left")) := by decide +kernel
theorem k13 : ¬ ((Sum.inr (Str.ofString "cells") : Key) = Sum.inr (Str.ofString "mixed")) := by decide +kernel
theorem k14 : ¬ ((Sum.inr (Str.ofString "cells") : Key) = Sum.inr (Str.ofString "turn")) := by decide +kernel
theorem k23 : ¬ ((Sum.inr (Str.ofString "left") : Key) = Sum.inr (Str.ofString "mixed")) := by decide +kernel
theorem k24 : ¬ ((Sum.inr (Str.ofString "left") : Key) = Sum.inr (Str.ofString "turn")) := by decide +kernel
theorem k34 : ¬ ((Sum.inr (Str.ofString "mixed") : Key) = Sum.inr (Str.ofString "turn")) := by decide +kernel
section
variable {l : Addr} {s : Src}
theorem src_cells : valV (srcK l s) (.inr "cells") = some (.ref l) := valV_pos rfl
theorem src_left : valV (srcK l s) (.inr "left") = some (.int s.left) := (valV_neg k12).trans (valV_pos rfl)
theorem src_mixed : valV (srcK l s) (.inr "mixed") = some (.int s.mixed) := (valV_neg k13).trans ((valV_neg k23).trans (valV_pos rfl))
theorem src_turn : valV (srcK l s) (.inr "turn") = some (.int s.turn) := (valV_neg k14).trans ((valV_neg k24).trans ((valV_neg k34).trans (valV_pos rfl)))
theorem putK_there {k : Key} {v : V} {kv : List (Key × V)} (h : (valV kv k).isSome = true) : putK kv k v = kv.map fun p => if p.1 = k then (p.1, v) else p := by
  unfold putK
  rw [valV_any, h, if_pos rfl]
theorem put_left {i : Int} : putK (srcK l s) (.inr "left") (.int i) = srcK l { s with left := i } := by
  rw [putK_there (by rw [src_left]; rfl)]
  unfold srcK
  simp only [List.map_cons, List.map_nil, if_neg k12, if_neg (Ne.symm k23), if_neg (Ne.symm k24), if_true]
theorem put_mixed {i : Int} : putK (srcK l s) (.inr "mixed") (.int i) = srcK l { s with mixed := i } := by
  rw [putK_there (by rw [src_mixed]; rfl)]
  unfold srcK
  simp only [List.map_cons, List.map_nil, if_neg k13, if_neg k23, if_neg (Ne.symm k34), if_true]
theorem put_turn {i : Int} : putK (srcK l s) (.inr "turn") (.int i) = srcK l { s with turn := i } := by
  rw [putK_there (by rw [src_turn]; rfl)]
  unfold srcK
  simp only [List.map_cons, List.map_nil, if_neg k14, if_neg k24, if_neg k34, if_true]
end
/-- a number among the four, read; written -/
inductive SrcF : Str → (Src → Int) → (Src → Int → Src) → Prop
  | left : SrcF "left" (·.left) fun s i => { s with left := i }
  | mixed : SrcF "mixed" (·.mixed) fun s i => { s with mixed := i }
  | turn : SrcF "turn" (·.turn) fun s i => { s with turn := i }
theorem SrcF.val {x : Str} {f : Src → Int} {g : Src → Int → Src} (h : SrcF x f g) (l : Addr) (s : Src) : valV (srcK l s) (.inr x) = some (.int (f s)) := by
  cases h
  · exact src_left
  · exact src_mixed
  · exact src_turn
theorem SrcF.put {x : Str} {f : Src → Int} {g : Src → Int → Src} (h : SrcF x f g) (l : Addr) (s : Src) (i : Int) : putK (srcK l s) (.inr x) (.int i) = srcK l (g s i) ∧ (g s i).cells = s.cells := by
  cases h
  · exact ⟨put_left, rfl⟩
  · exact ⟨put_mixed, rfl⟩
  · exact ⟨put_turn, rfl⟩
section
variable {K : PySem.W.Frag} {T : List NTab} {a l : Addr} {env : Env} {s s1 : Src}
theorem dv_sget {i : Nat} {x : Str} {f : Src → Int} {g : Src → Int → Src} (F : SrcF x f g) (hi : env[i]? = some (.val (.ref a))) : Dv ⟨K, T, srcW a l⟩ (tDGet (tVar i) (tC (V.str x))) env s (.dat (.int (f s))) s := fun F0 H0 σ Fz H e Q q => by
  obtain ⟨v, h1, rfl⟩ := e.at hi (by intro z; cases z)
  have hd : SrcAt a l s H := e.hold
  refine ⟨_, h1, a, .int (f s), rfl, ?_, q _ Fz H (.refl e.sub e.tab) e.hold (.int _)⟩
  have z := DGet.k (k := .inr x) hd.d
  rw [F.val] at z
  exact z
theorem dv_slen {i : Nat} (hi : env[i]? = some (.val (.ref a))) : Dv ⟨K, T, srcW a l⟩ (tCB (rLenS K) (tCons (tDGet (tVar i) (tC (V.str (Str.ofString "cells")))) tNil)) env s (.dat (.int (s.cells.length : Int))) s := fun F0 H0 σ Fz H e Q q => by
  obtain ⟨v, h1, rfl⟩ := e.at hi (by intro z; cases z)
  have hd : SrcAt a l s H := e.hold
  refine ⟨_, h1, a, .ref l, rfl, ?_, l, _, rfl, .inl (.of hd.l), ?_⟩
  · have z := DGet.k (k := .inr "cells") hd.d
    rw [src_cells] at z
    exact z
  · rw [List.length_map, List.length_reverse]
    exact q _ Fz H (.refl e.sub e.tab) e.hold (.int _)
theorem tr_sput {i : Nat} {x : Str} {j : Int} {f : Src → Int} {g : Src → Int → Src} {tv : TE} (F : SrcF x f g) (hi : env[i]? = some (.val (.ref a))) (hv : Dv ⟨K, T, srcW a l⟩ tv env s (.dat (.int j)) s1) :
    Tr ⟨K, T, srcW a l⟩ (sDPut (tVar i) (tC (V.str x)) tv) env s (.nx env (g s1 j)) := fun F0 H0 σ Fz H e D on => hv F0 H0 σ Fz H e _ fun v F1 H1 e1 o1 b1 => by
  cases b1
  have e2 := e.go e1 o1
  obtain ⟨v, h1, rfl⟩ := e2.at hi (by intro z; cases z)
  have hd : SrcAt a l s1 H1 := o1
  have ma : (srcW a l).M a := .inl rfl
  have nal : a ≠ l := ne_of hd.d hd.l (by intro z; cases z)
  obtain ⟨p1, p2⟩ := F.put l s1 j
  refine ⟨_, h1, a, _, rfl, .k (k := .inr x) (v := .int j) hd.d (lt_sz (Nat.le_of_ble_eq_true rfl)), ?_⟩
  rw [p1]
  have x : DV.Ext (srcW a l).M T F1 H1 F1 (upd H1 a (.dK (srcK l (g s1 j)))) := (Ext.refl e2.sub e2.tab).writeM ma (e2.nf a ma) hd.d wr_dK
  exact on σ F1 _ (e2.go x (s' := g s1 j) ⟨upd_same, (upd_ne nal.symm).trans (by rw [p2]; exact hd.l)⟩)
end
end DV
set_option maxHeartbeats 1000000
namespace DV
open PySem PySem.Spec PyProof.Rows L2 LamX NdefX
/-! ### picks -/
abbrev SpS := Addr → List B → Src → B → Src → Prop
/-- a promise in the source's world, wherever it lies -/
def PmS (K : PySem.W.Frag) (T : List NTab) (S : SpS) : Sp := fun vs H Q E => ∃ a l, PmW K T (srcW a l) (S a) vs H Q E
theorem pms_len {K : PySem.W.Frag} {T : List NTab} {S : SpS} {n : Nat} (hl : ∀ a bs s r s', S a bs s r s' → bs.length = n) : ∀ vs H Q E, PmS K T S vs H Q E → vs.length = n := fun vs H Q E ⟨a, l, h⟩ => pmw_len (fun bs s r s' z => hl a bs s r s' z) vs H Q E h
theorem pms_body {K : PySem.W.Frag} {T : List NTab} {S : SpS} {N : List Str} {vs : List V} {H : Hp} {Q : VK} {E : XK} {t : TS} (h : PmS K T S vs H Q E) (tr : ∀ a l bs s r s', S a bs s r s' → Tr ⟨K, T, srcW a l⟩ t (initB N bs) s (.rt r s')) :
    t { nx := fun _ H' => Q .non H', rt := Q } (L2.start N vs) H := by
  obtain ⟨a, l, h⟩ := h
  exact pmw_body h (tr a l)
theorem pms_call {K : PySem.W.Frag} {T : List NTab} {a l : Addr} {S : SpS} {E : XK} {env : Env} {s s1 s2 : Src} {xs bs : List B} {ta : TA} {r : B} (h : DvA ⟨K, T, srcW a l⟩ ta env s xs s1) (q : ToBs xs bs) (hS : S a bs s1 r s2) : Dv ⟨K, T, srcW a l⟩ (tCall (PmS K T S) [] E ta) env s r s2 :=
  fun F0 H0 σ F H e Q k => h F0 H0 σ F H e _ fun vs F1 H1 e1 h1 b1 => by
    obtain ⟨F2, e2, _, r2⟩ := freezeB e1 b1 q
    refine ⟨a, l, F2, bs, r, s1, s2, e2.sub, e2.tab, h1, (e.go e2 h1).nf, by rw [List.append_nil]; exact ball_pl (C := ⟨K, T, srcW a l⟩) (D := ⟨K, T, srcW a l⟩) rfl (fun _ h => h) q.pl r2, q.pl, hS, fun v F' H' e3 h3 b3 => ?_⟩
    exact k v F' H' (e2.trans e3) h3 (b3.base e2.dom)
def leftAt (s : Src) : Nat → Int
  | 0 => s.left
  | i + 1 => s.cells.getD i 0
def popped (s : Src) (i : Nat) : Src := { s with cells := s.cells.drop i, left := leftAt s i }
def popOk (s : Src) (many : Int) (i : Nat) : Prop := 1 < many ∧ leftAt s i < 2 ∧ i < s.cells.length
instance (s : Src) (many : Int) (i : Nat) : Decidable (popOk s many i) := by unfold popOk; infer_instance
theorem pops_end (s : Src) (many : Int) : ∃ k, k ≤ s.cells.length ∧ (∀ i, i < k → popOk s many i) ∧ ¬ popOk s many k := by
  obtain ⟨k, h1, h2, h3⟩ := first_turn (fun i => if popOk s many i then i + 1 else 0) s.cells.length
  refine ⟨k, h1, fun i hi => Classical.byContradiction fun z => ?_, fun z => ?_⟩
  · have := h2 i hi
    rw [if_neg z] at this
    exact absurd this (Nat.not_lt_zero i)
  · rcases h3 with e | e
    · exact absurd z.2.2 (by omega)
    · rw [if_pos z] at e
      omega
noncomputable def popK (s : Src) (many : Int) : Nat := Classical.choose (pops_end s many)
theorem popK_ok (s : Src) (many : Int) : popK s many ≤ s.cells.length ∧ (∀ i, i < popK s many → popOk s many i) ∧ ¬ popOk s many (popK s many) := Classical.choose_spec (pops_end s many)
def mix1 (s : Src) : Int := (s.mixed + (s.turn + 1) * 104729) % 998244353
def mix2 (s : Src) : Int := (mix1 s * mix1 s + (s.turn + 1) * 17) % 2147483647
def maxI (many : Int) : Int := if many > 1 then many else 1
def usesLeft (s : Src) (many : Int) : Prop := many < 2 ∨ 1 < s.left
instance (s : Src) (many : Int) : Decidable (usesLeft s many) := by unfold usesLeft; infer_instance
/-- behind the pops -/
def pickV0 (s : Src) (many : Int) : Int := if usesLeft s many then s.left % maxI many else (mix2 s / 16) % many
def pickN0 (s : Src) (many : Int) : Src := if usesLeft s many then { s with left := s.left / maxI many } else { s with turn := s.turn + 1, mixed := mix2 s }
noncomputable def pickV (s : Src) (many : Int) : Int := pickV0 (popped s (popK s many)) many
noncomputable def pickN (s : Src) (many : Int) : Src := pickN0 (popped s (popK s many)) many
theorem pickV_lt (s : Src) {many : Int} (h : 1 ≤ many) : 0 ≤ pickV s many ∧ pickV s many < many := by
  unfold pickV pickV0
  have hm : maxI many = many := by unfold maxI; split <;> omega
  split
  · rw [hm]
    exact ⟨Int.emod_nonneg _ (by omega), Int.emod_lt_of_pos _ (by omega)⟩
  · exact ⟨Int.emod_nonneg _ (by omega), Int.emod_lt_of_pos _ (by omega)⟩
def spPick : SpS := fun a bs s r s' => ∃ many : Int, bs = [.val (.ref a), .dat (.int many)] ∧ 1 ≤ many ∧ many ≤ 1000000 ∧ r = .dat (.int (pickV s many)) ∧ s' = pickN s many
theorem dv_spop {K : PySem.W.Frag} {T : List NTab} {a l : Addr} {env : Env} {s : Src} {i : Nat} {c : Int} {r : List Int} (hi : env[i]? = some (.val (.ref a))) (hc : s.cells = c :: r) :
    Dv ⟨K, T, srcW a l⟩ (tBM0 K "list" rPop (tDGet (tVar i) (tC (V.str (Str.ofString "cells"))))) env s (.dat (.int c)) { s with cells := r } := fun F0 H0 σ Fz H e Q q => by
  obtain ⟨v, h1, rfl⟩ := e.at hi (by intro z; cases z)
  have hd : SrcAt a l s H := e.hold
  have ml : (srcW a l).M l := .inr rfl
  have nal : a ≠ l := ne_of hd.d hd.l (by intro z; cases z)
  have er : s.cells.reverse.map V.int = (r.reverse.map V.int) ++ [.int c] := by rw [hc, List.reverse_cons, List.map_append]; rfl
  have hl := hd.l
  rw [er] at hl
  refine ⟨_, h1, a, .ref l, rfl, ?_, .inl ⟨rfl, _, .of hl⟩, l, _, .int c, rfl, rfl, hl, ?_, ?_⟩
  · have z := DGet.k (k := .inr "cells") hd.d
    rw [src_cells] at z
    exact z
  · simp
  · rw [List.dropLast_concat]
    have x : DV.Ext (srcW a l).M T Fz H Fz (upd H l (.lst (r.reverse.map V.int))) := (Ext.refl e.sub e.tab).writeM ml (e.nf l ml) hl wr_lst
    exact q _ Fz _ x ⟨(upd_ne nal).trans hd.d, upd_same⟩ (.int _)
abbrev rMax2 : List V → Hp → VK → Prop := fun xs H Q => ∃ i j, xs = [V.int i, V.int j] ∧ Q (V.int (if j > i then j else i)) H
theorem rcb_max2 {C : Cf} {i j : Int} : Rcb C rMax2 [.dat (.int i), .dat (.int j)] (.dat (.int (if j > i then j else i))) := fun H1 F H vs s t m h Q q => by
  cases h with
  | cons h1 h2 =>
    cases h2 with
    | cons h3 h4 =>
      cases h4
      cases h1
      cases h3
      exact ⟨i, j, rfl, q _ F H (.refl s t) (.int _)⟩
def pickTs (K : PySem.W.Frag) : TS := tSeq (tWhile (tAnd (tTest (tOp (rI0 fun i j => V.bl (decide (j < i))) (tVar 1) (tC (V.int 1)))) (tAnd (tTest (tOp (rI0 fun i j => V.bl (decide (i < j))) (tDGet (tVar 0) (tC (V.str (Str.ofString "left")))) (tC (V.int 2)))) (tTest (tOp (rI0 fun i j => V.bl (decide (j < i))) (tCB (rLenS K) (tCons (tDGet (tVar 0) (tC (V.str (Str.ofString "cells")))) tNil)) (tC (V.int 0)))))) (sDPut (tVar 0) (tC (V.str (Str.ofString "left"))) (tBM0 K "list" rPop (tDGet (tVar 0) (tC (V.str (Str.ofString "cells"))))))) (tSeq (tAsg (tDGet (tVar 0) (tC (V.str (Str.ofString "left")))) (gName 2)) (tSeq (tIfS (tOr (tTest (tOp (rI0 fun i j => V.bl (decide (i < j))) (tVar 1) (tC (V.int 2)))) (tTest (tOp (rI0 fun i j => V.bl (decide (j < i))) (tVar 2) (tC (V.int 1))))) (tSeq (sDPut (tVar 0) (tC (V.str (Str.ofString "left"))) (tOp (rI CDivW fun i j => V.int (i / j)) (tVar 2) (tCB rMax2 (tCons (tC (V.int 1)) (tCons (tVar 1) tNil))))) (tRet (tOp (rI (fun x j => 0 < j) fun i j => V.int (i % j)) (tCB rInt1 (tCons (tVar 2) tNil)) (tCB rMax2 (tCons (tC (V.int 1)) (tCons (tVar 1) tNil)))))) tNext) (tSeq (sDPut (tVar 0) (tC (V.str (Str.ofString "turn"))) (tOp (rI0 fun i j => V.int (i + j)) (tDGet (tVar 0) (tC (V.str (Str.ofString "turn")))) (tC (V.int 1)))) (tSeq (tAsg (tOp (rI (fun x j => 0 < j) fun i j => V.int (i % j)) (tCB rInt1 (tCons (tOp (rI0 fun i j => V.int (i + j)) (tDGet (tVar 0) (tC (V.str (Str.ofString "mixed")))) (tOp (rI IntMulOk fun i j => V.int (i * j)) (tDGet (tVar 0) (tC (V.str (Str.ofString "turn")))) (tC (V.int 104729)))) tNil)) (tC (V.int 998244353))) (gName 3)) (tSeq (tAsg (tOp (rI (fun x j => 0 < j) fun i j => V.int (i % j)) (tCB rInt1 (tCons (tOp (rI0 fun i j => V.int (i + j)) (tOp (rI IntMulOk fun i j => V.int (i * j)) (tVar 3) (tVar 3)) (tOp (rI IntMulOk fun i j => V.int (i * j)) (tDGet (tVar 0) (tC (V.str (Str.ofString "turn")))) (tC (V.int 17)))) tNil)) (tC (V.int 2147483647))) (gName 3)) (tSeq (sDPut (tVar 0) (tC (V.str (Str.ofString "mixed"))) (tVar 3)) (tRet (tOp (rI (fun x j => 0 < j) fun i j => V.int (i % j)) (tCB rInt1 (tCons (tOp (rI CDivW fun i j => V.int (i / j)) (tVar 3) (tC (V.int 16))) tNil)) (tVar 1)))))))))
theorem popped_succ {s : Src} {k : Nat} (h : k < s.cells.length) : ∃ c r, (popped s k).cells = c :: r ∧ popped s (k + 1) = { popped s k with left := c, cells := r } := by
  refine ⟨s.cells[k], s.cells.drop (k + 1), List.drop_eq_getElem_cons h, ?_⟩
  unfold popped
  congr 1
  show s.cells.getD k 0 = _
  rw [List.getD_eq_getElem?_getD, List.getElem?_eq_getElem h]
  rfl
theorem tr_pick {K : PySem.W.Frag} {T : List NTab} {a l : Addr} {bs : List B} {s s' : Src} {r : B} {N : List Str} (hN : N.length = 4) (h : spPick a bs s r s') : Tr ⟨K, T, srcW a l⟩ (pickTs K) (initB N bs) s (.rt r s') := by
  obtain ⟨many, rfl, m1, m2, rfl, rfl⟩ := h
  have ei : initB N [.val (.ref a), .dat (.int many)] = [.val (.ref a), .dat (.int many), .un, .un] := by
    unfold initB
    rw [hN]
    rfl
  rw [ei]
  obtain ⟨k1, k2, k3⟩ := popK_ok s many
  unfold pickV pickN
  obtain ⟨k, hk⟩ : ∃ k, k = popK s many := ⟨_, rfl⟩
  rw [← hk] at k1 k2 k3 ⊢
  have test : ∀ i, i ≤ k → ∀ q : Bool, decide (popOk s many i) = q → Dt ⟨K, T, srcW a l⟩ (tAnd (tTest (tOp (rI0 fun i j => V.bl (decide (j < i))) (tVar 1) (tC (V.int 1)))) (tAnd (tTest (tOp (rI0 fun i j => V.bl (decide (i < j))) (tDGet (tVar 0) (tC (V.str (Str.ofString "left")))) (tC (V.int 2)))) (tTest (tOp (rI0 fun i j => V.bl (decide (j < i))) (tCB (rLenS K) (tCons (tDGet (tVar 0) (tC (V.str (Str.ofString "cells")))) tNil)) (tC (V.int 0))))))
      [.val (.ref a), .dat (.int many), .un, .un] (popped s i) q (popped s i) := fun i hi q hq => by
    refine dt_is (dt_and0 (C := ⟨K, T, srcW a l⟩) (s := popped s i) (dt_test (dv_op (C := ⟨K, T, srcW a l⟩) (dv_var rfl) dv_int rop_IB)) fun _ => dt_and0 (C := ⟨K, T, srcW a l⟩) (s := popped s i) (dt_test (dv_op (C := ⟨K, T, srcW a l⟩) (dv_sget .left rfl) dv_int rop_IB)) fun _ => dt_test (dv_op (C := ⟨K, T, srcW a l⟩) (dv_slen rfl) dv_int rop_IB)) ?_
    rw [← hq]
    have e : (popped s i).cells.length = s.cells.length - i := List.length_drop
    rw [e]
    show (decide (1 < many) && (decide (leftAt s i < 2) && decide (0 < ((s.cells.length - i : Nat) : Int)))) = _
    by_cases c : popOk s many i
    · rw [decide_eq_true c]
      obtain ⟨c1, c2, c3⟩ := c
      rw [decide_eq_true c1, decide_eq_true c2, decide_eq_true (show (0 : Int) < ((s.cells.length - i : Nat) : Int) by omega)]
      rfl
    · rw [decide_eq_false c]
      by_cases c1 : 1 < many
      · by_cases c2 : leftAt s i < 2
        · have c3 : ¬ (0 : Int) < ((s.cells.length - i : Nat) : Int) := fun z => c ⟨c1, c2, by omega⟩
          rw [decide_eq_false c3, Bool.and_false, Bool.and_false]
        · rw [decide_eq_false c2, Bool.false_and, Bool.and_false]
      · rw [decide_eq_false c1, Bool.false_and]
  have lp := tr_whileG (C := ⟨K, T, srcW a l⟩) (s := s) (env := [.val (.ref a), .dat (.int many), .un, .un]) (o := .nx [.val (.ref a), .dat (.int many), .un, .un] (popped s k)) k (fun _ => [.val (.ref a), .dat (.int many), .un, .un]) (fun i => popped s i) (Wks.refl _) rfl
    (t := tAnd (tTest (tOp (rI0 fun i j => V.bl (decide (j < i))) (tVar 1) (tC (V.int 1)))) (tAnd (tTest (tOp (rI0 fun i j => V.bl (decide (i < j))) (tDGet (tVar 0) (tC (V.str (Str.ofString "left")))) (tC (V.int 2)))) (tTest (tOp (rI0 fun i j => V.bl (decide (j < i))) (tCB (rLenS K) (tCons (tDGet (tVar 0) (tC (V.str (Str.ofString "cells")))) tNil)) (tC (V.int 0))))))
    (p := sDPut (tVar 0) (tC (V.str (Str.ofString "left"))) (tBM0 K "list" rPop (tDGet (tVar 0) (tC (V.str (Str.ofString "cells"))))))
    (fun i hi => ⟨popped s i, test i (Nat.le_of_lt hi) true (decide_eq_true (k2 i hi)), by
      obtain ⟨c, r, e1, e2⟩ := popped_succ (k2 i hi).2.2
      rw [e2]
      exact goes_nx (tr_sput (g := fun s i => { s with left := i }) .left rfl (dv_spop (i := 0) rfl e1))⟩) (.inl ⟨popped s k, test k (Nat.le_refl _) false (decide_eq_false k3), rfl⟩)
  refine tr_seq lp ?_
  obtain ⟨s1, hs1⟩ : ∃ s1, s1 = popped s k := ⟨_, rfl⟩
  rw [← hs1]
  have mx : maxI many = if many > 1 then many else 1 := rfl
  have mp : 0 < maxI many := by rw [mx]; split <;> omega
  have mb : maxI many ≤ 1000000 := by rw [mx]; split <;> omega
  refine tr_seq (tr_asg (C := ⟨K, T, srcW a l⟩) (b := .dat (.int s1.left)) (dv_sget .left rfl)) ?_
  unfold pickV0 pickN0
  by_cases c : usesLeft s1 many
  · rw [if_pos c, if_pos c]
    refine tr_seqR (tr_if (C := ⟨K, T, srcW a l⟩) (c := true) (dt_is (dt_or0 (C := ⟨K, T, srcW a l⟩) (s := s1) (dt_test (dv_op (C := ⟨K, T, srcW a l⟩) (dv_var rfl) dv_int rop_IB)) fun _ => dt_test (dv_op (C := ⟨K, T, srcW a l⟩) (dv_var rfl) dv_int rop_IB)) ?_) (fun _ => tr_seq (tr_sput (g := fun s i => { s with left := i }) .left rfl (dv_op (C := ⟨K, T, srcW a l⟩) (dv_var rfl) (dv_is (dv_cb (da_cons dv_int (da_cons (dv_var rfl) da_nil)) rcb_max2) (by rw [← mx])) (rop_IIc ⟨mp, Nat.lt_trans (log2_lt (k := 20) (by decide) (by omega)) (by decide)⟩)))
      (tr_ret (dv_op (C := ⟨K, T, srcW a l⟩) (dv_cb (da_cons (dv_var rfl) da_nil) rcb_intI) (dv_is (dv_cb (da_cons dv_int (da_cons (dv_var rfl) da_nil)) rcb_max2) (by rw [← mx])) (rop_IIc mp)))) fun z => by cases z)
    rcases c with c | c
    · rw [decide_eq_true (show many < 2 from c), Bool.true_or]
    · rw [decide_eq_true (show (1 : Int) < s1.left from c), Bool.or_true]
  · rw [if_neg c, if_neg c]
    refine tr_seq (tr_if (C := ⟨K, T, srcW a l⟩) (c := false) (dt_is (dt_or0 (C := ⟨K, T, srcW a l⟩) (s := s1) (dt_test (dv_op (C := ⟨K, T, srcW a l⟩) (dv_var rfl) dv_int rop_IB)) fun _ => dt_test (dv_op (C := ⟨K, T, srcW a l⟩) (dv_var rfl) dv_int rop_IB)) ?_) (fun z => by cases z) fun _ => tr_next) ?_
    · rw [decide_eq_false (show ¬ many < 2 from fun z => c (.inl z)), decide_eq_false (show ¬ (1 : Int) < s1.left from fun z => c (.inr z))]
      rfl
    refine tr_seq (tr_sput (g := fun s i => { s with turn := i }) .turn rfl (dv_op (C := ⟨K, T, srcW a l⟩) (dv_sget .turn rfl) dv_int rop_II)) ?_
    obtain ⟨s2, hs2⟩ : ∃ s2 : Src, s2 = { s1 with turn := s1.turn + 1 } := ⟨_, rfl⟩
    show Tr ⟨K, T, srcW a l⟩ _ _ ({ s1 with turn := s1.turn + 1 } : Src) _
    rw [← hs2]
    have m1b : 0 ≤ mix1 s1 ∧ mix1 s1 < 998244353 := ⟨Int.emod_nonneg _ (by omega), Int.emod_lt_of_pos _ (by omega)⟩
    have m2b : 0 ≤ mix2 s1 ∧ mix2 s1 < 2147483647 := ⟨Int.emod_nonneg _ (by omega), Int.emod_lt_of_pos _ (by omega)⟩
    refine tr_seq (tr_asg (C := ⟨K, T, srcW a l⟩) (b := .dat (.int (mix1 s1))) (dv_is (dv_op (C := ⟨K, T, srcW a l⟩) (dv_cb (da_cons (dv_op (dv_sget .mixed rfl) (dv_op (dv_sget .turn rfl) dv_int (rop_IIc (mulS_r (by decide)))) rop_II) da_nil) rcb_intI) dv_int (rop_IIc (by show (0 : Int) < 998244353; omega))) (by rw [hs2]; rfl))) ?_
    refine tr_seq (tr_asg (C := ⟨K, T, srcW a l⟩) (b := .dat (.int (mix2 s1))) (dv_is (dv_op (C := ⟨K, T, srcW a l⟩) (dv_cb (da_cons (dv_op (dv_op (dv_var rfl) (dv_var rfl) (rop_IIc (mulS_r (by omega)))) (dv_op (dv_sget .turn rfl) dv_int (rop_IIc (mulS_r (by decide)))) rop_II) da_nil) rcb_intI) dv_int (rop_IIc (by show (0 : Int) < 2147483647; omega))) (by rw [hs2]; rfl))) ?_
    refine tr_seq (tr_sput (g := fun s i => { s with mixed := i }) .mixed rfl (dv_var (C := ⟨K, T, srcW a l⟩) rfl)) ?_
    rw [hs2]
    exact tr_ret (dv_op (C := ⟨K, T, srcW a l⟩) (dv_cb (da_cons (dv_op (dv_var rfl) dv_int (rop_IIc ⟨by omega, by decide⟩)) da_nil) rcb_intI) (dv_var rfl) (rop_IIc (by show (0 : Int) < many; omega)))
end DV
set_option maxHeartbeats 1000000
namespace DV
open PySem PySem.Spec PyProof.Rows L2 LamX NdefX
/-! ### one of some -/
noncomputable def ofV (s : Src) (xs : List PyData) : PyData := xs.getD (pickV s xs.length).toNat .none
noncomputable def ofN (s : Src) (xs : List PyData) : Src := pickN s xs.length
def spOf : SpS := fun a bs s r s' => ∃ xs : List PyData, bs = [.val (.ref a), .dat (.list xs)] ∧ 1 ≤ xs.length ∧ xs.length ≤ 1000000 ∧ r = .dat (ofV s xs) ∧ s' = ofN s xs
def ofTs (K : PySem.W.Frag) (T : List NTab) : TS := tRet (tOp (rIxL K) (tVar 1) (tCall (PmS K T spPick) [] C8.E0 (tCons (tVar 0) (tCons (tCB (rLenS K) (tCons (tVar 1) tNil)) tNil))))
theorem ofV_mem (s : Src) {xs : List PyData} (h : 1 ≤ xs.length) : ofV s xs ∈ xs := by
  unfold ofV
  have q := pickV_lt s (many := (xs.length : Int)) (by omega)
  rw [List.getD_eq_getElem?_getD, List.getElem?_eq_getElem (by omega)]
  exact List.getElem_mem _
theorem atI_pick (s : Src) {xs : List PyData} (h : 1 ≤ xs.length) : atI xs (pickV s xs.length) = some (ofV s xs) := by
  have q := pickV_lt s (many := (xs.length : Int)) (by omega)
  unfold atI ixN ofV
  rw [if_pos q.1, if_pos q.2]
  show xs[(pickV s xs.length).toNat]? = _
  rw [List.getD_eq_getElem?_getD, List.getElem?_eq_getElem (by omega)]
  rfl
theorem tr_of {K : PySem.W.Frag} {T : List NTab} {a l : Addr} {bs : List B} {s s' : Src} {r : B} {N : List Str} (hN : N.length = 2) (h : spOf a bs s r s') : Tr ⟨K, T, srcW a l⟩ (ofTs K T) (initB N bs) s (.rt r s') := by
  obtain ⟨xs, rfl, h1, h2, rfl, rfl⟩ := h
  have ei : initB N [.val (.ref a), .dat (.list xs)] = [.val (.ref a), .dat (.list xs)] := by
    unfold initB
    rw [hN]
    rfl
  rw [ei]
  exact tr_ret (dv_op (C := ⟨K, T, srcW a l⟩) (dv_var rfl) (pms_call (S := spPick) (da_cons (dv_val rfl) (da_cons (dv_cb (da_cons (dv_var rfl) da_nil) (rcb_len (x := .dat (.list xs)) rfl)) da_nil)) (.val (.dat rfl .nil)) ⟨(xs.length : Int), rfl, by omega, by omega, rfl, rfl⟩) (rop_ixL rfl (atI_pick s h1)))
end DV
set_option maxHeartbeats 1000000
namespace DV
open PySem PySem.Spec PyProof.Rows L2 LamX NdefX
/-! ### the source is made -/
def mixOf : List Int → Int → Int
  | [], m => m
  | c :: r, m => mixOf r ((m * 69069 + c * 31 + 5) % 2147483629)
def srcOf (ns : List Int) : Src := ⟨ns.map fun n => (n.natAbs : Int), 1, mixOf ns 11, 0⟩
/-- a new source, behind all that stood -/
def spSource (K : PySem.W.Frag) (T : List NTab) : Sp := fun vs H Q _ => ∃ F ns v, vs = [v] ∧ Sub F H ∧ TabsN T H ∧ Da K F v (.list (ns.map .int)) ∧ ns.length ≤ 63 ∧
  ∀ a l H' F', DV.Ext (fun _ => False) T F H F' H' → H a = none → H l = none → F' a = none → F' l = none → SrcAt a l (srcOf ns) H' → Q (.ref a) H'
def sourceTs (K : PySem.W.Frag) : TS := tSeq (tAsg (tC (V.int 11)) (gName 1)) (tSeq (tFor (iList K (tVar 0)) (gName 2) (tAsg (tOp (rI (fun x j => 0 < j) fun i j => V.int (i % j)) (tCB rInt1 (tCons (tOp (rI0 fun i j => V.int (i + j)) (tOp (rI0 fun i j => V.int (i + j)) (tOp (rI IntMulOk fun i j => V.int (i * j)) (tVar 1) (tC (V.int 69069))) (tOp (rI IntMulOk fun i j => V.int (i * j)) (tVar 2) (tC (V.int 31)))) (tC (V.int 5))) tNil)) (tC (V.int 2147483629))) (gName 1)))
  (tRet (tDisp [(tC (V.str (Str.ofString "cells")), tRevL K (tLc (iList K (tVar 0)) (gName 2) tYes (tCB rAbs (tCons (tVar 2) tNil)) [2])), (tC (V.str (Str.ofString "left")), tC (V.int 1)), (tC (V.str (Str.ofString "mixed")), tVar 1), (tC (V.str (Str.ofString "turn")), tC (V.int 0))])))
theorem merge_src (l : Addr) (i j k : Int) : mergeK [] [(.inr (Str.ofString "cells"), .ref l), (.inr (Str.ofString "left"), .int i), (.inr (Str.ofString "mixed"), .int j), (.inr (Str.ofString "turn"), .int k)] = [(.inr (Str.ofString "cells"), .ref l), (.inr (Str.ofString "left"), .int i), (.inr (Str.ofString "mixed"), .int j), (.inr (Str.ofString "turn"), .int k)] := by
  unfold mergeK
  simp only [List.foldl_cons, List.foldl_nil]
  rw [putK_new (kvs := ([] : List (Key × V))) (k := .inr (Str.ofString "cells")) _ rfl]
  have h1 : valV ([] ++ [((Sum.inr (Str.ofString "cells") : Key), V.ref l)]) (.inr (Str.ofString "left")) = none := (valV_neg k12).trans rfl
  rw [putK_new _ h1]
  have h2 : valV ([] ++ [((Sum.inr (Str.ofString "cells") : Key), V.ref l)] ++ [(.inr (Str.ofString "left"), .int i)]) (.inr (Str.ofString "mixed")) = none := (valV_neg k13).trans ((valV_neg k23).trans rfl)
  rw [putK_new _ h2]
  have h3 : valV ([] ++ [((Sum.inr (Str.ofString "cells") : Key), V.ref l)] ++ [(.inr (Str.ofString "left"), .int i)] ++ [(.inr (Str.ofString "mixed"), .int j)]) (.inr (Str.ofString "turn")) = none := (valV_neg k14).trans ((valV_neg k24).trans ((valV_neg k34).trans rfl))
  rw [putK_new _ h3]
  rfl
theorem mixOf_take (ns : List Int) : ∀ (i : Nat) (m : Int), mixOf (ns.take i) m = mixOf (ns.take i) m := fun _ _ => rfl
theorem mixOf_app : ∀ (xs ys : List Int) (m : Int), mixOf (xs ++ ys) m = mixOf ys (mixOf xs m)
  | [], _, _ => rfl
  | x :: xs, ys, m => mixOf_app xs ys _
theorem mixOf_small : ∀ (xs : List Int) (m : Int), 0 ≤ m → m < 2147483629 → 0 ≤ mixOf xs m ∧ mixOf xs m < 2147483629
  | [], m, h1, h2 => ⟨h1, h2⟩
  | x :: xs, m, h1, h2 => mixOf_small xs _ (Int.emod_nonneg _ (by omega)) (Int.emod_lt_of_pos _ (by omega))
theorem source_rd {K : PySem.W.Frag} {T : List NTab} {N : List Str} (hN : N.length = 3) {vs : List V} {H : Hp} {Q : VK} {E : XK} (h : spSource K T vs H Q E) : sourceTs K { nx := fun _ H' => Q .non H', rt := Q } (L2.start N vs) H := by
  obtain ⟨F, ns, v, rfl, sub, tab, hd, hz, k⟩ := h
  have e0 : EnvOk (Cf.pure K T) F H (L2.start N [v]) F H [.dat (.list (ns.map .int)), .un, .un] () := by
    have q := init_ok (N := N) sub tab (.cons hd .nil)
    have ei : initE N [.list (ns.map .int)] = [.dat (.list (ns.map .int)), .un, .un] := by
      unfold initE
      rw [hN]
      rfl
    rw [ei] at q
    exact q
  have lp : Tr (Cf.pure K T) (tSeq (tAsg (tC (V.int 11)) (gName 1)) (tFor (iList K (tVar 0)) (gName 2) (tAsg (tOp (rI (fun x j => 0 < j) fun i j => V.int (i % j)) (tCB rInt1 (tCons (tOp (rI0 fun i j => V.int (i + j)) (tOp (rI0 fun i j => V.int (i + j)) (tOp (rI IntMulOk fun i j => V.int (i * j)) (tVar 1) (tC (V.int 69069))) (tOp (rI IntMulOk fun i j => V.int (i * j)) (tVar 2) (tC (V.int 31)))) (tC (V.int 5))) tNil)) (tC (V.int 2147483629))) (gName 1))))
      [.dat (.list (ns.map .int)), .un, .un] () (.nx [.dat (.list (ns.map .int)), .dat (.int (mixOf ns 11)), .un] ()) := by
    refine tr_seq (tr_asg dv_int) ?_
    have q := tr_for0 (C := Cf.pure K T) (s1 := ()) (wi := iList K (tVar 0)) (g := gName 2) (ds := ns.map .int) (env := [.dat (.list (ns.map .int)), .dat (.int 11), .un]) (fun i => [.dat (.list (ns.map .int)), .dat (.int (mixOf (ns.take i) 11)), .un]) (di_list (dv_var rfl) rfl) (Wks.refl _)
      (p := tAsg (tOp (rI (fun x j => 0 < j) fun i j => V.int (i % j)) (tCB rInt1 (tCons (tOp (rI0 fun i j => V.int (i + j)) (tOp (rI0 fun i j => V.int (i + j)) (tOp (rI IntMulOk fun i j => V.int (i * j)) (tVar 1) (tC (V.int 69069))) (tOp (rI IntMulOk fun i j => V.int (i * j)) (tVar 2) (tC (V.int 31)))) (tC (V.int 5))) tNil)) (tC (V.int 2147483629))) (gName 1)) fun i d hd => by
        rw [List.getElem?_map] at hd
        cases hx : ns[i]? with
        | none =>
          rw [hx] at hd
          cases hd
        | some x =>
          rw [hx] at hd
          cases hd
          refine ⟨_, _, dg_name, goes_nxW (tr_asg (dv_op (dv_cb (da_cons (dv_op (dv_op (dv_op (dv_var rfl) dv_int (rop_IIc (mulS_r (by decide)))) (dv_op (dv_var rfl) dv_int (rop_IIc (mulS_r (by decide)))) rop_II) dv_int rop_II) da_nil) rcb_intI) dv_int (rop_IIc (by show (0 : Int) < 2147483629; omega)))) ?_⟩
          refine .eq (.eqv ?_ (.un .nil))
          rw [List.take_add_one, hx, mixOf_app]
          rfl
    rw [List.length_map, List.take_length] at q
    exact q
  refine lp F H _ F H e0 { nx := _, rt := Q } fun σ F1 H1 e1 => ?_
  -- the display
  intro p hp
  have pn0 : H p = none := by
    cases z : H p with
    | none => rfl
    | some o =>
      obtain ⟨o', z'⟩ := e1.ext.dom p o z
      rw [z'] at hp
      cases hp
  have x2 : (Cf.pure K T).Ext F1 H1 F1 (upd H1 p (.dK [])) := Ext.fresh e1.sub e1.tab hp
  have e2 := e1.go (s' := ()) x2 trivial
  have lc := dv_lcM (C := Cf.pure K T) (s1 := ()) (env := [.dat (.list (ns.map .int)), .dat (.int (mixOf ns 11)), .un]) (wi := iList K (tVar 0)) (g := gName 2) (tt := tYes) (te := tCB rAbs (tCons (tVar 2) tNil)) (vs := [2]) ns .int (fun n => .int (n.natAbs : Int)) (di_list (dv_var rfl) rfl) rfl (by omega) rfl
    fun n hn => ⟨_, _, dg_name, by decide, _, dv_cb (da_cons (dv_var rfl) da_nil) rcb_abs, rfl⟩
  simp only [tPairs, tC]
  show tRevL K (tLc (iList K (tVar 0)) (gName 2) tYes (tCB rAbs (tCons (tVar 2) tNil)) [2]) σ (upd H1 p (.dK [])) _
  refine lc F H σ F1 _ e2 _ fun v3 F3 H3 x3 _ b3 => ?_
  obtain ⟨c, xs, rfl, c0, _, fc, hc, dc⟩ := b3
  have exs : xs = ns.map fun n => V.int (n.natAbs : Int) := by
    have gen : ∀ (ms : List Int) (xs : List V), DaAll K F3 xs (ms.map fun n => .int (n.natAbs : Int)) → xs = ms.map fun n => V.int (n.natAbs : Int) := by
      intro ms
      induction ms with
      | nil => intro xs h; cases h; rfl
      | cons n ms ih =>
        intro xs h
        cases h with
        | cons d1 d2 =>
          cases d1
          rw [ih _ d2]
          rfl
    exact gen ns xs dc
  refine ⟨c, xs, rfl, .of hc, fun l hl => ?_⟩
  have e3 := e2.go (s' := ()) x3 trivial
  have x4 : (Cf.pure K T).Ext F3 H3 F3 (upd H3 l (.lst xs.reverse)) := Ext.fresh e3.sub e3.tab hl
  have e4 := e3.go (s' := ()) x4 trivial
  have hp3 : H3 p = some (.dK []) := x3.hx p _ upd_same nt_dK id
  have npl : p ≠ l := ne_of_none hp3 hl
  obtain ⟨m, h1, h2⟩ := e4.at (i := 1) rfl (by intro z; cases z)
  cases h2
  refine ⟨.int (mixOf ns 11), h1, ?_⟩
  refine ⟨(upd_ne npl).trans hp3, [(.inr (Str.ofString "cells"), .ref l), (.inr (Str.ofString "left"), .int 1), (.inr (Str.ofString "mixed"), .int (mixOf ns 11)), (.inr (Str.ofString "turn"), .int 0)], rfl, Nat.le_of_ble_eq_true rfl, ?_⟩
  rw [merge_src]
  have l0 : H l = none := by
    cases z : H l with
    | none => rfl
    | some o =>
      obtain ⟨o', z'⟩ := (e3.ext).dom l o z
      rw [z'] at hl
      cases hl
  have fn : ∀ a, H a = none → (upd H3 l (.lst xs.reverse)) a ≠ none → ∀ o, F3 a = some o → F3 a = some o := fun _ _ _ _ z => z
  have fp : F3 p = none := by
    rw [x3.fr p _ upd_same]
    cases z : F1 p with
    | none => rfl
    | some o =>
      rw [(e1.sub p o z).1] at hp
      cases hp
  have fl : F3 l = none := by
    cases z : F3 l with
    | none => rfl
    | some o =>
      rw [(e3.sub l o z).1] at hl
      cases hl
  have xp : DV.Ext (fun _ => False) T F H F3 (upd (upd H3 l (.lst xs.reverse)) p (.dK [(.inr (Str.ofString "cells"), .ref l), (.inr (Str.ofString "left"), .int 1), (.inr (Str.ofString "mixed"), .int (mixOf ns 11)), (.inr (Str.ofString "turn"), .int 0)])) :=
    e4.ext.write pn0 fp ((upd_ne npl).trans hp3) wr_dK
  refine k p l _ F3 xp pn0 l0 fp fl ⟨upd_same, (upd_ne npl.symm).trans ?_⟩
  rw [upd_same, exs]
  show some (HO.lst _) = some (HO.lst ((ns.map fun n => (n.natAbs : Int)).reverse.map V.int))
  rw [← List.map_reverse, ← List.map_reverse, List.map_map]
  rfl
end DV
set_option maxHeartbeats 1000000
namespace W45
open PySem L2 NdefX LamX DV
section
variable {P : Program} {w : World} {K : PySem.W.Frag} {mg : Str → Option Value} {base : Heap} {g : GA}
theorem ok__law_pick (G : Glob K mg w g) : FnOk P w K mg base CX0 1 g.d__law_pick g.f__law_pick ["source", "many"] (PmS K (TT g) spPick) := by
  refine G.F__law_pick.ok sc__law_pick (pms_len fun a bs s r s' ⟨_, e, _⟩ => by rw [e]; rfl) (fun cdv A outer s H vs Q E hr h => ?_)
  refine ⟨_, (pss_cons (ps_while PassesOwn.never (pw_and (pt_cmpR op_gt (pv 1) pe_int (nomark _)) (pw_and (pt_cmpR op_lt (pe_dget (hu1 hr) (pv 0) pe_str (fun _ _ => rfl)) pe_int (nomark _)) (pw_and1 (pt_cmpR op_gt (pe_callB (cLen K) (by rfl) G.m_len PySem.boot_len (pa_cons (pe_dget (hu1 hr) (pv 0) pe_str (fun _ _ => rfl)) pa_nil)) pe_int (nomark _))))).pt
    (pss_one (ps_dput (hu1 hr) (pv 0) pe_str (pe_bm0 PySem.F.plainAttrs_list PySem.F.slot_list_pop PySem.F.type_list_pop mt_pop (pe_dget (hu1 hr) (pv 0) pe_str (fun _ _ => rfl))) rfl)))
  (pss_cons (ps_set (i := 2) sc__law_pick.nd rfl (.inl rfl) (pe_dget (hu1 hr) (pv 0) pe_str (fun _ _ => rfl)))
  (pss_cons (ps_if (pw_or (pt_cmpR op_lt (pv 1) pe_int (nomark _)) (pw_or1 (pt_cmpR op_gt (pv 2) pe_int (nomark _)))).pt
    (pss_cons (ps_dput (hu1 hr) (pv 0) pe_str (pe_op op_fdivW (pv 2) (pe_callB (call_max2 rfl) (by rfl) G.m_max (by decide +kernel) (pa_cons pe_int (pa_cons (pv 1) pa_nil)))) rfl)
  (pss_one (ps_ret (pe_op op_mod (pe_callTy call_int1 (by rfl) G.m_int (by decide +kernel) (pa_cons (pv 2) pa_nil)) (pe_callB (call_max2 rfl) (by rfl) G.m_max (by decide +kernel) (pa_cons pe_int (pa_cons (pv 1) pa_nil)))))))
    pss_nil)
  (pss_cons (ps_dput (hu1 hr) (pv 0) pe_str (pe_op op_add (pe_dget (hu1 hr) (pv 0) pe_str (fun _ _ => rfl)) pe_int) rfl)
  (pss_cons (ps_set (i := 3) sc__law_pick.nd rfl (.inl rfl) (pe_op op_mod (pe_callTy call_int1 (by rfl) G.m_int (by decide +kernel) (pa_cons (pe_op op_add (pe_dget (hu1 hr) (pv 0) pe_str (fun _ _ => rfl)) (pe_op op_mulS (pe_dget (hu1 hr) (pv 0) pe_str (fun _ _ => rfl)) pe_int)) pa_nil)) pe_int))
  (pss_cons (ps_set (i := 3) sc__law_pick.nd rfl (.inl rfl) (pe_op op_mod (pe_callTy call_int1 (by rfl) G.m_int (by decide +kernel) (pa_cons (pe_op op_add (pe_op op_mulS (pv 3) (pv 3)) (pe_op op_mulS (pe_dget (hu1 hr) (pv 0) pe_str (fun _ _ => rfl)) pe_int)) pa_nil)) pe_int))
  (pss_cons (ps_dput (hu1 hr) (pv 0) pe_str (pv 3) rfl)
  (pss_one (ps_ret (pe_op op_mod (pe_callTy call_int1 (by rfl) G.m_int (by decide +kernel) (pa_cons (pe_op op_fdivW (pv 3) pe_int) pa_nil)) (pv 1))))))))))), ?_⟩
  exact pms_body h fun a l bs s r s' hS => tr_pick rfl hS
theorem ok__law_of (G : Glob K mg w g) : FnOk P w K mg base CX0 2 g.d__law_of g.f__law_of ["source", "some"] (PmS K (TT g) spOf) := by
  refine G.F__law_of.ok sc__law_of (pms_len fun a bs s r s' ⟨_, e, _⟩ => by rw [e]; rfl) (fun cdv A outer s H vs Q E hr h => ?_)
  refine ⟨_, (pss_one (ps_ret (pe_ix (ixL K) (pv 1) (pe_call (ok__law_pick G) (hr.mono (by decide)) rfl G.m__law_pick G.F__law_pick.kp G.b__law_pick .nil pass0 (pa_cons (pv 0) (pa_cons (pe_callB (cLen K) (by rfl) G.m_len PySem.boot_len (pa_cons (pv 1) pa_nil)) pa_nil))) (fun _ _ => rfl)))), ?_⟩
  exact pms_body h fun a l bs s r s' hS => tr_of rfl hS
theorem ok__law_source (G : Glob K mg w g) : FnOk P w K mg base CX0 1 g.d__law_source g.f__law_source ["script"] (spSource K (TT g)) := by
  refine G.F__law_source.ok sc__law_source (fun vs H Q E h => ?_) (fun cdv A outer s H vs Q E hr h => ?_)
  · obtain ⟨_, _, v, rfl, _⟩ := h
    rfl
  refine ⟨_, (pss_cons (ps_set (i := 1) sc__law_source.nd rfl (.inl rfl) pe_int)
  (pss_cons (ps_for PassesOwn.never rfl (piL K (pv 0)) (pg_name (i := 2) sc__law_source.nd rfl (.inl rfl) (.inl rfl))
    (pss_one (ps_set (i := 1) sc__law_source.nd rfl (.inl rfl) (pe_op op_mod (pe_callTy call_int1 (by rfl) G.m_int (by decide +kernel) (pa_cons (pe_op op_add (pe_op op_add (pe_op op_mulS (pv 1) pe_int) (pe_op op_mulS (pv 2) pe_int)) pe_int) pa_nil)) pe_int))))
  (pss_one (ps_ret (pe_disp (pps_cons pe_str (pe_revL (pe_lc (own := [("cell", 2)]) rfl sc__law_source.nd (piL K (pv 0)) (blkOk_by (N := N__law_source) (sc := defScope s__law_source) (by decide +kernel)) (fun _ _ _ _ _ => (pg_name (i := 2) sc__law_source.nd rfl (.inl rfl) (.inr rfl))) (fun _ _ _ _ _ => pts_nil) (fun _ _ _ _ _ => (pe_callB call_abs (by rfl) G.m_abs (by decide +kernel) (pa_cons (pv 2) pa_nil))))) (pps_cons pe_str pe_int (pps_cons pe_str (pv 1) (pps_cons pe_str pe_int pps_nil)))) rfl rfl (by simp) (by decide)))))), ?_⟩
  exact source_rd rfl h
end
end W45
set_option maxHeartbeats 1000000
namespace DV
open PySem PySem.Spec PyProof.Rows L2 LamX NdefX
/-! ### a text walked; the runs of a way of letters -/
def chsD (x : Str) : List PyData := x.cps.toList.map fun c => .str ⟨#[c]⟩
section
variable {C : Cf} {env : Env} {s s1 : C.w.S}
theorem di_str {te : TE} {x : Str} (h : Dv C te env s (.dat (.str x)) s1) : Di C (iStr te) env s (chsD x) s1 := fun F0 H0 σ F H e R r => h F0 H0 σ F H e _ fun v F1 H1 e1 o1 b1 => by
  refine ⟨x, bok_str b1, r _ F1 H1 e1 o1 ?_⟩
  intro F' H' le sub tab
  refine ⟨fun i d hd => ?_, fun i hi => ?_⟩
  · unfold chsD at hd
    rw [List.getElem?_map, Array.getElem?_toList] at hd
    cases hc : x.cps[i]? with
    | none =>
      rw [hc] at hd
      cases hd
    | some c =>
      rw [hc] at hd
      cases hd
      refine ⟨(Array.getElem?_eq_some_iff.mp hc).1, fun y H2 ⟨e1, c2, hc2, ey⟩ => ?_⟩
      rw [hc] at hc2
      cases hc2
      subst e1 ey
      exact ⟨F', .refl sub tab, .str _⟩
  · unfold chsD at hi
    rw [List.length_map] at hi
    exact hi
end
def letS (b : Bool) : Str := if b then ⟨#[114]⟩ else ⟨#[108]⟩
def wayS (bs : List Bool) : Str := ⟨(bs.map fun b => if b then 114 else 108).toArray⟩
def wordB (b : Bool) : Str := if b then Str.ofString "right" else Str.ofString "left"
def encW (x : Bool × Nat) : PyData := .tuple [.str (wordB x.1), .int (x.2 : Int)]
def lrStep (acc : List (Bool × Nat)) (b : Bool) : List (Bool × Nat) :=
  match acc[acc.length - 1]? with
  | none => acc ++ [(b, 1)]
  | some p => if p.1 = b then acc.set (acc.length - 1) (b, p.2 + 1) else acc ++ [(b, 1)]
def lrRuns (bs : List Bool) : List (Bool × Nat) := bs.foldl lrStep []
theorem chs_way (bs : List Bool) : chsD (wayS bs) = bs.map fun b => .str (letS b) := by
  unfold chsD wayS
  rw [List.map_map]
  refine List.map_congr_left fun b _ => ?_
  cases b <;> rfl
def spLRuns (ds : List PyData) (r : B) : Prop := ∃ bs : List Bool, ds = [.str (wayS bs)] ∧ bs.length ≤ 1000 ∧ r = .dat (.tuple ((lrRuns bs).map encW))
def lrunsTs (K : PySem.W.Frag) : TS := tSeq (tAsg (tLst tNil) (gName 1)) (tSeq (tFor (iStr (tVar 0)) (gName 2) (tSeq (tAsg (tIf (tTest (tOp (rEqD K) (tVar 2) (tC (V.str (Str.ofString "l"))))) (tC (V.str (Str.ofString "left"))) (tC (V.str (Str.ofString "right")))) (gName 3)) (tIfS (tAnd (tTest (tOp (rNeD K) (tVar 1) (tLst tNil))) (tTest (tOp (rEqD K) (tOp (rIxT K) (tOp (rIxL K) (tVar 1) (tUn (rU fun i => V.int (-i)) (tC (V.int 1)))) (tC (V.int 0))) (tVar 3)))) (tAsg (tTup (tCons (tVar 3) (tCons (tOp (rI0 fun i j => V.int (i + j)) (tOp (rIxT K) (tOp (rIxL K) (tVar 1) (tUn (rU fun i => V.int (-i)) (tC (V.int 1)))) (tC (V.int 1))) (tC (V.int 1))) tNil))) (gSub (tVar 1) (tUn (rU fun i => V.int (-i)) (tC (V.int 1))) rSetL)) (tDrop (tBM K "list" rAppend (tVar 1) (tCons (tTup (tCons (tVar 3) (tCons (tC (V.int 1)) tNil))) tNil)))))) (tRet (tCB (rTupS K) (tCons (tVar 1) tNil))))
theorem sh_let (b : Bool) : SeqAt.shaped (.str (letS b)) = true := by cases b <;> decide +kernel
theorem sh_word (b : Bool) : SeqAt.shaped (.str (wordB b)) = true := by cases b <;> decide +kernel
theorem sh_l : SeqAt.shaped (.str (Str.ofString "l")) = true := by decide +kernel
theorem lay_word (x : Bool × Nat) : (encW x).canLay0 = true ∧ (encW x).depth ≤ 60 := by
  refine ⟨?_, ?_⟩
  · have h := sh_word x.1
    have h2 : PyData.canLay0 (.str (wordB x.1)) = true := by
      have h3 : (PyData.canLay0 (.str (wordB x.1)) && decide (PyData.depth (.str (wordB x.1)) ≤ 64)) = true := h
      rw [Bool.and_eq_true] at h3
      exact h3.1
    unfold encW
    simp only [PyData.canLay0, PyData.canLayAll0, Bool.and_true] at h2 ⊢
    exact h2
  · unfold encW
    simp [PyData.depth, PyData.depthAll]
theorem sh_runs (xs : List (Bool × Nat)) : SeqAt.shaped (.list (xs.map encW)) = true := shaped_list fun d hd => by
  obtain ⟨x, _, rfl⟩ := List.mem_map.mp hd
  exact lay_word x
theorem letl (b : Bool) : PyData.eqv (.str (letS b)) (.str (Str.ofString "l")) = !b := by
  rw [eqv_str]
  cases b <;> decide +kernel
theorem wordEq (a b : Bool) : PyData.eqv (.str (wordB a)) (.str (wordB b)) = decide (a = b) := by
  rw [eqv_str]
  cases a <;> cases b <;> decide +kernel
theorem lrStep_len (acc : List (Bool × Nat)) (b : Bool) : (lrStep acc b).length ≤ acc.length + 1 := by
  unfold lrStep
  split
  · simp
  · split <;> simp
theorem lr_len : ∀ (bs : List Bool) (acc : List (Bool × Nat)), (bs.foldl lrStep acc).length ≤ acc.length + bs.length
  | [], _ => Nat.le_refl _
  | b :: bs, acc => by
    have h1 := lr_len bs (lrStep acc b)
    have h2 := lrStep_len acc b
    simp only [List.foldl_cons, List.length_cons]
    omega
theorem eqv_nil (x : PyData) (xs : List PyData) : PyData.eqv (.list (x :: xs)) (.list []) = false := by rfl
theorem ix_last {n : Nat} (h : 0 < n) : ixN n (-1) = some (n - 1) := by
  unfold ixN
  rw [if_neg (by omega), if_pos (by omega)]
  congr 1
  omega
section
variable {K : PySem.W.Frag} {T : List NTab} {ds : List PyData} {r : B} {N : List Str}
theorem tr_lruns (hN : N.length = 4) (h : spLRuns ds r) : Tr (Cf.pure K T) (lrunsTs K) (initE N ds) () (.rt r ()) := by
  obtain ⟨bs, rfl, hz, rfl⟩ := h
  refine init_eq hN ?_
  refine tr_seq (tr_asg (dv_lst da_nil .nil (Nat.zero_le _))) ?_
  refine tr_seq (tr_is (tr_for0 (C := Cf.pure K T) (fun i => [.dat (.str (wayS bs)), .own ((lrRuns (bs.take i)).map encW), .un, .un]) (di_str (dv_var rfl)) (.eq (.eq (.un (.un .nil)))) fun i d hd => ?_)
    (o2 := .nx [.dat (.str (wayS bs)), .own ((lrRuns bs).map encW), .un, .un] ()) ?_) (tr_ret (dv_cb (da_cons (dv_bor rfl) da_nil) (rcb_tupL rfl)))
  · rw [chs_way, List.getElem?_map] at hd
    cases hb : bs[i]? with
    | none =>
      rw [hb] at hd
      cases hd
    | some b =>
      rw [hb] at hd
      cases hd
      have es : lrRuns (bs.take (i + 1)) = lrStep (lrRuns (bs.take i)) b := by
        unfold lrRuns
        rw [List.take_add_one, hb, List.foldl_append]
        rfl
      have ln : (lrRuns (bs.take i)).length ≤ 1000 := by
        have := lr_len (bs.take i) []
        unfold lrRuns
        simp only [List.length_nil, List.length_take] at this
        omega
      refine ⟨_, _, dg_name, ?_⟩
      rw [es]
      generalize lrRuns (bs.take i) = acc at ln ⊢
      have wd : Dv (Cf.pure K T) (tIf (tTest (tOp (rEqD K) (tVar 2) (tC (V.str (Str.ofString "l"))))) (tC (V.str (Str.ofString "left"))) (tC (V.str (Str.ofString "right")))) [.dat (.str (wayS bs)), .own (acc.map encW), .dat (.str (letS b)), .un] () (.dat (.str (wordB b))) () := by
        refine dv_if (b := !b) (dt_is (dt_test (dv_op (dv_var rfl) (dv_c fun _ => .str _) (rop_eqD rfl rfl (sh_let b) sh_l))) (letl b)) ?_ ?_
        · intro z
          cases b with
          | true => cases z
          | false => exact dv_c fun _ => .str _
        · intro z
          cases b with
          | false => cases z
          | true => exact dv_c fun _ => .str _
      have app : ∀ c : Bool, c = false → lrStep acc b = acc ++ [(b, 1)] → ∀ (t : TT) (p : TS), Dt (Cf.pure K T) t [.dat (.str (wayS bs)), .own (acc.map encW), .dat (.str (letS b)), .dat (.str (wordB b))] () c () →
          Goes (Cf.pure K T) (tSeq (tAsg (tIf (tTest (tOp (rEqD K) (tVar 2) (tC (V.str (Str.ofString "l"))))) (tC (V.str (Str.ofString "left"))) (tC (V.str (Str.ofString "right")))) (gName 3)) (tIfS t p (tDrop (tBM K "list" rAppend (tVar 1) (tCons (tTup (tCons (tVar 3) (tCons (tC (V.int 1)) tNil))) tNil))))) [.dat (.str (wayS bs)), .own (acc.map encW), .dat (.str (letS b)), .un] () [.dat (.str (wayS bs)), .own ((lrStep acc b).map encW), .un, .un] () := by
        intro c hc e t p ht
        refine goes_nxW (tr_seq (tr_asg wd) (tr_if ht (fun z => by rw [hc] at z; cases z) fun _ => tr_app (C := Cf.pure K T) (i := 1) rfl (dv_tup (da_cons (dv_var rfl) (da_cons dv_int da_nil)) (.cons rfl (.cons rfl .nil)) (Nat.le_of_ble_eq_true rfl)) rfl (by simp; omega))) ?_
        refine .eq (.eqv ?_ (.un (.un .nil)))
        rw [e, List.map_append]
        rfl
      cases hl : acc[acc.length - 1]? with
      | none =>
        have ha : acc = [] := by
          rw [List.getElem?_eq_none_iff] at hl
          exact List.eq_nil_of_length_eq_zero (by omega)
        subst ha
        exact app false rfl (by unfold lrStep; rw [hl]) _ _ (dt_is (dt_and0 (b := true) (dt_test (dv_op (dv_bor rfl) (dv_lst da_nil .nil (Nat.zero_le _)) (rop_neD rfl rfl (sh_runs []) rfl))) fun z => by cases z) rfl)
      | some p =>
        have hn : 0 < acc.length := by
          have := (List.getElem?_eq_some_iff.mp hl).1
          omega
        have hat : atI (acc.map encW) (-1) = some (encW p) := by
          unfold atI
          rw [List.length_map, ix_last hn]
          show (acc.map encW)[acc.length - 1]? = _
          rw [List.getElem?_map, hl]
          rfl
        have hne : (!PyData.eqv (.list (acc.map encW)) (.list [])) = true := by
          cases acc with
          | nil => cases hn
          | cons x xs => rw [List.map_cons, eqv_nil]; rfl
        have tst : Dt (Cf.pure K T) (tAnd (tTest (tOp (rNeD K) (tVar 1) (tLst tNil))) (tTest (tOp (rEqD K) (tOp (rIxT K) (tOp (rIxL K) (tVar 1) (tUn (rU fun i => V.int (-i)) (tC (V.int 1)))) (tC (V.int 0))) (tVar 3)))) [.dat (.str (wayS bs)), .own (acc.map encW), .dat (.str (letS b)), .dat (.str (wordB b))] () (decide (p.1 = b)) () :=
          dt_is (dt_and0 (b := decide (p.1 = b)) (dt_test (dv_op (dv_bor rfl) (dv_lst da_nil .nil (Nat.zero_le _)) (rop_neD rfl rfl (sh_runs acc) rfl)))
            fun _ => dt_is (dt_test (dv_op (dv_op (dv_op (dv_bor rfl) (dv_neg dv_int) (rop_ixL rfl hat)) dv_int (rop_ixT (d := .str (wordB p.1)) rfl)) (dv_var rfl) (rop_eqD rfl rfl (sh_word p.1) (sh_word b)))) (wordEq p.1 b)) (by rw [hne, Bool.true_and])
        by_cases c : p.1 = b
        · refine goes_nxW (tr_seq (tr_asg wd) (tr_if tst (fun _ => tr_setL (C := Cf.pure K T) (i := 1) rfl (dv_tup (da_cons (dv_var rfl) (da_cons (dv_op (dv_op (dv_op (dv_bor rfl) (dv_neg dv_int) (rop_ixL rfl hat)) dv_int (rop_ixT (d := .int (p.2 : Int)) rfl)) dv_int rop_II) da_nil)) (.cons rfl (.cons rfl .nil)) (Nat.le_of_ble_eq_true rfl)) rfl (dv_neg dv_int) (k := acc.length - 1) (by rw [List.length_map]; exact ix_last hn)) (fun z => by rw [decide_eq_true c] at z; cases z))) ?_
          have e : lrStep acc b = acc.set (acc.length - 1) (b, p.2 + 1) := by
            unfold lrStep
            rw [hl]
            exact if_pos c
          refine .eq (.eqv ?_ (.un (.un .nil)))
          rw [e, List.map_set]
          rfl
        · have e : lrStep acc b = acc ++ [(b, 1)] := by
            unfold lrStep
            rw [hl]
            exact if_neg c
          exact app _ (decide_eq_false c) e _ _ tst
  · show Out.nx _ _ = Out.nx _ _
    rw [chs_way, List.length_map, List.take_length]
end
end DV
set_option maxHeartbeats 1000000
namespace W45
open PySem L2 NdefX LamX DV
section
variable {P : Program} {w : World} {K : PySem.W.Frag} {mg : Str → Option Value} {base : Heap} {g : GA}
theorem ok__law_runs (G : Glob K mg w g) : FnOk P w K mg base CX0 1 g.d__law_runs g.f__law_runs ["way"] (Pm K (TT g) spLRuns) := by
  refine G.F__law_runs.ok sc__law_runs (pm_len fun ds r ⟨_, e, _⟩ => by rw [e]; rfl) (fun cdv A outer s H vs Q E hr h => ?_)
  refine ⟨_, (pss_cons (ps_set (i := 1) sc__law_runs.nd rfl (.inl rfl) (pe_lst pa_nil))
  (pss_cons (ps_for PassesOwn.never rfl (pi_str (pv 0)) (pg_name (i := 2) sc__law_runs.nd rfl (.inl rfl) (.inl rfl))
    (pss_cons (ps_set (i := 3) sc__law_runs.nd rfl (.inl rfl) (pe_ifExp (pt_cmpR (eqD K (hu64 hr)) (pv 2) pe_str (nomark _)) pe_str pe_str))
  (pss_one (ps_if (pw_and (pt_cmpR (neD K (hu64 hr)) (pv 1) (pe_lst pa_nil) (nomark _)) (pw_and1 (pt_cmpR (eqD K (hu64 hr)) (pe_ix (ixT K) (pe_ix (ixL K) (pv 1) (pe_un un_neg pe_int) (fun _ _ => rfl)) pe_int (fun _ _ => rfl)) (pv 3) (nomark _)))).pt
    (pss_one (ps_asg (pe_tup (pa_cons (pv 3) (pa_cons (pe_op op_add (pe_ix (ixT K) (pe_ix (ixL K) (pv 1) (pe_un un_neg pe_int) (fun _ _ => rfl)) pe_int (fun _ _ => rfl)) pe_int) pa_nil))) (pg_sub (pv 1) (pe_un un_neg pe_int) set_list)))
    (pss_one (ps_expr (pe_bm PySem.F.plainAttrs_list PySem.F.slot_list_append PySem.F.type_list_append mt_append (pv 1) (pa_cons (pe_tup (pa_cons (pv 3) (pa_cons pe_int pa_nil))) pa_nil))))))))
  (pss_one (ps_ret (pe_callTy (cTup K) (by rfl) G.m_tuple (by decide +kernel) (pa_cons (pv 1) pa_nil)))))), ?_⟩
  exact pm_body h fun ds r hS => tr_lruns rfl hS
end
end W45
set_option maxHeartbeats 1000000
namespace DV
open PySem PySem.Spec PyProof.Rows L2 LamX NdefX
/-! ### texts put together -/
def rAddS : R2 := fun x y H Q => ∃ i j, x = V.str i ∧ y = V.str j ∧ i.length + j.length ≤ sizeLine ∧ Q (V.str (i ++ j)) H
def rJoinK (K : PySem.W.Frag) : V → List V → Hp → VK → Prop := fun x xs H_1 Q => ∃ a p ys, x = V.str a ∧ xs = [V.ref p] ∧ (SqL K H_1 p (List.map V.str ys) ∨ SqT K H_1 p (List.map V.str ys)) ∧ (List.map (fun x => x.length) ys).sum + ys.length * a.length ≤ 16777216 ∧ Q (V.str (Txt.join a ys)) H_1
section
variable {C : Cf} {env : Env} {s s1 : C.w.S} {x y : Str} {b : B}
theorem rop_addS (h : x.length + y.length ≤ 100000) : Rop C rAddS (.dat (.str x)) (.dat (.str y)) (.dat (.str (x ++ y))) := fun H1 H2 F H v u s t m hv hu Q q => by
  rw [bok_str hv, bok_str hu]
  exact ⟨x, y, rfl, rfl, Nat.le_trans h (by decide), q _ F H (.refl s t) (.str _)⟩
theorem daAll_strs {K : PySem.W.Frag} {F : Hp} : ∀ (ys : List Str) (xs : List V), DaAll K F xs (ys.map .str) → xs = ys.map V.str
  | [], _, h => by cases h; rfl
  | y :: ys, _, h => by
    cases h with
    | cons d1 d2 =>
      cases d1
      rw [daAll_strs ys _ d2]
      rfl
theorem dv_join {te : TE} {a : Str} {ys : List Str} (h : Dv C te env s b s1) (e : b.lst = some (ys.map .str)) (z : (ys.map fun x => x.length).sum + ys.length * a.length ≤ 16777216) :
    Dv C (tBM C.K "str" (rJoinK C.K) (tC (.str a)) (tCons te tNil)) env s (.dat (.str (Txt.join a ys))) s1 := fun F0 H0 σ F H en Q q =>
  ⟨rfl, h F0 H0 σ F H en _ fun v F1 H1 e1 h1 b1 => by
    obtain ⟨p, xs, rfl, k1, k2⟩ := b1.lst e1.sub e
    rw [daAll_strs ys xs k2] at k1
    exact ⟨a, p, ys, rfl, rfl, .inl k1, z, q _ F1 H1 e1 h1 (.str _)⟩⟩
end
/-! ### the name of an edge -/
def nameE (ns : List Int) : Str := Str.ofString "e" ++ Txt.join (Str.ofString "") (ns.map fun n => Str.ofString (toString n))
def spNamed (ds : List PyData) (r : B) : Prop := ∃ ns : List Int, ds = [.tuple (ns.map .int)] ∧ ns.length = 4 ∧ (∀ n ∈ ns, 0 ≤ n ∧ n < 3) ∧ r = .dat (.str (nameE ns))
def namedTs (K : PySem.W.Frag) : TS := tRet (tOp rAddS (tC (V.str (Str.ofString "e"))) (tBM K "str" (rJoinK K) (tC (V.str (Str.ofString ""))) (tCons (tLc (iTup K (tVar 0)) (gName 1) tYes (tCB rStrInt (tCons (tVar 1) tNil)) [1]) tNil)))
theorem three {n : Int} (h : 0 ≤ n ∧ n < 3) : n = 0 ∨ n = 1 ∨ n = 2 := by omega
theorem small3 {n : Int} (h : 0 ≤ n ∧ n < 3) : n.natAbs < 10 ^ 300 := by
  have q : n.natAbs < 3 := by omega
  exact Nat.lt_trans q (by decide)
theorem named_len : ∀ a ∈ [(0 : Int), 1, 2], ∀ b ∈ [(0 : Int), 1, 2], ∀ c ∈ [(0 : Int), 1, 2], ∀ d ∈ [(0 : Int), 1, 2],
    (Txt.join (Str.ofString "") ([a, b, c, d].map fun n => Str.ofString (toString n))).length ≤ 10 ∧ (([a, b, c, d].map fun n => Str.ofString (toString n)).map fun x => x.length).sum ≤ 10 := by decide +kernel
section
variable {K : PySem.W.Frag} {T : List NTab} {ds : List PyData} {r : B} {N : List Str}
theorem tr_named (hN : N.length = 2) (h : spNamed ds r) : Tr (Cf.pure K T) (namedTs K) (initE N ds) () (.rt r ()) := by
  obtain ⟨ns, rfl, hl, hb, rfl⟩ := h
  refine init_eq hN ?_
  have hz : (Txt.join (Str.ofString "") (ns.map fun n => Str.ofString (toString n))).length ≤ 10 ∧ ((ns.map fun n => Str.ofString (toString n)).map fun x => x.length).sum ≤ 10 := by
    match ns, hl, hb with
    | [a, b, c, d], _, hb =>
      have m : ∀ n ∈ [a, b, c, d], n ∈ [(0 : Int), 1, 2] := fun n hn => by
        have := three (hb n hn)
        simpa using this
      exact named_len a (m a (by simp)) b (m b (by simp)) c (m c (by simp)) d (m d (by simp))
  have lc := dv_lcM (C := Cf.pure K T) (s1 := ()) (env := [.dat (.tuple (ns.map .int)), .un]) (wi := iTup K (tVar 0)) (g := gName 1) (tt := tYes) (te := tCB rStrInt (tCons (tVar 1) tNil)) (vs := [1]) ns .int (fun n => .str (Str.ofString (toString n))) (di_tup (dv_var rfl)) rfl (by omega) rfl
    fun n hn => ⟨_, _, dg_name, by decide, _, dv_cb (da_cons (dv_var rfl) da_nil) (rcb_strInt (small3 (hb n hn))), rfl⟩
  refine tr_ret (dv_op (dv_c fun _ => .str _) (dv_join (C := Cf.pure K T) (ys := ns.map fun n => Str.ofString (toString n)) lc ?_ ?_) (rop_addS ?_))
  · rw [List.map_map]; rfl
  · have : (Str.ofString "").length = 0 := rfl
    rw [this]
    omega
  · have : (Str.ofString "e").length = 1 := rfl
    rw [this]
    omega
end
end DV
set_option maxHeartbeats 1000000
namespace W45
open PySem L2 NdefX LamX DV
section
variable {P : Program} {w : World} {K : PySem.W.Frag} {mg : Str → Option Value} {base : Heap} {g : GA}
theorem ok__law_named (G : Glob K mg w g) : FnOk P w K mg base CX0 1 g.d__law_named g.f__law_named ["edge"] (Pm K (TT g) spNamed) := by
  refine G.F__law_named.ok sc__law_named (pm_len fun ds r ⟨_, e, _⟩ => by rw [e]; rfl) (fun cdv A outer s H vs Q E hr h => ?_)
  refine ⟨_, (pss_one (ps_ret (pe_op op_add_str pe_str (pe_bm PySem.F.plainAttrs_str PySem.F.slot_str_join PySem.F.type_str_join mt_join pe_str (pa_cons (pe_lc (own := [("number", 1)]) rfl sc__law_named.nd (piT K (pv 0)) (blkOk_by (N := N__law_named) (sc := defScope s__law_named) (by decide +kernel)) (fun _ _ _ _ _ => (pg_name (i := 1) sc__law_named.nd rfl (.inl rfl) (.inr rfl))) (fun _ _ _ _ _ => pts_nil) (fun _ _ _ _ _ => (pe_callTy call_str_int (by rfl) G.m_str (by decide +kernel) (pa_cons (pv 1) pa_nil)))) pa_nil))))), ?_⟩
  exact pm_body h fun ds r hS => tr_named rfl hS
end
end W45
set_option maxHeartbeats 1000000
namespace DV
open PySem PySem.Spec PyProof.Rows L2 LamX NdefX
/-! ### a dict that is frozen: made, read, walked -/
section
variable {C : Cf} {env : Env} {s s1 s2 : C.w.S}
theorem dv_frzK {t : TE} {i : Nat} {q : List (Key × PyData)} {r : B} (hi : env[i]? = some (.odk q)) (h : Dv C t (env.set i (.fdk q)) s r s1) : DvF C (tFrz i t) env s (env.set i (.fdk q)) s1 r := fun F0 H0 σ F H e Q kk => by
  obtain ⟨v, h1, a, kv, rfl, h0, hm, fa, ha, ka⟩ := e.at hi (by intro z; cases z)
  refine ⟨a, kv, h1, ha, fun o => ?_⟩
  have e1 := e.lose hi rfl h1 (.frz o (.dK kv))
  have e2 := e1.setD i (b := .fdk q) (v := .ref a) rfl ⟨a, o, kv, rfl, hm, upd_same, ka⟩ rfl
  have es : σ.set i (some (V.ref a)) = σ := by
    refine List.ext_getElem? fun j => ?_
    rw [List.getElem?_set]
    by_cases hj : i = j
    · subst hj
      rw [if_pos rfl, h1]
      have : i < σ.length := (List.getElem?_eq_some_iff.mp h1).1
      rw [if_pos this]
    · rw [if_neg hj]
  rw [es, List.set_set] at e2
  exact h F0 H0 σ F _ e2 _ fun v F' H' x hs b1 => kk v F' H' (e2.go x hs) (b1.base e2.ext.dom)
theorem dv_fget {i : Nat} {k : Key} {q : List (Key × PyData)} {d : PyData} {ty : TE} (hi : env[i]? = some (.fdk q)) (hk : Dv C ty env s (.dat (kD k)) s2) (e : valD q k = some d) : Dv C (tDGet (tVar i) ty) env s (.dat d) s2 := fun F0 H0 σ F H en Q qq => by
  obtain ⟨v, h1, hb⟩ := en.at hi (by intro z; cases z)
  refine ⟨v, h1, hk F0 H0 σ F H en _ fun u F2 H2 e2 o2 b2 => ?_⟩
  obtain ⟨a, o, r, rfl, hm, ha, ka⟩ := hb.ext e2
  rw [dp_key b2]
  rcases kall_val ka k with ⟨z, _⟩ | ⟨d', w, z1, z2, z3⟩
  · rw [z] at e
    cases e
  · rw [e] at z1
    cases z1
    refine ⟨a, w, rfl, ?_, qq w F2 H2 e2 o2 z3⟩
    rw [← z2]
    exact .inl ⟨r, k, .inr ⟨o, ha⟩, rfl, rfl⟩
theorem kall_get {κ : Type} {K : PySem.W.Frag} {F : Hp} : ∀ {r : List (κ × V)} {q : List (κ × PyData)}, KAll K F r q → r.map (·.1) = q.map (·.1)
  | _, _, .nil => rfl
  | _, _, .cons _ h => by
    rw [List.map_cons, List.map_cons, kall_get h]
end
end DV
set_option maxHeartbeats 1000000
namespace DV
open PySem PySem.Spec PyProof.Rows L2 LamX NdefX
/-! ### frozen dicts as data: read, walked -/
def encD (l : List (Key × PyData)) : List (PyData × PyData) := l.map fun kv => (kD kv.1, kv.2)
theorem kD_inj {j k : Key} (h : kD j = kD k) : j = k := by
  cases j <;> cases k <;> first | (cases h; rfl) | cases h
theorem dkv_all {K : PySem.W.Frag} {F : Hp} : ∀ {r : List (Key × V)} {q : List (PyData × PyData)}, DaKv K F r q → ∀ l, q = encD l → KAll K F r l
  | _, _, .nil, [], _ => .nil
  | _, _, .nil, _ :: _, e => by cases e
  | _, _, .cons _ _, [], e => by cases e
  | _, _, .cons a b, (k, d) :: l, e => by
    injection e with e1 e2
    injection e1 with e3 e4
    cases kD_inj e3
    cases e4
    exact .cons a (dkv_all b l e2)
section
variable {C : Cf} {env : Env} {s s1 s2 : C.w.S}
theorem dv_dgetF {k : Key} {q : List (Key × PyData)} {d : PyData} {td ty : TE} (h : Dv C td env s (.dat (.dict (encD q))) s1) (hk : Dv C ty env s1 (.dat (kD k)) s2) (e : valD q k = some d) : Dv C (tDGet td ty) env s (.dat d) s2 := fun F0 H0 σ F H en Q qq =>
  h F0 H0 σ F H en _ fun v F1 H1 e1 o1 b1 => hk F0 H0 σ F1 H1 (en.go e1 o1) _ fun u F2 H2 e2 o2 b2 => by
    have b3 : Da C.K F2 v (.dict (encD q)) := dp_le e2.fx _ _ b1
    cases b3 with
    | @dic a o r _ ha hq =>
      rw [dp_key b2]
      rcases kall_val (dkv_all hq q rfl) k with ⟨z, _⟩ | ⟨d', w, z1, z2, z3⟩
      · rw [z] at e
        cases e
      · rw [e] at z1
        cases z1
        refine ⟨a, w, rfl, ?_, qq w F2 H2 (e1.trans e2) o2 z3⟩
        rw [← z2]
        exact .inl ⟨r, k, .inr ⟨o, (e2.sub _ _ ha).1⟩, rfl, rfl⟩
theorem dkv_keys {K : PySem.W.Frag} {F : Hp} : ∀ {r : List (Key × V)} {q : List (PyData × PyData)}, DaKv K F r q → r.map (fun kv => kD kv.1) = q.map (·.1)
  | _, _, .nil => rfl
  | _, _, .cons _ h => by rw [List.map_cons, List.map_cons, dkv_keys h]
theorem da_kV {K : PySem.W.Frag} {F : Hp} (k : Key) : Da K F (kV k) (kD k) := by
  cases k with
  | inl i => exact .int i
  | inr x => exact .str x
theorem di_keysF {q : List (PyData × PyData)} {td : TE} (h : Dv C td env s (.dat (.dict q)) s1) : Di C (iKeys td) env s (q.map (·.1)) s1 := fun F0 H0 σ F H en R r => h F0 H0 σ F H en _ fun v F1 H1 e1 o1 b1 => by
  have b3 : Da C.K F1 v (.dict q) := b1
  cases b3 with
  | @dic a o kv _ ha hq =>
    refine ⟨a, o, rfl, .inl ⟨kv, (e1.sub _ _ ha).1, r _ F1 H1 e1 o1 ?_⟩⟩
    intro F' H' le sub tab
    have ha' : H' a = some (.frz o (.dK kv)) := (sub _ _ (le _ _ ha)).1
    have hk := dkv_keys hq
    refine ⟨fun i d hd => ?_, fun i hi => ⟨ha', ?_⟩⟩
    · rw [← hk, List.getElem?_map] at hd
      cases hc : kv[i]? with
      | none =>
        rw [hc] at hd
        cases hd
      | some c =>
        rw [hc] at hd
        cases hd
        refine ⟨⟨ha', (List.getElem?_eq_some_iff.mp hc).1⟩, fun y H2 ⟨e, k, v, hc2, ey⟩ => ?_⟩
        rw [hc] at hc2
        cases hc2
        subst e ey
        exact ⟨F', .refl sub tab, da_kV _⟩
    · have := congrArg List.length hk
      simp only [List.length_map] at this hi
      omega
end
end DV
set_option maxHeartbeats 1000000
namespace DV
open PySem PySem.Spec PyProof.Rows L2 LamX NdefX
/-! ### a dict of one's own becomes data -/
section
variable {C : Cf} {env : Env} {s s1 s2 : C.w.S}
/-- a thing that no slot owns is frozen -/
theorem EnvOk.addF {F0 H0 F H : Hp} {σ : L2.St} (e : EnvOk C F0 H0 σ F H env s) {a : Addr} {o : HO} (fa : F a = none) (ha : H a = some o) (n : NT o) (nw : ¬ Wr o) (hm : ¬ C.w.M a) (h0 : H0 a = none) : EnvOk C F0 H0 σ (upd F a o) H env s := by
  have le : Le F (upd F a o) := fun b u z => by
    rw [upd_ne (ne_of_none z fa)]
    exact z
  refine ⟨⟨e.ext.hx, e.ext.dom, e.ext.fx.trans le, fun b u z => ?_, fun b u z => ?_, e.ext.tab⟩, e.hold, e.len, fun j c q => ?_, e.sep, fun b m => by
    rw [upd_ne fun z => hm (by rw [← z]; exact m)]
    exact e.nf b m⟩
  · by_cases hb : b = a
    · rw [hb, upd_same] at z
      cases z
      rw [hb]
      exact ⟨ha, n⟩
    · rw [upd_ne hb] at z
      exact e.ext.sub b u z
  · rw [upd_ne (ne_of_none z h0)]
    exact e.ext.fr b u z
  · obtain ⟨x, k1, k2⟩ := e.ok j c q
    refine ⟨x, k1, k2.imp id fun ⟨nb, w, k3, k4⟩ => ⟨nb, w, k3, ?_⟩⟩
    have na : ∀ b u, H b = some u → Wr u → b ≠ a := fun b u q wu z => nw (by rw [z, ha] at q; cases q; exact wu)
    cases c with
    | un => trivial
    | val u => exact k4
    | dat d => exact dp_le le _ _ k4
    | key k =>
      obtain ⟨a', r1, r2⟩ := k4
      exact ⟨a', r1, le _ _ r2⟩
    | fn fp F1 φ => exact ⟨k4.1, k4.2.1.trans le, k4.2.2⟩
    | fdk ds =>
      obtain ⟨a', o', xs', r1, r2, r3, r4⟩ := k4
      exact ⟨a', o', xs', r1, r2, r3, kall_le le r4⟩
    | pdk d ds => cases nb
    | own es =>
      obtain ⟨a', xs', r1, r2, r3, r4, r5, r6⟩ := k4
      exact ⟨a', xs', r1, r2, r3, by rw [upd_ne (na _ _ r5 wr_lst)]; exact r4, r5, dps_le le _ _ r6⟩
    | odk es =>
      obtain ⟨a', xs', r1, r2, r3, r4, r5, r6⟩ := k4
      exact ⟨a', xs', r1, r2, r3, by rw [upd_ne (na _ _ r5 wr_dK)]; exact r4, r5, kall_le le r6⟩
    | odt es =>
      obtain ⟨a', xs', r1, r2, r3, r4, r5, r6⟩ := k4
      exact ⟨a', xs', r1, r2, r3, by rw [upd_ne (na _ _ r5 wr_dT)]; exact r4, r5, kall_le le r6⟩
    | bor es => cases nb
    | bdk es => cases nb
    | bdt es => cases nb
theorem dkv_of {K : PySem.W.Frag} {F : Hp} {r : List (Key × V)} {l : List (Key × PyData)} (h : KAll K F r l) : DaKv K F r (encD l) := by
  induction h with
  | nil => exact .nil
  | cons a _ ih => exact .cons a ih
theorem dv_frzD {t : TE} {i : Nat} {q : List (Key × PyData)} {r : B} (hi : env[i]? = some (.odk q)) (h : Dv C t (env.set i (.dat (.dict (encD q)))) s r s1) : DvF C (tFrz i t) env s (env.set i (.dat (.dict (encD q)))) s1 r := fun F0 H0 σ F H e Q kk => by
  obtain ⟨v, h1, a, kv, rfl, h0, hm, fa, ha, ka⟩ := e.at hi (by intro z; cases z)
  refine ⟨a, kv, h1, ha, fun o => ?_⟩
  have e1 := (e.lose hi rfl h1 (.frz o (.dK kv))).addF fa upd_same nt_frz (fun z => z.2.2 _ _ rfl) hm h0
  have le : Le F (upd F a (.frz o (.dK kv))) := fun b u z => by
    rw [upd_ne (ne_of_none z fa)]
    exact z
  have e2 := e1.setD i (b := .dat (.dict (encD q))) (v := .ref a) rfl (.dic upd_same (dkv_of (kall_le le ka))) rfl
  have es : σ.set i (some (V.ref a)) = σ := by
    refine List.ext_getElem? fun j => ?_
    rw [List.getElem?_set]
    by_cases hj : i = j
    · subst hj
      rw [if_pos rfl, h1]
      have : i < σ.length := (List.getElem?_eq_some_iff.mp h1).1
      rw [if_pos this]
    · rw [if_neg hj]
  rw [es, List.set_set] at e2
  exact h F0 H0 σ _ _ e2 _ fun v F' H' x hs b1 => kk v F' H' (e2.go x hs) (b1.base e2.ext.dom)
end
end DV
set_option maxHeartbeats 1000000
namespace DV
open PySem PySem.Spec PyProof.Rows L2 LamX NdefX
/-! ### modes as a frozen dict; the rows of ways -/
section
variable {C : Cf} {env : Env} {s s1 s2 : C.w.S}
theorem rop_catA {ds es : List PyData} (h1 : ds ≠ []) (h2 : es ≠ []) (n : ds.length + es.length ≤ 100000) : Rop C (rCatA C.K) (.dat (.tuple ds)) (.dat (.tuple es)) (.dat (.tuple (ds ++ es))) := fun H1 H2 F H v u s t m hv hu Q q => by
  cases hv with
  | @tup a xs _ ha hx =>
    cases hu with
    | @tup b ys _ hb hy =>
      have nx : xs ≠ [] := fun z => by rw [z] at hx; cases hx; exact h1 rfl
      have ny : ys ≠ [] := fun z => by rw [z] at hy; cases hy; exact h2 rfl
      have le : Le F H := s.le
      refine ⟨a, b, xs, ys, rfl, rfl, sqT_le le ha, sqT_le le hb, sz_of _ (by rw [dps_len hx, dps_len hy]; exact n), fun z => absurd z nx, fun _ z => absurd z ny, fun _ _ l hl => ?_⟩
      have e3 : C.ExtS F H (upd F l (.tup (xs ++ ys))) (upd H l (.tup (xs ++ ys))) := Ext.new s t hl nt_tup
      exact q _ _ _ e3 (.tup (.of upd_same) (dps_app (dps_le e3.fx _ _ hx) (dps_le e3.fx _ _ hy)))
end
def dictM (modes : List Mode) : List (Key × PyData) := modes.map fun m => (.inr m.1, rowM m)
def mdD (modes : List Mode) : PyData := .dict (encD (dictM modes))
def mAt (modes : List Mode) (x : Str) : Mode := (modes.find? fun m => decide (m.1 = x)).getD (x, false, x, x)
theorem dictM_keys (modes : List Mode) : (encD (dictM modes)).map (·.1) = modes.map fun m => .str m.1 := by
  unfold encD dictM
  rw [List.map_map, List.map_map]
  rfl
theorem find_some {modes : List Mode} {x : Str} (h : x ∈ modes.map (·.1)) : ∃ m, (modes.find? fun m => decide (m.1 = x)) = some m ∧ m ∈ modes ∧ m.1 = x := by
  cases hf : modes.find? fun m => decide (m.1 = x) with
  | none =>
    obtain ⟨m, hm, e⟩ := List.mem_map.mp h
    have := List.find?_eq_none.mp hf _ hm
    simp [e] at this
  | some m =>
    have h0 := List.find?_some hf
    exact ⟨m, rfl, List.mem_of_find?_eq_some hf, of_decide_eq_true h0⟩
theorem mAt_mem {modes : List Mode} {x : Str} (h : x ∈ modes.map (·.1)) : mAt modes x ∈ modes ∧ (mAt modes x).1 = x := by
  obtain ⟨m, e, h1, h2⟩ := find_some h
  unfold mAt
  rw [e]
  exact ⟨h1, h2⟩
theorem valM : ∀ (modes : List Mode) (x : Str), valD (dictM modes) (.inr x) = (modes.find? fun m => decide (m.1 = x)).map rowM
  | [], _ => rfl
  | m :: ms, x => by
    unfold valD dictM
    rw [List.map_cons, List.find?_cons, List.find?_cons]
    by_cases h : m.1 = x
    · rw [h]
      simp
    · have h2 : decide ((Sum.inr m.1 : Key) = .inr x) = false := decide_eq_false fun z => h (Sum.inr.inj z)
      rw [h2, decide_eq_false h]
      exact valM ms x
theorem valM_at {modes : List Mode} {x : Str} (h : x ∈ modes.map (·.1)) : valD (dictM modes) (.inr x) = some (rowM (mAt modes x)) := by
  obtain ⟨m, e, h1, h2⟩ := find_some h
  rw [valM]
  unfold mAt
  rw [e]
  rfl
theorem mAt_self {modes : List Mode} (n : (modes.map (·.1)).Nodup) {m : Mode} (h : m ∈ modes) : mAt modes m.1 = m :=
  have q := mAt_mem (List.mem_map_of_mem (f := (·.1)) h)
  nodup_name n q.1 h q.2
def spModes (ds : List PyData) (r : B) : Prop := ∃ modes : List Mode, ds = [mdD modes] ∧ (modes.map (·.1)).Nodup ∧ modes.length ≤ 1000 ∧ r = .dat (.tuple (modes.map encM))
def modesTs (K : PySem.W.Frag) : TS := tRet (tCB (rTupS K) (tCons (tLc (iKeys (tVar 0)) (gName 1) tYes (tOp (rCatA K) (tTup (tCons (tVar 1) tNil)) (tDGet (tVar 0) (tVar 1))) [1]) tNil))
section
variable {K : PySem.W.Frag} {T : List NTab} {ds : List PyData} {r : B} {N : List Str}
theorem tr_modes (hN : N.length = 2) (h : spModes ds r) : Tr (Cf.pure K T) (modesTs K) (initE N ds) () (.rt r ()) := by
  obtain ⟨modes, rfl, nd, hz, rfl⟩ := h
  refine init_eq hN ?_
  have di : Di (Cf.pure K T) (iKeys (tVar 0)) [.dat (mdD modes), .un] () (modes.map fun m => .str m.1) () := by
    have q := di_keysF (C := Cf.pure K T) (env := [.dat (mdD modes), .un]) (s := ()) (td := tVar 0) (q := encD (dictM modes)) (dv_var rfl)
    rw [dictM_keys] at q
    exact q
  refine tr_ret (dv_cb (da_cons (dv_lcM (C := Cf.pure K T) modes (fun m => .str m.1) encM di rfl (by omega) rfl fun m hm => ?_) da_nil) (rcb_tupL rfl))
  refine ⟨_, _, dg_name, by decide, _, dv_op (dv_tup (da_cons (dv_var rfl) da_nil) (.cons rfl .nil) (Nat.le_of_ble_eq_true rfl)) (dv_dgetF (C := Cf.pure K T) (k := .inr m.1) (q := dictM modes) (d := rowM m) (dv_var rfl) (dv_var rfl) ?_) (rop_catA (fun z => by cases z) (fun z => by cases z) (Nat.le_of_ble_eq_true rfl)), rfl⟩
  rw [valM_at (List.mem_map_of_mem (f := (·.1)) hm), mAt_self nd hm]
end
end DV
set_option maxHeartbeats 1000000
/-! Ra: min of two data; dict(pairs) with tuple keys, sorted of such a dict. -/
namespace DV
open PySem PySem.Spec PyProof.Rows L2 LamX NdefX
open PySem.W (AlikeAll iter_tupleW cmpIn_lt moved_old dataLt)
section
variable {prog : Program} {w : World} {A : Around} {E : Value → Shared → Prop} {s : Shared}
theorem min_two_data {a b : Value} {d e : PyData} {as : List Addr} {Q : Value → Shared → Prop} (hh : A.handled = none) (hr : ReadsAll s.heap [a, b] [d, e] as) (ha : AlikeAll [d, e]) (hu : A.units + 1 + PyData.depthAll [d, e] < cLine)
    (h : ∀ h' tk, (∀ c o, s.heap.get? c = some o → h'.get? c = some o) → Q (if dataLt e d then b else a) { s with heap := h', toks := tk }) :
    wpAny (model prog w) A (call (.builtin "min") [a, b]) Q E s := by
  have hname : (toString "min" ++ toString ".loop" : String) = "min.loop" := by decide
  refine call_function_tree F.kind_min F.plain_min F.entry_min (F.args_min2 _ _) ?_
  show wpAny _ A.in1 (Builtin.Builtins.bindParams "min" ["key", "default"] 0 ⟨[], []⟩ >>= _) _ _ s
  refine wpAny_bind (wpAny_of_eq (show Builtin.Builtins.bindParams "min" ["key", "default"] 0 ⟨[], []⟩ = pure [none, none] from rfl) ?_)
  show wpAny _ A.in1 (newTuple [a, b] >>= _) _ _ s
  refine wpAny_bind (wpAny_newObj_type ?_)
  have k0 : ∀ c o, s.heap.get? c = some o → (s.heap.push { cls := .type "tuple", data := .seq #[a, b] }).get? c = some o := fun c o e => Heap.get?_push_of_some _ e
  have hT : (s.heap.push { cls := .type "tuple", data := .seq #[a, b] }).IsTuple s.heap.objs.size #[a, b] := ⟨_, Heap.get?_push_size _ rfl, rfl, 0, rfl⟩
  have hr1 : ReadsAll (s.heap.push { cls := .type "tuple", data := .seq #[a, b] }) (#[a, b] : Array Value).toList [d, e] as := ReadsAll.keeps k0 hr
  refine wpAny_bind (iter_tupleW (A := A.in1) (s := { s with heap := s.heap.push { cls := .type "tuple", data := .seq #[a, b] } }) hh hT fun s₂ e2 W st hfp hw hk => ?_)
  refine wpAny_bind (wpAny_newObj_type ?_)
  rw [hname]
  refine wpAny_pure ⟨plainId_quiet F.plain_min_loop _, codeAny_min_loop_firstH W _ hw _ (cmpIn_lt (A := A.in1) (s := { s with heap := s.heap.push { cls := .type "tuple", data := .seq #[a, b] } }) hr1 ha (by show A.units + 1 + _ < _; exact hu)) s₂.heap.objs.size (fun hm => Nat.lt_irrefl _ (hfp _ hm)) (fresh_in hk) _ (Nat.succ_pos 1) (fun b o e => Heap.get?_push_of_some _ (hk b o e)) (W.frame 0 s₂ _ s₂.toks st (Nat.le_refl _) fun b _ o e => Heap.get?_push_of_some _ e) (Heap.get?_push_size _ rfl) fun v s' hP hm => ?_⟩
  obtain ⟨h', tk, rfl, hk'⟩ := moved_old e2 rfl (Moved.drop_new (tk := s₂.toks) hm (Nat.le_refl _))
  have hv : v = if dataLt e d then b else a := by
    have hP' : (#[a, b] : Array Value)[argBest (fun i j => dataLt ([d, e].getD i .none) ([d, e].getD j .none)) 1]? = some v := hP
    by_cases c : dataLt e d = true
    · have e1 : argBest (fun i j => dataLt ([d, e].getD i .none) ([d, e].getD j .none)) 1 = 1 := by simp [argBest, c]
      rw [e1] at hP'
      rw [if_pos c]
      simpa using hP'.symm
    · have e1 : argBest (fun i j => dataLt ([d, e].getD i .none) ([d, e].getD j .none)) 1 = 0 := by simp [argBest, c]
      rw [e1] at hP'
      rw [if_neg c]
      simpa using hP'.symm
  rw [hv]
  exact h h' tk fun c o e => hk' c o (k0 c o e)
end
section
variable {X : Cx}
def rMin2D (K : PySem.W.Frag) : List V → Hp → VK → Prop := fun xs H Q => ∃ x y d e, xs = [x, y] ∧ Dp K H x d ∧ Dp K H y e ∧ AlikeAll [d, e] ∧ PyData.depthAll [d, e] ≤ 60 ∧ Q (if dataLt e d then y else x) H
theorem call_minD (hc : X.calm = true) (hu : X.A.units + 64 < cLine) : CallR X (.builtin "min") (rMin2D X.K) := by
  intro pins s σ H xs us Q I r h
  obtain ⟨x, y, d, e, rfl, hd, he, al, dp, q⟩ := h
  obtain ⟨u, v, rfl, r1, r2⟩ := vals2 r
  obtain ⟨as, r3⟩ := Dp.reads I d x u hd r1
  obtain ⟨bs, r4⟩ := Dp.reads I e y v he r2
  refine min_two_data (I.ok.hd hc) (.cons r3 (.cons r4 .nil)) al (by omega) fun h' tk k => ⟨_, H, I.kept k, ?_, q⟩
  by_cases c : dataLt e d = true
  · rw [if_pos c, if_pos c]
    exact r2
  · rw [if_neg c, if_neg c]
    exact r1
end
end DV
set_option maxHeartbeats 1000000
/-! Rb: dict(pairs) whose keys are tuples, only walked or sorted afterwards: told by its keys' places. -/
namespace DV
open PySem PySem.Spec PyProof.Rows L2 LamX NdefX
/-- a dict whose keys are the objects ks, in this order -/
def keysO (p : Addr) (ks : List Addr) : HO := .ext fun h => (p == sysModules) = false ∧ ∃ es ep, h.DictRaw p es ep ∧ es.toList.map (fun e => e.key) = ks.map Value.ref
theorem nt_keysO {p : Addr} {ks : List Addr} : NT (keysO p ks) := fun _ h => by cases h
/-- the first of equal keys stands -/
def dedS {κ : Type} [DecidableEq κ] (acc : List (κ × Addr)) (k : κ × Addr) : List (κ × Addr) := if (acc.any fun x => decide (x.1 = k.1)) = true then acc else acc ++ [k]
def ded {κ : Type} [DecidableEq κ] (ks : List (κ × Addr)) : List (κ × Addr) := ks.foldl dedS []
theorem storedH_ded {κ : Type} [DecidableEq κ] (xs : List (κ × Addr × Value)) (k : κ) (a : Addr) (v : Value) : (storedH xs k a v).map (fun x => (x.1, x.2.1)) = dedS (xs.map fun x => (x.1, x.2.1)) (k, a) := by
  have ea : ((xs.map fun x => (x.1, x.2.1)).any fun x => decide (x.1 = k)) = (atKey xs k).isSome := by
    unfold atKey
    rw [Option.isSome_map, List.any_map]
    induction xs with
    | nil => rfl
    | cons x xs ih =>
      rw [List.any_cons, List.find?_cons, ih]
      by_cases h : x.1 = k
      · simp [h]
      · simp [h]
  unfold storedH dedS
  rw [ea]
  by_cases h : (atKey xs k).isSome = true
  · rw [if_pos h, if_pos h, List.map_map]
    refine List.map_congr_left fun x _ => ?_
    show ((putAt k v x).1, (putAt k v x).2.1) = (x.1, x.2.1)
    unfold putAt
    split <;> rfl
  · rw [if_neg h, if_neg h, List.map_append]
    rfl
theorem storedAll_ded {κ : Type} [DecidableEq κ] : ∀ (ps xs : List (κ × Addr × Value)), (PySem.storedAllH xs ps).map (fun x => (x.1, x.2.1)) = (ps.map fun x => (x.1, x.2.1)).foldl dedS (xs.map fun x => (x.1, x.2.1))
  | [], xs => rfl
  | p :: ps, xs => by
    show (PySem.storedAllH (storedH xs p.1 p.2.1 p.2.2) ps).map _ = _
    rw [storedAll_ded ps, storedH_ded]
    rfl
section
variable {X : Cx}
abbrev KeyP := List Key × Addr × V
theorem pairsT_of {pins : List (Addr × Obj)} {σ : L2.St} {H : Hp} {s : Shared} (I : Inv X pins σ H s) : ∀ {ps : List Addr} {kvs : List KeyP}, Paired (fun p (kv : KeyP) => SqT X.K H p [.ref kv.2.1, kv.2.2] ∧ SqT X.K H kv.2.1 (kv.1.map kV)) ps kvs →
    ∃ prs : List (List Key × Addr × Value), prs.length = ps.length ∧ (prs.map fun x => (x.1, x.2.1)) = (kvs.map fun x => (x.1, x.2.1)) ∧ ∀ (j : Nat) (q : List Key × Addr × Value), prs[j]? = some q → ∃ b, ps[j]? = some b ∧ IsTup s.heap b #[.ref q.2.1, q.2.2] ∧ (tupleKind (mixKind X.prog X.w)).is s.heap q.1 q.2.1
  | _, _, .nil => ⟨[], rfl, rfl, fun j q e => by simp at e⟩
  | _, _, .cons (a := p) (b := kv) h t => by
    obtain ⟨prs, hl, hm, hp⟩ := pairsT_of I t
    obtain ⟨its, rv, ht, _⟩ := I.tuple h.1
    obtain ⟨u, y, ei, ru, ry⟩ := vals2 rv
    subst ei
    cases ru
    obtain ⟨its2, rv2, ht2, _⟩ := I.tuple h.2
    refine ⟨(kv.1, kv.2.1, y) :: prs, by rw [List.length_cons, List.length_cons, hl], by rw [List.map_cons, List.map_cons, hm], fun j q e => ?_⟩
    cases j with
    | zero =>
      have e' := Option.some.inj e
      subst e'
      obtain ⟨o, h1, h2, n, h3⟩ := ht2
      exact ⟨p, rfl, ht, o, its2.toArray, n, h1, h2, h3, by simpa using items_are rv2⟩
    | succ j =>
      obtain ⟨b, e1, e2, e3⟩ := hp j q (by simpa using e)
      exact ⟨b, by simpa using e1, e2, e3⟩
def rDictTD (K : PySem.W.Frag) : List V → Hp → VK → Prop := fun xs H Q => ∃ (a : Addr) (ps : List Addr) (kvs : List KeyP), xs = [.ref a] ∧ SqL K H a (ps.map V.ref) ∧ Paired (fun p (kv : KeyP) => SqT K H p [.ref kv.2.1, kv.2.2] ∧ SqT K H kv.2.1 (kv.1.map kV)) ps kvs ∧
  ∀ p, H p = none → Q (.ref p) (upd H p (keysO p ((ded (kvs.map fun kv => (kv.1, kv.2.1))).map (·.2))))
theorem call_dictTD (hc : X.calm = true) (hu : X.A.units + 64 < cLine) : CallR X (.type "dict") (rDictTD X.K) := by
  intro pins s σ H xs us Q I r q
  obtain ⟨a, ps, kvs, rfl, hq, hp, q⟩ := q
  obtain ⟨u, rfl, rx⟩ := vals1 r
  cases rx
  obtain ⟨its, rv, pl, hz⟩ := I.list hq
  have ei := refs_at rv
  subst ei
  rw [List.length_map] at hz
  obtain ⟨prs, hl, hm, hpr⟩ := pairsT_of I hp
  obtain ⟨o, n, ho, hcl, hd, hdat⟩ := pl
  have lp : prs.length ≤ sizeLine := by rw [hl]; exact hz
  have items : PySem.PairItems s.heap (ps.map Value.ref).toArray (fun j => ps.getD j 0) (prs.map fun x => (Value.ref x.2.1, x.2.2)) := by
    refine ⟨by simp [hl], fun j k v e => ?_⟩
    rw [List.getElem?_map] at e
    cases e2 : prs[j]? with
    | none => rw [e2] at e; cases e
    | some x =>
      rw [e2] at e
      cases e
      obtain ⟨b, e3, e4, _⟩ := hpr j x e2
      have e5 : ps.getD j 0 = b := by rw [List.getD_eq_getElem?_getD, e3]; rfl
      refine ⟨by simp [e3], .inl ?_⟩
      show s.heap.IsTuple (ps.getD j 0) #[Value.ref x.2.1, x.2.2]
      rw [e5]
      exact e4
  refine PySem.call_dict_pairsH (knd := tupleKind (mixKind X.prog X.w)) (ps := prs) (PySem.PairArg.list a (ps.map Value.ref).toArray (fun j => ps.getD j 0) (prs.map fun x => (Value.ref x.2.1, x.2.2))) (I.ok.hd hc) ?_ ⟨⟨o, n, ho, hcl, hd, hdat⟩, items⟩ ⟨by simp, fun i key v e => ?_⟩ (fun h' hk x hx => ?_) (by simpa using lp) fun h' tk hd' hk => ?_
  · show X.A.units + 1 + 1 < cLine
    omega
  · have e : (prs.map fun x => (Value.ref x.2.1, x.2.2))[i]? = some (key, v) := e
    rw [List.getElem?_map] at e
    cases e2 : prs[i]? with
    | none => rw [e2] at e; cases e
    | some x =>
      rw [e2] at e
      cases e
      exact ⟨x.1, x.2.1, rfl, rfl⟩
  · obtain ⟨j, hj⟩ := List.mem_iff_getElem?.mp hx
    obtain ⟨b, _, _, o2, its2, n2, h1, h2, h3, h4⟩ := hpr j x hj
    exact ⟨o2, its2, n2, hk _ _ (Nat.ne_of_lt (Heap.lt_size h1)) (by simp) h1, h2, h3, h4⟩
  · have hm9 : (s.heap.objs.size == sysModules) = false := beq_eq_false_iff_ne.mpr (Nat.ne_of_gt I.big)
    obtain ⟨es, ep, raw, esz, ek⟩ := hd'.raw
    have keys : es.toList.map (fun e => e.key) = ((ded (kvs.map fun kv => (kv.1, kv.2.1))).map (·.2)).map Value.ref := by
      have e1 := storedAll_ded prs []
      rw [hm] at e1
      have e2 : ded (kvs.map fun kv => (kv.1, kv.2.1)) = (PySem.storedAllH [] prs).map (fun x => (x.1, x.2.1)) := e1.symm
      rw [e2, List.map_map, List.map_map]
      refine List.ext_getElem? fun i => ?_
      rw [List.getElem?_map, List.getElem?_map]
      by_cases hi : i < es.size
      · obtain ⟨y, hy, ky, _⟩ := ek i hi
        rw [hy, Array.getElem?_toList, Array.getElem?_eq_getElem hi]
        show some es[i].key = _
        rw [ky]
        rfl
      · rw [Array.getElem?_toList, Array.getElem?_eq_none (by omega), List.getElem?_eq_none (by omega)]
        rfl
    have φ : (fun h : Heap => (s.heap.objs.size == sysModules) = false ∧ ∃ es ep, h.DictRaw s.heap.objs.size es ep ∧ es.toList.map (fun e => e.key) = ((ded (kvs.map fun kv => (kv.1, kv.2.1))).map (·.2)).map Value.ref) h' := ⟨hm9, es, ep, raw, keys⟩
    refine ⟨.ref s.heap.objs.size, _, I.laid (t' := tk) (fun b o e => hk b o (by simp) e) (Nat.le_refl _) (show ObjOk X.prog X.w _ _ _ (keysO s.heap.objs.size ((ded (kvs.map fun kv => (kv.1, kv.2.1))).map (·.2))) from ⟨φ, let ⟨o, ho, _⟩ := raw; ⟨o, ho⟩, fun h1 h2 p k => ?_⟩), rfl, q _ (I.hok.fresh (Nat.le_refl _))⟩
    obtain ⟨p1, es2, ep2, r2, k2⟩ := p
    exact ⟨p1, es2, ep2, r2.at k, k2⟩
/-- sorted(d) of such a dict: its keys are tuples of d ints in [0, B) -/
def rSortKD (K : PySem.W.Frag) (d : Nat) (B : Int) : List V → Hp → VK → Prop := fun vs H Q => ∃ (a : Addr) (ks : List Addr), vs = [V.ref a] ∧ H a = some (keysO a ks) ∧ ks.length < 64 ∧ (∀ b ∈ ks, ∃ ns, SqT K H b (ns.map V.int) ∧ ns.length = d ∧ TS.Bd B ns) ∧
  ∀ (ys : List Addr) (p : Addr), ys.Perm ks → ys.Pairwise (fun x y => ∀ n m : List Int, SqT K H x (n.map V.int) → SqT K H y (m.map V.int) → TS.code B n ≤ TS.code B m) → H p = none → Q (.ref p) (upd H p (.lst (ys.map V.ref)))
theorem refs_perm {out : List Value} {ks : List Addr} (h : out.Perm (ks.map Value.ref)) : ∃ ys : List Addr, out = ys.map Value.ref ∧ ys.Perm ks := by
  have e : ∀ v ∈ out, ∃ a, v = Value.ref a := fun v hv => by
    obtain ⟨a, _, rfl⟩ := List.mem_map.mp (h.mem_iff.mp hv)
    exact ⟨a, rfl⟩
  let un : Value → Addr := fun v => match v with | .ref a => a | _ => 0
  refine ⟨out.map un, ?_, ?_⟩
  · rw [List.map_map]
    have : out.map (Value.ref ∘ un) = out.map id := List.map_congr_left fun v hv => by
      obtain ⟨a, rfl⟩ := e v hv
      rfl
    rw [this, List.map_id]
  · have h2 := h.map un
    rw [List.map_map] at h2
    have : ks.map (un ∘ Value.ref) = ks.map id := List.map_congr_left fun v _ => rfl
    rw [this, List.map_id] at h2
    exact h2
theorem vals_refs : ∀ ys : List Addr, Vals (ys.map V.ref) (ys.map Value.ref)
  | [] => .nil
  | y :: ys => .cons rfl (vals_refs ys)
theorem call_sortKD {d : Nat} {B : Int} (hd : 1 ≤ d) (hcalm : X.calm = true) : CallR X (.builtin "sorted") (rSortKD X.K d B) := by
  intro pins s σ H xs us Q I r q
  obtain ⟨a, ks, rfl, ha, h64, hks, q⟩ := q
  obtain ⟨u, rfl, rx⟩ := vals1 r
  cases rx
  obtain ⟨⟨lo, es, ep, raw, keys⟩, _, _⟩ : ((a == sysModules) = false ∧ ∃ es ep, s.heap.DictRaw a es ep ∧ es.toList.map (fun e => e.key) = ks.map Value.ref) ∧ _ ∧ _ := I.hok a _ ha
  have esz : es.size = ks.length := by
    have := congrArg List.length keys
    simpa using this
  refine Calls.call_function_entry PyProof.Rows.kind_sorted PyProof.Rows.plain_sorted PyProof.Rows.entry_sorted (PyProof.Rows.args_sorted1 _) ?_
  unfold Builtin.«sorted»
  refine wpAny_bind (m := checkCount "sorted" 1 1 _) (wpAny_pure ?_)
  refine wpAny_bind (PySem.W.kdu_collect (A := X.A.in1) (KdlSrc.rawDict (es := es) (ep := ep) lo) (I.ok.hd hcalm) raw (by rw [sizeLine_eq]; omega) fun h' tk acc hk hacc => ?_)
  have hal : acc.toList = ks.map Value.ref := by
    rw [← keys]
    refine List.ext_getElem? fun i => ?_
    rw [List.getElem?_map, Array.getElem?_toList, Array.getElem?_toList]
    by_cases hi : i < es.size
    · have hi2 : i < acc.size := by rw [hacc.1]; exact hi
      obtain ⟨_, e⟩ := hacc.2 i acc[i] (Array.getElem?_eq_getElem hi2)
      rw [Array.getElem?_eq_getElem hi2, Array.getElem?_eq_getElem hi, e]
      rfl
    · rw [Array.getElem?_eq_none (by rw [hacc.1]; omega), Array.getElem?_eq_none (by omega)]
      rfl
  have lal : acc.toList.length = ks.length := by rw [hal, List.length_map]
  have I1 : Inv X pins σ H { s with heap := h', toks := tk } := I.kept hk
  refine wpAny_bind (wpAny_newList ?_ (by rw [lal, sizeLine_eq]; omega))
  have hoL : (h'.push (seqObj "list" acc.toList.toArray 0)).get? h'.objs.size = some (seqObj "list" acc.toList.toArray 0) := Heap.get?_push_size _ rfl
  show wpAny _ _ _ _ _ { s with heap := h'.push (seqObj "list" acc.toList.toArray 0), toks := tk }
  have tup : ∀ {b : Addr} {ns : List Int}, SqT X.K H b (ns.map V.int) → TS.TupInts h' (.ref b) ns := fun {b ns} h => tupI_raw I1 h
  have tok : TS.TupsOk (h'.push (seqObj "list" acc.toList.toArray 0)) d B acc.toList := fun v hv => by
    rw [hal] at hv
    obtain ⟨b, hb, rfl⟩ := List.mem_map.mp hv
    obtain ⟨ns, h1, h2, h3⟩ := hks b hb
    exact ⟨ns, (tup h1).keeps fun c o e _ => Heap.get?_push_of_some _ e, h2, h3⟩
  refine wpAny_bind (wpAny_holding (wpAny_call_entry PyProof.Rows.slot_list_sort ⟨_, hoL, rfl⟩ PyProof.Rows.entry_list_sort
    (TS.sort_tups (s := { s with heap := h'.push (seqObj "list" acc.toList.toArray 0), toks := tk }) hoL (by rw [lal]; exact h64) hd tok (fun v => TS.code B (TS.intsOf (h'.push (seqObj "list" acc.toList.toArray 0)) v)) (fun v _ ns t => by
      show TS.code B (TS.intsOf _ v) = TS.code B ns
      rw [t.ints]) fun out a1 a2 => ⟨_, rfl, ?_⟩) (PyProof.Rows.args_list_sort _)))
  rw [hal] at a1
  obtain ⟨ys, ey, py⟩ := refs_perm a1
  obtain ⟨e', he'⟩ := PyProof.Rows.sortedHeap_at (vs := acc.toList) (out := out) hoL
  have hlen : (ys.map V.ref).length ≤ sizeLine := by
    rw [List.length_map, py.length_eq]
    exact Nat.le_trans (Nat.le_of_lt h64) (by decide)
  refine wpAny_pure ⟨_, rfl, .ref h'.objs.size, upd H h'.objs.size (.lst (ys.map V.ref)), I1.laid (t' := tk) (fun b u e => ?_) (Nat.le_refl _)
    (show ObjOk X.prog X.w _ _ _ (.lst (ys.map V.ref)) from ⟨hlen, out.toList, e', by rw [ey]; exact vals_refs ys, by rw [Array.toArray_toList]; exact he'⟩), rfl, q ys _ py ?_ (I1.hok.fresh (Nat.le_refl _))⟩
  · have hb : b < h'.objs.size := Heap.lt_size e
    rw [PyProof.Rows.sortedHeap_old (Nat.ne_of_lt hb) (by rw [size_push']; exact Nat.lt_succ_of_lt hb)]
    exact Heap.get?_push_of_some _ e
  · rw [ey, List.pairwise_map] at a2
    refine a2.imp fun {x y} h n m hn hm => ?_
    have i1 := ((tup hn).keeps fun c o e _ => Heap.get?_push_of_some (seqObj "list" acc.toList.toArray 0) e).ints
    have i2 := ((tup hm).keeps fun c o e _ => Heap.get?_push_of_some (seqObj "list" acc.toList.toArray 0) e).ints
    rw [i1, i2] at h
    exact h
end
end DV
set_option maxHeartbeats 1000000
/-! Rc: repr of ints and bools; the new rules over data; a tuple of data and a dict handed back and taken apart. -/
namespace DV
open PySem PySem.Spec PyProof.Rows L2 LamX NdefX
open PySem.W (AlikeAll dataLt)
def reprB (b : Bool) : Str := if b then "True" else "False"
section
variable {X : Cx}
def rReprS : List V → Hp → VK → Prop := fun xs H Q => (∃ i, xs = [.int i] ∧ i.natAbs.log2 < 1920 ∧ Q (.str (toString i)) H) ∨ ∃ b, xs = [.bl b] ∧ Q (.str (reprB b)) H
theorem call_reprS : CallR X (.builtin "repr") rReprS := by
  intro pins s σ H xs us Q I r h
  rcases h with ⟨i, rfl, hz, q⟩ | ⟨b, rfl, q⟩
  · obtain ⟨u, rfl, t, rfl⟩ := vals1 r
    exact PySem.P.repr_of_int hz ⟨.str _, H, I.tok _, ⟨_, rfl⟩, q⟩
  · obtain ⟨u, rfl, r1⟩ := vals1 r
    cases r1
    exact PySem.P.repr_of_bool ⟨.str (reprB b), H, I.tok _, ⟨_, rfl⟩, q⟩
end
section
variable {C : Cf} {env env1 env2 : Env} {s s1 s2 : C.w.S}
theorem rcb_reprI {i : Int} (h : i.natAbs < 10 ^ 300) : Rcb C rReprS [.dat (.int i)] (.dat (.str (Str.ofString (toString i)))) := fun H1 F H vs s t m hb Q q => by
  obtain ⟨v, rfl, b⟩ := ball1 hb
  rw [bok_int b]
  exact .inl ⟨i, rfl, Nat.lt_trans (log2_lt (by decide) (Nat.lt_trans h pow300)) (by decide), q _ F H (.refl s t) (.str _)⟩
theorem rcb_reprB {b : Bool} : Rcb C rReprS [.dat (.bool b)] (.dat (.str (reprB b))) := fun H1 F H vs s t m hb Q q => by
  obtain ⟨v, rfl, bb⟩ := ball1 hb
  rw [bok_bool bb]
  exact .inr ⟨b, rfl, q _ F H (.refl s t) (.str _)⟩
theorem rcb_minD {d e : PyData} (nd : noD d = true) (ne : noD e = true) (al : AlikeAll [d, e]) (dp : PyData.depthAll [d, e] ≤ 60) : Rcb C (rMin2D C.K) [.dat d, .dat e] (.dat (if dataLt e d then e else d)) := fun H1 F H vs s t m hb Q q => by
  obtain ⟨v, u, rfl, b1, b2⟩ := ball2 hb
  refine ⟨v, u, d, e, rfl, Bok.asD b1 s rfl nd, Bok.asD b2 s rfl ne, al, dp, ?_⟩
  by_cases c : dataLt e d = true
  · rw [if_pos c]
    rw [if_pos c] at q
    exact q _ F H (.refl s t) b2
  · rw [if_neg c]
    rw [if_neg c] at q
    exact q _ F H (.refl s t) b1
/-! ### sorted(dict([(key, 0) ..])) of two keys -/
def tupI (ns : List Int) : PyData := .tuple (ns.map .int)
def pairD (ns : List Int) : PyData := .tuple [tupI ns, .int 0]
def keyL (ns : List Int) : List Key := ns.map .inl
theorem keyL_inj {a b : List Int} (h : keyL a = keyL b) : a = b := by
  unfold keyL at h
  exact List.map_inj_right (fun _ _ h => Sum.inl.inj h) |>.mp h
theorem keyL_V (ns : List Int) : (keyL ns).map kV = ns.map V.int := by
  unfold keyL
  rw [List.map_map]
  rfl
theorem daAll_ints {K : PySem.W.Frag} {F : Hp} : ∀ (ns : List Int) (xs : List V), DaAll K F xs (ns.map .int) → xs = ns.map V.int
  | [], _, h => by cases h; rfl
  | n :: ns, _, h => by
    cases h with
    | cons d1 d2 =>
      cases d1
      rw [daAll_ints ns _ d2]
      rfl
theorem ints_daAll {K : PySem.W.Frag} {F : Hp} : ∀ (ns : List Int), DaAll K F (ns.map V.int) (ns.map .int)
  | [] => .nil
  | n :: ns => .cons (.int n) (ints_daAll ns)
theorem pair_at {K : PySem.W.Frag} {F : Hp} {v : V} {ns : List Int} (h : Da K F v (pairD ns)) : ∃ p b, v = .ref p ∧ SqT K F p [.ref b, .int 0] ∧ SqT K F b ((keyL ns).map kV) := by
  cases h with
  | @tup p xs _ h1 h2 =>
    cases h2 with
    | cons d1 d2 =>
      cases d2 with
      | cons d3 d4 =>
        cases d4
        cases d3
        cases d1 with
        | @tup b ys _ h3 h4 =>
          rw [daAll_ints ns ys h4] at h3
          exact ⟨p, b, rfl, h1, by rw [keyL_V]; exact h3⟩
/-- the two sorted; one, if they are one -/
def twoS (B : Int) (x y : List Int) : List (List Int) := if x = y then [x] else if TS.code B x < TS.code B y then [x, y] else [y, x]
theorem dv_sortTwo {te : TE} {b : B} {x y : List Int} {d : Nat} {Bn : Int} (h : Dv C te env s b s1) (e : b.toD = some (.list [pairD x, pairD y])) (lx : x.length = d) (ly : y.length = d) (bx : TS.Bd Bn x) (by' : TS.Bd Bn y) (hne : x = y ∨ TS.code Bn x ≠ TS.code Bn y) :
    Dv C (tCB (rSortKD C.K d Bn) (tCons (tCB (rDictTD C.K) (tCons te tNil)) tNil)) env s (.own ((twoS Bn x y).map tupI)) s1 := fun F0 H0 σ F H en Q q =>
  dv_freeze h e F0 H0 σ F H en _ fun v F1 H1 e1 h1 b1 => by
    obtain ⟨a, xs, rfl, hq, hd⟩ := dp_listI b1
    cases hd with
    | cons d1 d2 =>
      cases d2 with
      | cons d3 d4 =>
        cases d4
        obtain ⟨p1, k1, rfl, t1, u1⟩ := pair_at d1
        obtain ⟨p2, k2, rfl, t2, u2⟩ := pair_at d3
        have le := e1.sub.le
        refine ⟨a, [p1, p2], [(keyL x, k1, .int 0), (keyL y, k2, .int 0)], rfl, sqL_le le hq, .cons ⟨sqT_le le t1, sqT_le le u1⟩ (.cons ⟨sqT_le le t2, sqT_le le u2⟩ .nil), fun p np => ?_⟩
        have x1 : C.ExtS F1 H1 F1 (upd H1 p (keysO p ((ded [(keyL x, k1), (keyL y, k2)]).map (·.2)))) := Ext.fresh e1.sub e1.tab np
        have dx : Da C.K F1 (.ref k1) (tupI x) := .tup u1 (by rw [keyL_V]; exact ints_daAll x)
        have dy : Da C.K F1 (.ref k2) (tupI y) := .tup u2 (by rw [keyL_V]; exact ints_daAll y)
        have w1 := sqT_le x1.sub.le u1
        have w2 := sqT_le x1.sub.le u2
        rw [keyL_V] at w1 w2
        have fin : ∀ (zs : List (List Int)) (ys : List Addr) (l : Addr), DaAll C.K F1 (ys.map V.ref) (zs.map tupI) → zs = twoS Bn x y → upd H1 p (keysO p ((ded [(keyL x, k1), (keyL y, k2)]).map (·.2))) l = none → Q (.ref l) (upd (upd H1 p (keysO p ((ded [(keyL x, k1), (keyL y, k2)]).map (·.2)))) l (.lst (ys.map V.ref))) := fun zs ys l da ez nl => by
          subst ez
          have x2 := Ext.fresh (M := fun _ => False) (o := .lst (ys.map V.ref)) x1.sub x1.tab nl
          have n1 := nothing_new (e1.trans (extS x1)) nl
          refine q (.ref l) F1 _ (e1.trans (extS (x1.trans x2))) (holdS (x1.trans x2) h1) ⟨l, _, rfl, n1.1, not_M (holdS x1 h1) nl, n1.2, upd_same, da⟩
        show rSortKD C.K d Bn [V.ref p] (upd H1 p (keysO p ((ded [(keyL x, k1), (keyL y, k2)]).map (·.2)))) Q
        by_cases c : x = y
        · have ek : ded [(keyL x, k1), (keyL y, k2)] = [(keyL x, k1)] := by
            unfold ded dedS
            simp [c]
          rw [ek] at x1 w1 w2 fin ⊢
          refine ⟨p, [k1], rfl, upd_same, by simp, fun b hb => ?_, fun ys l py _ nl => ?_⟩
          · rw [List.mem_singleton.mp hb]
            exact ⟨x, w1, lx, bx⟩
          · have e2 : ys = [k1] := List.perm_singleton.mp py
            subst e2
            exact fin [x] [k1] l (.cons dx .nil) (by unfold twoS; rw [if_pos c]) nl
        · have ek : ded [(keyL x, k1), (keyL y, k2)] = [(keyL x, k1), (keyL y, k2)] := by
            have : ¬ keyL x = keyL y := fun z => c (keyL_inj z)
            unfold ded dedS
            simp [this]
          rw [ek] at x1 w1 w2 fin ⊢
          have cne := hne.resolve_left c
          refine ⟨p, [k1, k2], rfl, upd_same, by simp, fun b hb => ?_, fun ys l py so nl => ?_⟩
          · rcases List.mem_cons.mp hb with z | hb
            · rw [z]
              exact ⟨x, w1, lx, bx⟩
            · rw [List.mem_singleton.mp hb]
              exact ⟨y, w2, ly, by'⟩
          · have l2 := py.length_eq
            match ys, l2, py, so with
            | [u, v], _, py, so =>
              have so1 : ∀ n m : List Int, SqT C.K _ u (n.map V.int) → SqT C.K _ v (m.map V.int) → TS.code Bn n ≤ TS.code Bn m := (List.pairwise_cons.mp so).1 v (by simp)
              have pu : u = k1 ∧ v = k2 ∨ u = k2 ∧ v = k1 := by
                have m1 : u ∈ [k1, k2] := py.mem_iff.mp (by simp)
                rcases List.mem_cons.mp m1 with z | m1
                · subst z
                  exact .inl ⟨rfl, List.singleton_perm_singleton.mp ((List.perm_cons u).mp py)⟩
                · have z := List.mem_singleton.mp m1
                  subst z
                  have p3 : [u, v].Perm [u, k1] := py.trans (.swap _ _ _)
                  exact .inr ⟨rfl, List.singleton_perm_singleton.mp ((List.perm_cons u).mp p3)⟩
              rcases pu with ⟨rfl, rfl⟩ | ⟨rfl, rfl⟩
              · have o1 := so1 x y w1 w2
                exact fin [x, y] [u, v] l (.cons dx (.cons dy .nil)) (by unfold twoS; rw [if_neg c, if_pos (by omega)]) nl
              · have o1 := so1 y x w2 w1
                exact fin [y, x] [u, v] l (.cons dy (.cons dx .nil)) (by unfold twoS; rw [if_neg c, if_neg (by omega)]) nl
/-! ### (data, dict) handed back, taken apart -/
theorem tr_retP {te : TE} {d : PyData} {b : B} {j : Nat} {q : List (Key × PyData)} (h : Dv C te env s b s1) (hb : b.toD = some d) (hj : env[j]? = some (.odk q)) : Tr C (tRet (tTup (tCons te (tCons (tVar j) tNil)))) env s (.rt (.pdk d q) s1) := fun F0 H0 σ F H e D k =>
  dv_freeze h hb F0 H0 σ F H e _ fun v F1 H1 e1 h1 b1 => by
    have e2 := e.go e1 h1
    obtain ⟨w, hw, a, xs, rfl, z0, zm, zf, zh, zk⟩ := e2.at hj (by intro z; cases z)
    refine ⟨_, hw, sz_of _ (Nat.le_of_ble_eq_true rfl), fun p np => ?_⟩
    have x : C.ExtS F1 H1 (upd F1 p (.tup [v, .ref a])) (upd H1 p (.tup [v, .ref a])) := Ext.new e1.sub e1.tab np nt_tup
    have ap : a ≠ p := ne_of_none zh np
    exact k (.ref p) _ _ (e2.ext.trans (extS x)) (holdS x h1) ⟨p, v, a, xs, rfl, upd_same, dp_le x.fx _ _ b1, z0, zm, (upd_ne ap).trans zf, (upd_ne ap).trans zh, kall_le x.fx zk⟩
theorem tr_asgP {te : TE} {d : PyData} {i j : Nat} {q : List (Key × PyData)} (h : Dv C te env s (.pdk d q) s1) : Tr C (tAsg te (gTup C.K 2 (gCons (gName i) (gCons (gName j) gNil)))) env s (.nx ((env.set i (.dat d)).set j (.odk q)) s1) := fun F0 H0 σ F H e D k => h F0 H0 σ F H e _ fun v F1 H1 e1 h1 b1 => by
  obtain ⟨p, v1, a, xs, rfl, zp, zd, z0, zm, zf, zh, zk⟩ := b1
  refine ⟨p, [v1, .ref a], rfl, sqT_le e1.sub.le (.of zp), rfl, v1, [.ref a], rfl, .ref a, [], rfl, rfl, ?_⟩
  have p1 := e.putAll (s1 := s1) e1 h1 (is := [i, j]) (bs := [.dat d, .odk q]) (vs := [v1, .ref a]) (.cons zd (.cons ⟨a, xs, rfl, z0, zm, zf, zh, zk⟩ .nil (fun _ z => by simp [ownVs] at z)) (fun z => by cases z)) rfl rfl
  exact k _ F1 H1 p1
end
end DV
set_option maxHeartbeats 1000000
namespace DV
open PySem PySem.Spec PyProof.Rows L2 LamX NdefX
/-! ### what a least lot tells: plain -/
/-- each thing of D has its view -/
def DSim (vs : List Vw) (view : ViewF) (D : Key → Prop) (φ : Key → Nat) : Prop := ∀ k, D k → vs[φ k]? = some ((view k).1, φ (view k).2.1, φ (view k).2.2) ∧ D (view k).2.1 ∧ D (view k).2.2
structure LotSim (l : Lot) (zero top : Bool) (front back : Key) (view : ViewF) (U : List Key) (D : Key → Prop) (φ : Key → Nat) : Prop where
  ok : l.Ok
  zero : l.zero = zero
  top : l.top = top
  df : D front
  db : D back
  front : l.front = φ front
  back : l.back = φ back
  sim : DSim l.views view D φ
  onto : ∀ i, i < l.views.length → ∃ k, D k ∧ φ k = i
  inU : ∀ k, D k → k ∈ U
theorem least_sim {zero top : Bool} {front back : Key} {view : ViewF} {U : List Key} (hf : front ∈ U) (hb : back ∈ U) (hU : ∀ k ∈ U, (view k).2.1 ∈ U ∧ (view k).2.2 ∈ U) (hz : U.length ≤ 60) :
    ∃ D φ, LotSim (leastLot zero top front back view U) zero top front back view U D φ := by
  have hs : ∀ k ∈ [front, back], k ∈ U := fun k hk => by
    rcases List.mem_cons.mp hk with e | hk
    · rw [e]; exact hf
    · rw [List.mem_singleton.mp hk]; exact hb
  obtain ⟨L, hL⟩ : ∃ L, L = rawL view [front, back] U := ⟨_, rfl⟩
  obtain ⟨vs, hvs⟩ : ∃ vs, vs = vwsOf view L := ⟨_, rfl⟩
  obtain ⟨f, hf2⟩ : ∃ f, f = clsOf vs := ⟨_, rfl⟩
  have mf : front ∈ L := by rw [hL]; exact rawL_starts (by simp)
  have mb : back ∈ L := by rw [hL]; exact rawL_starts (by simp)
  have Lc : ∀ k ∈ L, (view k).2.1 ∈ L ∧ (view k).2.2 ∈ L := by rw [hL]; exact rawL_closed hs hU
  have Lin : ∀ k ∈ L, k ∈ U := by rw [hL]; exact rawL_in hs hU
  have Lz : L.length ≤ 60 := Nat.le_trans (by rw [hL]; exact rawL_len hs hU) hz
  have lv : vs.length = L.length := by rw [hvs]; exact List.length_map _
  have vc : closedV vs := by rw [hvs]; exact vwsOf_closed Lc
  have vp : 0 < vs.length := by rw [lv]; exact List.length_pos_of_mem mf
  have ok : ClsOk vs f := by rw [hf2]; exact clsOf_ok vp
  obtain ⟨v2, hv2⟩ : ∃ v2, v2 = clsView vs f := ⟨_, rfl⟩
  obtain ⟨c, hc⟩ : ∃ c : Key → Key, c = fun k => .inl (f.getD (ixK L k) 0 : Int) := ⟨_, rfl⟩
  obtain ⟨L2, hL2⟩ : ∃ L2, L2 = rawL v2 [c front, c back] (clsKeys f) := ⟨_, rfl⟩
  have at_ : ∀ i, i < vs.length → f.getD i 0 ∈ f := fun i hi => by
    rw [List.getD_eq_getElem?_getD, List.getElem?_eq_getElem (by rw [ok.len]; exact hi)]
    exact List.getElem_mem _
  have inC : ∀ i, i < vs.length → (Sum.inl (f.getD i 0 : Int) : Key) ∈ clsKeys f := fun i hi => List.mem_map.mpr ⟨_, at_ i hi, rfl⟩
  have lif : ixK L front < vs.length := by rw [lv]; exact ixK_lt mf
  have lib : ixK L back < vs.length := by rw [lv]; exact ixK_lt mb
  have hs2 : ∀ k ∈ [c front, c back], k ∈ clsKeys f := fun k hk => by
    rcases List.mem_cons.mp hk with e | hk
    · rw [e, hc]; exact inC _ lif
    · rw [List.mem_singleton.mp hk, hc]; exact inC _ lib
  have any : ∀ k ∈ clsKeys f, ∃ i v, vs[i]? = some v ∧ k = .inl (f.getD i 0 : Int) := fun k hk => by
    obtain ⟨c, hc, rfl⟩ := List.mem_map.mp hk
    obtain ⟨i, hi⟩ := List.mem_iff_getElem?.mp hc
    have li : i < vs.length := by rw [← ok.len]; exact (List.getElem?_eq_some_iff.mp hi).1
    refine ⟨i, _, List.getElem?_eq_getElem li, ?_⟩
    rw [List.getD_eq_getElem?_getD, hi]
    rfl
  have hU2 : ∀ k ∈ clsKeys f, (v2 k).2.1 ∈ clsKeys f ∧ (v2 k).2.2 ∈ clsKeys f := fun k hk => by
    obtain ⟨i, v, hv, rfl⟩ := any k hk
    rw [hv2, clsView_at ok hv]
    have cv := vc v (List.mem_of_getElem? hv)
    exact ⟨inC _ cv.1, inC _ cv.2⟩
  have L2c : ∀ k ∈ L2, (v2 k).2.1 ∈ L2 ∧ (v2 k).2.2 ∈ L2 := by rw [hL2]; exact rawL_closed hs2 hU2
  have ma : c front ∈ L2 := by rw [hL2]; exact rawL_starts (by simp)
  have mb2 : c back ∈ L2 := by rw [hL2]; exact rawL_starts (by simp)
  have l2 : (vwsOf v2 L2).length = L2.length := List.length_map _
  have el : leastLot zero top front back view U = ⟨zero, top, ixK L2 (c front), ixK L2 (c back), vwsOf v2 L2⟩ := by
    rw [hL2, hv2, hc, hf2, hvs, hL]
    rfl
  rw [el]
  refine ⟨fun k => k ∈ L ∧ c k ∈ L2, fun k => ixK L2 (c k), ⟨?_, ?_, vwsOf_closed L2c, ?_⟩, rfl, rfl, ⟨mf, ma⟩, ⟨mb, mb2⟩, rfl, rfl, fun k hk => ?_, fun i hi => ?_, fun k hk => Lin k hk.1⟩
  · show ixK L2 (c front) < (vwsOf v2 L2).length
    rw [l2]; exact ixK_lt ma
  · show ixK L2 (c back) < (vwsOf v2 L2).length
    rw [l2]; exact ixK_lt mb2
  · show (vwsOf v2 L2).length ≤ 60
    rw [l2, hL2]
    refine Nat.le_trans (rawL_len hs2 hU2) ?_
    unfold clsKeys
    rw [List.length_map, ok.len, lv]
    exact Lz
  · obtain ⟨k1, k2⟩ := hk
    have q1 : vs[ixK L k]? = some (vwOf view L k) := by rw [hvs]; exact vwsOf_get k1
    have e2 : v2 (c k) = ((view k).1, c (view k).2.1, c (view k).2.2) := by
      rw [hv2, hc]
      exact clsView_at ok q1
    have q2 := vwsOf_get (view := v2) k2
    have q3 := L2c (c k) k2
    rw [e2] at q3
    refine ⟨?_, ⟨(Lc k k1).1, q3.1⟩, (Lc k k1).2, q3.2⟩
    show (vwsOf v2 L2)[ixK L2 (c k)]? = _
    rw [q2]
    unfold vwOf
    rw [e2]
  · have hi : i < (vwsOf v2 L2).length := hi
    rw [l2] at hi
    have hm : L2[i] ∈ L2 := List.getElem_mem hi
    have hU3 : L2[i] ∈ clsKeys f := by
      have h := rawL_in hs2 hU2 L2[i]
      rw [← hL2] at h
      exact h hm
    obtain ⟨j, v, hv, ej⟩ := any _ hU3
    have lj : j < L.length := by rw [← lv]; exact (List.getElem?_eq_some_iff.mp hv).1
    have nd : L.Nodup := by rw [hL]; exact rawL_nodup
    have nd2 : L2.Nodup := by rw [hL2]; exact rawL_nodup
    have ek : ixK L L[j] = j := nodup_ix nd (List.getElem?_eq_getElem lj)
    have ec : c L[j] = L2[i] := by
      rw [ej, hc]
      show Sum.inl (f.getD (ixK L L[j]) 0 : Int) = _
      rw [ek]
    refine ⟨L[j], ⟨List.getElem_mem lj, by rw [ec]; exact hm⟩, ?_⟩
    show ixK L2 (c L[j]) = i
    rw [ec]
    exact nodup_ix nd2 (List.getElem?_eq_getElem hi)
/-! ### counts -/
def cntK (view : ViewF) : Nat → Key → Int
  | 0, k => b2n (view k).1
  | n + 1, k => cntK view n (view k).2.1 + cntK view n (view k).2.2
section
variable {vs : List Vw} {view : ViewF} {D : Key → Prop} {φ : Key → Nat}
theorem vals_sim (h : DSim vs view D φ) : ∀ (n : Nat) (k : Key), D k → (vals vs n).getD (φ k) 0 = cntK view n k
  | 0, k, hk => by
    rw [List.getD_eq_getElem?_getD]
    show ((vs.map fun v => b2n v.1)[φ k]?).getD 0 = _
    rw [List.getElem?_map, (h k hk).1]
    rfl
  | n + 1, k, hk => by
    obtain ⟨h1, h2, h3⟩ := h k hk
    rw [List.getD_eq_getElem?_getD]
    show ((vs.map fun v => (vals vs n).getD v.2.1 0 + (vals vs n).getD v.2.2 0)[φ k]?).getD 0 = _
    rw [List.getElem?_map, h1]
    show (vals vs n).getD (φ (view k).2.1) 0 + (vals vs n).getD (φ (view k).2.2) 0 = _
    rw [vals_sim h n _ h2, vals_sim h n _ h3]
    rfl
/-! ### ways -/
/-- behind a word (true: right) -/
def goB (view : ViewF) : Key → List Bool → Key
  | k, [] => k
  | k, b :: bs => goB view (if b then (view k).2.2 else (view k).2.1) bs
theorem goB_app : ∀ (xs : List Bool) (k : Key) (ys : List Bool), goB view k (xs ++ ys) = goB view (goB view k xs) ys
  | [], _, _ => rfl
  | b :: xs, k, ys => goB_app xs _ ys
def wordR (xs : List Run) : List Bool := xs.flatMap fun x => List.replicate x.2 (!isL x.1)
theorem next_sim (h : DSim vs view D φ) (b : Bool) {k : Key} (hk : D k) : nextV vs b (φ k) = φ (goB view k [!b]) ∧ D (goB view k [!b]) := by
  obtain ⟨h1, h2, h3⟩ := h k hk
  unfold nextV
  rw [h1]
  cases b
  · exact ⟨rfl, h3⟩
  · exact ⟨rfl, h2⟩
theorem steps_sim (h : DSim vs view D φ) (b : Bool) {k : Key} (hk : D k) : ∀ n, stepsV vs b (φ k) n = φ (goB view k (List.replicate n (!b))) ∧ D (goB view k (List.replicate n (!b)))
  | 0 => ⟨rfl, hk⟩
  | n + 1 => by
    obtain ⟨h1, h2⟩ := steps_sim h b hk n
    show nextV vs b (stepsV vs b (φ k) n) = _ ∧ _
    rw [h1, List.replicate_succ', goB_app]
    exact next_sim h b h2
theorem along_sim (h : DSim vs view D φ) : ∀ (xs : List Run) {k : Key}, D k → alongV vs (φ k) xs = φ (goB view k (wordR xs)) ∧ D (goB view k (wordR xs))
  | [], k, hk => ⟨rfl, hk⟩
  | x :: xs, k, hk => by
    obtain ⟨h1, h2⟩ := steps_sim h (isL x.1) hk x.2
    have e : wordR (x :: xs) = List.replicate x.2 (!isL x.1) ++ wordR xs := rfl
    rw [e, goB_app]
    show alongV vs (stepsV vs (isL x.1) (φ k) x.2) xs = _ ∧ _
    rw [h1]
    exact along_sim h xs h2
end
/-! ### all words of a length -/
def wordsB : Nat → List (List Bool)
  | 0 => [[]]
  | n + 1 => (wordsB n).flatMap fun w => [w ++ [false], w ++ [true]]
theorem wordsB_cons : ∀ n, wordsB (n + 1) = (wordsB n).map (false :: ·) ++ (wordsB n).map (true :: ·)
  | 0 => rfl
  | n + 1 => by
    show (wordsB (n + 1)).flatMap (fun w => [w ++ [false], w ++ [true]]) = _
    have e : ∀ b : Bool, (((wordsB n).map (b :: ·)).flatMap fun w => [w ++ [false], w ++ [true]]) = (wordsB (n + 1)).map (b :: ·) := fun b => by
      show _ = ((wordsB n).flatMap fun w => [w ++ [false], w ++ [true]]).map (b :: ·)
      rw [List.flatMap_map, List.map_flatMap]
      rfl
    rw [wordsB_cons n, List.flatMap_append, e, e, ← wordsB_cons n]
theorem wordsB_len : ∀ n, ∀ w ∈ wordsB n, w.length = n
  | 0, w, h => by
    rw [List.mem_singleton.mp h]
    rfl
  | n + 1, w, h => by
    obtain ⟨u, hu, h2⟩ := List.mem_flatMap.mp h
    have l := wordsB_len n u hu
    simp only [List.mem_cons, List.not_mem_nil, or_false] at h2
    rcases h2 with e | e <;> rw [e, List.length_append, l] <;> rfl
theorem words_cnt (view : ViewF) : ∀ (n : Nat) (k : Key), (((wordsB n).filter fun w => (view (goB view k w)).1).length : Int) = cntK view n k
  | 0, k => by
    show (((([[]] : List (List Bool)).filter fun w => (view (goB view k w)).1).length : Nat) : Int) = b2n (view k).1
    cases h : (view k).1
    · simp [goB, h, b2n]
    · simp [goB, h, b2n]
  | n + 1, k => by
    rw [wordsB_cons, List.filter_append, List.length_append, List.filter_map, List.filter_map, List.length_map, List.length_map]
    have h1 := words_cnt view n (view k).2.1
    have h2 := words_cnt view n (view k).2.2
    show _ = cntK view n (view k).2.1 + cntK view n (view k).2.2
    rw [← h1, ← h2]
    rfl
end DV
set_option maxHeartbeats 1000000
namespace DV
open PySem PySem.Spec PyProof.Rows L2 LamX NdefX
/-! ### dict(pairs), its keys texts or numbers -/
def rDictP (K : PySem.W.Frag) : List V → Hp → VK → Prop := fun xs H_1 Q => ∃ a ps kvs, xs = [V.ref a] ∧ SqL K H_1 a (List.map V.ref ps) ∧ Paired (fun p (kv : Key × V) => SqT K H_1 p [kV kv.fst, kv.snd]) ps kvs ∧ ∀ (p : Addr), H_1 p = none → Q (V.ref p) (upd H_1 p (HO.dK (mergeK [] kvs)))
theorem mergeK_nd : ∀ (more kvs : List (Key × V)), ((kvs ++ more).map (·.1)).Nodup → mergeK kvs more = kvs ++ more
  | [], kvs, _ => by simp [mergeK]
  | p :: r, kvs, n => by
    have e : putK kvs p.1 p.2 = kvs ++ [p] := by
      unfold putK
      rw [if_neg]
      intro z
      rw [List.any_eq_true] at z
      obtain ⟨x, hx, e⟩ := z
      have e := of_decide_eq_true e
      rw [List.map_append, List.nodup_append] at n
      exact n.2.2 x.1 (List.mem_map_of_mem hx) p.1 (by simp) e
    show mergeK (putK kvs p.1 p.2) r = _
    rw [e, mergeK_nd r (kvs ++ [p]) (by rw [List.append_assoc]; exact n), List.append_assoc]
    rfl
def pairK (kv : Key × PyData) : PyData := .tuple [kD kv.1, kv.2]
theorem da_kD {K : PySem.W.Frag} {F : Hp} {v : V} {k : Key} (h : Da K F v (kD k)) : v = kV k := by
  cases k with
  | inl i => cases h; rfl
  | inr x => cases h; rfl
theorem pairs_at {K : PySem.W.Frag} {F : Hp} : ∀ (l : List (Key × PyData)) (xs : List V), DaAll K F xs (l.map pairK) → ∃ ps kvs, xs = ps.map V.ref ∧ Paired (fun p (kv : Key × V) => SqT K F p [kV kv.1, kv.2]) ps kvs ∧ KAll K F kvs l
  | [], _, h => by
    cases h
    exact ⟨[], [], rfl, .nil, .nil⟩
  | (k, d) :: l, _, h => by
    cases h with
    | cons d1 d2 =>
      obtain ⟨ps, kvs, e, p1, p2⟩ := pairs_at l _ d2
      subst e
      cases d1 with
      | @tup p ys _ h1 h2 =>
        cases h2 with
        | cons d3 d4 =>
          cases d4 with
          | @cons v _ _ _ d5 d6 =>
            cases d6
            rw [da_kD d3] at h1
            exact ⟨p :: ps, (k, v) :: kvs, rfl, .cons h1 p1, .cons d5 p2⟩
theorem paired_mono {α β : Type} {P Q : α → β → Prop} (h : ∀ a b, P a b → Q a b) {xs : List α} {ys : List β} (p : Paired P xs ys) : Paired Q xs ys := by
  induction p with
  | nil => exact .nil
  | cons a _ ih => exact .cons (h _ _ a) ih
section
variable {C : Cf} {env : Env} {s s1 : C.w.S}
theorem dv_dictP {te : TE} {b : B} {l : List (Key × PyData)} (h : Dv C te env s b s1) (e : b.toD = some (.list (l.map pairK))) (nd : (l.map (·.1)).Nodup) : Dv C (tCB (rDictP C.K) (tCons te tNil)) env s (.odk l) s1 := fun F0 H0 σ F H en Q q =>
  dv_freeze h e F0 H0 σ F H en _ fun v F1 H1 e1 h1 b1 => by
    obtain ⟨a, xs, rfl, hq, hd⟩ := dp_listI b1
    obtain ⟨ps, kvs, rfl, p1, p2⟩ := pairs_at l xs hd
    refine ⟨a, ps, kvs, rfl, sqL_le e1.sub.le hq, paired_mono (fun _ _ z => sqT_le e1.sub.le z) p1, fun p np => ?_⟩
    have x1 : C.ExtS F1 H1 F1 (upd H1 p (.dK (mergeK [] kvs))) := Ext.fresh e1.sub e1.tab np
    have n1 := nothing_new e1 np
    refine q (.ref p) F1 _ (e1.trans (extS x1)) (holdS x1 h1) ⟨p, _, rfl, n1.1, not_M h1 np, n1.2, upd_same, ?_⟩
    rw [mergeK_nd kvs [] (by rw [List.nil_append, kall_get p2]; exact nd)]
    exact p2
end
/-! ### the rows of ways -/
def headD (z t : Bool) (f b : Str) : PyData := .tuple [.bool z, .bool t, .str f, .str b]
abbrev Ent := Str × List Bool × Str
def encT (x : Ent) : PyData := .tuple [.str x.1, .str (wayS x.2.1), .str x.2.2]
def encRw (modes : List Mode) (x : Ent) : PyData := .tuple [.str x.1, .str (wayS x.2.1), .bool (mAt modes x.2.2).2.1]
def expandE (modes : List Mode) (x : Ent) : List Ent := [(x.1, x.2.1 ++ [false], (mAt modes x.2.2).2.2.1), (x.1, x.2.1 ++ [true], (mAt modes x.2.2).2.2.2)]
def lineR (modes : List Mode) (f b : Str) : Nat → List Ent
  | 0 => [(Str.ofString "up", [], f), (Str.ofString "down", [], b)]
  | n + 1 => (lineR modes f b n).flatMap (expandE modes)
def rowsR (modes : List Mode) (f b : Str) (n : Nat) : List PyData := (List.range n).map fun i => .list ((lineR modes f b i).map (encRw modes))
theorem lineR_len (modes : List Mode) (f b : Str) : ∀ n, (lineR modes f b n).length = 2 * 2 ^ n
  | 0 => rfl
  | n + 1 => by
    show ((lineR modes f b n).flatMap (expandE modes)).length = _
    rw [List.length_flatMap]
    have e : (lineR modes f b n).map (fun x => (expandE modes x).length) = (lineR modes f b n).map (fun _ => 2) := List.map_congr_left fun _ _ => rfl
    rw [e, List.map_const', List.sum_replicate_nat, lineR_len modes f b n]
    rw [Nat.pow_succ]
    omega
theorem wayS_snoc (w : List Bool) (c : Bool) : wayS (w ++ [c]) = wayS w ++ letS c := by
  have e : ∀ a b : Str, a ++ b = ⟨a.cps ++ b.cps⟩ := fun _ _ => rfl
  rw [e]
  unfold wayS letS
  cases c <;> simp
theorem wayS_len (w : List Bool) : (wayS w).length = w.length := by
  show (wayS w).cps.size = _
  simp [wayS]
theorem lineR_names {modes : List Mode} (ok : ModesOk modes) {f b : Str} (hf : f ∈ modes.map (·.1)) (hb : b ∈ modes.map (·.1)) : ∀ n, ∀ x ∈ lineR modes f b n, x.2.2 ∈ modes.map (·.1) ∧ x.2.1.length = n
  | 0, x, hx => by
    rcases List.mem_cons.mp hx with e | hx
    · rw [e]; exact ⟨hf, rfl⟩
    · rw [List.mem_singleton.mp hx]; exact ⟨hb, rfl⟩
  | n + 1, x, hx => by
    obtain ⟨y, hy, h2⟩ := List.mem_flatMap.mp hx
    obtain ⟨h3, h4⟩ := lineR_names ok hf hb n y hy
    have cl := ok.cl _ (mAt_mem h3).1
    rcases List.mem_cons.mp h2 with e | h2
    · rw [e]; exact ⟨cl.1, by show (y.2.1 ++ [false]).length = _; rw [List.length_append, h4]; rfl⟩
    · rw [List.mem_singleton.mp h2]; exact ⟨cl.2, by show (y.2.1 ++ [true]).length = _; rw [List.length_append, h4]; rfl⟩
def spRows (ds : List PyData) (r : B) : Prop := ∃ (z t : Bool) (f b : Str) (modes : List Mode) (n : Nat), ds = [headD z t f b, mdD modes, .int (n : Int)] ∧ ModesOk modes ∧ f ∈ modes.map (·.1) ∧ b ∈ modes.map (·.1) ∧ n ≤ 8 ∧ r = .dat (.list (rowsR modes f b n))
def rowsTs (K : PySem.W.Frag) : TS := tSeq (tPar 3 4 (tCons (tLst (tCons (tTup (tCons (tC (V.str (Str.ofString "up"))) (tCons (tC (V.str (Str.ofString ""))) (tCons (tOp (rIxT K) (tVar 0) (tC (V.int 2))) tNil)))) (tCons (tTup (tCons (tC (V.str (Str.ofString "down"))) (tCons (tC (V.str (Str.ofString ""))) (tCons (tOp (rIxT K) (tVar 0) (tC (V.int 3))) tNil)))) tNil))) (tCons (tLst tNil) tNil))) (tSeq (tFor (iRng1 (tCons (tVar 2) tNil)) (gName 5) (tSeq (tDrop (tBM K "list" rAppend (tVar 4) (tCons (tLc (iList K (tVar 3)) (gTup K 3 (gCons (gName 6) (gCons (gName 7) (gCons (gName 8) gNil)))) tYes (tTup (tCons (tVar 6) (tCons (tVar 7) (tCons (tOp (rIxT K) (tDGet (tVar 1) (tVar 8)) (tC (V.int 0))) tNil)))) [6, 7, 8]) tNil))) (tSeq (tAsg (tLst tNil) (gName 9)) (tSeq (tFor (iList K (tVar 3)) (gTup K 3 (gCons (gName 6) (gCons (gName 7) (gCons (gName 8) gNil)))) (tAsg (tOp rCat (tVar 9) (tLst (tCons (tTup (tCons (tVar 6) (tCons (tOp rAddS (tVar 7) (tC (V.str (Str.ofString "l")))) (tCons (tOp (rIxT K) (tDGet (tVar 1) (tVar 8)) (tC (V.int 1))) tNil)))) (tCons (tTup (tCons (tVar 6) (tCons (tOp rAddS (tVar 7) (tC (V.str (Str.ofString "r")))) (tCons (tOp (rIxT K) (tDGet (tVar 1) (tVar 8)) (tC (V.int 2))) tNil)))) tNil)))) (gName 9))) (tAsg (tVar 9) (gName 3)))))) (tRet (tVar 4)))
def farTs (K : PySem.W.Frag) : TS := tSeq (tAsg (tCB (rDictP K) (tCons (tLc (iKeys (tVar 0)) (gName 5) tYes (tTup (tCons (tVar 5) (tCons (tCB rInt1 (tCons (tOp (rIxT K) (tDGet (tVar 0) (tVar 5)) (tC (V.int 0))) tNil)) tNil))) [5]) tNil)) (gName 3)) (tSeq (tFor (iRng1 (tCons (tVar 2) tNil)) (gName 4) (tAsg (tCB (rDictP K) (tCons (tLc (iKeys (tVar 0)) (gName 5) tYes (tTup (tCons (tVar 5) (tCons (tOp (rI0 fun i j => V.int (i + j)) (tDGet (tVar 3) (tOp (rIxT K) (tDGet (tVar 0) (tVar 5)) (tC (V.int 1)))) (tDGet (tVar 3) (tOp (rIxT K) (tDGet (tVar 0) (tVar 5)) (tC (V.int 2))))) tNil))) [5]) tNil)) (gName 3))) (tRet (tDGet (tVar 3) (tVar 1))))
section
variable {K : PySem.W.Frag} {T : List NTab} {ds : List PyData} {r : B} {N : List Str}
theorem tr_rows (hN : N.length = 10) (h : spRows ds r) : Tr (Cf.pure K T) (rowsTs K) (initE N ds) () (.rt r ()) := by
  obtain ⟨z, t, f, b, modes, n, rfl, ok, hf, hb, hn, rfl⟩ := h
  refine init_eq hN ?_
  obtain ⟨hd, ehd⟩ : ∃ hd, hd = headD z t f b := ⟨_, rfl⟩
  obtain ⟨md, emd⟩ : ∃ md, md = mdD modes := ⟨_, rfl⟩
  rw [← ehd, ← emd]
  show Tr (Cf.pure K T) (rowsTs K) [.dat hd, .dat md, .dat (.int (n : Int)), .un, .un, .un, .un, .un, .un, .un] () _
  have lz : ∀ i, i ≤ 8 → (lineR modes f b i).length ≤ 512 := fun i hi => by
    rw [lineR_len]
    have := Nat.pow_le_pow_right (n := 2) (by omega) hi
    omega
  have getM : ∀ {C : Cf} {env : Env} {s : C.w.S} {i : Nat} {x : Str}, env[1]? = some (.dat md) → env[i]? = some (.dat (.str x)) → x ∈ modes.map (·.1) → Dv C (tDGet (tVar 1) (tVar i)) env s (.dat (rowM (mAt modes x))) s := fun h1 h2 hx =>
    dv_dgetF (k := .inr _) (q := dictM modes) (dv_var (by rw [h1, emd]; rfl)) (dv_var h2) (valM_at hx)
  refine tr_seq (tr_par (b := .own ((lineR modes f b 0).map encT)) (c := .own []) (da_cons (dv_lst (da_cons (dv_tup (da_cons (dv_c fun _ => .str _) (da_cons (dv_c fun _ => .str _) (da_cons (dv_op (dv_var (d := hd) rfl) dv_int (by rw [ehd]; exact rop_ixT (d := .str f) rfl)) da_nil))) (.cons rfl (.cons rfl (.cons rfl .nil))) (Nat.le_of_ble_eq_true rfl)) (da_cons (dv_tup (da_cons (dv_c fun _ => .str _) (da_cons (dv_c fun _ => .str _) (da_cons (dv_op (dv_var (d := hd) rfl) dv_int (by rw [ehd]; exact rop_ixT (d := .str b) rfl)) da_nil))) (.cons rfl (.cons rfl (.cons rfl .nil))) (Nat.le_of_ble_eq_true rfl)) da_nil)) (.cons rfl (.cons rfl .nil)) (Nat.le_of_ble_eq_true rfl)) (da_cons (dv_lst da_nil .nil (Nat.zero_le _)) da_nil))) ?_
  refine tr_freeze (i := 3) rfl ?_
  have lp := tr_for0 (C := Cf.pure K T) (s1 := ()) (env := [.dat hd, .dat md, .dat (.int (n : Int)), .dat (.list ((lineR modes f b 0).map encT)), .own [], .un, .un, .un, .un, .un]) (g := gName 5) (ds := rngD 0 n) (wi := iRng1 (tCons (tVar 2) tNil))
    (p := tSeq (tDrop (tBM K "list" rAppend (tVar 4) (tCons (tLc (iList K (tVar 3)) (gTup K 3 (gCons (gName 6) (gCons (gName 7) (gCons (gName 8) gNil)))) tYes (tTup (tCons (tVar 6) (tCons (tVar 7) (tCons (tOp (rIxT K) (tDGet (tVar 1) (tVar 8)) (tC (V.int 0))) tNil)))) [6, 7, 8]) tNil))) (tSeq (tAsg (tLst tNil) (gName 9)) (tSeq (tFor (iList K (tVar 3)) (gTup K 3 (gCons (gName 6) (gCons (gName 7) (gCons (gName 8) gNil)))) (tAsg (tOp rCat (tVar 9) (tLst (tCons (tTup (tCons (tVar 6) (tCons (tOp rAddS (tVar 7) (tC (V.str (Str.ofString "l")))) (tCons (tOp (rIxT K) (tDGet (tVar 1) (tVar 8)) (tC (V.int 1))) tNil)))) (tCons (tTup (tCons (tVar 6) (tCons (tOp rAddS (tVar 7) (tC (V.str (Str.ofString "r")))) (tCons (tOp (rIxT K) (tDGet (tVar 1) (tVar 8)) (tC (V.int 2))) tNil)))) tNil)))) (gName 9))) (tAsg (tVar 9) (gName 3)))))
    (fun i => [.dat hd, .dat md, .dat (.int (n : Int)), .dat (.list ((lineR modes f b i).map encT)), .own (rowsR modes f b i), .un, .un, .un, .un, .un])
    (di_rng1 (n := (n : Int)) (da_cons (dv_var rfl) da_nil) (by omega) (by omega)) (.eq (.eq (.eq (.eq (.eq (.un (.un (.un (.un (.un .nil)))))))))) fun i d hd' => by
      obtain ⟨hi, rfl⟩ := rngD_get hd'
      have nm := lineR_names ok hf hb i
      refine ⟨_, _, dg_name, ?_⟩
      have comp := dv_lcM (C := Cf.pure K T) (s := ()) (s1 := ()) (env := [.dat hd, .dat md, .dat (.int (n : Int)), .dat (.list ((lineR modes f b i).map encT)), .own (rowsR modes f b i), .dat (.int (0 + (i : Int))), .un, .un, .un, .un]) (wi := iList K (tVar 3)) (tt := tYes) (vs := [6, 7, 8]) (g := gTup K 3 (gCons (gName 6) (gCons (gName 7) (gCons (gName 8) gNil))))
        (te := tTup (tCons (tVar 6) (tCons (tVar 7) (tCons (tOp (rIxT K) (tDGet (tVar 1) (tVar 8)) (tC (V.int 0))) tNil)))) (lineR modes f b i) encT (encRw modes) (di_list (dv_var rfl) rfl) rfl (by have := lz i (by omega); omega) rfl fun x hx =>
          ⟨_, _, dg_tup (dgs_cons dg_name (dgs_cons dg_name (dgs_cons dg_name dgs_nil))) rfl, by decide, _, dv_tup (da_cons (dv_var rfl) (da_cons (dv_var rfl) (da_cons (dv_op (getM rfl rfl (nm x hx).1) dv_int (rop_ixT (d := .bool (mAt modes x.2.2).2.1) rfl)) da_nil))) (.cons rfl (.cons rfl (.cons rfl .nil))) (Nat.le_of_ble_eq_true rfl), rfl⟩
      refine goes_nxW (tr_seq (tr_app (C := Cf.pure K T) (i := 4) rfl comp rfl (by simp [rowsR]; omega)) ?_) (env2 := [.dat hd, .dat md, .dat (.int (n : Int)), .dat (.list ((lineR modes f b (i + 1)).map encT)), .own (rowsR modes f b (i + 1)), .dat (.int (0 + (i : Int))), .un, .un, .un, .dat (.list ((lineR modes f b (i + 1)).map encT))]) (.eq (.eq (.eq (.eq (.eq (.un (.un (.un (.un (.un .nil))))))))))
      have er : rowsR modes f b i ++ [.list ((lineR modes f b i).map (encRw modes))] = rowsR modes f b (i + 1) := by
        unfold rowsR
        rw [List.range_succ, List.map_append]
        rfl
      show Tr (Cf.pure K T) _ [.dat hd, .dat md, .dat (.int (n : Int)), .dat (.list ((lineR modes f b i).map encT)), .own (rowsR modes f b i ++ [.list ((lineR modes f b i).map (encRw modes))]), .dat (.int (0 + (i : Int))), .un, .un, .un, .un] () _
      rw [er]
      refine tr_seq (tr_asg (dv_lst da_nil .nil (Nat.zero_le _))) ?_
      have inner := tr_for0 (C := Cf.pure K T) (s := ()) (s1 := ()) (env := [.dat hd, .dat md, .dat (.int (n : Int)), .dat (.list ((lineR modes f b i).map encT)), .own (rowsR modes f b (i + 1)), .dat (.int (0 + (i : Int))), .un, .un, .un, .own []]) (g := gTup K 3 (gCons (gName 6) (gCons (gName 7) (gCons (gName 8) gNil)))) (ds := (lineR modes f b i).map encT) (wi := iList K (tVar 3))
        (p := tAsg (tOp rCat (tVar 9) (tLst (tCons (tTup (tCons (tVar 6) (tCons (tOp rAddS (tVar 7) (tC (V.str (Str.ofString "l")))) (tCons (tOp (rIxT K) (tDGet (tVar 1) (tVar 8)) (tC (V.int 1))) tNil)))) (tCons (tTup (tCons (tVar 6) (tCons (tOp rAddS (tVar 7) (tC (V.str (Str.ofString "r")))) (tCons (tOp (rIxT K) (tDGet (tVar 1) (tVar 8)) (tC (V.int 2))) tNil)))) tNil)))) (gName 9))
        (fun j => [.dat hd, .dat md, .dat (.int (n : Int)), .dat (.list ((lineR modes f b i).map encT)), .own (rowsR modes f b (i + 1)), .dat (.int (0 + (i : Int))), .un, .un, .un, .own ((((lineR modes f b i).take j).flatMap (expandE modes)).map encT)])
        (di_list (dv_var rfl) rfl) (.eq (.eq (.eq (.eq (.eq (.eq (.un (.un (.un (.eq .nil)))))))))) fun j d hj => by
          rw [List.getElem?_map] at hj
          cases hx : (lineR modes f b i)[j]? with
          | none =>
            rw [hx] at hj
            cases hj
          | some x =>
            rw [hx] at hj
            cases hj
            obtain ⟨x1, x2⟩ := nm x (List.mem_of_getElem? hx)
            have hjl : j < (lineR modes f b i).length := (List.getElem?_eq_some_iff.mp hx).1
            have lzi := lz i (by omega)
            refine ⟨_, _, dg_tup (dgs_cons dg_name (dgs_cons dg_name (dgs_cons dg_name dgs_nil))) rfl, ?_⟩
            have wl : (wayS x.2.1).length ≤ 8 := by rw [wayS_len, x2]; omega
            have l1 : (Str.ofString "l").length = 1 := rfl
            have l2 : (Str.ofString "r").length = 1 := rfl
            have sz : ((((lineR modes f b i).take j).flatMap (expandE modes)).map encT).length ≤ 1024 := by
              rw [List.length_map, List.length_flatMap]
              have e : ((lineR modes f b i).take j).map (fun x => (expandE modes x).length) = ((lineR modes f b i).take j).map (fun _ => 2) := List.map_congr_left fun _ _ => rfl
              rw [e, List.map_const', List.sum_replicate_nat, List.length_take]
              omega
            refine goes_nxW (tr_asg (C := Cf.pure K T) (dv_op (dv_bor rfl) (dv_lst (da_cons (dv_tup (da_cons (dv_var rfl) (da_cons (dv_op (dv_var rfl) (dv_c fun _ => .str _) (rop_addS (by rw [l1]; omega))) (da_cons (dv_op (getM rfl rfl x1) dv_int (rop_ixT (d := .str (mAt modes x.2.2).2.2.1) rfl)) da_nil))) (.cons rfl (.cons rfl (.cons rfl .nil))) (Nat.le_of_ble_eq_true rfl)) (da_cons (dv_tup (da_cons (dv_var rfl) (da_cons (dv_op (dv_var rfl) (dv_c fun _ => .str _) (rop_addS (by rw [l2]; omega))) (da_cons (dv_op (getM rfl rfl x1) dv_int (rop_ixT (d := .str (mAt modes x.2.2).2.2.2) rfl)) da_nil))) (.cons rfl (.cons rfl (.cons rfl .nil))) (Nat.le_of_ble_eq_true rfl)) da_nil)) (.cons rfl (.cons rfl .nil)) (Nat.le_of_ble_eq_true rfl)) (rop_cat rfl rfl (by
                show _ + 2 ≤ 100000
                omega)))) ?_
            refine .eq (.eq (.eq (.eq (.eq (.eq (.un (.un (.un (.eqv ?_ .nil)))))))))
            rw [List.take_add_one, hx, List.flatMap_append, List.map_append]
            show B.own (_ ++ [PyData.tuple [.str x.1, .str (wayS x.2.1 ++ Str.ofString "l"), _], PyData.tuple [.str x.1, .str (wayS x.2.1 ++ Str.ofString "r"), _]]) = B.own (_ ++ [encT _, encT _])
            unfold encT
            rw [wayS_snoc, wayS_snoc]
            rfl
      rw [List.length_map, List.take_length] at inner
      refine tr_seq inner (tr_freeze (i := 9) rfl (tr_nxE (tr_asg (dv_var rfl)) ?_ rfl))
      rfl
  rw [rngD_len] at lp
  refine tr_seq lp (tr_freeze (i := 4) rfl (tr_ret (dv_var rfl)))
/-! ### far counts -/
def farV (modes : List Mode) : Nat → Str → Int
  | 0, x => b2n (mAt modes x).2.1
  | n + 1, x => farV modes n (mAt modes x).2.2.1 + farV modes n (mAt modes x).2.2.2
def farD (modes : List Mode) (f : Str → Int) : List (Key × PyData) := modes.map fun m => (.inr m.1, .int (f m.1))
theorem farD_val {modes : List Mode} (f : Str → Int) {x : Str} (h : x ∈ modes.map (·.1)) : valD (farD modes f) (.inr x) = some (.int (f x)) := by
  have e : ∀ ms : List Mode, valD (farD ms f) (.inr x) = (ms.find? fun m => decide (m.1 = x)).map fun m => .int (f m.1) := fun ms => by
    induction ms with
    | nil => rfl
    | cons m ms ih =>
      show valD ((.inr m.1, .int (f m.1)) :: farD ms f) (.inr x) = _
      rw [valD_cons, List.find?_cons]
      by_cases h : m.1 = x
      · rw [if_pos (by rw [h]), decide_eq_true h]
        rfl
      · rw [if_neg fun z => h (Sum.inr.inj z), decide_eq_false h]
        exact ih
  obtain ⟨m, e2, _, e3⟩ := find_some h
  rw [e, e2]
  show some (PyData.int (f m.1)) = _
  rw [e3]
def spFar (ds : List PyData) (r : B) : Prop := ∃ (modes : List Mode) (x : Str) (n : Nat), ds = [mdD modes, .str x, .int (n : Int)] ∧ ModesOk modes ∧ x ∈ modes.map (·.1) ∧ n ≤ 1000 ∧ r = .dat (.int (farV modes n x))
theorem tr_far (hN : N.length = 6) (h : spFar ds r) : Tr (Cf.pure K T) (farTs K) (initE N ds) () (.rt r ()) := by
  obtain ⟨modes, x, n, rfl, ok, hx, hn, rfl⟩ := h
  refine init_eq hN ?_
  obtain ⟨md, emd⟩ : ∃ md, md = mdD modes := ⟨_, rfl⟩
  rw [← emd]
  show Tr (Cf.pure K T) (farTs K) [.dat md, .dat (.str x), .dat (.int (n : Int)), .un, .un, .un] () _
  have getM : ∀ {C : Cf} {env : Env} {s : C.w.S} {i : Nat} {x : Str}, env[0]? = some (.dat md) → env[i]? = some (.dat (.str x)) → x ∈ modes.map (·.1) → Dv C (tDGet (tVar 0) (tVar i)) env s (.dat (rowM (mAt modes x))) s := fun h1 h2 hx =>
    dv_dgetF (k := .inr _) (q := dictM modes) (dv_var (by rw [h1, emd]; rfl)) (dv_var h2) (valM_at hx)
  have keys : ∀ {env : Env}, env[0]? = some (.dat md) → Di (Cf.pure K T) (iKeys (tVar 0)) env () (modes.map fun m => .str m.1) () := fun {env} h => by
    have q := di_keysF (C := Cf.pure K T) (env := env) (s := ()) (td := tVar 0) (q := encD (dictM modes)) (dv_var (by rw [h, emd]; rfl))
    rw [dictM_keys] at q
    exact q
  have z1 : modes.length ≤ 100000 := by have := ok.z; omega
  have nd : ∀ f, ((farD modes f).map (·.1)).Nodup := fun f => by
    unfold farD
    rw [List.map_map]
    have h : ((modes.map (·.1)).map (Sum.inr : Str → Key)).Nodup := List.Pairwise.map (S := (· ≠ ·)) Sum.inr (fun _ _ z w => z (Sum.inr.inj w)) ok.nd
    rw [List.map_map] at h
    exact h
  have en : ∀ f, (modes.map fun m => PyData.tuple [.str m.1, .int (f m.1)]) = (farD modes f).map pairK := fun f => by
    unfold farD
    rw [List.map_map]
    rfl
  refine tr_seq (tr_asg (dv_dictP (C := Cf.pure K T) (l := farD modes (farV modes 0)) (dv_lcM (C := Cf.pure K T) (s1 := ()) modes (fun m => .str m.1) (fun m => .tuple [.str m.1, .int (farV modes 0 m.1)]) (keys rfl) rfl z1 rfl fun m hm => ⟨_, _, dg_name, by decide, _, dv_tup (da_cons (dv_var rfl) (da_cons (dv_cb (da_cons (dv_op (getM rfl rfl (List.mem_map_of_mem (f := (·.1)) hm)) dv_int (rop_ixT (d := .bool (mAt modes m.1).2.1) rfl)) da_nil) rcb_intB) da_nil)) (.cons rfl (.cons rfl .nil)) (Nat.le_of_ble_eq_true rfl), rfl⟩) (by
      show some (PyData.list _) = _
      rw [en]) (nd _))) ?_
  have lp := tr_for0 (C := Cf.pure K T) (s1 := ()) (env := [.dat md, .dat (.str x), .dat (.int (n : Int)), .odk (farD modes (farV modes 0)), .un, .un]) (g := gName 4) (ds := rngD 0 n) (wi := iRng1 (tCons (tVar 2) tNil))
    (p := tAsg (tCB (rDictP K) (tCons (tLc (iKeys (tVar 0)) (gName 5) tYes (tTup (tCons (tVar 5) (tCons (tOp (rI0 fun i j => V.int (i + j)) (tDGet (tVar 3) (tOp (rIxT K) (tDGet (tVar 0) (tVar 5)) (tC (V.int 1)))) (tDGet (tVar 3) (tOp (rIxT K) (tDGet (tVar 0) (tVar 5)) (tC (V.int 2))))) tNil))) [5]) tNil)) (gName 3))
    (fun i => [.dat md, .dat (.str x), .dat (.int (n : Int)), .odk (farD modes (farV modes i)), .un, .un])
    (di_rng1 (n := (n : Int)) (da_cons (dv_var rfl) da_nil) (by omega) (by omega)) (Wks.refl _) fun i d hd' => by
      obtain ⟨hi, rfl⟩ := rngD_get hd'
      refine ⟨_, _, dg_name, ?_⟩
      refine goes_nxW (tr_asg (dv_dictP (C := Cf.pure K T) (l := farD modes (farV modes (i + 1))) (dv_lcM (C := Cf.pure K T) (s1 := ()) modes (fun m => .str m.1) (fun m => .tuple [.str m.1, .int (farV modes (i + 1) m.1)]) (keys rfl) rfl z1 rfl fun m hm => ?_) (by
        show some (PyData.list _) = _
        rw [en]) (nd _))) (.eq (.eq (.eq (.eq (.un (.un .nil))))))
      have hm2 := List.mem_map_of_mem (f := (·.1)) hm
      have cl := ok.cl _ (mAt_mem hm2).1
      refine ⟨_, _, dg_name, by decide, _, dv_tup (da_cons (dv_var rfl) (da_cons (dv_op (dv_dget (k := .inr _) (dv_bdk rfl) rfl (dv_op (getM rfl rfl hm2) dv_int (rop_ixT (d := .str (mAt modes m.1).2.2.1) rfl)) (farD_val _ cl.1)) (dv_dget (k := .inr _) (dv_bdk rfl) rfl (dv_op (getM rfl rfl hm2) dv_int (rop_ixT (d := .str (mAt modes m.1).2.2.2) rfl)) (farD_val _ cl.2)) rop_II) da_nil)) (.cons rfl (.cons rfl .nil)) (Nat.le_of_ble_eq_true rfl), rfl⟩
  rw [rngD_len] at lp
  exact tr_seq lp (tr_ret (dv_dget (k := .inr x) (dv_bdk rfl) rfl (dv_var rfl) (farD_val _ hx)))
end
end DV
set_option maxHeartbeats 1000000
namespace DV
open PySem PySem.Spec PyProof.Rows L2 LamX NdefX
open PySem.W (AlikeAll dataLt alike alikeAll)
/-! ### lots by tops and bottoms modulo a number: edges -/
theorem lay_tupI (e : List Int) : (tupI e).canLay0 = true ∧ (tupI e).depth ≤ 60 := by
  have h1 : ∀ d ∈ e.map PyData.int, d.canLay0 = true := fun d hd => by
    obtain ⟨i, _, rfl⟩ := List.mem_map.mp hd
    simp [PyData.canLay0]
  have h2 : ∀ d ∈ e.map PyData.int, d.depth ≤ 50 := fun d hd => by
    obtain ⟨i, _, rfl⟩ := List.mem_map.mp hd
    simp [PyData.depth]
  have h3 := depthAll_of h2
  unfold tupI
  simp only [PyData.canLay0, PyData.depth]
  exact ⟨layAll_of h1, by omega⟩
theorem sh_of {d : PyData} (h : d.canLay0 = true ∧ d.depth ≤ 60) : SeqAt.shaped d = true := by
  show (PyData.canLay0 d && decide (PyData.depth d ≤ 64)) = true
  rw [Bool.and_eq_true]
  exact ⟨h.1, decide_eq_true (by omega)⟩
theorem sh_tupI (e : List Int) : SeqAt.shaped (tupI e) = true := sh_of (lay_tupI e)
theorem sh_tups (l : List (List Int)) : SeqAt.shaped (.list (l.map tupI)) = true := shaped_list fun d hd => by
  obtain ⟨e, _, rfl⟩ := List.mem_map.mp hd
  exact lay_tupI e
theorem alike_ints : ∀ a b : List Int, alikeAll (a.map .int) (b.map .int) = true
  | [], _ => by simp [alikeAll]
  | _ :: _, [] => by simp [alikeAll]
  | _ :: a, _ :: b => by
    simp only [List.map_cons, alikeAll, alike, Bool.true_and]
    exact alike_ints a b
theorem alike_tupI (a b : List Int) : alike (tupI a) (tupI b) = true := by
  unfold tupI
  simp only [alike]
  exact alike_ints a b
theorem alike_two (a b : List Int) : AlikeAll [tupI a, tupI b] := by
  refine ⟨fun x hx y hy => ?_, fun x hx z => ?_⟩
  · have h1 : x = tupI a ∨ x = tupI b := by simpa using hx
    have h2 : y = tupI a ∨ y = tupI b := by simpa using hy
    rcases h1 with rfl | rfl <;> rcases h2 with rfl | rfl <;> exact alike_tupI _ _
  · have h1 : x = tupI a ∨ x = tupI b := by simpa using hx
    rcases h1 with rfl | rfl <;> cases z
def modI (many : Int) (e : List Int) : List Int := e.map fun n => n % many
def negI (many : Int) (e : List Int) : List Int := e.map fun n => (0 - n) % many
def keyE (many : Int) (e : List Int) : List Int := if dataLt (tupI (negI many e)) (tupI (modI many e)) then negI many e else modI many e
def spKey (ds : List PyData) (r : B) : Prop := ∃ (e : List Int) (many : Int), ds = [tupI e, .int many] ∧ 0 < many ∧ e.length ≤ 20 ∧ r = .dat (tupI (keyE many e))
def keyTs (K : PySem.W.Frag) : TS := tSeq (tAsg (tCB (rTupS K) (tCons (tLc (iTup K (tVar 0)) (gName 3) tYes (tOp (rI (fun x j => 0 < j) fun i j => V.int (i % j)) (tCB rInt1 (tCons (tVar 3) tNil)) (tVar 1)) [3]) tNil)) (gName 2)) (tRet (tCB (rMin2D K) (tCons (tVar 2) (tCons (tCB (rTupS K) (tCons (tLc (iTup K (tVar 0)) (gName 3) tYes (tOp (rI (fun x j => 0 < j) fun i j => V.int (i % j)) (tCB rInt1 (tCons (tOp (rI0 fun i j => V.int (i - j)) (tC (V.int 0)) (tVar 3)) tNil)) (tVar 1)) [3]) tNil)) tNil))))
section
variable {K : PySem.W.Frag} {T : List NTab} {ds : List PyData} {r : B} {N : List Str}
theorem tr_key (hN : N.length = 4) (h : spKey ds r) : Tr (Cf.pure K T) (keyTs K) (initE N ds) () (.rt r ()) := by
  obtain ⟨e, many, rfl, hm, hl, rfl⟩ := h
  refine init_eq hN ?_
  show Tr (Cf.pure K T) (keyTs K) [.dat (tupI e), .dat (.int many), .un, .un] () _
  have l1 := dv_lcM (C := Cf.pure K T) (s1 := ()) (env := [.dat (tupI e), .dat (.int many), .un, .un]) (wi := iTup K (tVar 0)) (g := gName 3) (tt := tYes) (te := tOp (rI (fun x j => 0 < j) fun i j => V.int (i % j)) (tCB rInt1 (tCons (tVar 3) tNil)) (tVar 1)) (vs := [3]) e .int (fun n => .int (n % many)) (di_tup (dv_var rfl)) rfl (by omega) rfl
    fun n hn => ⟨_, _, dg_name, by decide, _, dv_op (dv_cb (da_cons (dv_var rfl) da_nil) rcb_intI) (dv_var rfl) (rop_IIc hm), rfl⟩
  have l2 := dv_lcM (C := Cf.pure K T) (s1 := ()) (env := [.dat (tupI e), .dat (.int many), .dat (tupI (modI many e)), .un]) (wi := iTup K (tVar 0)) (g := gName 3) (tt := tYes) (te := tOp (rI (fun x j => 0 < j) fun i j => V.int (i % j)) (tCB rInt1 (tCons (tOp (rI0 fun i j => V.int (i - j)) (tC (V.int 0)) (tVar 3)) tNil)) (tVar 1)) (vs := [3]) e .int (fun n => .int ((0 - n) % many)) (di_tup (dv_var rfl)) rfl (by omega) rfl
    fun n hn => ⟨_, _, dg_name, by decide, _, dv_op (dv_cb (da_cons (dv_op dv_int (dv_var rfl) rop_II) da_nil) rcb_intI) (dv_var rfl) (rop_IIc hm), rfl⟩
  have e1 : e.map (fun n => PyData.int (n % many)) = (modI many e).map .int := by
    unfold modI
    rw [List.map_map]
    rfl
  have e2 : e.map (fun n => PyData.int ((0 - n) % many)) = (negI many e).map .int := by
    unfold negI
    rw [List.map_map]
    rfl
  rw [e1] at l1
  rw [e2] at l2
  refine tr_seq (tr_asg (b := .dat (tupI (modI many e))) (dv_cb (da_cons l1 da_nil) (rcb_tupL rfl))) ?_
  refine tr_ret (dv_is (dv_cb (da_cons (dv_var (d := tupI (modI many e)) rfl) (da_cons (dv_cb (da_cons l2 da_nil) (rcb_tupL rfl)) da_nil)) (rcb_minD (d := tupI (modI many e)) (e := tupI (negI many e)) (noD_sh (sh_tupI _)) (noD_sh (sh_tupI _)) (alike_two _ _) (by
    have h1 := (lay_tupI (modI many e)).2
    have h2 := (lay_tupI (negI many e)).2
    simp only [PyData.depthAll]
    omega))) ?_)
  unfold keyE
  split <;> rfl
end
def startsE (many : Int) : List (List Int) := [keyE many [0, 1, 1, 0], keyE many [-1, 0, 0, 1]]
def midE : List Int → List Int
  | [a, b, c, d] => [a + c, b + d]
  | _ => []
def late0 (many : Int) : List Int → List Int
  | [a, b, c, d] => keyE many [a, b, a + c, b + d]
  | _ => []
def late1 (many : Int) : List Int → List Int
  | [a, b, c, d] => keyE many [a + c, b + d, c, d]
  | _ => []
def newE (line : List (List Int)) (e : List Int) : Bool := !((line.map tupI).any fun z => PyData.eqv z (tupI e))
def lineE (many : Int) : Nat → List (List Int)
  | 0 => startsE many
  | k + 1 => lineE many k ++ (twoS 3 (late0 many ((lineE many k).getD k [])) (late1 many ((lineE many k).getD k []))).filter (newE (lineE many k))
def lapsE (many : Int) : Nat := if many = 2 then 6 else 12
def edgesE (many : Int) : List (List Int) := lineE many (lapsE many)
def goodE (e : List Int) : Bool := e.length == 4 && e.all fun n => decide (0 ≤ n) && decide (n < 3)
/-- what is looked at by computation -/
def lapOk (many : Int) (k : Nat) : Bool :=
  let l := lineE many k
  let e := (edgesE many).getD k []
  decide (k < l.length) && decide (l.getD k [] = e) && goodE e && goodE (late0 many e) && goodE (late1 many e) && (decide (late0 many e = late1 many e) || decide (TS.code 3 (late0 many e) ≠ TS.code 3 (late1 many e))) && decide (l.length ≤ 20)
    && decide (nameE (late0 many e) ∈ (edgesE many).map nameE) && decide (nameE (late1 many e) ∈ (edgesE many).map nameE)
theorem laps_ok2 : (List.range 6).all (lapOk 2) = true := by decide +kernel
theorem laps_ok3 : (List.range 12).all (lapOk 3) = true := by decide +kernel
theorem ends_ok : ∀ many ∈ [(2 : Int), 3], (edgesE many).length = lapsE many ∧ ((edgesE many).map nameE).Nodup ∧ goodE (keyE many [0, 1, 1, 0]) = true ∧ goodE (keyE many [-1, 0, 0, 1]) = true ∧ nameE (keyE many [0, 1, 1, 0]) ∈ (edgesE many).map nameE ∧ nameE (keyE many [-1, 0, 0, 1]) ∈ (edgesE many).map nameE := by decide +kernel
theorem good_at {e : List Int} (h : goodE e = true) : e.length = 4 ∧ TS.Bd 3 e ∧ ∃ a b c d, e = [a, b, c, d] := by
  unfold goodE at h
  rw [Bool.and_eq_true, List.all_eq_true] at h
  have hl : e.length = 4 := by simpa using h.1
  refine ⟨hl, fun m hm => by simpa using h.2 m hm, ?_⟩
  match e, hl with
  | [a, b, c, d], _ => exact ⟨a, b, c, d, rfl⟩
structure LapOk (many : Int) (k : Nat) : Prop where
  lt : k < (lineE many k).length
  eq : (lineE many k).getD k [] = (edgesE many).getD k []
  g : goodE ((edgesE many).getD k []) = true
  g0 : goodE (late0 many ((edgesE many).getD k [])) = true
  g1 : goodE (late1 many ((edgesE many).getD k [])) = true
  ne : late0 many ((edgesE many).getD k []) = late1 many ((edgesE many).getD k []) ∨ TS.code 3 (late0 many ((edgesE many).getD k [])) ≠ TS.code 3 (late1 many ((edgesE many).getD k []))
  z : (lineE many k).length ≤ 20
  m0 : nameE (late0 many ((edgesE many).getD k [])) ∈ (edgesE many).map nameE
  m1 : nameE (late1 many ((edgesE many).getD k [])) ∈ (edgesE many).map nameE
theorem lap_ok {many : Int} (hm : many = 2 ∨ many = 3) {k : Nat} (hk : k < lapsE many) : LapOk many k := by
  have h : lapOk many k = true := by
    rcases hm with rfl | rfl
    · exact List.all_eq_true.mp laps_ok2 k (List.mem_range.mpr hk)
    · exact List.all_eq_true.mp laps_ok3 k (List.mem_range.mpr hk)
  unfold lapOk at h
  simp only [Bool.and_eq_true, Bool.or_eq_true, decide_eq_true_eq] at h
  obtain ⟨⟨⟨⟨⟨⟨⟨⟨h1, h2⟩, h3⟩, h4⟩, h5⟩, h6⟩, h7⟩, h8⟩, h9⟩ := h
  exact ⟨h1, h2, h3, h4, h5, h6, h7, h8, h9⟩
end DV
set_option maxHeartbeats 2000000
namespace DV
open PySem PySem.Spec PyProof.Rows L2 LamX NdefX
/-! ### lots by tops and bottoms modulo a number: which are let -/
def pairAt (many : Int) (k : Nat) : List Int := [(k : Int) / many, (k : Int) % many]
def othAt (many : Int) (k : Nat) : List Int := [(0 - (k : Int) / many) % many, (0 - (k : Int) % many) % many]
noncomputable def letsAt (many : Int) (s : Src) : Nat → List (List Key × PyData) × Src
  | 0 => ([], s)
  | k + 1 => match valD (letsAt many s k).1 (keyL (othAt many k)) with
    | some d => (putD (letsAt many s k).1 (keyL (pairAt many k)) d, (letsAt many s k).2)
    | none => (putD (letsAt many s k).1 (keyL (pairAt many k)) (.bool (decide (pickV (letsAt many s k).2 2 = 0))), pickN (letsAt many s k).2 2)
theorem lets_put (many : Int) (s : Src) (k : Nat) : ∃ d, (letsAt many s (k + 1)).1 = putD (letsAt many s k).1 (keyL (pairAt many k)) d ∧ (valD (letsAt many s k).1 (keyL (othAt many k)) = some d ∨ ∃ b, d = .bool b) := by
  show ∃ d, (match valD (letsAt many s k).1 (keyL (othAt many k)) with
    | some d => (putD (letsAt many s k).1 (keyL (pairAt many k)) d, (letsAt many s k).2)
    | none => (putD (letsAt many s k).1 (keyL (pairAt many k)) (.bool (decide (pickV (letsAt many s k).2 2 = 0))), pickN (letsAt many s k).2 2)).1 = _ ∧ _
  cases h : valD (letsAt many s k).1 (keyL (othAt many k)) with
  | some d => exact ⟨d, rfl, .inl rfl⟩
  | none => exact ⟨_, rfl, .inr ⟨_, rfl⟩⟩
theorem lets_bool (many : Int) (s : Src) : ∀ (k : Nat) (x : List Key) (d : PyData), valD (letsAt many s k).1 x = some d → ∃ b, d = .bool b
  | 0, x, d, h => by cases h
  | k + 1, x, d, h => by
    obtain ⟨d2, e, h2⟩ := lets_put many s k
    rw [e, valD_put] at h
    split at h
    · cases h
      rcases h2 with h2 | h2
      · exact lets_bool many s k _ _ h2
      · exact h2
    · exact lets_bool many s k _ _ h
theorem lets_has (many : Int) (s : Src) : ∀ (k j : Nat), j < k → ∃ d, valD (letsAt many s k).1 (keyL (pairAt many j)) = some d
  | 0, j, h => absurd h (Nat.not_lt_zero j)
  | k + 1, j, h => by
    obtain ⟨d2, e, h2⟩ := lets_put many s k
    rw [e, valD_put]
    by_cases c : keyL (pairAt many j) = keyL (pairAt many k)
    · rw [if_pos c]
      exact ⟨_, rfl⟩
    · rw [if_neg c]
      have jk : j ≠ k := fun z => c (by rw [z])
      exact lets_has many s k j (by omega)
theorem lets_len (many : Int) (s : Src) : ∀ k, (letsAt many s k).1.length ≤ k
  | 0 => Nat.le_refl _
  | k + 1 => by
    obtain ⟨d2, e, _⟩ := lets_put many s k
    rw [e]
    exact Nat.le_trans (putD_len _ _ _) (Nat.succ_le_succ (lets_len many s k))
def yesL (L : List (List Key × PyData)) (x : List Int) : Bool := match valD L (keyL x) with
  | some (.bool b) => b
  | _ => false
noncomputable def modL (many : Int) (s : Src) : List (List Key × PyData) := (letsAt many s (many * many).toNat).1
noncomputable def modS (many : Int) (s : Src) : Src := (letsAt many s (many * many).toNat).2
theorem modL_val {many : Int} (hm : many = 2 ∨ many = 3) (s : Src) {i j : Int} (hi : 0 ≤ i ∧ i < many) (hj : 0 ≤ j ∧ j < many) : valD (modL many s) (keyL [i, j]) = some (.bool (yesL (modL many s) [i, j])) := by
  have e : pairAt many (i * many + j).toNat = [i, j] := by
    unfold pairAt
    rcases hm with rfl | rfl
    · rw [show (((i * 2 + j).toNat : Nat) : Int) / 2 = i by omega, show (((i * 2 + j).toNat : Nat) : Int) % 2 = j by omega]
    · rw [show (((i * 3 + j).toNat : Nat) : Int) / 3 = i by omega, show (((i * 3 + j).toNat : Nat) : Int) % 3 = j by omega]
  obtain ⟨d, hd⟩ := lets_has many s (many * many).toNat (i * many + j).toNat (by rcases hm with rfl | rfl <;> omega)
  rw [e] at hd
  obtain ⟨b, rfl⟩ := lets_bool many s _ _ _ hd
  unfold yesL modL
  rw [hd]
/-! the modes -/
def modeE (many : Int) (L : List (List Key × PyData)) (k : Nat) : Mode :=
  (nameE ((edgesE many).getD k []), yesL L (modI many (midE ((edgesE many).getD k []))), nameE (late0 many ((edgesE many).getD k [])), nameE (late1 many ((edgesE many).getD k [])))
def modsAt (many : Int) (L : List (List Key × PyData)) (k : Nat) : List Mode := (List.range k).map (modeE many L)
theorem ends_at {many : Int} (hm : many = 2 ∨ many = 3) : (edgesE many).length = lapsE many ∧ ((edgesE many).map nameE).Nodup ∧ goodE (keyE many [0, 1, 1, 0]) = true ∧ goodE (keyE many [-1, 0, 0, 1]) = true ∧ nameE (keyE many [0, 1, 1, 0]) ∈ (edgesE many).map nameE ∧ nameE (keyE many [-1, 0, 0, 1]) ∈ (edgesE many).map nameE :=
  ends_ok many (by rcases hm with rfl | rfl <;> simp)
theorem mods_names {many : Int} (hm : many = 2 ∨ many = 3) (L : List (List Key × PyData)) : (modsAt many L (lapsE many)).map (·.1) = (edgesE many).map nameE := by
  have l := (ends_at hm).1
  refine List.ext_getElem? fun i => ?_
  unfold modsAt
  rw [List.map_map, List.getElem?_map, List.getElem?_map]
  by_cases hi : i < lapsE many
  · rw [List.getElem?_range hi, List.getElem?_eq_getElem (by omega)]
    show some (nameE ((edgesE many).getD i [])) = some _
    rw [List.getD_eq_getElem?_getD, List.getElem?_eq_getElem (by omega)]
    rfl
  · rw [List.getElem?_eq_none (by simp; omega), List.getElem?_eq_none (by omega)]
    rfl
theorem mods_new {many : Int} (hm : many = 2 ∨ many = 3) (L : List (List Key × PyData)) {i : Nat} (hi : i < lapsE many) : valD (dictM (modsAt many L i)) (.inr (nameE ((edgesE many).getD i []))) = none := by
  rw [valM, Option.map_eq_none_iff, List.find?_eq_none]
  intro m hm2 z
  have z := of_decide_eq_true z
  unfold modsAt at hm2
  obtain ⟨j, hj, rfl⟩ := List.mem_map.mp hm2
  have hj := List.mem_range.mp hj
  obtain ⟨l, nd, _⟩ := ends_at hm
  have g : ∀ {a : Nat} (ha : a < lapsE many), nameE ((edgesE many).getD a []) = ((edgesE many).map nameE)[a]'(by simp; omega) := fun {a} ha => by
    rw [List.getElem_map, List.getD_eq_getElem?_getD, List.getElem?_eq_getElem (by omega)]
    rfl
  have z2 : nameE ((edgesE many).getD j []) = nameE ((edgesE many).getD i []) := z
  rw [g (show j < lapsE many by omega), g hi] at z2
  have := (List.getElem_inj nd).mp z2
  omega
theorem mods_ok {many : Int} (hm : many = 2 ∨ many = 3) (L : List (List Key × PyData)) : ModesOk (modsAt many L (lapsE many)) := by
  obtain ⟨l, nd, _⟩ := ends_at hm
  refine ⟨by rw [mods_names hm]; exact nd, fun m hm2 => ?_, ?_⟩
  · rw [mods_names hm]
    unfold modsAt at hm2
    obtain ⟨j, hj, rfl⟩ := List.mem_map.mp hm2
    have lo := lap_ok hm (List.mem_range.mp hj)
    exact ⟨lo.m0, lo.m1⟩
  · unfold modsAt
    rw [List.length_map, List.length_range]
    unfold lapsE
    split <;> omega
noncomputable def modM (many : Int) (s : Src) : List Mode := modsAt many (modL many s) (lapsE many)
noncomputable def modHd (many : Int) (s : Src) : PyData := headD (yesL (modL many s) [0, 1]) (yesL (modL many s) [1, 0]) (nameE (keyE many [0, 1, 1, 0])) (nameE (keyE many [-1, 0, 0, 1]))
def spModulo : SpS := fun a bs s r s' => ∃ many : Int, bs = [.val (.ref a), .dat (.int many)] ∧ (many = 2 ∨ many = 3) ∧ r = .pdk (modHd many s) (dictM (modM many s)) ∧ s' = modS many s
def moduloTs (K : PySem.W.Frag) (T : List NTab) : TS := tSeq (tAsg tDNewT (gName 2)) (tSeq (tFor (iRng1 (tCons (tOp (rI IntMulOk fun i j => V.int (i * j)) (tVar 1) (tVar 1)) tNil)) (gName 3) (tSeq (tPar 4 5 (tCons (tOp (rI CDivW fun i j => V.int (i / j)) (tVar 3) (tVar 1)) (tCons (tOp (rI (fun x j => 0 < j) fun i j => V.int (i % j)) (tCB rInt1 (tCons (tVar 3) tNil)) (tVar 1)) tNil))) (tSeq (tAsg (tTup (tCons (tOp (rI (fun x j => 0 < j) fun i j => V.int (i % j)) (tCB rInt1 (tCons (tOp (rI0 fun i j => V.int (i - j)) (tC (V.int 0)) (tVar 4)) tNil)) (tVar 1)) (tCons (tOp (rI (fun x j => 0 < j) fun i j => V.int (i % j)) (tCB rInt1 (tCons (tOp (rI0 fun i j => V.int (i - j)) (tC (V.int 0)) (tVar 5)) tNil)) (tVar 1)) tNil))) (gName 6)) (sDPut (tVar 2) (tTup (tCons (tVar 4) (tCons (tVar 5) tNil))) (tIf (tB (tDIn (tVar 6) (tVar 2))) (tDGet (tVar 2) (tVar 6)) (tOp (rEqD K) (tCall (PmS K T spPick) [] C8.E0 (tCons (tVar 0) (tCons (tC (V.int 2)) tNil))) (tC (V.int 0)))))))) (tSeq (tAsg (tLst (tCons (tCall (Pm K T spKey) [] C8.E0 (tCons (tTup (tCons (tC (V.int 0)) (tCons (tC (V.int 1)) (tCons (tC (V.int 1)) (tCons (tC (V.int 0)) tNil))))) (tCons (tVar 1) tNil))) (tCons (tCall (Pm K T spKey) [] C8.E0 (tCons (tTup (tCons (tUn (rU fun i => V.int (-i)) (tC (V.int 1))) (tCons (tC (V.int 0)) (tCons (tC (V.int 0)) (tCons (tC (V.int 1)) tNil))))) (tCons (tVar 1) tNil))) tNil))) (gName 7)) (tSeq (tAsg (tTup (tCons (tCB (rLstS K) (tCons (tVar 7) tNil)) (tCons tDNewK (tCons (tC (V.int 0)) tNil)))) (gTup K 3 (gCons (gName 8) (gCons (gName 9) (gCons (gName 3) gNil))))) (tSeq (tWhile (tTest (tOp (rI0 fun i j => V.bl (decide (i < j))) (tVar 3) (tCB (rLenS K) (tCons (tVar 8) tNil)))) (tSeq (tAsg (tOp (rIxL K) (tVar 8) (tVar 3)) (gTup K 4 (gCons (gName 10) (gCons (gName 11) (gCons (gName 12) (gCons (gName 13) gNil)))))) (tSeq (tAsg (tTup (tCons (tOp (rI0 fun i j => V.int (i + j)) (tVar 10) (tVar 12)) (tCons (tOp (rI0 fun i j => V.int (i + j)) (tVar 11) (tVar 13)) tNil))) (gName 14)) (tSeq (tAsg (tLst (tCons (tCall (Pm K T spKey) [] C8.E0 (tCons (tOp (rCatA K) (tTup (tCons (tVar 10) (tCons (tVar 11) tNil))) (tVar 14)) (tCons (tVar 1) tNil))) (tCons (tCall (Pm K T spKey) [] C8.E0 (tCons (tOp (rCatA K) (tVar 14) (tTup (tCons (tVar 12) (tCons (tVar 13) tNil)))) (tCons (tVar 1) tNil))) tNil))) (gName 15)) (tSeq (tAsg (tOp rCat (tVar 8) (tLc (iList K (tCB (rSortKD K 4 3) (tCons (tCB (rDictTD K) (tCons (tLc (iList K (tVar 15)) (gName 18) tYes (tTup (tCons (tVar 18) (tCons (tC (V.int 0)) tNil))) [18]) tNil)) tNil))) (gName 17) (tTest (tOp (rNotInD K) (tVar 17) (tVar 8))) (tVar 17) [17])) (gName 8)) (tSeq (tAsg (tDGet (tVar 2) (tTup (tCons (tOp (rI (fun x j => 0 < j) fun i j => V.int (i % j)) (tCB rInt1 (tCons (tOp (rIxT K) (tVar 14) (tC (V.int 0))) tNil)) (tVar 1)) (tCons (tOp (rI (fun x j => 0 < j) fun i j => V.int (i % j)) (tCB rInt1 (tCons (tOp (rIxT K) (tVar 14) (tC (V.int 1))) tNil)) (tVar 1)) tNil)))) (gName 16)) (tSeq (sDPut (tVar 9) (tCall (Pm K T spNamed) [] C8.E0 (tCons (tOp (rIxL K) (tVar 8) (tVar 3)) tNil)) (tTup (tCons (tVar 16) (tCons (tCall (Pm K T spNamed) [] C8.E0 (tCons (tOp (rIxL K) (tVar 15) (tC (V.int 0))) tNil)) (tCons (tCall (Pm K T spNamed) [] C8.E0 (tCons (tOp (rIxL K) (tVar 15) (tC (V.int 1))) tNil)) tNil))))) (tAsg (tOp (rI0 fun i j => V.int (i + j)) (tVar 3) (tC (V.int 1))) (gName 3))))))))) (tRet (tTup (tCons (tTup (tCons (tDGet (tVar 2) (tTup (tCons (tC (V.int 0)) (tCons (tC (V.int 1)) tNil)))) (tCons (tDGet (tVar 2) (tTup (tCons (tC (V.int 1)) (tCons (tC (V.int 0)) tNil)))) (tCons (tCall (Pm K T spNamed) [] C8.E0 (tCons (tOp (rIxL K) (tVar 7) (tC (V.int 0))) tNil)) (tCons (tCall (Pm K T spNamed) [] C8.E0 (tCons (tOp (rIxL K) (tVar 7) (tC (V.int 1))) tNil)) tNil))))) (tCons (tVar 9) tNil))))))))
theorem atI_nat {xs : List PyData} {i : Nat} {d : PyData} (h : xs[i]? = some d) : atI xs (i : Int) = some d := by
  unfold atI
  rw [ixN_nat (List.getElem?_eq_some_iff.mp h).1]
  exact h
theorem rop_eqI {C : Cf} {i j : Int} : Rop C (rEqD C.K) (.dat (.int i)) (.dat (.int j)) (.dat (.bool (decide (i = j)))) := rop_eqD (d := .int i) (e := .int j) rfl rfl rfl rfl
theorem rop_notInD {C : Cf} {x y : B} {d : PyData} {ds : List PyData} (hx : x.asD = some d) (hy : y.asD = some (.list ds)) (h1 : SeqAt.shaped d = true) (h2 : SeqAt.shaped (.list ds) = true) : Rop C (rNotInD C.K) x y (.dat (.bool (!ds.any fun z => PyData.eqv z d))) := fun H1 H2 F H v u s t m hv hu Q q =>
  ⟨d, ds, hv.asD s hx (noD_sh h1), hu.asD s hy (noD_sh h2), h1, h2, q _ F H (.refl s t) (.bl _)⟩
theorem lets_succ (many : Int) (s : Src) (k : Nat) : letsAt many s (k + 1) = match valD (letsAt many s k).1 (keyL (othAt many k)) with
    | some d => (putD (letsAt many s k).1 (keyL (pairAt many k)) d, (letsAt many s k).2)
    | none => (putD (letsAt many s k).1 (keyL (pairAt many k)) (.bool (decide (pickV (letsAt many s k).2 2 = 0))), pickN (letsAt many s k).2 2) := rfl
section
variable {K : PySem.W.Frag} {T : List NTab} {a l : Addr}
/-- the first loop -/
theorem tr_lets {many : Int} (hm : many = 2 ∨ many = 3) (s : Src) : Tr ⟨K, T, srcW a l⟩ (tFor (iRng1 (tCons (tOp (rI IntMulOk fun i j => V.int (i * j)) (tVar 1) (tVar 1)) tNil)) (gName 3) (tSeq (tPar 4 5 (tCons (tOp (rI CDivW fun i j => V.int (i / j)) (tVar 3) (tVar 1)) (tCons (tOp (rI (fun x j => 0 < j) fun i j => V.int (i % j)) (tCB rInt1 (tCons (tVar 3) tNil)) (tVar 1)) tNil))) (tSeq (tAsg (tTup (tCons (tOp (rI (fun x j => 0 < j) fun i j => V.int (i % j)) (tCB rInt1 (tCons (tOp (rI0 fun i j => V.int (i - j)) (tC (V.int 0)) (tVar 4)) tNil)) (tVar 1)) (tCons (tOp (rI (fun x j => 0 < j) fun i j => V.int (i % j)) (tCB rInt1 (tCons (tOp (rI0 fun i j => V.int (i - j)) (tC (V.int 0)) (tVar 5)) tNil)) (tVar 1)) tNil))) (gName 6)) (sDPut (tVar 2) (tTup (tCons (tVar 4) (tCons (tVar 5) tNil))) (tIf (tB (tDIn (tVar 6) (tVar 2))) (tDGet (tVar 2) (tVar 6)) (tOp (rEqD K) (tCall (PmS K T spPick) [] C8.E0 (tCons (tVar 0) (tCons (tC (V.int 2)) tNil))) (tC (V.int 0))))))))
    [.val (.ref a), .dat (.int many), .odt [], .un, .un, .un, .un, .un, .un, .un, .un, .un, .un, .un, .un, .un, .un, .un, .un] s
    (.nx [.val (.ref a), .dat (.int many), .odt (modL many s), .un, .un, .un, .un, .un, .un, .un, .un, .un, .un, .un, .un, .un, .un, .un, .un] (modS many s)) := by
  have mp : 0 < many := by omega
  have lp := tr_for (C := ⟨K, T, srcW a l⟩) (env := [.val (.ref a), .dat (.int many), .odt [], .un, .un, .un, .un, .un, .un, .un, .un, .un, .un, .un, .un, .un, .un, .un, .un]) (s := s) (g := gName 3) (ds := rngD 0 (many * many).toNat) (wi := iRng1 (tCons (tOp (rI IntMulOk fun i j => V.int (i * j)) (tVar 1) (tVar 1)) tNil)) (p := tSeq (tPar 4 5 (tCons (tOp (rI CDivW fun i j => V.int (i / j)) (tVar 3) (tVar 1)) (tCons (tOp (rI (fun x j => 0 < j) fun i j => V.int (i % j)) (tCB rInt1 (tCons (tVar 3) tNil)) (tVar 1)) tNil))) (tSeq (tAsg (tTup (tCons (tOp (rI (fun x j => 0 < j) fun i j => V.int (i % j)) (tCB rInt1 (tCons (tOp (rI0 fun i j => V.int (i - j)) (tC (V.int 0)) (tVar 4)) tNil)) (tVar 1)) (tCons (tOp (rI (fun x j => 0 < j) fun i j => V.int (i % j)) (tCB rInt1 (tCons (tOp (rI0 fun i j => V.int (i - j)) (tC (V.int 0)) (tVar 5)) tNil)) (tVar 1)) tNil))) (gName 6)) (sDPut (tVar 2) (tTup (tCons (tVar 4) (tCons (tVar 5) tNil))) (tIf (tB (tDIn (tVar 6) (tVar 2))) (tDGet (tVar 2) (tVar 6)) (tOp (rEqD K) (tCall (PmS K T spPick) [] C8.E0 (tCons (tVar 0) (tCons (tC (V.int 2)) tNil))) (tC (V.int 0)))))))
    (fun k => [.val (.ref a), .dat (.int many), .odt (letsAt many s k).1, .un, .un, .un, .un, .un, .un, .un, .un, .un, .un, .un, .un, .un, .un, .un, .un]) (fun k => (letsAt many s k).2)
    (di_rng1 (n := many * many) (da_cons (dv_op (dv_var rfl) (dv_var rfl) (rop_IIc (mulS_r (by omega)))) da_nil) (by rcases hm with rfl | rfl <;> omega) (by rcases hm with rfl | rfl <;> omega)) (Wks.refl _) fun k d hd => by
      obtain ⟨hk, rfl⟩ := rngD_get hd
      rw [Int.zero_add]
      refine ⟨_, _, dg_name, ?_⟩
      have kb : k < 9 := by rcases hm with rfl | rfl <;> omega
      have cd : CDivW (k : Int) many := ⟨mp, Nat.lt_trans (log2_lt (k := 20) (by decide) (by rcases hm with rfl | rfl <;> decide)) (by decide)⟩
      have ll : (letsAt many s k).1.length < 100000 := by have := lets_len many s k; omega
      generalize hL : letsAt many s k = Lk at ll ⊢
      have pre : ∀ {d : PyData} {s2 : Src}, Dv ⟨K, T, srcW a l⟩ (tIf (tB (tDIn (tVar 6) (tVar 2))) (tDGet (tVar 2) (tVar 6)) (tOp (rEqD K) (tCall (PmS K T spPick) [] C8.E0 (tCons (tVar 0) (tCons (tC (V.int 2)) tNil))) (tC (V.int 0)))) [.val (.ref a), .dat (.int many), .odt Lk.1, .dat (.int (k : Int)), .dat (.int ((k : Int) / many)), .dat (.int ((k : Int) % many)), .key (keyL (othAt many k)), .un, .un, .un, .un, .un, .un, .un, .un, .un, .un, .un, .un] Lk.2 (.dat d) s2 →
          letsAt many s (k + 1) = (putD Lk.1 (keyL (pairAt many k)) d, s2) → Goes ⟨K, T, srcW a l⟩ (tSeq (tPar 4 5 (tCons (tOp (rI CDivW fun i j => V.int (i / j)) (tVar 3) (tVar 1)) (tCons (tOp (rI (fun x j => 0 < j) fun i j => V.int (i % j)) (tCB rInt1 (tCons (tVar 3) tNil)) (tVar 1)) tNil))) (tSeq (tAsg (tTup (tCons (tOp (rI (fun x j => 0 < j) fun i j => V.int (i % j)) (tCB rInt1 (tCons (tOp (rI0 fun i j => V.int (i - j)) (tC (V.int 0)) (tVar 4)) tNil)) (tVar 1)) (tCons (tOp (rI (fun x j => 0 < j) fun i j => V.int (i % j)) (tCB rInt1 (tCons (tOp (rI0 fun i j => V.int (i - j)) (tC (V.int 0)) (tVar 5)) tNil)) (tVar 1)) tNil))) (gName 6)) (sDPut (tVar 2) (tTup (tCons (tVar 4) (tCons (tVar 5) tNil))) (tIf (tB (tDIn (tVar 6) (tVar 2))) (tDGet (tVar 2) (tVar 6)) (tOp (rEqD K) (tCall (PmS K T spPick) [] C8.E0 (tCons (tVar 0) (tCons (tC (V.int 2)) tNil))) (tC (V.int 0))))))) ([.val (.ref a), .dat (.int many), .odt Lk.1, .dat (.int (k : Int)), .un, .un, .un, .un, .un, .un, .un, .un, .un, .un, .un, .un, .un, .un, .un]) Lk.2 [.val (.ref a), .dat (.int many), .odt (letsAt many s (k + 1)).1, .un, .un, .un, .un, .un, .un, .un, .un, .un, .un, .un, .un, .un, .un, .un, .un] (letsAt many s (k + 1)).2 := fun {d s2} hv e => by
        rw [e]
        refine goes_nxW (tr_seq (tr_par (da_cons (dv_op (dv_var rfl) (dv_var rfl) (rop_IIc cd)) (da_cons (dv_op (dv_cb (da_cons (dv_var rfl) da_nil) rcb_intI) (dv_var rfl) (rop_IIc mp)) da_nil)))
          (tr_seq (tr_asg (b := .key (keyL (othAt many k))) (dv_tupK (da_cons (dv_op (dv_cb (da_cons (dv_op dv_int (dv_var rfl) rop_II) da_nil) rcb_intI) (dv_var rfl) (rop_IIc mp)) (da_cons (dv_op (dv_cb (da_cons (dv_op dv_int (dv_var rfl) rop_II) da_nil) rcb_intI) (dv_var rfl) (rop_IIc mp)) da_nil)) (.int (.int .nil)) (Nat.le_of_ble_eq_true rfl)))
            (tr_tput (C := ⟨K, T, srcW a l⟩) (i := 2) (k := keyL (pairAt many k)) rfl hv rfl (dv_tupK (da_cons (dv_var rfl) (da_cons (dv_var rfl) da_nil)) (.int (.int .nil)) (Nat.le_of_ble_eq_true rfl)) ll))) ?_
        exact .eq (.eq (.eq (.un (.un (.un (.un (Wks.refl _)))))))
      cases hv : valD Lk.1 (keyL (othAt many k)) with
      | some d =>
        refine pre (d := d) (s2 := Lk.2) (dv_if (b := true) (dt_is (dt_B (dv_tin (C := ⟨K, T, srcW a l⟩) (q := Lk.1) (dv_varK rfl) (dv_bdt rfl) rfl)) (by rw [hv]; rfl)) (fun _ => dv_tget (C := ⟨K, T, srcW a l⟩) (dv_bdt rfl) rfl (dv_varK rfl) hv) fun z => by cases z) ?_
        rw [lets_succ, hL, hv]
      | none =>
        refine pre (d := .bool (decide (pickV Lk.2 2 = 0))) (s2 := pickN Lk.2 2) (dv_if (b := false) (dt_is (dt_B (dv_tin (C := ⟨K, T, srcW a l⟩) (q := Lk.1) (dv_varK rfl) (dv_bdt rfl) rfl)) (by rw [hv]; rfl)) (fun z => by cases z) fun _ => dv_op (C := ⟨K, T, srcW a l⟩) (pms_call (S := spPick) (r := .dat (.int (pickV Lk.2 2))) (da_cons (dv_val rfl) (da_cons dv_int da_nil)) (.val (.dat rfl .nil)) ⟨2, rfl, by omega, by omega, rfl, rfl⟩) dv_int rop_eqI) ?_
        rw [lets_succ, hL, hv]
  rw [rngD_len] at lp
  exact lp
end
end DV
set_option maxHeartbeats 2000000
namespace DV
open PySem PySem.Spec PyProof.Rows L2 LamX NdefX
theorem good_named {e : List Int} (h : goodE e = true) : spNamed [tupI e] (.dat (.str (nameE e))) := by
  obtain ⟨h1, h2, _⟩ := good_at h
  exact ⟨e, rfl, h1, h2, rfl⟩
theorem filterMap_if {α β : Type} (p : α → Bool) (f : α → β) : ∀ xs : List α, xs.filterMap (fun x => if p x = true then some (f x) else none) = (xs.filter p).map f
  | [] => rfl
  | x :: xs => by
    rw [List.filterMap_cons, List.filter_cons, filterMap_if p f xs]
    cases p x <;> rfl
theorem twoS_mem {B : Int} {x y e : List Int} (h : e ∈ twoS B x y) : e = x ∨ e = y := by
  unfold twoS at h
  split at h
  · exact .inl (List.mem_singleton.mp h)
  · split at h <;> simp at h
    · exact h
    · exact h.symm
section
variable {K : PySem.W.Frag} {T : List NTab} {a l : Addr}
def envW (a : Addr) (many : Int) (L : List (List Key × PyData)) (i : Nat) : Env := [.val (.ref a), .dat (.int many), .odt L, .dat (.int (i : Int)), .un, .un, .un, .dat (.list ((startsE many).map tupI)), .own ((lineE many i).map tupI), .odk (dictM (modsAt many L i)), .un, .un, .un, .un, .un, .un, .un, .un, .un]
theorem lap_mod {many : Int} (hm : many = 2 ∨ many = 3) {L : List (List Key × PyData)} (hL : ∀ i j : Int, (0 ≤ i ∧ i < many) → (0 ≤ j ∧ j < many) → valD L (keyL [i, j]) = some (.bool (yesL L [i, j]))) (s : Src) {i : Nat} (hi : i < lapsE many) :
    Goes ⟨K, T, srcW a l⟩ (tSeq (tAsg (tOp (rIxL K) (tVar 8) (tVar 3)) (gTup K 4 (gCons (gName 10) (gCons (gName 11) (gCons (gName 12) (gCons (gName 13) gNil)))))) (tSeq (tAsg (tTup (tCons (tOp (rI0 fun i j => V.int (i + j)) (tVar 10) (tVar 12)) (tCons (tOp (rI0 fun i j => V.int (i + j)) (tVar 11) (tVar 13)) tNil))) (gName 14)) (tSeq (tAsg (tLst (tCons (tCall (Pm K T spKey) [] C8.E0 (tCons (tOp (rCatA K) (tTup (tCons (tVar 10) (tCons (tVar 11) tNil))) (tVar 14)) (tCons (tVar 1) tNil))) (tCons (tCall (Pm K T spKey) [] C8.E0 (tCons (tOp (rCatA K) (tVar 14) (tTup (tCons (tVar 12) (tCons (tVar 13) tNil)))) (tCons (tVar 1) tNil))) tNil))) (gName 15)) (tSeq (tAsg (tOp rCat (tVar 8) (tLc (iList K (tCB (rSortKD K 4 3) (tCons (tCB (rDictTD K) (tCons (tLc (iList K (tVar 15)) (gName 18) tYes (tTup (tCons (tVar 18) (tCons (tC (V.int 0)) tNil))) [18]) tNil)) tNil))) (gName 17) (tTest (tOp (rNotInD K) (tVar 17) (tVar 8))) (tVar 17) [17])) (gName 8)) (tSeq (tAsg (tDGet (tVar 2) (tTup (tCons (tOp (rI (fun x j => 0 < j) fun i j => V.int (i % j)) (tCB rInt1 (tCons (tOp (rIxT K) (tVar 14) (tC (V.int 0))) tNil)) (tVar 1)) (tCons (tOp (rI (fun x j => 0 < j) fun i j => V.int (i % j)) (tCB rInt1 (tCons (tOp (rIxT K) (tVar 14) (tC (V.int 1))) tNil)) (tVar 1)) tNil)))) (gName 16)) (tSeq (sDPut (tVar 9) (tCall (Pm K T spNamed) [] C8.E0 (tCons (tOp (rIxL K) (tVar 8) (tVar 3)) tNil)) (tTup (tCons (tVar 16) (tCons (tCall (Pm K T spNamed) [] C8.E0 (tCons (tOp (rIxL K) (tVar 15) (tC (V.int 0))) tNil)) (tCons (tCall (Pm K T spNamed) [] C8.E0 (tCons (tOp (rIxL K) (tVar 15) (tC (V.int 1))) tNil)) tNil))))) (tAsg (tOp (rI0 fun i j => V.int (i + j)) (tVar 3) (tC (V.int 1))) (gName 3)))))))) (envW a many L i) s (envW a many L (i + 1)) s := by
  have mp : 0 < many := by omega
  have lo := lap_ok hm hi
  obtain ⟨e, he⟩ : ∃ e, e = (edgesE many).getD i [] := ⟨_, rfl⟩
  have hline : (lineE many i)[i]? = some e := by
    have h1 := lo.eq
    rw [List.getD_eq_getElem?_getD, List.getElem?_eq_getElem lo.lt] at h1
    rw [List.getElem?_eq_getElem lo.lt, he]
    exact congrArg some h1
  have hline2 : (lineE many (i + 1))[i]? = some e := by
    show (lineE many i ++ _)[i]? = _
    rw [List.getElem?_append_left lo.lt]
    exact hline
  have g := lo.g
  have g0 := lo.g0
  have g1 := lo.g1
  have hne := lo.ne
  have lz := lo.z
  have el : (lineE many i).getD i [] = e := by rw [he]; exact lo.eq
  have enm := mods_new hm L hi
  have em : modsAt many L (i + 1) = modsAt many L i ++ [modeE many L i] := by
    unfold modsAt
    rw [List.range_succ, List.map_append]
    rfl
  have eM : modeE many L i = (nameE e, yesL L (modI many (midE e)), nameE (late0 many e), nameE (late1 many e)) := by
    unfold modeE
    rw [← he]
  have enext : lineE many (i + 1) = lineE many i ++ (twoS 3 (late0 many e) (late1 many e)).filter (newE (lineE many i)) := by
    show lineE many i ++ (twoS 3 (late0 many ((lineE many i).getD i [])) (late1 many ((lineE many i).getD i []))).filter (newE (lineE many i)) = _
    rw [el]
  rw [← he] at g g0 g1 hne enm
  obtain ⟨_, _, b1, b2, b3, b4, eb⟩ := good_at g
  obtain ⟨x, hx⟩ : ∃ x, x = late0 many e := ⟨_, rfl⟩
  obtain ⟨y, hy⟩ : ∃ y, y = late1 many e := ⟨_, rfl⟩
  rw [← hx] at g0 hne eM enext
  rw [← hy] at g1 hne eM enext
  have hx2 : x = keyE many [b1, b2, b1 + b3, b2 + b4] := by rw [hx, eb]; rfl
  have hy2 : y = keyE many [b1 + b3, b2 + b4, b3, b4] := by rw [hy, eb]; rfl
  obtain ⟨lx, bx, _⟩ := good_at g0
  obtain ⟨ly, by', _⟩ := good_at g1
  have te : tupI e = .tuple [.int b1, .int b2, .int b3, .int b4] := by rw [eb]; rfl
  have mlen : (dictM (modsAt many L i)).length < 100000 := by
    unfold dictM modsAt
    rw [List.length_map, List.length_map, List.length_range]
    unfold lapsE at hi
    split at hi <;> omega
  unfold envW
  -- the edge
  refine goes_nxW (tr_seq (tr_asgT (d := .tuple [.int b1, .int b2, .int b3, .int b4]) (dv_op (C := ⟨K, T, srcW a l⟩) (dv_bor rfl) (dv_var rfl) (rop_ixL rfl (atI_nat (by rw [List.getElem?_map, hline]; exact congrArg some te)))) rfl (dg_tup (dgs_cons dg_name (dgs_cons dg_name (dgs_cons dg_name (dgs_cons dg_name dgs_nil)))) rfl)) ?_) (env2 := [.val (.ref a), .dat (.int many), .odt L, .dat (.int ((i : Int) + 1)), .un, .un, .un, .dat (.list ((startsE many).map tupI)), .own ((lineE many (i + 1)).map tupI), .odk (dictM (modsAt many L (i + 1))), .dat (.int b1), .dat (.int b2), .dat (.int b3), .dat (.int b4), .dat (.tuple [.int (b1 + b3), .int (b2 + b4)]), .dat (.list [tupI x, tupI y]), .dat (.bool (yesL L (modI many (midE e)))), .un, .un]) (.eq (.eq (.eq (.eqv (by rw [Int.natCast_add]; rfl) (.eq (.eq (.eq (.eq (.eq (.eq (.un (.un (.un (.un (.un (.un (.un (Wks.refl _))))))))))))))))))
  -- its middle
  refine tr_seq (tr_asg (b := .dat (.tuple [.int (b1 + b3), .int (b2 + b4)])) (dv_tup (C := ⟨K, T, srcW a l⟩) (da_cons (dv_op (dv_var rfl) (dv_var rfl) rop_II) (da_cons (dv_op (dv_var rfl) (dv_var rfl) rop_II) da_nil)) (.cons rfl (.cons rfl .nil)) (Nat.le_of_ble_eq_true rfl))) ?_
  -- the later ones
  refine tr_seq (tr_asgD (d := .list [tupI x, tupI y]) (dv_lst (C := ⟨K, T, srcW a l⟩) (da_cons (pm_call (C := ⟨K, T, srcW a l⟩) (S := spKey) (r := .dat (tupI x)) (da_cons (dv_op (dv_tup (da_cons (dv_var rfl) (da_cons (dv_var rfl) da_nil)) (.cons rfl (.cons rfl .nil)) (Nat.le_of_ble_eq_true rfl)) (dv_var rfl) (rop_catA (fun z => by cases z) (fun z => by cases z) (Nat.le_of_ble_eq_true rfl))) (da_cons (dv_var rfl) da_nil)) (.cons rfl (.cons rfl .nil)) ⟨[b1, b2, b1 + b3, b2 + b4], many, rfl, mp, Nat.le_of_ble_eq_true rfl, by rw [hx2]⟩ rfl)
      (da_cons (pm_call (C := ⟨K, T, srcW a l⟩) (S := spKey) (r := .dat (tupI y)) (da_cons (dv_op (dv_var rfl) (dv_tup (da_cons (dv_var rfl) (da_cons (dv_var rfl) da_nil)) (.cons rfl (.cons rfl .nil)) (Nat.le_of_ble_eq_true rfl)) (rop_catA (fun z => by cases z) (fun z => by cases z) (Nat.le_of_ble_eq_true rfl))) (da_cons (dv_var rfl) da_nil)) (.cons rfl (.cons rfl .nil)) ⟨[b1 + b3, b2 + b4, b3, b4], many, rfl, mp, Nat.le_of_ble_eq_true rfl, by rw [hy2]⟩ rfl) da_nil)) (.cons rfl (.cons rfl .nil)) (Nat.le_of_ble_eq_true rfl)) rfl) ?_
  -- the line
  obtain ⟨ev, hev⟩ : ∃ ev : Env, ev = [.val (.ref a), .dat (.int many), .odt L, .dat (.int (i : Int)), .un, .un, .un, .dat (.list ((startsE many).map tupI)), .own ((lineE many i).map tupI), .odk (dictM (modsAt many L i)), .dat (.int b1), .dat (.int b2), .dat (.int b3), .dat (.int b4), .dat (.tuple [.int (b1 + b3), .int (b2 + b4)]), .dat (.list [tupI x, tupI y]), .un, .un, .un] := ⟨_, rfl⟩
  have pairs := dv_lcM (C := ⟨K, T, srcW a l⟩) (s := s) (s1 := s) (env := ev) (wi := iList K (tVar 15)) (tt := tYes) (vs := [18]) (g := gName 18) (te := tTup (tCons (tVar 18) (tCons (tC (V.int 0)) tNil))) [x, y] tupI pairD (di_list (dv_var (by rw [hev]; rfl)) rfl) rfl (Nat.le_of_ble_eq_true rfl) rfl
    fun z hz => ⟨_, _, dg_name, by decide, _, dv_tup (da_cons (dv_var (d := tupI z) (by rw [hev]; rfl)) (da_cons dv_int da_nil)) (.cons rfl (.cons rfl .nil)) (Nat.le_of_ble_eq_true rfl), rfl⟩
  have srt := dv_sortTwo (C := ⟨K, T, srcW a l⟩) (d := 4) (Bn := 3) (x := x) (y := y) pairs rfl lx ly bx by' hne
  have two2 : (twoS 3 x y).length ≤ 2 := by
    unfold twoS
    split
    · exact Nat.le_of_ble_eq_true rfl
    · split <;> exact Nat.le_refl _
  have add := dv_lcF (C := ⟨K, T, srcW a l⟩) (s := s) (s1 := s) (env := ev) (wi := iList K (tCB (rSortKD K 4 3) (tCons (tCB (rDictTD K) (tCons (tLc (iList K (tVar 15)) (gName 18) tYes (tTup (tCons (tVar 18) (tCons (tC (V.int 0)) tNil))) [18]) tNil)) tNil))) (tt := tTest (tOp (rNotInD K) (tVar 17) (tVar 8))) (te := tVar 17) (vs := [17]) (g := gName 17)
    (twoS 3 x y) tupI (fun z => if newE (lineE many i) z = true then some (tupI z) else none) (di_list srt rfl) rfl (by omega) fun z hz => by
      refine ⟨_, _, dg_name, by decide, newE (lineE many i) z, dt_test (dv_op (dv_var (d := tupI z) (by rw [hev]; rfl)) (dv_bor (ds := (lineE many i).map tupI) (by rw [hev]; rfl)) (rop_notInD rfl rfl (sh_tupI z) (sh_tups _))), fun c => ⟨_, tupI z, dv_var (d := tupI z) (by rw [hev]; rfl), rfl, if_pos c⟩, fun c => if_neg (by rw [c]; decide)⟩
  rw [filterMap_if] at add
  have fl : ((twoS 3 x y).filter (newE (lineE many i))).length ≤ 2 := Nat.le_trans (List.length_filter_le _ _) two2
  have line := dv_op (C := ⟨K, T, srcW a l⟩) (dv_bor (i := 8) (ds := (lineE many i).map tupI) (by rw [hev]; rfl)) add (rop_cat rfl rfl (by rw [List.length_map, List.length_map]; omega))
  rw [← List.map_append, ← enext, hev] at line
  refine tr_seq (tr_asg line) ?_
  -- yes
  have mo : ∀ n : Int, 0 ≤ n % many ∧ n % many < many := fun n => ⟨Int.emod_nonneg _ (by omega), Int.emod_lt_of_pos _ mp⟩
  have my : modI many (midE e) = [(b1 + b3) % many, (b2 + b4) % many] := by rw [eb]; rfl
  refine tr_seq (tr_asg (b := .dat (.bool (yesL L (modI many (midE e))))) (dv_tget (C := ⟨K, T, srcW a l⟩) (k := keyL [(b1 + b3) % many, (b2 + b4) % many]) (dv_bdt rfl) rfl (dv_tupK (da_cons (dv_op (dv_cb (da_cons (dv_op (dv_var rfl) dv_int (rop_ixT (d := .int (b1 + b3)) rfl)) da_nil) rcb_intI) (dv_var rfl) (rop_IIc mp)) (da_cons (dv_op (dv_cb (da_cons (dv_op (dv_var rfl) dv_int (rop_ixT (d := .int (b2 + b4)) rfl)) da_nil) rcb_intI) (dv_var rfl) (rop_IIc mp)) da_nil)) (.int (.int .nil)) (Nat.le_of_ble_eq_true rfl)) (by rw [my]; exact hL _ _ (mo _) (mo _)))) ?_
  -- the mode
  refine tr_seq (tr_dput (C := ⟨K, T, srcW a l⟩) (i := 9) (k := .inr (nameE e)) (q := dictM (modsAt many L i)) rfl (dv_tup (da_cons (dv_var rfl) (da_cons (pm_call (C := ⟨K, T, srcW a l⟩) (S := spNamed) (r := .dat (.str (nameE x))) (da_cons (dv_op (dv_var rfl) dv_int (rop_ixL (d := tupI x) rfl rfl)) da_nil) (.cons rfl .nil) (good_named g0) rfl) (da_cons (pm_call (C := ⟨K, T, srcW a l⟩) (S := spNamed) (r := .dat (.str (nameE y))) (da_cons (dv_op (dv_var rfl) dv_int (rop_ixL (d := tupI y) rfl rfl)) da_nil) (.cons rfl .nil) (good_named g1) rfl) da_nil))) (.cons rfl (.cons rfl (.cons rfl .nil))) (Nat.le_of_ble_eq_true rfl)) rfl
      (pm_call (C := ⟨K, T, srcW a l⟩) (S := spNamed) (r := .dat (.str (nameE e))) (da_cons (dv_op (dv_bor (ds := (lineE many (i + 1)).map tupI) rfl) (dv_var rfl) (rop_ixL rfl (atI_nat (by rw [List.getElem?_map, hline2]; rfl)))) da_nil) (.cons rfl .nil) (good_named g) rfl) mlen) ?_
  have ed : putD (dictM (modsAt many L i)) (.inr (nameE e)) (.tuple [.bool (yesL L (modI many (midE e))), .str (nameE x), .str (nameE y)]) = dictM (modsAt many L (i + 1)) := by
    rw [putD_new _ enm, em, eM]
    unfold dictM
    rw [List.map_append]
    rfl
  rw [ed]
  exact tr_asg (dv_op (C := ⟨K, T, srcW a l⟩) (dv_var rfl) dv_int rop_II)
theorem tr_modulo {bs : List B} {s s' : Src} {r : B} {N : List Str} (hN : N.length = 19) (h : spModulo a bs s r s') : Tr ⟨K, T, srcW a l⟩ (moduloTs K T) (initB N bs) s (.rt r s') := by
  obtain ⟨many, rfl, hm, rfl, rfl⟩ := h
  have ei : initB N [.val (.ref a), .dat (.int many)] = [.val (.ref a), .dat (.int many), .un, .un, .un, .un, .un, .un, .un, .un, .un, .un, .un, .un, .un, .un, .un, .un, .un] := by
    unfold initB
    rw [hN]
    rfl
  rw [ei]
  have mp : 0 < many := by omega
  obtain ⟨nl, nd, ga, gb, ma, mb⟩ := ends_at hm
  have hL := fun i j => modL_val hm s (i := i) (j := j)
  refine tr_seq (tr_asg dv_dnewT) (tr_seq (tr_lets hm s) ?_)
  obtain ⟨L, eL⟩ : ∃ L, L = modL many s := ⟨_, rfl⟩
  obtain ⟨s1, es⟩ : ∃ s1, s1 = modS many s := ⟨_, rfl⟩
  have er : B.pdk (modHd many s) (dictM (modM many s)) = .pdk (headD (yesL L [0, 1]) (yesL L [1, 0]) (nameE (keyE many [0, 1, 1, 0])) (nameE (keyE many [-1, 0, 0, 1]))) (dictM (modsAt many L (lapsE many))) := by rw [eL]; rfl
  rw [er, ← es, ← eL]
  rw [← eL] at hL
  refine tr_seq (tr_asgD (d := .list ((startsE many).map tupI)) (dv_lst (C := ⟨K, T, srcW a l⟩) (da_cons (pm_call (C := ⟨K, T, srcW a l⟩) (S := spKey) (r := .dat (tupI (keyE many [0, 1, 1, 0]))) (da_cons (dv_tup (da_cons dv_int (da_cons dv_int (da_cons dv_int (da_cons dv_int da_nil)))) (.cons rfl (.cons rfl (.cons rfl (.cons rfl .nil)))) (Nat.le_of_ble_eq_true rfl)) (da_cons (dv_var rfl) da_nil)) (.cons rfl (.cons rfl .nil)) ⟨[0, 1, 1, 0], many, rfl, mp, Nat.le_of_ble_eq_true rfl, rfl⟩ rfl)
      (da_cons (pm_call (C := ⟨K, T, srcW a l⟩) (S := spKey) (r := .dat (tupI (keyE many [-1, 0, 0, 1]))) (da_cons (dv_tup (da_cons (dv_neg dv_int) (da_cons dv_int (da_cons dv_int (da_cons dv_int da_nil)))) (.cons rfl (.cons rfl (.cons rfl (.cons rfl .nil)))) (Nat.le_of_ble_eq_true rfl)) (da_cons (dv_var rfl) da_nil)) (.cons rfl (.cons rfl .nil)) ⟨[-1, 0, 0, 1], many, rfl, mp, Nat.le_of_ble_eq_true rfl, rfl⟩ rfl) da_nil)) (.cons rfl (.cons rfl .nil)) (Nat.le_of_ble_eq_true rfl)) rfl) ?_
  refine tr_seq (tr_tupN (C := ⟨K, T, srcW a l⟩) (is := [8, 9, 3]) (bs := [.own ((startsE many).map tupI), .odk [], .dat (.int 0)]) (da_cons (dv_cb (da_cons (dv_var rfl) da_nil) (rcb_listL rfl)) (da_cons dv_dnewK (da_cons dv_int da_nil))) rfl rfl (Nat.le_of_ble_eq_true rfl) rfl) ?_
  have lp := tr_while (C := ⟨K, T, srcW a l⟩) (s := s1) (env := envW a many L 0) (t := tTest (tOp (rI0 fun i j => V.bl (decide (i < j))) (tVar 3) (tCB (rLenS K) (tCons (tVar 8) tNil)))) (p := tSeq (tAsg (tOp (rIxL K) (tVar 8) (tVar 3)) (gTup K 4 (gCons (gName 10) (gCons (gName 11) (gCons (gName 12) (gCons (gName 13) gNil)))))) (tSeq (tAsg (tTup (tCons (tOp (rI0 fun i j => V.int (i + j)) (tVar 10) (tVar 12)) (tCons (tOp (rI0 fun i j => V.int (i + j)) (tVar 11) (tVar 13)) tNil))) (gName 14)) (tSeq (tAsg (tLst (tCons (tCall (Pm K T spKey) [] C8.E0 (tCons (tOp (rCatA K) (tTup (tCons (tVar 10) (tCons (tVar 11) tNil))) (tVar 14)) (tCons (tVar 1) tNil))) (tCons (tCall (Pm K T spKey) [] C8.E0 (tCons (tOp (rCatA K) (tVar 14) (tTup (tCons (tVar 12) (tCons (tVar 13) tNil)))) (tCons (tVar 1) tNil))) tNil))) (gName 15)) (tSeq (tAsg (tOp rCat (tVar 8) (tLc (iList K (tCB (rSortKD K 4 3) (tCons (tCB (rDictTD K) (tCons (tLc (iList K (tVar 15)) (gName 18) tYes (tTup (tCons (tVar 18) (tCons (tC (V.int 0)) tNil))) [18]) tNil)) tNil))) (gName 17) (tTest (tOp (rNotInD K) (tVar 17) (tVar 8))) (tVar 17) [17])) (gName 8)) (tSeq (tAsg (tDGet (tVar 2) (tTup (tCons (tOp (rI (fun x j => 0 < j) fun i j => V.int (i % j)) (tCB rInt1 (tCons (tOp (rIxT K) (tVar 14) (tC (V.int 0))) tNil)) (tVar 1)) (tCons (tOp (rI (fun x j => 0 < j) fun i j => V.int (i % j)) (tCB rInt1 (tCons (tOp (rIxT K) (tVar 14) (tC (V.int 1))) tNil)) (tVar 1)) tNil)))) (gName 16)) (tSeq (sDPut (tVar 9) (tCall (Pm K T spNamed) [] C8.E0 (tCons (tOp (rIxL K) (tVar 8) (tVar 3)) tNil)) (tTup (tCons (tVar 16) (tCons (tCall (Pm K T spNamed) [] C8.E0 (tCons (tOp (rIxL K) (tVar 15) (tC (V.int 0))) tNil)) (tCons (tCall (Pm K T spNamed) [] C8.E0 (tCons (tOp (rIxL K) (tVar 15) (tC (V.int 1))) tNil)) tNil))))) (tAsg (tOp (rI0 fun i j => V.int (i + j)) (tVar 3) (tC (V.int 1))) (gName 3)))))))) (lapsE many) (envW a many L) (Wks.refl _) (fun i hi => by
      unfold envW
      refine dt_is (dt_test (dv_op (dv_var rfl) (dv_cb (da_cons (dv_bor (ds := (lineE many i).map tupI) rfl) da_nil) (rcb_len rfl)) rop_IB)) ?_
      rw [List.length_map]
      by_cases c : i < lapsE many
      · have := (lap_ok hm c).lt
        rw [decide_eq_true c, decide_eq_true (by omega)]
      · have e : i = lapsE many := by omega
        subst e
        have e2 : (lineE many (lapsE many)).length = lapsE many := nl
        rw [decide_eq_false c, decide_eq_false (by omega)]) fun i hi => lap_mod hm (fun x y h1 h2 => hL x y h1 h2) s1 hi
  refine tr_seq lp ?_
  unfold envW
  exact tr_retP (C := ⟨K, T, srcW a l⟩) (j := 9) (dv_tup (da_cons (dv_tget (C := ⟨K, T, srcW a l⟩) (k := keyL [0, 1]) (dv_bdt rfl) rfl (dv_tupK (da_cons dv_int (da_cons dv_int da_nil)) (.int (.int .nil)) (Nat.le_of_ble_eq_true rfl)) (hL 0 1 (by omega) (by omega))) (da_cons (dv_tget (C := ⟨K, T, srcW a l⟩) (k := keyL [1, 0]) (dv_bdt rfl) rfl (dv_tupK (da_cons dv_int (da_cons dv_int da_nil)) (.int (.int .nil)) (Nat.le_of_ble_eq_true rfl)) (hL 1 0 (by omega) (by omega)))
      (da_cons (pm_call (C := ⟨K, T, srcW a l⟩) (S := spNamed) (r := .dat (.str (nameE (keyE many [0, 1, 1, 0])))) (da_cons (dv_op (dv_var rfl) dv_int (rop_ixL (d := tupI (keyE many [0, 1, 1, 0])) rfl rfl)) da_nil) (.cons rfl .nil) (good_named ga) rfl)
        (da_cons (pm_call (C := ⟨K, T, srcW a l⟩) (S := spNamed) (r := .dat (.str (nameE (keyE many [-1, 0, 0, 1])))) (da_cons (dv_op (dv_var rfl) dv_int (rop_ixL (d := tupI (keyE many [-1, 0, 0, 1])) rfl rfl)) da_nil) (.cons rfl .nil) (good_named gb) rfl) da_nil)))) (.cons rfl (.cons rfl (.cons rfl (.cons rfl .nil)))) (Nat.le_of_ble_eq_true rfl)) rfl rfl
end
end DV
set_option maxHeartbeats 1000000
/-! Re: list + list, whatever the lists are. -/
namespace DV
open PySem PySem.Spec PyProof.Rows L2 LamX NdefX
def rCatS (K : PySem.W.Frag) : R2 := fun x y H Q => ∃ l b xs zs, x = .ref l ∧ y = .ref b ∧ SqL K H l xs ∧ SqL K H b zs ∧ xs.length + zs.length ≤ sizeLine ∧ ∀ p, H p = none → Q (.ref p) (upd H p (.lst (xs ++ zs)))
section
variable {X : Cx}
theorem op_catS : OpR X (binaryOp .Add) (rCatS X.K) := by
  intro pins s σ H x y v u Q I rx ry h
  obtain ⟨l, b, xs, zs, rfl, rfl, hH, hB, hz, q⟩ := h
  cases rx
  cases ry
  obtain ⟨its, r, pl, z⟩ := I.list hH
  obtain ⟨its2, r2, pl2, z2⟩ := I.list hB
  obtain ⟨⟨cls, dd, data, sl⟩, n, ho, hc, _, hd⟩ := pl
  obtain ⟨⟨cls2, dd2, data2, sl2⟩, n2, ho2, hc2, _, hd2⟩ := pl2
  simp only at hc hd hc2 hd2
  subst hc hd hc2 hd2
  have e : its.toArray ++ its2.toArray = (its ++ its2).toArray := by simp
  have l1 := r.length
  have l2 := r2.length
  refine concat_meets ⟨_, ho, rfl⟩ ⟨_, ho2, rfl⟩ noFill_list_add seq_list_add PySem.F.slot_list_add PySem.F.entry_list_add (PySem.F.args_list_add_2 _ _) (list_addW l b its.toArray its2.toArray n n2 dd dd2 sl sl2 (by rw [List.size_toArray, List.size_toArray]; omega)) ⟨ho, ho2, ?_⟩
  rw [e]
  exact ⟨.ref _, _, I.lnew (t' := s.toks) (r.append r2) (by rw [List.length_append]; omega), rfl, q _ I.fresh⟩
theorem catS (K : PySem.W.Frag) (h : X.K = K := by rfl) : OpR X (binaryOp .Add) (rCatS K) := h ▸ op_catS
end
theorem rop_catS {C : Cf} {x y : B} {ds es : List PyData} (hx : x.lst = some ds) (hy : y.lst = some es) (n : ds.length + es.length ≤ 100000) : Rop C (rCatS C.K) x y (.own (ds ++ es)) := fun H1 H2 F H v u s t m hv hu Q q => by
  obtain ⟨a, xs, rfl, h1, h2⟩ := hv.lst s hx
  obtain ⟨c, ys, rfl, h3, h4⟩ := hu.lst s hy
  refine ⟨a, c, xs, ys, rfl, rfl, h1, h3, sz_of _ (by rw [dps_len h2, dps_len h4]; exact n), fun p hp => ?_⟩
  have e3 : C.ExtS F H F (upd H p (.lst (xs ++ ys))) := Ext.fresh s t hp
  exact q _ _ _ e3 ⟨p, _, rfl, hp, m p hp, (nothing_new (C := C) (extS (Ext.refl s t)) hp).2, upd_same, dps_app h2 h4⟩
end DV
set_option maxHeartbeats 2000000
namespace DV
open PySem PySem.Spec PyProof.Rows L2 LamX NdefX
/-! ### drawn lots -/
structure Drawn where
  z : Bool
  t : Bool
  f : Str
  b : Str
  modes : List Mode
  s : Src
structure Drawn.Ok (d : Drawn) : Prop where
  m : ModesOk d.modes
  hf : d.f ∈ d.modes.map (·.1)
  hb : d.b ∈ d.modes.map (·.1)
def Drawn.r (d : Drawn) : B := .pdk (headD d.z d.t d.f d.b) (dictM d.modes)
noncomputable def modD (many : Int) (s : Src) : Drawn := ⟨yesL (modL many s) [0, 1], yesL (modL many s) [1, 0], nameE (keyE many [0, 1, 1, 0]), nameE (keyE many [-1, 0, 0, 1]), modM many s, modS many s⟩
theorem modD_ok {many : Int} (hm : many = 2 ∨ many = 3) (s : Src) : (modD many s).Ok := by
  obtain ⟨_, _, _, _, ma, mb⟩ := ends_at hm
  refine ⟨mods_ok hm _, ?_, ?_⟩
  · show nameE _ ∈ (modsAt many (modL many s) (lapsE many)).map (·.1)
    rw [mods_names hm]
    exact ma
  · show nameE _ ∈ (modsAt many (modL many s) (lapsE many)).map (·.1)
    rw [mods_names hm]
    exact mb
/-- a drawn member of some texts -/
noncomputable def ofS (s : Src) (xs : List Str) : Str := xs.getD (pickV s xs.length).toNat (Str.ofString "")
theorem ofV_str (s : Src) {xs : List Str} (h : 1 ≤ xs.length) : ofV s (xs.map .str) = .str (ofS s xs) := by
  have q := pickV_lt s (many := (xs.length : Int)) (by omega)
  unfold ofV ofS
  rw [List.length_map, List.getD_eq_getElem?_getD, List.getD_eq_getElem?_getD, List.getElem?_map, List.getElem?_eq_getElem (by omega)]
  rfl
theorem ofS_mem (s : Src) {xs : List Str} (h : 1 ≤ xs.length) : ofS s xs ∈ xs := by
  have q := pickV_lt s (many := (xs.length : Int)) (by omega)
  unfold ofS
  rw [List.getD_eq_getElem?_getD, List.getElem?_eq_getElem (by omega)]
  exact List.getElem_mem _
/-- a drawn mode; p: how yes is drawn -/
noncomputable def drawM (many : Int) (p : Int → Bool) (s : Src) (name : Str) (some : List Str) : Mode × Src :=
  ((name, p (pickV s many), ofS (pickN s many) some, ofS (pickN (pickN s many) some.length) some), pickN (pickN (pickN s many) some.length) some.length)
def NM : List Str := [Str.ofString "s", Str.ofString "t", Str.ofString "u", Str.ofString "v"]
theorem NM_nd : NM.Nodup := by decide +kernel
def lastS (xs : List Str) : Str := xs.getD (xs.length - 1) (Str.ofString "")
def someL (names : List Str) (k : Nat) : List Str := names ++ [names.getD k (Str.ofString ""), lastS names]
noncomputable def lotAt (names : List Str) (s : Src) : Nat → List Mode × Src
  | 0 => ([], s)
  | k + 1 => ((lotAt names s k).1 ++ [(drawM 2 (fun v => decide (v = 0)) (lotAt names s k).2 (names.getD k (Str.ofString "")) (someL names k)).1], (drawM 2 (fun v => decide (v = 0)) (lotAt names s k).2 (names.getD k (Str.ofString "")) (someL names k)).2)
theorem lotAt_names (names : List Str) (s : Src) : ∀ k, k ≤ names.length → (lotAt names s k).1.map (·.1) = names.take k
  | 0, _ => rfl
  | k + 1, h => by
    show List.map (fun m : Mode => m.1) ((lotAt names s k).1 ++ [_]) = _
    rw [List.map_append, lotAt_names names s k (by omega), List.take_add_one, List.getElem?_eq_getElem (by omega)]
    show names.take k ++ [names.getD k (Str.ofString "")] = _
    rw [List.getD_eq_getElem?_getD, List.getElem?_eq_getElem (by omega)]
    rfl
theorem lastS_mem {xs : List Str} (h : 1 ≤ xs.length) : lastS xs ∈ xs := by
  unfold lastS
  rw [List.getD_eq_getElem?_getD, List.getElem?_eq_getElem (by omega)]
  exact List.getElem_mem _
theorem getD_mem {xs : List Str} {k : Nat} (h : k < xs.length) : xs.getD k (Str.ofString "") ∈ xs := by
  rw [List.getD_eq_getElem?_getD, List.getElem?_eq_getElem h]
  exact List.getElem_mem _
theorem someL_in {names : List Str} {k : Nat} (h : k < names.length) : ∀ x ∈ someL names k, x ∈ names := fun x hx => by
  rcases List.mem_append.mp hx with z | z
  · exact z
  · rcases List.mem_cons.mp z with z | z
    · rw [z]; exact getD_mem h
    · rw [List.mem_singleton.mp z]; exact lastS_mem (by omega)
theorem someL_len (names : List Str) (k : Nat) : (someL names k).length = names.length + 2 := by simp [someL]
theorem lotAt_to (names : List Str) (s : Src) : ∀ k, k ≤ names.length → ∀ m ∈ (lotAt names s k).1, m.2.2.1 ∈ names ∧ m.2.2.2 ∈ names
  | 0, _, m, hm => by cases hm
  | k + 1, h, m, hm => by
    rcases List.mem_append.mp (show m ∈ (lotAt names s k).1 ++ [_] from hm) with z | z
    · exact lotAt_to names s k (by omega) m z
    · rw [List.mem_singleton.mp z]
      have l : 1 ≤ (someL names k).length := by rw [someL_len]; omega
      exact ⟨someL_in (by omega) _ (ofS_mem _ l), someL_in (by omega) _ (ofS_mem _ l)⟩
noncomputable def lotNames (s : Src) : List Str := NM.take (1 + (pickV (pickN s 5) 4).toNat)
theorem lotNames_len (s : Src) : 1 ≤ (lotNames s).length ∧ (lotNames s).length ≤ 4 := by
  unfold lotNames
  rw [List.length_take]
  show 1 ≤ min _ 4 ∧ min _ 4 ≤ 4
  omega
theorem lotNames_nd (s : Src) : (lotNames s).Nodup := NM_nd.sublist (List.take_sublist _ _)
noncomputable def lotE (s : Src) : Drawn :=
  let names := lotNames s
  let p := lotAt names (pickN (pickN s 5) 4) names.length
  ⟨decide (pickV p.2 2 = 0), decide (pickV (pickN p.2 2) 2 = 0), names.getD 0 (Str.ofString ""), ofS (pickN (pickN p.2 2) 2) names, p.1, pickN (pickN (pickN p.2 2) 2) names.length⟩
theorem lotE_ok (s : Src) : (lotE s).Ok := by
  obtain ⟨l1, l2⟩ := lotNames_len s
  have nm : (lotE s).modes.map (·.1) = lotNames s := by
    show (lotAt (lotNames s) _ (lotNames s).length).1.map (·.1) = _
    rw [lotAt_names _ _ _ (Nat.le_refl _), List.take_length]
  refine ⟨⟨by rw [nm]; exact lotNames_nd s, fun m hm => ?_, ?_⟩, ?_, ?_⟩
  · rw [nm]
    exact lotAt_to _ _ _ (Nat.le_refl _) m hm
  · have : ((lotE s).modes.map (·.1)).length ≤ 60 := by rw [nm]; omega
    simpa using this
  · rw [nm]
    exact getD_mem (by omega)
  · rw [nm]
    exact ofS_mem _ l1
noncomputable def lotD (many : Int) (s : Src) : Drawn := if pickV s 5 < 2 then modD many (pickN s 5) else lotE s
theorem lotD_ok {many : Int} (hm : many = 2 ∨ many = 3) (s : Src) : (lotD many s).Ok := by
  unfold lotD
  split
  · exact modD_ok hm _
  · exact lotE_ok s
def spLawLot : SpS := fun a bs s r s' => ∃ many : Int, bs = [.val (.ref a), .dat (.int many)] ∧ (many = 2 ∨ many = 3) ∧ r = (lotD many s).r ∧ s' = (lotD many s).s
def lawLotTs (K : PySem.W.Frag) (T : List NTab) : TS := tSeq (tIfS (tTest (tOp (rI0 fun i j => V.bl (decide (i < j))) (tCall (PmS K T spPick) [] C8.E0 (tCons (tVar 0) (tCons (tC (V.int 5)) tNil))) (tC (V.int 2)))) (tRet (tCall (PmS K T spModulo) [] C8.E0 (tCons (tVar 0) (tCons (tVar 1) tNil)))) tNext) (tSeq (tPar 2 3 (tCons (tSl (rSlL K) (tLst (tCons (tC (V.str (Str.ofString "s"))) (tCons (tC (V.str (Str.ofString "t"))) (tCons (tC (V.str (Str.ofString "u"))) (tCons (tC (V.str (Str.ofString "v"))) tNil))))) tNoPart (tPart (tOp (rI0 fun i j => V.int (i + j)) (tC (V.int 1)) (tCall (PmS K T spPick) [] C8.E0 (tCons (tVar 0) (tCons (tC (V.int 4)) tNil)))))) (tCons tDNewK tNil))) (tSeq (tFor (iList K (tVar 2)) (gName 4) (tSeq (tAsg (tOp (rCatS K) (tVar 2) (tLst (tCons (tVar 4) (tCons (tOp (rIxL K) (tVar 2) (tUn (rU fun i => V.int (-i)) (tC (V.int 1)))) tNil)))) (gName 5)) (sDPut (tVar 3) (tVar 4) (tTup (tCons (tOp (rEqD K) (tCall (PmS K T spPick) [] C8.E0 (tCons (tVar 0) (tCons (tC (V.int 2)) tNil))) (tC (V.int 0))) (tCons (tCall (PmS K T spOf) [] C8.E0 (tCons (tVar 0) (tCons (tVar 5) tNil))) (tCons (tCall (PmS K T spOf) [] C8.E0 (tCons (tVar 0) (tCons (tVar 5) tNil))) tNil))))))) (tRet (tTup (tCons (tTup (tCons (tOp (rEqD K) (tCall (PmS K T spPick) [] C8.E0 (tCons (tVar 0) (tCons (tC (V.int 2)) tNil))) (tC (V.int 0))) (tCons (tOp (rEqD K) (tCall (PmS K T spPick) [] C8.E0 (tCons (tVar 0) (tCons (tC (V.int 2)) tNil))) (tC (V.int 0))) (tCons (tOp (rIxL K) (tVar 2) (tC (V.int 0))) (tCons (tCall (PmS K T spOf) [] C8.E0 (tCons (tVar 0) (tCons (tVar 2) tNil))) tNil))))) (tCons (tVar 3) tNil))))))
theorem dictM_new {ms : List Mode} {x : Str} (h : x ∉ ms.map (·.1)) : valD (dictM ms) (.inr x) = none := by
  rw [valM, Option.map_eq_none_iff, List.find?_eq_none]
  intro m hm z
  exact h (List.mem_map.mpr ⟨m, hm, of_decide_eq_true z⟩)
theorem dictM_put {ms : List Mode} {m : Mode} (h : m.1 ∉ ms.map (·.1)) : putD (dictM ms) (.inr m.1) (rowM m) = dictM (ms ++ [m]) := by
  rw [putD_new _ (dictM_new h)]
  unfold dictM
  rw [List.map_append]
  rfl
section
variable {K : PySem.W.Frag} {T : List NTab} {a l : Addr} {env : Env} {s s1 : Src}
/-- a pick, a drawn text, as they are asked for -/
theorem dv_pick {i : Nat} {many : Int} (hi : env[i]? = some (.val (.ref a))) (h1 : 1 ≤ many) (h2 : many ≤ 1000000) : Dv ⟨K, T, srcW a l⟩ (tCall (PmS K T spPick) [] C8.E0 (tCons (tVar i) (tCons (tC (V.int many)) tNil))) env s (.dat (.int (pickV s many))) (pickN s many) :=
  pms_call (S := spPick) (da_cons (dv_val hi) (da_cons dv_int da_nil)) (.val (.dat rfl .nil)) ⟨many, rfl, h1, h2, rfl, rfl⟩
theorem dv_pick0 {i : Nat} {many : Int} (hi : env[i]? = some (.val (.ref a))) (h1 : 1 ≤ many) (h2 : many ≤ 1000000) : Dv ⟨K, T, srcW a l⟩ (tOp (rEqD K) (tCall (PmS K T spPick) [] C8.E0 (tCons (tVar i) (tCons (tC (V.int many)) tNil))) (tC (V.int 0))) env s (.dat (.bool (decide (pickV s many = 0)))) (pickN s many) :=
  dv_op (C := ⟨K, T, srcW a l⟩) (dv_pick hi h1 h2) dv_int rop_eqI
theorem dv_ofS {i j : Nat} {xs : List Str} {b : B} (hi : env[i]? = some (.val (.ref a))) (hj : Dv ⟨K, T, srcW a l⟩ (tVar j) env s b s) (hb : b.toD = some (.list (xs.map .str))) (h1 : 1 ≤ xs.length) (h2 : xs.length ≤ 1000) : Dv ⟨K, T, srcW a l⟩ (tCall (PmS K T spOf) [] C8.E0 (tCons (tVar i) (tCons (tVar j) tNil))) env s (.dat (.str (ofS s xs))) (pickN s xs.length) := by
  refine pms_call (S := spOf) (da_cons (dv_val hi) (da_cons hj da_nil)) (.val (.dat hb .nil)) ⟨xs.map .str, rfl, by rw [List.length_map]; exact h1, by rw [List.length_map]; omega, by rw [ofV_str s h1], ?_⟩
  unfold ofN
  rw [List.length_map]
theorem tr_lawLot {bs : List B} {s s' : Src} {r : B} {N : List Str} (hN : N.length = 6) (h : spLawLot a bs s r s') : Tr ⟨K, T, srcW a l⟩ (lawLotTs K T) (initB N bs) s (.rt r s') := by
  obtain ⟨many, rfl, hm, rfl, rfl⟩ := h
  have ei : initB N [.val (.ref a), .dat (.int many)] = [.val (.ref a), .dat (.int many), .un, .un, .un, .un] := by
    unfold initB
    rw [hN]
    rfl
  rw [ei]
  have tst := dt_test (C := ⟨K, T, srcW a l⟩) (dv_op (C := ⟨K, T, srcW a l⟩) (dv_pick (K := K) (T := T) (l := l) (env := [.val (.ref a), .dat (.int many), .un, .un, .un, .un]) (s := s) (i := 0) (many := 5) rfl (by omega) (by omega)) (dv_int (i := 2)) (rop_IB (f := fun i j => decide (i < j))))
  unfold lotD
  by_cases c : pickV s 5 < 2
  · rw [if_pos c]
    exact tr_seqR (tr_if tst (fun _ => tr_ret (pms_call (S := spModulo) (da_cons (dv_val rfl) (da_cons (dv_var rfl) da_nil)) (.val (.dat rfl .nil)) ⟨many, rfl, hm, rfl, rfl⟩)) fun z => by rw [decide_eq_true c] at z; cases z)
  · rw [if_neg c]
    refine tr_seq (tr_if tst (fun z => by rw [decide_eq_false c] at z; cases z) fun _ => tr_next) ?_
    obtain ⟨l1, l2⟩ := lotNames_len s
    obtain ⟨n, hn⟩ : ∃ n : Nat, pickV (pickN s 5) 4 = (n : Int) := ⟨_, (Int.toNat_of_nonneg (pickV_lt (pickN s 5) (many := 4) (by omega)).1).symm⟩
    obtain ⟨names, en⟩ : ∃ names, names = lotNames s := ⟨_, rfl⟩
    have en2 : names = NM.take (1 + n) := by rw [en]; unfold lotNames; rw [hn]; rfl
    have nd : names.Nodup := by rw [en]; exact lotNames_nd s
    obtain ⟨s2, es2⟩ : ∃ s2, s2 = pickN (pickN s 5) 4 := ⟨_, rfl⟩
    have eE : lotE s = ⟨decide (pickV (lotAt names s2 names.length).2 2 = 0), decide (pickV (pickN (lotAt names s2 names.length).2 2) 2 = 0), names.getD 0 (Str.ofString ""), ofS (pickN (pickN (lotAt names s2 names.length).2 2) 2) names, (lotAt names s2 names.length).1, pickN (pickN (pickN (lotAt names s2 names.length).2 2) 2) names.length⟩ := by
      rw [en, es2]
      rfl
    rw [eE]
    rw [← en] at l1 l2
    have cut : cutD (NM.map .str) none (some (1 + pickV (pickN s 5) 4)) = names.map .str := by
      rw [hn, show (1 : Int) + (n : Int) = ((1 + n : Nat) : Int) by omega, cutD_to, en2, List.map_take]
    refine tr_seq (tr_par (b := .own (names.map .str)) (c := .odk []) (da_cons (dv_is (dv_sliceL (C := ⟨K, T, srcW a l⟩) (dv_lst (da_cons (dv_c fun _ => .str _) (da_cons (dv_c fun _ => .str _) (da_cons (dv_c fun _ => .str _) (da_cons (dv_c fun _ => .str _) da_nil)))) (.cons rfl (.cons rfl (.cons rfl (.cons rfl .nil)))) (Nat.le_of_ble_eq_true rfl)) rfl do_none (do_some (dv_op (C := ⟨K, T, srcW a l⟩) dv_int (dv_pick rfl (by omega) (by omega)) rop_II))) (congrArg B.own cut)) (da_cons dv_dnewK da_nil))) ?_
    rw [← es2]
    refine tr_freeze (i := 2) rfl ?_
    have lp := tr_for (C := ⟨K, T, srcW a l⟩) (env := [.val (.ref a), .dat (.int many), .dat (.list (names.map .str)), .odk [], .un, .un]) (s := s2) (g := gName 4) (ds := names.map .str) (wi := iList K (tVar 2)) (p := tSeq (tAsg (tOp (rCatS K) (tVar 2) (tLst (tCons (tVar 4) (tCons (tOp (rIxL K) (tVar 2) (tUn (rU fun i => V.int (-i)) (tC (V.int 1)))) tNil)))) (gName 5)) (sDPut (tVar 3) (tVar 4) (tTup (tCons (tOp (rEqD K) (tCall (PmS K T spPick) [] C8.E0 (tCons (tVar 0) (tCons (tC (V.int 2)) tNil))) (tC (V.int 0))) (tCons (tCall (PmS K T spOf) [] C8.E0 (tCons (tVar 0) (tCons (tVar 5) tNil))) (tCons (tCall (PmS K T spOf) [] C8.E0 (tCons (tVar 0) (tCons (tVar 5) tNil))) tNil))))))
      (fun k => [.val (.ref a), .dat (.int many), .dat (.list (names.map .str)), .odk (dictM (lotAt names s2 k).1), .un, .un]) (fun k => (lotAt names s2 k).2) (di_list (dv_var rfl) rfl) (Wks.refl _) fun k d hd => by
        rw [List.getElem?_map] at hd
        cases hx : names[k]? with
        | none => rw [hx] at hd; cases hd
        | some x =>
          rw [hx] at hd
          cases hd
          have hk : k < names.length := (List.getElem?_eq_some_iff.mp hx).1
          have ex : names.getD k (Str.ofString "") = x := by rw [List.getD_eq_getElem?_getD, hx]; rfl
          refine ⟨_, _, dg_name, ?_⟩
          generalize hs3 : (lotAt names s2 k).2 = s3
          have em : lotAt names s2 (k + 1) = ((lotAt names s2 k).1 ++ [(drawM 2 (fun v => decide (v = 0)) s3 x (someL names k)).1], (drawM 2 (fun v => decide (v = 0)) s3 x (someL names k)).2) := by
            rw [← hs3, ← ex]
            rfl
          rw [em]
          have sl : (someL names k).length = names.length + 2 := someL_len _ _
          have esome : (someL names k).map PyData.str = names.map .str ++ [.str x, .str (lastS names)] := by
            unfold someL
            rw [ex, List.map_append]
            rfl
          have new : x ∉ (lotAt names s2 k).1.map (·.1) := by
            rw [lotAt_names names s2 k (by omega)]
            intro z
            obtain ⟨j, hj⟩ := List.mem_iff_getElem?.mp z
            have hjk : j < k := by
              have := (List.getElem?_eq_some_iff.mp hj).1
              rw [List.length_take] at this
              omega
            rw [List.getElem?_take_of_lt hjk] at hj
            have h1 := (List.getElem?_eq_some_iff.mp hj)
            have h2 := (List.getElem?_eq_some_iff.mp hx)
            have := (List.getElem_inj nd).mp (h1.2.trans h2.2.symm)
            omega
          have dl : (dictM (lotAt names s2 k).1).length < 100000 := by
            have : ((lotAt names s2 k).1.map (·.1)).length ≤ 4 := by rw [lotAt_names names s2 k (by omega), List.length_take]; omega
            unfold dictM
            rw [List.length_map]
            rw [List.length_map] at this
            omega
          have lastA : atI (names.map PyData.str) (-1) = some (.str (lastS names)) := by
            unfold atI
            rw [List.length_map, ix_last (by omega)]
            show (names.map PyData.str)[names.length - 1]? = _
            unfold lastS
            rw [List.getElem?_map, List.getD_eq_getElem?_getD, List.getElem?_eq_getElem (by omega)]
            rfl
          refine goes_nxW (tr_seq (tr_asgD (d := .list ((someL names k).map .str)) (dv_op (C := ⟨K, T, srcW a l⟩) (dv_var rfl) (dv_lst (da_cons (dv_var rfl) (da_cons (dv_op (dv_var rfl) (dv_neg dv_int) (rop_ixL rfl lastA)) da_nil)) (.cons rfl (.cons rfl .nil)) (Nat.le_of_ble_eq_true rfl)) (rop_catS rfl rfl (by show _ + 2 ≤ 100000; rw [List.length_map]; omega))) (by rw [esome]; rfl))
            (tr_dput (C := ⟨K, T, srcW a l⟩) (i := 3) (k := .inr x) (d := rowM (drawM 2 (fun v => decide (v = 0)) s3 x (someL names k)).1) rfl (dv_tup (da_cons (dv_pick0 rfl (by omega) (by omega)) (da_cons (dv_ofS (xs := someL names k) rfl (dv_var rfl) rfl (by omega) (by omega)) (da_cons (dv_ofS (xs := someL names k) rfl (dv_var rfl) rfl (by omega) (by omega)) da_nil))) (.cons rfl (.cons rfl (.cons rfl .nil))) (Nat.le_of_ble_eq_true rfl)) rfl (dv_var rfl) dl)) ?_
          refine .eq (.eq (.eq (.eqv (congrArg B.odk ?_) (.un (.un .nil)))))
          exact dictM_put (m := (drawM 2 (fun v => decide (v = 0)) s3 x (someL names k)).1) new
    rw [List.length_map] at lp
    refine tr_seq lp ?_
    generalize (lotAt names s2 names.length).2 = s3
    refine tr_retP (C := ⟨K, T, srcW a l⟩) (j := 3) (dv_tup (da_cons (dv_pick0 rfl (by omega) (by omega)) (da_cons (dv_pick0 rfl (by omega) (by omega)) (da_cons (dv_op (C := ⟨K, T, srcW a l⟩) (dv_var rfl) dv_int (rop_ixL (d := .str (names.getD 0 (Str.ofString ""))) rfl ?_)) (da_cons (dv_ofS (xs := names) rfl (dv_var rfl) rfl l1 (by omega)) da_nil)))) (.cons rfl (.cons rfl (.cons rfl (.cons rfl .nil)))) (Nat.le_of_ble_eq_true rfl)) rfl rfl
    have := atI_nat (xs := names.map PyData.str) (i := 0) (d := .str (names.getD 0 (Str.ofString ""))) (by rw [List.getElem?_map, List.getD_eq_getElem?_getD, List.getElem?_eq_getElem (by omega)]; rfl)
    exact this
end
end DV
set_option maxHeartbeats 2000000
namespace DV
open PySem PySem.Spec PyProof.Rows L2 LamX NdefX
/-! ### lots of finitely many -/
def noS : Str := Str.ofString "no"
def nameA (k : Nat) : Str := Str.ofString "a" ++ Str.ofString (toString (k : Int))
def namesF (n : Nat) : List Str := (List.range n).map nameA ++ [noS]
theorem namesF_len (n : Nat) : (namesF n).length = n + 1 := by simp [namesF]
theorem namesF_nd : ∀ n ∈ [1, 2, 3], (namesF n).Nodup := by decide +kernel
def noM : Mode := (noS, false, noS, noS)
noncomputable def fewAt (names : List Str) (s : Src) : Nat → List Mode × Src
  | 0 => ([noM], s)
  | k + 1 => ((fewAt names s k).1 ++ [(drawM 3 (fun v => decide (0 < v)) (fewAt names s k).2 (names.getD k (Str.ofString "")) (names.drop (k + 1))).1], (drawM 3 (fun v => decide (0 < v)) (fewAt names s k).2 (names.getD k (Str.ofString "")) (names.drop (k + 1))).2)
theorem fewAt_names (n : Nat) (s : Src) : ∀ k, k ≤ n → (fewAt (namesF n) s k).1.map (·.1) = noS :: (namesF n).take k
  | 0, _ => rfl
  | k + 1, h => by
    show List.map (fun m : Mode => m.1) ((fewAt (namesF n) s k).1 ++ [_]) = _
    have l := namesF_len n
    rw [List.map_append, fewAt_names n s k (by omega), List.take_add_one, List.getElem?_eq_getElem (by omega)]
    show (noS :: (namesF n).take k) ++ [(namesF n).getD k (Str.ofString "")] = _
    rw [List.getD_eq_getElem?_getD, List.getElem?_eq_getElem (by omega)]
    rfl
/-- a mode behind k leads to later names alone -/
theorem fewAt_to (n : Nat) (s : Src) : ∀ k, k ≤ n → ∀ m ∈ (fewAt (namesF n) s k).1, m = noM ∨ ∃ j, j < k ∧ m.1 = (namesF n).getD j (Str.ofString "") ∧ m.2.2.1 ∈ (namesF n).drop (j + 1) ∧ m.2.2.2 ∈ (namesF n).drop (j + 1)
  | 0, _, m, hm => .inl (List.mem_singleton.mp hm)
  | k + 1, h, m, hm => by
    rcases List.mem_append.mp (show m ∈ (fewAt (namesF n) s k).1 ++ [_] from hm) with z | z
    · rcases fewAt_to n s k (by omega) m z with z | ⟨j, h1, h2⟩
      · exact .inl z
      · exact .inr ⟨j, by omega, h2⟩
    · rw [List.mem_singleton.mp z]
      have l : 1 ≤ ((namesF n).drop (k + 1)).length := by rw [List.length_drop, namesF_len]; omega
      exact .inr ⟨k, by omega, rfl, ofS_mem _ l, ofS_mem _ l⟩
noncomputable def fewN (s : Src) : Nat := 1 + (pickV s 3).toNat
theorem fewN_le (s : Src) : 1 ≤ fewN s ∧ fewN s ≤ 3 := by
  have := pickV_lt s (many := 3) (by omega)
  unfold fewN
  omega
noncomputable def fewD (s : Src) : Drawn :=
  let names := namesF (fewN s)
  let p := fewAt names (pickN s 3) (fewN s)
  ⟨decide (pickV p.2 2 = 0), decide (pickV (pickN p.2 2) 2 = 0), nameA 0, ofS (pickN (pickN p.2 2) 2) names, p.1, pickN (pickN (pickN p.2 2) 2) names.length⟩
theorem fewD_names (s : Src) : (fewD s).modes.map (·.1) = noS :: (List.range (fewN s)).map nameA := by
  show (fewAt (namesF (fewN s)) _ (fewN s)).1.map (·.1) = _
  rw [fewAt_names _ _ _ (Nat.le_refl _)]
  congr 1
  unfold namesF
  rw [List.take_left' (by simp)]
theorem namesF_mem {s : Src} {x : Str} (h : x ∈ namesF (fewN s)) : x ∈ (fewD s).modes.map (·.1) := by
  rw [fewD_names]
  rcases List.mem_append.mp h with z | z
  · exact List.mem_cons_of_mem _ z
  · rw [List.mem_singleton.mp z]
    exact List.mem_cons_self
theorem fewD_ok (s : Src) : (fewD s).Ok := by
  obtain ⟨l1, l2⟩ := fewN_le s
  have nl := namesF_len (fewN s)
  refine ⟨⟨?_, fun m hm => ?_, ?_⟩, ?_, ?_⟩
  · rw [fewD_names]
    have h := namesF_nd (fewN s) (by simp; omega)
    have h2 := (List.perm_append_comm (l₁ := (List.range (fewN s)).map nameA) (l₂ := [noS])).nodup_iff.mp h
    exact h2
  · rcases fewAt_to (fewN s) (pickN s 3) (fewN s) (Nat.le_refl _) m hm with z | ⟨j, h1, h2, h3, h4⟩
    · rw [z, fewD_names]
      exact ⟨List.mem_cons_self, List.mem_cons_self⟩
    · exact ⟨namesF_mem (List.mem_of_mem_drop h3), namesF_mem (List.mem_of_mem_drop h4)⟩
  · have : ((fewD s).modes.map (·.1)).length ≤ 60 := by rw [fewD_names]; simp; omega
    simpa using this
  · rw [fewD_names]
    exact List.mem_cons_of_mem _ (List.mem_map.mpr ⟨0, List.mem_range.mpr (by omega), rfl⟩)
  · exact namesF_mem (ofS_mem _ (by omega))
def spLawFew : SpS := fun a bs s r s' => bs = [.val (.ref a)] ∧ r = (fewD s).r ∧ s' = (fewD s).s
def lawFewTs (K : PySem.W.Frag) (T : List NTab) : TS := tSeq (tAsg (tOp (rI0 fun i j => V.int (i + j)) (tC (V.int 1)) (tCall (PmS K T spPick) [] C8.E0 (tCons (tVar 0) (tCons (tC (V.int 3)) tNil)))) (gName 1)) (tSeq (tAsg (tOp (rCatS K) (tLc (iRng1 (tCons (tVar 1) tNil)) (gName 2) tYes (tOp rAddS (tC (V.str (Str.ofString "a"))) (tCB rStrInt (tCons (tVar 2) tNil))) [2]) (tLst (tCons (tC (V.str (Str.ofString "no"))) tNil))) (gName 3)) (tSeq (tAsg (tDisp [(tC (V.str (Str.ofString "no")), tTup (tCons (tC (V.bl false)) (tCons (tC (V.str (Str.ofString "no"))) (tCons (tC (V.str (Str.ofString "no"))) tNil))))]) (gName 4)) (tSeq (tFor (iRng1 (tCons (tVar 1) tNil)) (gName 2) (tSeq (tAsg (tSl (rSlL K) (tVar 3) (tPart (tOp (rI0 fun i j => V.int (i + j)) (tVar 2) (tC (V.int 1)))) tNoPart) (gName 5)) (sDPut (tVar 4) (tOp (rIxL K) (tVar 3) (tVar 2)) (tTup (tCons (tOp (rI0 fun i j => V.bl (decide (j < i))) (tCall (PmS K T spPick) [] C8.E0 (tCons (tVar 0) (tCons (tC (V.int 3)) tNil))) (tC (V.int 0))) (tCons (tCall (PmS K T spOf) [] C8.E0 (tCons (tVar 0) (tCons (tVar 5) tNil))) (tCons (tCall (PmS K T spOf) [] C8.E0 (tCons (tVar 0) (tCons (tVar 5) tNil))) tNil))))))) (tRet (tTup (tCons (tTup (tCons (tOp (rEqD K) (tCall (PmS K T spPick) [] C8.E0 (tCons (tVar 0) (tCons (tC (V.int 2)) tNil))) (tC (V.int 0))) (tCons (tOp (rEqD K) (tCall (PmS K T spPick) [] C8.E0 (tCons (tVar 0) (tCons (tC (V.int 2)) tNil))) (tC (V.int 0))) (tCons (tC (V.str (Str.ofString "a0"))) (tCons (tCall (PmS K T spOf) [] C8.E0 (tCons (tVar 0) (tCons (tVar 3) tNil))) tNil))))) (tCons (tVar 4) tNil)))))))
theorem cutD_from (xs : List PyData) (n : Nat) (h : n ≤ xs.length) : cutD xs (some (n : Int)) none = xs.drop n := by
  unfold cutD
  rw [HT.sIx_none, HT.sIx_nat]
  rw [List.take_of_length_le]
  · congr 1
    omega
  · rw [List.length_drop]
    omega
section
variable {C : Cf} {env : Env} {s s1 s2 : C.w.S}
/-- {key: value} -/
theorem dv_disp1 {tk tv : TE} {k : Key} {b : B} {d : PyData} (hk : Dv C tk env s (.dat (kD k)) s1) (hv : Dv C tv env s1 b s2) (hb : b.toD = some d) : Dv C (tDisp [(tk, tv)]) env s (.odk [(k, d)]) s2 := fun F0 H0 σ F H e Q q p np => by
  have x0 : C.ExtS F H F (upd H p (.dK [])) := Ext.fresh e.sub e.tab np
  have e0 := e.go (extS x0) (holdS x0 e.hold)
  refine hk F0 H0 σ F _ e0 _ fun v F1 H1 e1 h1 b1 => ?_
  refine dv_freeze hv hb F0 H0 σ F1 H1 (e0.go e1 h1) _ fun u F2 H2 e2 h2 b2 => ?_
  have x2 : C.Ext F (upd H p (.dK [])) F2 H2 := e1.trans e2
  have nM : ¬ C.w.M p := not_M e.hold np
  have hp : H2 p = some (.dK []) := x2.hx p _ upd_same nt_dK nM
  have fp0 : F p = none := by
    cases z : F p with
    | none => rfl
    | some o => rw [(e.sub p o z).1] at np; cases np
  have fp : F2 p = none := (x2.fr p _ upd_same).trans fp0
  refine ⟨hp, [(k, u)], by rw [dp_key b1]; rfl, Nat.le_of_ble_eq_true rfl, ?_⟩
  have em : mergeK [] [(k, u)] = [(k, u)] := rfl
  rw [em]
  have x3 : C.Ext F H F2 (upd H2 p (.dK [(k, u)])) := ((extS x0).trans x2).write np fp hp wr_dK
  refine q (.ref p) F2 _ x3 (C.w.stab (fun c o m z _ => by rw [upd_ne (fun w => nM (by rw [← w]; exact m))]; exact z) h2) ⟨p, _, rfl, np, nM, fp, upd_same, .cons b2 .nil⟩
end
section
variable {K : PySem.W.Frag} {T : List NTab} {a l : Addr}
theorem tr_lawFew {bs : List B} {s s' : Src} {r : B} {N : List Str} (hN : N.length = 6) (h : spLawFew a bs s r s') : Tr ⟨K, T, srcW a l⟩ (lawFewTs K T) (initB N bs) s (.rt r s') := by
  obtain ⟨rfl, rfl, rfl⟩ := h
  have ei : initB N [.val (.ref a)] = [.val (.ref a), .un, .un, .un, .un, .un] := by
    unfold initB
    rw [hN]
    rfl
  rw [ei]
  obtain ⟨l1, l2⟩ := fewN_le s
  obtain ⟨n, en⟩ : ∃ n, n = fewN s := ⟨_, rfl⟩
  obtain ⟨s2, es2⟩ : ∃ s2, s2 = pickN s 3 := ⟨_, rfl⟩
  have hn : (1 : Int) + pickV s 3 = (n : Int) := by
    have := pickV_lt s (many := 3) (by omega)
    rw [en]
    unfold fewN
    omega
  have eE : fewD s = ⟨decide (pickV (fewAt (namesF n) s2 n).2 2 = 0), decide (pickV (pickN (fewAt (namesF n) s2 n).2 2) 2 = 0), nameA 0, ofS (pickN (pickN (fewAt (namesF n) s2 n).2 2) 2) (namesF n), (fewAt (namesF n) s2 n).1, pickN (pickN (pickN (fewAt (namesF n) s2 n).2 2) 2) (namesF n).length⟩ := by
    rw [en, es2]
    rfl
  rw [eE]
  rw [← en] at l1 l2
  have nl := namesF_len n
  refine tr_seq (tr_asg (b := .dat (.int (n : Int))) (dv_is (dv_op (C := ⟨K, T, srcW a l⟩) dv_int (dv_pick rfl (by omega) (by omega)) rop_II) (by rw [hn]))) ?_
  rw [← es2]
  have small : ∀ i, i < n → ((i : Int)).natAbs < 10 ^ 300 := fun i hi => Nat.lt_of_le_of_lt (show ((i : Int)).natAbs ≤ 3 by omega) (by decide +kernel)
  have strz : ∀ i ∈ List.range n, (Str.ofString (toString (i : Int))).length ≤ 10 := fun i hi => by
    have hi := List.mem_range.mp hi
    have := str_len (n := (i : Int)) (by omega) (k := 1) (by omega) (by omega)
    omega
  have comp := dv_lcM (C := ⟨K, T, srcW a l⟩) (s := s2) (s1 := s2) (env := [.val (.ref a), .dat (.int (n : Int)), .un, .un, .un, .un]) (wi := iRng1 (tCons (tVar 1) tNil)) (tt := tYes) (vs := [2]) (g := gName 2) (te := tOp rAddS (tC (V.str (Str.ofString "a"))) (tCB rStrInt (tCons (tVar 2) tNil))) (List.range n) (fun i => .int (0 + (i : Int))) (fun i => .str (nameA i)) (di_rng1 (n := (n : Int)) (da_cons (dv_var rfl) da_nil) (by omega) (by omega)) rfl (by rw [List.length_range]; omega) rfl
    fun i hi => ⟨_, _, dg_name, by decide, _, dv_op (dv_c fun _ => .str _) (dv_cb (da_cons (dv_var (d := .int (0 + (i : Int))) rfl) da_nil) (rcb_strInt (by rw [Int.zero_add]; exact small i (List.mem_range.mp hi)))) (rop_addS (by
      rw [Int.zero_add]
      have := strz i hi
      have l1 : (Str.ofString "a").length = 1 := rfl
      omega)), by rw [Int.zero_add]; rfl⟩
  have enames : (List.range n).map (fun i => PyData.str (nameA i)) ++ [.str noS] = (namesF n).map .str := by
    unfold namesF
    rw [List.map_append, List.map_map]
    rfl
  refine tr_seq (tr_asgD (d := .list ((namesF n).map .str)) (dv_op (C := ⟨K, T, srcW a l⟩) comp (dv_lst (da_cons (dv_c (d := .str noS) fun _ => .str _) da_nil) (.cons rfl .nil) (Nat.le_of_ble_eq_true rfl)) (rop_catS rfl rfl (by rw [List.length_map, List.length_range]; show n + 1 ≤ 100000; omega))) (by rw [enames]; rfl)) ?_
  refine tr_seq (tr_asg (b := .odk (dictM [noM])) (dv_disp1 (C := ⟨K, T, srcW a l⟩) (k := .inr noS) (d := rowM noM) (dv_c (d := .str noS) fun _ => .str _) (dv_tup (da_cons (dv_bl (i := false)) (da_cons (dv_c (d := .str noS) fun _ => .str _) (da_cons (dv_c (d := .str noS) fun _ => .str _) da_nil))) (.cons rfl (.cons rfl (.cons rfl .nil))) (Nat.le_of_ble_eq_true rfl)) rfl)) ?_
  have lp := tr_for (C := ⟨K, T, srcW a l⟩) (env := [.val (.ref a), .dat (.int (n : Int)), .un, .dat (.list ((namesF n).map .str)), .odk (dictM [noM]), .un]) (s := s2) (g := gName 2) (ds := rngD 0 n) (wi := iRng1 (tCons (tVar 1) tNil)) (p := tSeq (tAsg (tSl (rSlL K) (tVar 3) (tPart (tOp (rI0 fun i j => V.int (i + j)) (tVar 2) (tC (V.int 1)))) tNoPart) (gName 5)) (sDPut (tVar 4) (tOp (rIxL K) (tVar 3) (tVar 2)) (tTup (tCons (tOp (rI0 fun i j => V.bl (decide (j < i))) (tCall (PmS K T spPick) [] C8.E0 (tCons (tVar 0) (tCons (tC (V.int 3)) tNil))) (tC (V.int 0))) (tCons (tCall (PmS K T spOf) [] C8.E0 (tCons (tVar 0) (tCons (tVar 5) tNil))) (tCons (tCall (PmS K T spOf) [] C8.E0 (tCons (tVar 0) (tCons (tVar 5) tNil))) tNil))))))
    (fun k => [.val (.ref a), .dat (.int (n : Int)), .un, .dat (.list ((namesF n).map .str)), .odk (dictM (fewAt (namesF n) s2 k).1), .un]) (fun k => (fewAt (namesF n) s2 k).2) (di_rng1 (n := (n : Int)) (da_cons (dv_var rfl) da_nil) (by omega) (by omega)) (Wks.refl _) fun k d hd => by
      obtain ⟨hk, rfl⟩ := rngD_get hd
      rw [Int.zero_add]
      refine ⟨_, _, dg_name, ?_⟩
      generalize hs3 : (fewAt (namesF n) s2 k).2 = s3
      have em : fewAt (namesF n) s2 (k + 1) = ((fewAt (namesF n) s2 k).1 ++ [(drawM 3 (fun v => decide (0 < v)) s3 ((namesF n).getD k (Str.ofString "")) ((namesF n).drop (k + 1))).1], (drawM 3 (fun v => decide (0 < v)) s3 ((namesF n).getD k (Str.ofString "")) ((namesF n).drop (k + 1))).2) := by
        rw [← hs3]
        rfl
      rw [em]
      have ld : ((namesF n).drop (k + 1)).length = n - k := by rw [List.length_drop, nl]; omega
      have nd := namesF_nd n (by simp; omega)
      have new : (namesF n).getD k (Str.ofString "") ∉ (fewAt (namesF n) s2 k).1.map (·.1) := by
        rw [fewAt_names n s2 k (by omega)]
        have g : ∀ {j : Nat} (hj : j < n + 1), (namesF n).getD j (Str.ofString "") = (namesF n)[j]'(by omega) := fun {j} hj => by
          rw [List.getD_eq_getElem?_getD, List.getElem?_eq_getElem (by omega)]
          rfl
        intro z
        have inj : ∀ {i j : Nat}, i < n + 1 → j < n + 1 → (namesF n).getD i (Str.ofString "") = (namesF n).getD j (Str.ofString "") → i = j := fun {i j} hi hj e => by
          rw [g hi, g hj] at e
          exact (List.getElem_inj nd).mp e
        rcases List.mem_cons.mp z with z | z
        · have e2 : noS = (namesF n).getD n (Str.ofString "") := by
            unfold namesF
            rw [List.getD_eq_getElem?_getD, List.getElem?_append_right (by simp)]
            simp
          rw [e2] at z
          have := inj (by omega) (by omega) z
          omega
        · obtain ⟨j, hj⟩ := List.mem_iff_getElem?.mp z
          have hjk : j < k := by
            have := (List.getElem?_eq_some_iff.mp hj).1
            rw [List.length_take] at this
            omega
          rw [List.getElem?_take_of_lt hjk] at hj
          have e3 : (namesF n).getD j (Str.ofString "") = (namesF n).getD k (Str.ofString "") := by
            rw [List.getD_eq_getElem?_getD, hj]
            rfl
          have := inj (by omega) (by omega) e3
          omega
      have dl : (dictM (fewAt (namesF n) s2 k).1).length < 100000 := by
        have : ((fewAt (namesF n) s2 k).1.map (·.1)).length ≤ 5 := by rw [fewAt_names n s2 k (by omega)]; simp; omega
        unfold dictM
        rw [List.length_map]
        rw [List.length_map] at this
        omega
      have cut : cutD ((namesF n).map .str) (some ((k : Int) + 1)) none = ((namesF n).drop (k + 1)).map .str := by
        rw [show (k : Int) + 1 = ((k + 1 : Nat) : Int) by omega, cutD_from _ _ (by rw [List.length_map]; omega), List.map_drop]
      refine goes_nxW (tr_seq (tr_asgD (d := .list (((namesF n).drop (k + 1)).map .str)) (dv_is (dv_sliceL (C := ⟨K, T, srcW a l⟩) (dv_var rfl) rfl (do_some (dv_op (C := ⟨K, T, srcW a l⟩) (dv_var rfl) dv_int rop_II)) do_none) (congrArg B.own cut)) rfl)
        (tr_dput (C := ⟨K, T, srcW a l⟩) (i := 4) (k := .inr ((namesF n).getD k (Str.ofString ""))) (d := rowM (drawM 3 (fun v => decide (0 < v)) s3 ((namesF n).getD k (Str.ofString "")) ((namesF n).drop (k + 1))).1) rfl (dv_tup (da_cons (dv_op (C := ⟨K, T, srcW a l⟩) (dv_pick rfl (by omega) (by omega)) dv_int rop_IB) (da_cons (dv_ofS (xs := (namesF n).drop (k + 1)) rfl (dv_var rfl) rfl (by omega) (by omega)) (da_cons (dv_ofS (xs := (namesF n).drop (k + 1)) rfl (dv_var rfl) rfl (by omega) (by omega)) da_nil))) (.cons rfl (.cons rfl (.cons rfl .nil))) (Nat.le_of_ble_eq_true rfl)) rfl
          (dv_op (C := ⟨K, T, srcW a l⟩) (dv_var rfl) (dv_var rfl) (rop_ixL rfl (atI_nat (by rw [List.getElem?_map, List.getD_eq_getElem?_getD, List.getElem?_eq_getElem (by omega)]; rfl)))) dl)) ?_
      refine .eq (.eq (.un (.eq (.eqv (congrArg B.odk ?_) (.un .nil)))))
      exact dictM_put (m := (drawM 3 (fun v => decide (0 < v)) s3 ((namesF n).getD k (Str.ofString "")) ((namesF n).drop (k + 1))).1) new
  rw [rngD_len] at lp
  refine tr_seq lp ?_
  generalize (fewAt (namesF n) s2 n).2 = s3
  exact tr_retP (C := ⟨K, T, srcW a l⟩) (j := 4) (dv_tup (da_cons (dv_pick0 rfl (by omega) (by omega)) (da_cons (dv_pick0 rfl (by omega) (by omega)) (da_cons (dv_c (d := .str (nameA 0)) fun _ => .str _) (da_cons (dv_ofS (xs := namesF n) rfl (dv_var rfl) rfl (by omega) (by omega)) da_nil)))) (.cons rfl (.cons rfl (.cons rfl (.cons rfl .nil)))) (Nat.le_of_ble_eq_true rfl)) rfl rfl
end
end DV
set_option maxHeartbeats 1000000
namespace DV
open PySem PySem.Spec PyProof.Rows L2 LamX NdefX
/-! ### how many there are, where there are finitely many: plain -/
def valV' (vs : List Vw) (n i : Nat) : Int := (vals vs n).getD i 0
section
variable {vs : List Vw}
theorem valV'_zero {i : Nat} {v : Vw} (h : vs[i]? = some v) : valV' vs 0 i = b2n v.1 := by
  unfold valV'
  rw [List.getD_eq_getElem?_getD]
  show ((vs.map fun v => b2n v.1)[i]?).getD 0 = _
  rw [List.getElem?_map, h]
  rfl
theorem valV'_succ {i : Nat} {v : Vw} (h : vs[i]? = some v) (n : Nat) : valV' vs (n + 1) i = valV' vs n v.2.1 + valV' vs n v.2.2 := by
  unfold valV'
  rw [List.getD_eq_getElem?_getD]
  show ((vs.map fun v => (vals vs n).getD v.2.1 0 + (vals vs n).getD v.2.2 0)[i]?).getD 0 = _
  rw [List.getElem?_map, h]
  rfl
theorem valV'_pos (n i : Nat) : 0 ≤ valV' vs n i := vals_pos vs n i
/-- all of a view, by lengths less than n -/
def sumV (vs : List Vw) (i : Nat) : Nat → Int
  | 0 => 0
  | n + 1 => sumV vs i n + valV' vs n i
theorem sumV_succ {i : Nat} {v : Vw} (h : vs[i]? = some v) : ∀ n, sumV vs i (n + 1) = b2n v.1 + sumV vs v.2.1 n + sumV vs v.2.2 n
  | 0 => by
    show 0 + valV' vs 0 i = b2n v.1 + 0 + 0
    rw [valV'_zero h]
    omega
  | n + 1 => by
    show sumV vs i (n + 1) + valV' vs (n + 1) i = b2n v.1 + (sumV vs v.2.1 n + valV' vs n v.2.1) + (sumV vs v.2.2 n + valV' vs n v.2.2)
    rw [sumV_succ h n, valV'_succ h]
    omega
/-- how long there is something -/
def Deep (vs : List Vw) (i m : Nat) : Prop := ∀ n, m ≤ n → valV' vs n i = 0
theorem live_of : ∀ (n t : Nat), n ≤ t → ∀ (i : Nat), i < vs.length → closedV vs → 0 < valV' vs n i → (liveAt vs t).getD i false = true
  | n, 0, h, i, hi, hc, hp => by
    have e : n = 0 := by omega
    subst e
    have hv : vs[i]? = some vs[i] := List.getElem?_eq_getElem hi
    rw [valV'_zero hv] at hp
    rw [List.getD_eq_getElem?_getD]
    show ((vs.map (·.1))[i]?).getD false = true
    rw [List.getElem?_map, hv]
    show vs[i].1 = true
    cases z : vs[i].1 with
    | true => rfl
    | false => rw [z] at hp; exact absurd hp (by decide)
  | n, t + 1, h, i, hi, hc, hp => by
    have hv : vs[i]? = some vs[i] := List.getElem?_eq_getElem hi
    have e : (liveAt vs (t + 1)).getD i false = ((liveAt vs t).getD i false || ((liveAt vs t).getD vs[i].2.1 false || (liveAt vs t).getD vs[i].2.2 false)) := by
      rw [List.getD_eq_getElem?_getD]
      show ((vs.zipIdx.map fun p => (liveAt vs t).getD p.2 false || ((liveAt vs t).getD p.1.2.1 false || (liveAt vs t).getD p.1.2.2 false))[i]?).getD false = _
      rw [List.getElem?_map, List.getElem?_zipIdx, hv]
      show ((liveAt vs t).getD (0 + i) false || _) = _
      rw [Nat.zero_add]
    rw [e, Bool.or_eq_true, Bool.or_eq_true]
    cases n with
    | zero => exact .inl (live_of 0 t (Nat.zero_le _) i hi hc hp)
    | succ n =>
      rw [valV'_succ hv] at hp
      have cv := hc vs[i] (List.getElem_mem hi)
      have p1 := valV'_pos (vs := vs) n vs[i].2.1
      have p2 := valV'_pos (vs := vs) n vs[i].2.2
      by_cases z : 0 < valV' vs n vs[i].2.1
      · exact .inr (.inl (live_of n t (by omega) _ cv.1 hc z))
      · exact .inr (.inr (live_of n t (by omega) _ cv.2 hc (by omega)))
theorem live_some : ∀ (t i : Nat), i < vs.length → closedV vs → (liveAt vs t).getD i false = true → ∃ n, n ≤ t ∧ 0 < valV' vs n i
  | 0, i, hi, hc, h => by
    have hv : vs[i]? = some vs[i] := List.getElem?_eq_getElem hi
    refine ⟨0, Nat.le_refl _, ?_⟩
    rw [List.getD_eq_getElem?_getD] at h
    have h : ((vs.map (·.1))[i]?).getD false = true := h
    rw [List.getElem?_map, hv] at h
    have h : vs[i].1 = true := h
    rw [valV'_zero hv, h]
    decide
  | t + 1, i, hi, hc, h => by
    have hv : vs[i]? = some vs[i] := List.getElem?_eq_getElem hi
    have e : (liveAt vs (t + 1)).getD i false = ((liveAt vs t).getD i false || ((liveAt vs t).getD vs[i].2.1 false || (liveAt vs t).getD vs[i].2.2 false)) := by
      rw [List.getD_eq_getElem?_getD]
      show ((vs.zipIdx.map fun p => (liveAt vs t).getD p.2 false || ((liveAt vs t).getD p.1.2.1 false || (liveAt vs t).getD p.1.2.2 false))[i]?).getD false = _
      rw [List.getElem?_map, List.getElem?_zipIdx, hv]
      show ((liveAt vs t).getD (0 + i) false || _) = _
      rw [Nat.zero_add]
    rw [e, Bool.or_eq_true, Bool.or_eq_true] at h
    have cv := hc vs[i] (List.getElem_mem hi)
    rcases h with h | h | h
    · obtain ⟨n, h1, h2⟩ := live_some t i hi hc h
      exact ⟨n, by omega, h2⟩
    · obtain ⟨n, h1, h2⟩ := live_some t _ cv.1 hc h
      have p2 := valV'_pos (vs := vs) n vs[i].2.2
      exact ⟨n + 1, by omega, by rw [valV'_succ hv]; omega⟩
    · obtain ⟨n, h1, h2⟩ := live_some t _ cv.2 hc h
      have p1 := valV'_pos (vs := vs) n vs[i].2.1
      exact ⟨n + 1, by omega, by rw [valV'_succ hv]; omega⟩
/-- the least such length -/
theorem least_deep {N : Nat} (i : Nat) (h : Deep vs i N) : ∃ m, m ≤ N ∧ Deep vs i m ∧ (m = 0 ∨ 0 < valV' vs (m - 1) i) := by
  induction N with
  | zero => exact ⟨0, Nat.le_refl _, h, .inl rfl⟩
  | succ N ih =>
    by_cases z : 0 < valV' vs N i
    · exact ⟨N + 1, Nat.le_refl _, h, .inr z⟩
    · have p := valV'_pos (vs := vs) N i
      obtain ⟨m, h1, h2, h3⟩ := ih fun n hn => by
        by_cases e : n = N
        · rw [e]; omega
        · exact h n (by omega)
      exact ⟨m, by omega, h2, h3⟩
/-- a view that is deep has views of all lesser depths behind it -/
theorem deep_chain (hc : closedV vs) : ∀ (m i : Nat), i < vs.length → 0 < valV' vs m i → Deep vs i (m + 1) → ∀ j, j ≤ m → ∃ i', i' < vs.length ∧ 0 < valV' vs j i' ∧ Deep vs i' (j + 1)
  | 0, i, hi, hp, hd, j, hj => ⟨i, hi, by rw [show j = 0 by omega]; exact hp, by rw [show j = 0 by omega]; exact hd⟩
  | m + 1, i, hi, hp, hd, j, hj => by
    by_cases e : j = m + 1
    · rw [e]
      exact ⟨i, hi, hp, hd⟩
    · have hv : vs[i]? = some vs[i] := List.getElem?_eq_getElem hi
      have cv := hc vs[i] (List.getElem_mem hi)
      have q := hp
      rw [valV'_succ hv] at q
      have dz : ∀ n, m + 1 ≤ n → valV' vs n vs[i].2.1 = 0 ∧ valV' vs n vs[i].2.2 = 0 := fun n hn => by
        have h1 := hd (n + 1) (by omega)
        rw [valV'_succ hv] at h1
        have p1 := valV'_pos (vs := vs) n vs[i].2.1
        have p2 := valV'_pos (vs := vs) n vs[i].2.2
        omega
      have p1 := valV'_pos (vs := vs) m vs[i].2.1
      by_cases z : 0 < valV' vs m vs[i].2.1
      · exact deep_chain hc m _ cv.1 z (fun n hn => (dz n hn).1) j (by omega)
      · exact deep_chain hc m _ cv.2 (by omega) (fun n hn => (dz n hn).2) j (by omega)
theorem deep_lt (hc : closedV vs) {m i : Nat} (hi : i < vs.length) (hp : 0 < valV' vs m i) (hd : Deep vs i (m + 1)) : m < vs.length := by
  have ch := deep_chain hc m i hi hp hd
  let g : Nat → Nat := fun j => if h : j ≤ m then Classical.choose (ch j h) else 0
  have gs : ∀ j (h : j ≤ m), g j < vs.length ∧ 0 < valV' vs j (g j) ∧ Deep vs (g j) (j + 1) := fun j h => by
    have : g j = Classical.choose (ch j h) := dif_pos h
    rw [this]
    exact Classical.choose_spec (ch j h)
  have inj : ∀ a, a ≤ m → ∀ b, b ≤ m → g a = g b → a = b := fun a ha b hb e => by
    obtain ⟨_, a2, a3⟩ := gs a ha
    obtain ⟨_, b2, b3⟩ := gs b hb
    rw [e] at a2 a3
    by_cases c : a < b
    · have := a3 b (by omega); omega
    · by_cases c2 : b < a
      · have := b3 a (by omega); omega
      · omega
  have nd : ((List.range (m + 1)).map g).Nodup := by
    rw [List.Nodup, List.pairwise_map]
    refine List.Pairwise.imp_of_mem (R := (· ≠ ·)) (fun {a b} ha hb h z => h (inj a (by have := List.mem_range.mp ha; omega) b (by have := List.mem_range.mp hb; omega) z)) List.nodup_range
  have len := nodup_len nd (U := List.range vs.length) fun x hx => by
    obtain ⟨j, hj, rfl⟩ := List.mem_map.mp hx
    exact List.mem_range.mpr (gs j (by have := List.mem_range.mp hj; omega)).1
  rw [List.length_map, List.length_range, List.length_range] at len
  omega
theorem sumV_deep {i m : Nat} (h : Deep vs i m) : ∀ N, m ≤ N → sumV vs i N = sumV vs i m
  | 0, hN => by rw [show m = 0 by omega]
  | N + 1, hN => by
    by_cases e : m = N + 1
    · rw [e]
    · show sumV vs i N + valV' vs N i = _
      rw [h N (by omega), sumV_deep h N (by omega)]
      omega
/-- what is known at some place of the laps -/
structure KnOk (vs : List Vw) (N : Nat) (m : List (Option Int)) : Prop where
  len : m.length = vs.length
  ok : ∀ i x, m.getD i none = some x → i < vs.length → x = sumV vs i N
theorem kn_step {N : Nat} (hc : closedV vs) (hN : ∀ i, i < vs.length → Deep vs i N) {m : List (Option Int)} (k : KnOk vs N m) {j : Nat} {v : Vw} (hv : vs[j]? = some v) : KnOk vs N (sizeStep m (v, j)) ∧ (∀ i, (m.getD i none).isSome = true → ((sizeStep m (v, j)).getD i none).isSome = true) ∧
    ((m.getD v.2.1 none).isSome = true → (m.getD v.2.2 none).isSome = true → ((sizeStep m (v, j)).getD j none).isSome = true) := by
  have hj : j < vs.length := (List.getElem?_eq_some_iff.mp hv).1
  have cv := hc v (List.mem_of_getElem? hv)
  unfold sizeStep
  split
  · rename_i a b h2 h3 h4
    have hm : j < m.length := by rw [k.len]; exact hj
    have at_ : ∀ i, (m.set j (some (b2n v.1 + a + b))).getD i none = if i = j then some (b2n v.1 + a + b) else m.getD i none := fun i => by
      rw [List.getD_eq_getElem?_getD, List.getElem?_set]
      by_cases e : j = i
      · subst e
        rw [if_pos rfl, if_pos hm, if_pos rfl]
        rfl
      · rw [if_neg e, if_neg fun z => e z.symm, List.getD_eq_getElem?_getD]
    refine ⟨⟨by rw [List.length_set]; exact k.len, fun i x hx hi => ?_⟩, fun i hi => ?_, fun _ _ => ?_⟩
    · rw [at_] at hx
      split at hx
      · rename_i e
        subst e
        cases hx
        have e1 : a = sumV vs v.2.1 N := k.ok _ _ h3 cv.1
        have e2 : b = sumV vs v.2.2 N := k.ok _ _ h4 cv.2
        have s1 := sumV_succ hv N
        have s2 : sumV vs i (N + 1) = sumV vs i N := sumV_deep (hN i hi) (N + 1) (by omega)
        omega
      · exact k.ok i x hx hi
    · rw [at_]
      split
      · rfl
      · exact hi
    · rw [at_, if_pos rfl]
      rfl
  · rename_i h
    refine ⟨k, fun _ h => h, fun h1 h2 => ?_⟩
    obtain ⟨x, hx⟩ := Option.isSome_iff_exists.mp h1
    obtain ⟨y, hy⟩ := Option.isSome_iff_exists.mp h2
    cases z : m.getD j none with
    | some w => rfl
    | none => exact (h x y z hx hy).elim
theorem kn_lap {N : Nat} (hc : closedV vs) (hN : ∀ i, i < vs.length → Deep vs i N) {m : List (Option Int)} (k : KnOk vs N m) : ∀ j, j ≤ vs.length → KnOk vs N (sizeLap vs m j) ∧ (∀ i, (m.getD i none).isSome = true → ((sizeLap vs m j).getD i none).isSome = true) ∧
    ∀ i v, vs[i]? = some v → i < j → (m.getD v.2.1 none).isSome = true → (m.getD v.2.2 none).isSome = true → ((sizeLap vs m j).getD i none).isSome = true
  | 0, _ => ⟨k, fun _ h => h, fun i v _ h => absurd h (Nat.not_lt_zero i)⟩
  | j + 1, hj => by
    obtain ⟨k1, k2, k3⟩ := kn_lap hc hN k j (by omega)
    have hv : vs[j]? = some vs[j] := List.getElem?_eq_getElem (by omega)
    rw [sizeLap_succ hv]
    obtain ⟨q1, q2, q3⟩ := kn_step hc hN k1 hv
    refine ⟨q1, fun i h => q2 i (k2 i h), fun i v hi hij h1 h2 => ?_⟩
    by_cases e : i = j
    · subst e
      rw [hv] at hi
      cases hi
      exact q3 (k2 _ h1) (k2 _ h2)
    · exact q2 i (k3 i v hi (by omega) h1 h2)
theorem kn_all {N : Nat} (hc : closedV vs) (hN : ∀ i, i < vs.length → Deep vs i N) : ∀ t, KnOk vs N (sizeAt vs t) ∧ ∀ i, i < vs.length → ∀ m, m ≤ t → Deep vs i m → ((sizeAt vs t).getD i none).isSome = true
  | 0 => by
    have at_ : ∀ i, i < vs.length → (sizeAt vs 0).getD i none = if (liveAt vs vs.length).getD i false = true then none else some 0 := fun i hi => by
      rw [List.getD_eq_getElem?_getD]
      show (((liveAt vs vs.length).map fun b => if b then (none : Option Int) else some 0)[i]?).getD none = _
      rw [List.getElem?_map, List.getD_eq_getElem?_getD, List.getElem?_eq_getElem (by rw [liveAt_len]; exact hi)]
      rfl
    refine ⟨⟨sizeAt_len vs 0, fun i x hx hi => ?_⟩, fun i hi m hm hd => ?_⟩
    · rw [at_ i hi] at hx
      split at hx
      · cases hx
      · rename_i h
        cases hx
        obtain ⟨m, h1, h2, h3⟩ := least_deep i (hN i hi)
        rw [sumV_deep h2 N h1]
        rcases h3 with h3 | h3
        · subst h3
          rfl
        · cases m with
          | zero => rfl
          | succ m =>
            have lt := deep_lt hc hi h3 h2
            exact absurd (live_of m vs.length (by omega) i hi hc h3) h
    · rw [at_ i hi, if_neg]
      · rfl
      · intro z
        obtain ⟨n, _, h2⟩ := live_some vs.length i hi hc z
        have := hd n (by omega)
        omega
  | t + 1 => by
    obtain ⟨k1, k2⟩ := kn_all hc hN t
    obtain ⟨q1, q2, q3⟩ := kn_lap hc hN k1 vs.length (Nat.le_refl _)
    refine ⟨q1, fun i hi m hm hd => ?_⟩
    have hv : vs[i]? = some vs[i] := List.getElem?_eq_getElem hi
    have cv := hc vs[i] (List.getElem_mem hi)
    cases m with
    | zero => exact q2 i (k2 i hi 0 (Nat.zero_le _) hd)
    | succ m =>
      have dz : Deep vs vs[i].2.1 m ∧ Deep vs vs[i].2.2 m := by
        refine ⟨fun n hn => ?_, fun n hn => ?_⟩
        all_goals
          have h1 := hd (n + 1) (by omega)
          rw [valV'_succ hv] at h1
          have p1 := valV'_pos (vs := vs) n vs[i].2.1
          have p2 := valV'_pos (vs := vs) n vs[i].2.2
          omega
      exact q3 i _ hv hi (k2 _ cv.1 m (by omega) dz.1) (k2 _ cv.2 m (by omega) dz.2)
end
theorem size_fin {l : Lot} (ok : l.Ok) {N : Nat} (hN : ∀ i, i < l.views.length → Deep l.views i N) : sizeOf l = some (b2n l.zero + b2n l.top + sumV l.views l.front N + sumV l.views l.back N) := by
  obtain ⟨k1, k2⟩ := kn_all ok.v hN l.views.length
  have all : ∀ i, i < l.views.length → (sizeAt l.views l.views.length).getD i none = some (sumV l.views i N) := fun i hi => by
    obtain ⟨m, h1, h2, h3⟩ := least_deep i (hN i hi)
    have ml : m ≤ l.views.length := by
      rcases h3 with h3 | h3
      · omega
      · cases m with
        | zero => exact Nat.zero_le _
        | succ m => exact deep_lt ok.v hi h3 h2
    obtain ⟨x, hx⟩ := Option.isSome_iff_exists.mp (k2 i hi m ml h2)
    rw [hx, k1.ok i x hx hi]
  unfold sizeOf
  rw [if_neg, all _ ok.f, all _ ok.b]
  · rfl
  · intro z
    obtain ⟨i, hi⟩ := List.mem_iff_getElem?.mp z
    have li : i < l.views.length := by rw [← sizeAt_len l.views l.views.length]; exact (List.getElem?_eq_some_iff.mp hi).1
    have := all i li
    rw [List.getD_eq_getElem?_getD, hi] at this
    cases this
end DV
set_option maxHeartbeats 1000000
namespace DV
open PySem PySem.Spec PyProof.Rows L2 LamX NdefX
/-! ### the ways of words, looked at by computation -/
def sideB (up : Bool) : Str := if up then Str.ofString "up" else Str.ofString "down"
def runsW (w : List Bool) : List Run := (lrRuns w).map fun p => (wordB p.1, p.2)
def tbW (up : Bool) (w : List Bool) : Int × Int := lowest ((wayEdge (sideB up) (runsW w)).1 + (wayEdge (sideB up) (runsW w)).2.1) ((wayEdge (sideB up) (runsW w)).2.2.1 + (wayEdge (sideB up) (runsW w)).2.2.2)
def pW (up : Bool) (w : List Bool) : Nat × Nat := if up then ((tbW up w).1.toNat, (tbW up w).2.toNat) else ((lowest (tbW up w).2 (-(tbW up w).1)).1.toNat, (lowest (tbW up w).2 (-(tbW up w).1)).2.toNat)
def smallB (n : Int) : Bool := decide (n.natAbs < 10 ^ 140)
def smallEB (e : Edge) : Bool := smallB e.1 && (smallB e.2.1 && (smallB e.2.2.1 && smallB e.2.2.2))
def chkW (up : Bool) (w : List Bool) : Bool :=
  let xs := runsW w
  let tb := tbW up w
  let p := pW up w
  let k := xs.length
  decide (xs.length ≤ 7) && ((List.range (xs.length + 1)).all fun i => smallEB (edgeOf (firstEdge (sideB up)) (xs.take i))) && (xs.all fun x => decide (x.2 < 10 ^ 140))
    && decide (0 < (wayEdge (sideB up) xs).2.2.1 + (wayEdge (sideB up) xs).2.2.2) && decide (0 < tb.2) && smallB tb.1 && smallB tb.2
    && decide (up = true → 0 < tb.1 ∧ tb.1 = p.1 ∧ tb.2 = p.2) && decide (up = false → tb.1 < 0 ∧ lowest tb.2 (-tb.1) = ((p.1 : Int), (p.2 : Int)))
    && ((List.range (k + 1)).all fun i => decide (0 < (frAt p i).1 ∧ 0 < (frAt p i).2)) && ((List.range k).all fun i => decide ((frAt p i).1 ≠ (frAt p i).2)) && decide ((frAt p k).1 = (frAt p k).2)
    && decide (p.1 < 10 ^ 140) && decide (p.2 < 10 ^ 140) && decide (frRuns p k = xs) && decide (wordR xs = w) && decide ((xs.map (·.2)).sum = w.length)
theorem chk_all : (List.range 8).all (fun n => (wordsB n).all fun w => chkW true w && chkW false w) = true := by decide +kernel
structure WayOk (up : Bool) (w : List Bool) : Prop where
  e : EdgeOk (firstEdge (sideB up)) (runsW w)
  pos : 0 < (wayEdge (sideB up) (runsW w)).2.2.1 + (wayEdge (sideB up) (runsW w)).2.2.2
  b : 0 < (tbW up w).2
  st : Small (tbW up w).1
  sb : Small (tbW up w).2
  u : up = true → 0 < (tbW up w).1 ∧ (tbW up w).1 = (pW up w).1 ∧ (tbW up w).2 = (pW up w).2
  d : up = false → (tbW up w).1 < 0 ∧ lowest (tbW up w).2 (-(tbW up w).1) = (((pW up w).1 : Int), ((pW up w).2 : Int))
  fe : FrEnd (pW up w) (runsW w).length
  fr : frRuns (pW up w) (runsW w).length = runsW w
  wr : wordR (runsW w) = w
  sum : ((runsW w).map (·.2)).sum = w.length
theorem word_in : ∀ w : List Bool, w ∈ wordsB w.length := fun w => by
  have h : ∀ (n : Nat) (w : List Bool), w.length = n → w ∈ wordsB n := fun n => by
    induction n with
    | zero =>
      intro w h
      rw [List.eq_nil_of_length_eq_zero h]
      exact List.mem_singleton.mpr rfl
    | succ n ih =>
      intro w h
      rw [wordsB_cons]
      cases w with
      | nil => cases h
      | cons b w =>
        have hw := ih w (by simpa using h)
        cases b
        · exact List.mem_append_left _ (List.mem_map.mpr ⟨w, hw, rfl⟩)
        · exact List.mem_append_right _ (List.mem_map.mpr ⟨w, hw, rfl⟩)
  exact h _ w rfl
theorem way_ok (up : Bool) {w : List Bool} (hw : w.length < 8) : WayOk up w := by
  have h : chkW up w = true := by
    have h1 := List.all_eq_true.mp (List.all_eq_true.mp chk_all w.length (List.mem_range.mpr hw)) w (word_in w)
    rw [Bool.and_eq_true] at h1
    cases up
    · exact h1.2
    · exact h1.1
  unfold chkW at h
  simp only [Bool.and_eq_true, decide_eq_true_eq, List.all_eq_true, List.mem_range] at h
  obtain ⟨⟨⟨⟨⟨⟨⟨⟨⟨⟨⟨⟨⟨⟨⟨⟨h1, h2⟩, h3⟩, h4⟩, h5⟩, h6⟩, h7⟩, h8⟩, h9⟩, h10⟩, h11⟩, h12⟩, h13⟩, h14⟩, h15⟩, h16⟩, h17⟩ := h
  have sm : ∀ {n : Int}, smallB n = true → Small n := fun {n} h => by
    have h2 : decide (n.natAbs < 10 ^ 140) = true := h
    have h3 : n.natAbs < 10 ^ 140 := of_decide_eq_true h2
    exact h3
  refine ⟨⟨by omega, fun i hi => ?_, fun x hx => h3 x hx, fun x hx => ?_⟩, h4, h5, sm h6, sm h7, h8, h9, ⟨by omega, fun i hi => h10 i (by omega), fun i hi => h11 i hi, h12, h13, h14⟩, h15, h16, h17⟩
  · have q := h2 i (by omega)
    unfold smallEB at q
    simp only [Bool.and_eq_true] at q
    exact ⟨sm q.1, sm q.2.1, sm q.2.2.1, sm q.2.2.2⟩
  · obtain ⟨y, _, rfl⟩ := List.mem_map.mp hx
    exact sh_word y.1
/-! ### rows of ways, counts, by views -/
theorem modeView_mAt {modes : List Mode} (ok : ModesOk modes) {x : Str} (h : x ∈ modes.map (·.1)) : modeView modes (.inr x) = ((mAt modes x).2.1, .inr (mAt modes x).2.2.1, .inr (mAt modes x).2.2.2) := by
  have m := mAt_mem h
  have q := modeView_at ok.nd m.1
  rw [m.2] at q
  exact q
section
variable {modes : List Mode} {f b : Str}
theorem lineR_at (ok : ModesOk modes) (hf : f ∈ modes.map (·.1)) (hb : b ∈ modes.map (·.1)) : ∀ n, ∀ x ∈ lineR modes f b n, ∃ up, x.1 = sideB up ∧ (Sum.inr x.2.2 : Key) = goB (modeView modes) (.inr (if up then f else b)) x.2.1
  | 0, x, hx => by
    rcases List.mem_cons.mp hx with e | hx
    · rw [e]; exact ⟨true, rfl, rfl⟩
    · rw [List.mem_singleton.mp hx]; exact ⟨false, rfl, rfl⟩
  | n + 1, x, hx => by
    obtain ⟨y, hy, h2⟩ := List.mem_flatMap.mp hx
    obtain ⟨up, h3, h4⟩ := lineR_at ok hf hb n y hy
    have hm := (lineR_names ok hf hb n y hy).1
    have mv := modeView_mAt ok hm
    rcases List.mem_cons.mp h2 with e | h2
    · rw [e]
      refine ⟨up, h3, ?_⟩
      show (Sum.inr (mAt modes y.2.2).2.2.1 : Key) = goB (modeView modes) _ (y.2.1 ++ [false])
      rw [goB_app, ← h4]
      show _ = (modeView modes (.inr y.2.2)).2.1
      rw [mv]
    · rw [List.mem_singleton.mp h2]
      refine ⟨up, h3, ?_⟩
      show (Sum.inr (mAt modes y.2.2).2.2.2 : Key) = goB (modeView modes) _ (y.2.1 ++ [true])
      rw [goB_app, ← h4]
      show _ = (modeView modes (.inr y.2.2)).2.2
      rw [mv]
def rowCnt (modes : List Mode) (f b : Str) (n : Nat) : Nat := ((lineR modes f b n).filter fun x => (mAt modes x.2.2).2.1).length
/-- the line by its words -/
theorem lineR_words (ok : ModesOk modes) (hf : f ∈ modes.map (·.1)) (hb : b ∈ modes.map (·.1)) : ∀ n, (lineR modes f b n).map (fun x => (x.1, x.2.1)) = (wordsB n).map (fun w => (Str.ofString "up", w)) ++ (wordsB n).map (fun w => (Str.ofString "down", w))
  | 0 => rfl
  | n + 1 => by
    have ih := lineR_words ok hf hb n
    have e1 : (lineR modes f b (n + 1)).map (fun x => (x.1, x.2.1)) = ((lineR modes f b n).map (fun x => (x.1, x.2.1))).flatMap fun p => [(p.1, p.2 ++ [false]), (p.1, p.2 ++ [true])] := by
      show ((lineR modes f b n).flatMap (expandE modes)).map (fun x => (x.1, x.2.1)) = _
      rw [List.map_flatMap, List.flatMap_map]
      rfl
    rw [e1, ih, List.flatMap_append, List.flatMap_map, List.flatMap_map]
    show _ = ((wordsB n).flatMap fun w => [w ++ [false], w ++ [true]]).map _ ++ ((wordsB n).flatMap fun w => [w ++ [false], w ++ [true]]).map _
    rw [List.map_flatMap, List.map_flatMap]
    rfl
theorem ud_side {up : Bool} : (sideB up = Str.ofString "up") ↔ up = true := by
  cases up
  · simp only [Bool.false_eq_true, iff_false]
    exact du_ne
  · exact ⟨fun _ => rfl, fun _ => rfl⟩
theorem rowCnt_eq (ok : ModesOk modes) (hf : f ∈ modes.map (·.1)) (hb : b ∈ modes.map (·.1)) (n : Nat) : (rowCnt modes f b n : Int) = cntK (modeView modes) n (.inr f) + cntK (modeView modes) n (.inr b) := by
  let g : Str × List Bool → Bool := fun p => (modeView modes (goB (modeView modes) (.inr (if p.1 = Str.ofString "up" then f else b)) p.2)).1
  have e1 : rowCnt modes f b n = (((lineR modes f b n).map (fun x => (x.1, x.2.1))).filter g).length := by
    unfold rowCnt
    rw [List.filter_map, List.length_map]
    congr 1
    refine List.filter_congr fun x hx => ?_
    obtain ⟨up, h1, h2⟩ := lineR_at ok hf hb n x hx
    have hm := (lineR_names ok hf hb n x hx).1
    show _ = (modeView modes (goB (modeView modes) (.inr (if x.1 = Str.ofString "up" then f else b)) x.2.1)).1
    have e : (if x.1 = Str.ofString "up" then f else b) = if up = true then f else b := by
      rw [h1]
      cases up
      · rw [if_neg (fun z => absurd (ud_side.mp z) (by decide)), if_neg (by decide)]
      · rw [if_pos (ud_side.mpr rfl), if_pos rfl]
    rw [e, ← h2, modeView_mAt ok hm]
  rw [e1, lineR_words ok hf hb, List.filter_append, List.length_append, List.filter_map, List.filter_map, List.length_map, List.length_map, Int.natCast_add]
  rw [← words_cnt (modeView modes) n (.inr f), ← words_cnt (modeView modes) n (.inr b)]
  have a1 : (wordsB n).filter (g ∘ fun w => (Str.ofString "up", w)) = (wordsB n).filter fun w => (modeView modes (goB (modeView modes) (.inr f) w)).1 := List.filter_congr fun w _ => by
    show (modeView modes (goB (modeView modes) (.inr (if Str.ofString "up" = Str.ofString "up" then f else b)) w)).1 = _
    rw [if_pos rfl]
  have a2 : (wordsB n).filter (g ∘ fun w => (Str.ofString "down", w)) = (wordsB n).filter fun w => (modeView modes (goB (modeView modes) (.inr b) w)).1 := List.filter_congr fun w _ => by
    show (modeView modes (goB (modeView modes) (.inr (if Str.ofString "down" = Str.ofString "up" then f else b)) w)).1 = _
    rw [if_neg du_ne]
  rw [a1, a2]
theorem farV_eq (ok : ModesOk modes) : ∀ (n : Nat) {x : Str}, x ∈ modes.map (·.1) → farV modes n x = cntK (modeView modes) n (.inr x)
  | 0, x, hx => by
    show b2n _ = b2n _
    rw [modeView_mAt ok hx]
  | n + 1, x, hx => by
    have cl := ok.cl _ (mAt_mem hx).1
    show farV modes n _ + farV modes n _ = cntK (modeView modes) n _ + cntK (modeView modes) n _
    rw [modeView_mAt ok hx, farV_eq ok n cl.1, farV_eq ok n cl.2]
theorem cntK_le (view : ViewF) : ∀ (n : Nat) (k : Key), 0 ≤ cntK view n k ∧ cntK view n k ≤ 2 ^ n
  | 0, k => by
    show 0 ≤ b2n _ ∧ b2n _ ≤ 1
    unfold b2n
    split <;> omega
  | n + 1, k => by
    have h1 := cntK_le view n (view k).2.1
    have h2 := cntK_le view n (view k).2.2
    show 0 ≤ cntK view n _ + cntK view n _ ∧ cntK view n _ + cntK view n _ ≤ 2 ^ (n + 1)
    rw [Int.pow_succ]
    omega
end
/-- the lot of what is drawn -/
noncomputable def Drawn.lot (d : Drawn) : Lot := leastLot d.z d.t (.inr d.f) (.inr d.b) (modeView d.modes) (modeKeys d.modes)
theorem Drawn.sim {d : Drawn} (ok : d.Ok) : ∃ D φ, LotSim d.lot d.z d.t (.inr d.f) (.inr d.b) (modeView d.modes) (modeKeys d.modes) D φ :=
  least_sim (modeKeys_name ok.hf) (modeKeys_name ok.hb) (modeView_closed ok.m) (by unfold modeKeys; rw [List.length_map]; exact ok.m.z)
theorem Drawn.cnt0 {d : Drawn} (ok : d.Ok) : cnt d.lot 0 = b2n d.z + b2n d.t := by
  obtain ⟨D, φ, S⟩ := Drawn.sim ok
  show b2n d.lot.zero + b2n d.lot.top = _
  rw [S.zero, S.top]
theorem Drawn.cntS {d : Drawn} (ok : d.Ok) (n : Nat) : cnt d.lot (n + 1) = cntK (modeView d.modes) n (.inr d.f) + cntK (modeView d.modes) n (.inr d.b) := by
  obtain ⟨D, φ, S⟩ := Drawn.sim ok
  show (vals d.lot.views n).getD d.lot.front 0 + (vals d.lot.views n).getD d.lot.back 0 = _
  rw [S.front, S.back, vals_sim S.sim n _ S.df, vals_sim S.sim n _ S.db]
theorem Drawn.lotOk {d : Drawn} (ok : d.Ok) : d.lot.Ok := by
  obtain ⟨D, φ, S⟩ := Drawn.sim ok
  exact S.ok
/-- a fraction of a word is in as the word's mode tells -/
theorem Drawn.has {d : Drawn} (ok : d.Ok) {up : Bool} {w : List Bool} (h : WayOk up w) : ∃ v : Vw, d.lot.views[alongV d.lot.views (if (tbW up w).1 < 0 then d.lot.back else d.lot.front) (frRuns (pW up w) (runsW w).length)]? = some v ∧ v.1 = (modeView d.modes (goB (modeView d.modes) (.inr (if up then d.f else d.b)) w)).1 := by
  obtain ⟨D, φ, S⟩ := Drawn.sim ok
  have e : ∃ k, (if (tbW up w).1 < 0 then d.lot.back else d.lot.front) = φ k ∧ D k ∧ k = (.inr (if up then d.f else d.b)) := by
    cases up
    · have := (h.d rfl).1
      rw [if_pos this]
      exact ⟨_, S.back, S.db, rfl⟩
    · have := (h.u rfl).1
      rw [if_neg (by omega)]
      exact ⟨_, S.front, S.df, rfl⟩
  obtain ⟨k, e1, e2, e3⟩ := e
  rw [e1, h.fr, ← e3]
  obtain ⟨a1, a2⟩ := along_sim S.sim (runsW w) e2
  rw [a1, h.wr]
  rw [h.wr] at a2
  exact ⟨_, (S.sim _ a2).1, rfl⟩
/-! ### finitely many -/
theorem few_zero (s : Src) : ∀ (j i : Nat), i + j = fewN s → ∀ x ∈ (namesF (fewN s)).drop i, ∀ m, j ≤ m → cntK (modeView (fewD s).modes) m (.inr x) = 0 := by
  have ok := fewD_ok s
  obtain ⟨l1, l2⟩ := fewN_le s
  have nl := namesF_len (fewN s)
  have noK : ∀ m, cntK (modeView (fewD s).modes) m (.inr noS) = 0 := fun m => by
    have hm : noM ∈ (fewD s).modes := by
      have h : ∀ k, noM ∈ (fewAt (namesF (fewN s)) (pickN s 3) k).1 := fun k => by
        induction k with
        | zero => exact List.mem_singleton.mpr rfl
        | succ k ih => exact List.mem_append_left _ ih
      exact h _
    have mv : modeView (fewD s).modes (.inr noS) = (false, .inr noS, .inr noS) := modeView_at ok.m.nd hm
    induction m with
    | zero =>
      show b2n _ = 0
      rw [mv]
      rfl
    | succ m ih =>
      show cntK _ m _ + cntK _ m _ = 0
      rw [mv, ih]
      rfl
  intro j
  induction j with
  | zero =>
    intro i hi x hx m hm
    rw [show i = fewN s by omega] at hx
    have : (namesF (fewN s)).drop (fewN s) = [noS] := by
      unfold namesF
      rw [List.drop_left' (by simp)]
    rw [this] at hx
    rw [List.mem_singleton.mp hx]
    exact noK m
  | succ j ih =>
    intro i hi x hx m hm
    have hil : i < (namesF (fewN s)).length := by omega
    rw [List.drop_eq_getElem_cons hil] at hx
    rcases List.mem_cons.mp hx with e | hx
    · have hxm : x ∈ (fewD s).modes.map (·.1) := namesF_mem (by rw [e]; exact List.getElem_mem _)
      obtain ⟨m1, m2⟩ := mAt_mem hxm
      rcases fewAt_to (fewN s) (pickN s 3) (fewN s) (Nat.le_refl _) _ m1 with z | ⟨j2, z1, z2, z3, z4⟩
      · rw [← m2, z]
        exact noK m
      · have nd := namesF_nd (fewN s) (by simp; omega)
        have ej : j2 = i := by
          rw [m2, e, List.getD_eq_getElem?_getD, List.getElem?_eq_getElem (by omega)] at z2
          exact ((List.getElem_inj nd).mp z2).symm
        subst ej
        cases m with
        | zero => omega
        | succ m =>
          show cntK _ m _ + cntK _ m _ = 0
          rw [modeView_mAt ok.m hxm, ih (j2 + 1) (by omega) _ z3 m (by omega), ih (j2 + 1) (by omega) _ z4 m (by omega)]
          rfl
    · exact ih (i + 1) (by omega) x hx m (by omega)
theorem few_all (s : Src) {x : Str} (hx : x ∈ (fewD s).modes.map (·.1)) {m : Nat} (hm : 3 ≤ m) : cntK (modeView (fewD s).modes) m (.inr x) = 0 := by
  obtain ⟨l1, l2⟩ := fewN_le s
  refine few_zero s (fewN s) 0 (by omega) x ?_ m (by omega)
  rw [fewD_names] at hx
  show x ∈ (namesF (fewN s)).drop 0
  rw [List.drop_zero]
  rcases List.mem_cons.mp hx with e | hx
  · rw [e]
    exact List.mem_append_right _ (List.mem_singleton.mpr rfl)
  · exact List.mem_append_left _ hx
def sumK (view : ViewF) (k : Key) : Nat → Int
  | 0 => 0
  | n + 1 => sumK view k n + cntK view n k
theorem few_size (s : Src) : sizeOf (fewD s).lot = some (b2n (fewD s).z + b2n (fewD s).t + sumK (modeView (fewD s).modes) (.inr (fewD s).f) 8 + sumK (modeView (fewD s).modes) (.inr (fewD s).b) 8) := by
  have ok := fewD_ok s
  obtain ⟨D, φ, S⟩ := Drawn.sim ok
  have v : ∀ n k, D k → valV' (fewD s).lot.views n (φ k) = cntK (modeView (fewD s).modes) n k := fun n k hk => vals_sim S.sim n k hk
  have deep : ∀ i, i < (fewD s).lot.views.length → Deep (fewD s).lot.views i 8 := fun i hi n hn => by
    obtain ⟨k, hk, e⟩ := S.onto i hi
    obtain ⟨m, hm, ek⟩ := modeKeys_mem.mp (S.inU k hk)
    rw [← e, v n k hk, ek]
    exact few_all s (List.mem_map_of_mem (f := (·.1)) hm) (by omega)
  have sm : ∀ k, D k → ∀ N, sumV (fewD s).lot.views (φ k) N = sumK (modeView (fewD s).modes) k N := fun k hk N => by
    induction N with
    | zero => rfl
    | succ N ih =>
      show sumV _ _ N + valV' _ N _ = sumK _ k N + cntK _ N k
      rw [ih, v N k hk]
  rw [size_fin S.ok deep, S.zero, S.top, S.front, S.back, sm _ S.df, sm _ S.db]
end DV
set_option maxHeartbeats 4000000
namespace DV
open PySem PySem.Spec PyProof.Rows L2 LamX NdefX
/-! ### the law -/
theorem sh_ofString (x : String) : SeqAt.shaped (.str (Str.ofString x)) = true := by
  refine sh_of ⟨?_, by show PyData.depth (.str _) ≤ 60; simp [PyData.depth]⟩
  show PyData.strOk (Str.ofString x) = true
  unfold PyData.strOk
  rw [PySem.Str.ofString_eq_toList]
  simp only [List.all_toArray, List.all_map, List.all_eq_true, Function.comp_apply, decide_eq_true_eq]
  intro c _
  have := c.valid
  have h : c.toNat < 0xd800 ∨ (0xdfff < c.toNat ∧ c.toNat < 0x110000) := this
  show c.toNat < 1114112
  omega
theorem sh_reprB (b : Bool) : SeqAt.shaped (.str (reprB b)) = true := by cases b <;> decide +kernel
theorem sh_ints (ns : List Int) : SeqAt.shaped (.list (ns.map .int)) = true := shaped_list fun d hd => by
  obtain ⟨i, _, rfl⟩ := List.mem_map.mp hd
  exact ⟨by simp [PyData.canLay0], by simp [PyData.depth]⟩
theorem eqv_ints (ns : List Int) : PyData.eqv (.list (ns.map .int)) (.list (ns.map .int)) = true := PySem.W.eqv_refl_alike _ (by
  simp only [PySem.W.alike]
  exact alike_ints ns ns)
section
variable {C : Cf}
theorem rcb_sum {b : B} {ns : List Int} (hb : b.lst = some (ns.map .int)) : Rcb C (rSum C.K) [b] (.dat (.int ns.sum)) := fun H1 F H vs s t m h Q q => by
  obtain ⟨v, rfl, bb⟩ := ball1 h
  obtain ⟨a, xs, rfl, h1, h2⟩ := bb.lst s hb
  rw [daAll_ints ns xs h2] at h1
  exact ⟨a, ns, rfl, h1, q _ F H (.refl s t) (.int _)⟩
end
noncomputable def fewB (ns : List Int) : Bool := decide (pickV (srcOf ns) 5 = 0)
noncomputable def lawD (ns : List Int) : Drawn := if fewB ns = true then fewD (pickN (srcOf ns) 5) else lotD (2 + pickV (pickN (srcOf ns) 5) 2) (pickN (pickN (srcOf ns) 5) 2)
theorem lawD_ok (ns : List Int) : (lawD ns).Ok := by
  unfold lawD
  split
  · exact fewD_ok _
  · have := pickV_lt (pickN (srcOf ns) 5) (many := 2) (by omega)
    exact lotD_ok (by omega) _
/-- the source behind a lap -/
noncomputable def lapS (d : Drawn) (s : Src) : Src := pickN (pickN s 8) ((lineR d.modes d.f d.b (pickV s 8).toNat).length)
noncomputable def lapsS (d : Drawn) (s : Src) : Nat → Src
  | 0 => s
  | i + 1 => lapS d (lapsS d s i)
def cntL (d : Drawn) : List Int := (List.range 8).map fun i => (rowCnt d.modes d.f d.b i : Int)
section
variable {K : PySem.W.Frag} {T : List NTab} {a l : Addr}
noncomputable def lawEnv (a : Addr) (scr : PyData) (few : Bool) (d : Drawn) : Env := [.dat scr, .val (.ref a), .dat (.bool few), .dat (headD d.z d.t d.f d.b), .dat (mdD d.modes), .dat (encL d.lot), .dat (.list (rowsR d.modes d.f d.b 8)), .un, .un, .un, .own ((cntL d).map .int), .un, .un, .un, .un, .un, .un, .un, .un, .un]
theorem law_lap {scr : PyData} {few : Bool} {d : Drawn} (ok : d.Ok) (s : Src) (i : Nat) : ∃ env1 js, Dg ⟨K, T, srcW a l⟩ (gName 12) (.int (0 + (i : Int))) (lawEnv a scr few d) env1 js ∧ Goes ⟨K, T, srcW a l⟩ (tSeq (tAsg (tCall (PmS K T spPick) [] C8.E0 (tCons (tVar 1) (tCons (tC (V.int 8)) tNil))) (gName 11)) (tSeq (tAsg (tCall (PmS K T spOf) [] C8.E0 (tCons (tVar 1) (tCons (tOp (rIxL K) (tVar 6) (tVar 11)) tNil))) (gTup K 3 (gCons (gName 7) (gCons (gName 8) (gCons (gName 9) gNil))))) (tSeq (tAsg (tCall (Pm K T spWayN) [] C8.E0 (tCons (tTup (tCons (tVar 7) (tCons (tCall (Pm K T spLRuns) [] C8.E0 (tCons (tVar 8) tNil)) tNil))) tNil)) (gName 13)) (tSeq (tIfS (tTest (tOp (rNeD K) (tCB rReprS (tCons (tCall (Pm K T spHas) [] C8.E0 (tCons (tVar 5) (tCons (tVar 13) tNil))) tNil)) (tCB rReprS (tCons (tVar 9) tNil)))) (tRet (tC (V.bl false))) tNext) (tSeq (tAsg (tCall (Pm K T spWayT) [] C8.E0 (tCons (tVar 13) tNil)) (gName 14)) (tIfS (tOr (tTest (tOp (rNeD K) (tOp (rIxT K) (tVar 14) (tC (V.int 0))) (tVar 7))) (tTest (tOp (rNeD K) (tCB (rSum K) (tCons (tLc (iTup K (tOp (rIxT K) (tVar 14) (tC (V.int 1)))) (gTup K 2 (gCons (gName 18) (gCons (gName 19) gNil))) tYes (tVar 19) [18, 19]) tNil)) (tVar 11)))) (tRet (tC (V.bl false))) tNext)))))) env1 s (lawEnv a scr few d) (lapS d s) := by
  refine ⟨_, _, dg_name, ?_⟩
  obtain ⟨n, hn⟩ : ∃ n : Nat, pickV s 8 = (n : Int) := ⟨_, (Int.toNat_of_nonneg (pickV_lt s (many := 8) (by omega)).1).symm⟩
  have n8 : n < 8 := by have := pickV_lt s (many := 8) (by omega); omega
  obtain ⟨xs, exs⟩ : ∃ xs, xs = lineR d.modes d.f d.b n := ⟨_, rfl⟩
  have lx : xs.length = 2 * 2 ^ n := by rw [exs]; exact lineR_len _ _ _ n
  have lx1 : 1 ≤ xs.length := by rw [lx]; have := Nat.two_pow_pos n; omega
  have lx2 : xs.length ≤ 1000000 := by
    rw [lx]
    have := Nat.pow_le_pow_right (n := 2) (by omega) (show n ≤ 8 by omega)
    omega
  have es : lapS d s = pickN (pickN s 8) xs.length := by
    unfold lapS
    rw [hn, Int.toNat_natCast, exs]
  have row : atI (rowsR d.modes d.f d.b 8) (n : Int) = some (.list (xs.map (encRw d.modes))) := atI_nat (by
    unfold rowsR
    rw [List.getElem?_map, List.getElem?_range (by omega), exs]
    rfl)
  obtain ⟨s1, es1⟩ : ∃ s1, s1 = pickN s 8 := ⟨_, rfl⟩
  rw [es, ← es1]
  have hm := ofV_mem s1 (xs := xs.map (encRw d.modes)) (by rw [List.length_map]; exact lx1)
  obtain ⟨x, hx, ex⟩ := List.mem_map.mp hm
  have nm := lineR_names ok.m ok.hf ok.hb n x (by rw [← exs]; exact hx)
  obtain ⟨up, u1, u2⟩ := lineR_at ok.m ok.hf ok.hb n x (by rw [← exs]; exact hx)
  obtain ⟨w, ew⟩ : ∃ w, w = x.2.1 := ⟨_, rfl⟩
  have wl : w.length = n := by rw [ew]; exact nm.2
  have W := way_ok up (w := w) (by omega)
  obtain ⟨yes, ey⟩ : ∃ yes, yes = (mAt d.modes x.2.2).2.1 := ⟨_, rfl⟩
  have ex2 : ofV s1 (xs.map (encRw d.modes)) = .tuple [.str (sideB up), .str (wayS w), .bool yes] := by
    rw [← ex]
    unfold encRw
    rw [u1, ew, ey]
  obtain ⟨v, hv, ev⟩ := Drawn.has ok W
  have vy : v.1 = yes := by
    rw [ev, ey, ew, ← u2, modeView_mAt ok.m nm.1]
  have tne : (tbW up w).1 ≠ 0 := by
    cases up
    · have := (W.d rfl).1; omega
    · have := (W.u rfl).1; omega
  have tl : (tbW up w).1 < 0 → lowest (tbW up w).2 (-(tbW up w).1) = (((pW up w).1 : Int), ((pW up w).2 : Int)) := fun h => by
    cases up
    · exact (W.d rfl).2
    · have := (W.u rfl).1; omega
  have tg : 0 < (tbW up w).1 → (tbW up w).1 = (pW up w).1 ∧ (tbW up w).2 = (pW up w).2 := fun h => by
    cases up
    · have := (W.d rfl).1; omega
    · exact (W.u rfl).2
  have shs : SeqAt.shaped (.str (sideB up)) = true := by
    cases up
    · exact sh_down
    · exact sh_up
  have er : (runsW w).map encR = (lrRuns w).map encW := by
    unfold runsW
    rw [List.map_map]
    rfl
  have sd : (if (tbW up w).1 < 0 then Str.ofString "down" else Str.ofString "up") = sideB up := by
    cases up
    · rw [if_pos (W.d rfl).1]; rfl
    · have := (W.u rfl).1
      rw [if_neg (by omega)]; rfl
  -- n
  refine goes_nxW (tr_seq (tr_asg (b := .dat (.int (n : Int))) (dv_is (dv_pick (K := K) (T := T) (l := l) (s := s) (i := 1) (many := 8) rfl (by omega) (by omega)) (by rw [hn]))) ?_) (env2 := [.dat scr, .val (.ref a), .dat (.bool few), .dat (headD d.z d.t d.f d.b), .dat (mdD d.modes), .dat (encL d.lot), .dat (.list (rowsR d.modes d.f d.b 8)), .dat (.str (sideB up)), .dat (.str (wayS w)), .dat (.bool yes), .own ((cntL d).map .int), .dat (.int (n : Int)), .dat (.int (0 + (i : Int))), .dat (.tuple [.int (tbW up w).1, .int (tbW up w).2]), .dat (.tuple [.str (sideB up), .tuple ((runsW w).map encR)]), .un, .un, .un, .un, .un]) (.eq (.eq (.eq (.eq (.eq (.eq (.eq (.un (.un (.un (.eq (.un (.un (.un (.un (Wks.refl _))))))))))))))))
  rw [← es1]
  -- side, way, yes
  refine tr_seq (tr_asgT (d := .tuple [.str (sideB up), .str (wayS w), .bool yes]) (b := .dat (.tuple [.str (sideB up), .str (wayS w), .bool yes])) (dv_is (pms_call (S := spOf) (r := .dat (ofV s1 (xs.map (encRw d.modes)))) (s2 := pickN s1 xs.length) (da_cons (dv_val rfl) (da_cons (dv_op (C := ⟨K, T, srcW a l⟩) (dv_var rfl) (dv_var rfl) (rop_ixL rfl row)) da_nil)) (.val (.dat rfl .nil)) ⟨_, rfl, by rw [List.length_map]; exact lx1, by rw [List.length_map]; exact lx2, rfl, by unfold ofN; rw [List.length_map]⟩) (by rw [ex2])) rfl (dg_tup (dgs_cons dg_name (dgs_cons dg_name (dgs_cons dg_name dgs_nil))) rfl)) ?_
  -- x
  refine tr_seq (tr_asg (b := .dat (.tuple [.int (tbW up w).1, .int (tbW up w).2])) (pm_call (C := ⟨K, T, srcW a l⟩) (S := spWayN) (da_cons (dv_tup (da_cons (dv_var rfl) (da_cons (pm_call (C := ⟨K, T, srcW a l⟩) (S := spLRuns) (r := .dat (.tuple ((lrRuns w).map encW))) (da_cons (dv_var rfl) da_nil) (.cons rfl .nil) ⟨w, rfl, by omega, rfl⟩ rfl) da_nil)) (.cons rfl (.cons rfl .nil)) (Nat.le_of_ble_eq_true rfl)) da_nil) (.cons rfl .nil) ⟨sideB up, runsW w, by rw [er], shs, W.e, W.pos, rfl⟩ rfl)) ?_
  -- it is in as told
  have has : Dv ⟨K, T, srcW a l⟩ (tCall (Pm K T spHas) [] C8.E0 (tCons (tVar 5) (tCons (tVar 13) tNil))) [.dat scr, .val (.ref a), .dat (.bool few), .dat (headD d.z d.t d.f d.b), .dat (mdD d.modes), .dat (encL d.lot), .dat (.list (rowsR d.modes d.f d.b 8)), .dat (.str (sideB up)), .dat (.str (wayS w)), .dat (.bool yes), .own ((cntL d).map .int), .dat (.int (n : Int)), .dat (.int (0 + (i : Int))), .dat (.tuple [.int (tbW up w).1, .int (tbW up w).2]), .un, .un, .un, .un, .un, .un] (pickN s1 xs.length) (.dat (.bool yes)) (pickN s1 xs.length) :=
    pm_call (C := ⟨K, T, srcW a l⟩) (S := spHas) (da_cons (dv_var rfl) (da_cons (dv_var rfl) da_nil)) (.cons rfl (.cons rfl .nil)) ⟨d.lot, (tbW up w).1, (tbW up w).2, pW up w, (runsW w).length, rfl, Drawn.lotOk ok, tne, W.b, W.st, W.sb, tl, tg, W.fe, v, hv, by rw [vy]⟩ rfl
  refine tr_seq (tr_if (c := false) (dt_is (dt_test (dv_op (C := ⟨K, T, srcW a l⟩) (dv_cb (da_cons has da_nil) rcb_reprB) (dv_cb (da_cons (dv_var rfl) da_nil) rcb_reprB) (rop_neD rfl rfl (sh_reprB yes) (sh_reprB yes)))) (by rw [eqv_str, decide_eq_true rfl]; rfl)) (fun z => by cases z) fun _ => tr_next) ?_
  -- its way
  refine tr_seq (tr_asg (b := .dat (.tuple [.str (sideB up), .tuple ((runsW w).map encR)])) (pm_call (C := ⟨K, T, srcW a l⟩) (S := spWayT) (da_cons (dv_var rfl) da_nil) (.cons rfl .nil) ⟨(tbW up w).1, (tbW up w).2, pW up w, (runsW w).length, rfl, tne, W.b, W.st, W.sb, tl, tg, W.fe, by
    rw [W.fr]
    show B.dat (.tuple [.str (sideB up), _]) = .dat (.tuple [.str (if (tbW up w).1 < 0 then Str.ofString "down" else Str.ofString "up"), _])
    rw [sd]⟩ rfl)) ?_
  have many := dv_lcM (C := ⟨K, T, srcW a l⟩) (s := pickN s1 xs.length) (s1 := pickN s1 xs.length) (env := [.dat scr, .val (.ref a), .dat (.bool few), .dat (headD d.z d.t d.f d.b), .dat (mdD d.modes), .dat (encL d.lot), .dat (.list (rowsR d.modes d.f d.b 8)), .dat (.str (sideB up)), .dat (.str (wayS w)), .dat (.bool yes), .own ((cntL d).map .int), .dat (.int (n : Int)), .dat (.int (0 + (i : Int))), .dat (.tuple [.int (tbW up w).1, .int (tbW up w).2]), .dat (.tuple [.str (sideB up), .tuple ((runsW w).map encR)]), .un, .un, .un, .un, .un]) (wi := iTup K (tOp (rIxT K) (tVar 14) (tC (V.int 1)))) (tt := tYes) (vs := [18, 19]) (g := gTup K 2 (gCons (gName 18) (gCons (gName 19) gNil))) (te := tVar 19)
    (runsW w) encR (fun x => .int (x.2 : Int)) (di_tup (dv_op (dv_var rfl) dv_int (rop_ixT (d := .tuple ((runsW w).map encR)) rfl))) rfl (by have := W.e.z; omega) rfl fun z hz => ⟨_, _, dg_tup (dgs_cons dg_name (dgs_cons dg_name dgs_nil)) rfl, by decide, _, dv_var rfl, rfl⟩
  have em : (runsW w).map (fun x => PyData.int (x.2 : Int)) = (((runsW w).map (·.2)).map fun k : Nat => (k : Int)).map .int := by
    rw [List.map_map, List.map_map]
    rfl
  have sm : ∀ ks : List Nat, (ks.map fun k : Nat => (k : Int)).sum = ((ks.sum : Nat) : Int) := fun ks => by
    induction ks with
    | nil => rfl
    | cons k ks ih => rw [List.map_cons, List.sum_cons, List.sum_cons, ih, Int.natCast_add]
  rw [em] at many
  exact tr_if (c := false) (dt_is (dt_or0 (C := ⟨K, T, srcW a l⟩) (a := false) (b := false) (dt_is (dt_test (dv_op (dv_op (dv_var rfl) dv_int (rop_ixT (d := .str (sideB up)) rfl)) (dv_var rfl) (rop_neD rfl rfl shs shs))) (by rw [eqv_str, decide_eq_true rfl]; rfl)) fun _ => dt_is (dt_test (dv_op (dv_cb (da_cons many da_nil) (rcb_sum rfl)) (dv_var (d := .int (n : Int)) rfl) (rop_neD rfl rfl rfl rfl))) (by
    rw [sm, W.sum, wl]
    show (!decide ((n : Int) = (n : Int))) = false
    rw [decide_eq_true rfl]
    rfl)) rfl) (fun z => by cases z) fun _ => tr_next
end
end DV
set_option maxHeartbeats 4000000
namespace DV
open PySem PySem.Spec PyProof.Rows L2 LamX NdefX
/-! ### the law, whole -/
theorem cntL_sum (d : Drawn) (ok : d.Ok) : (cntL d).sum = sumK (modeView d.modes) (.inr d.f) 8 + sumK (modeView d.modes) (.inr d.b) 8 := by
  have h : ∀ n, ((List.range n).map fun i => (rowCnt d.modes d.f d.b i : Int)).sum = sumK (modeView d.modes) (.inr d.f) n + sumK (modeView d.modes) (.inr d.b) n := fun n => by
    induction n with
    | zero => rfl
    | succ n ih =>
      rw [List.range_succ, List.map_append, List.sum_append, ih]
      show _ + (((rowCnt d.modes d.f d.b n : Nat) : Int) + 0) = (sumK _ _ n + cntK _ n _) + (sumK _ _ n + cntK _ n _)
      rw [rowCnt_eq ok.m ok.hf ok.hb n]
      omega
  exact h 8
theorem cnt_small {d : Drawn} (ok : d.Ok) {n : Nat} (hn : n ≤ 100) : (cnt d.lot n).natAbs < 10 ^ 300 := by
  cases n with
  | zero =>
    rw [Drawn.cnt0 ok]
    refine Nat.lt_of_le_of_lt (m := 2) ?_ (by decide +kernel)
    unfold b2n
    split <;> split <;> decide
  | succ n =>
    rw [Drawn.cntS ok]
    have h1 := cntK_le (modeView d.modes) n (.inr d.f)
    have h2 := cntK_le (modeView d.modes) n (.inr d.b)
    have h3 : (2 : Int) ^ n ≤ 2 ^ 100 := by
      have h := Int.ofNat_le.mpr (Nat.pow_le_pow_right (n := 2) (by omega) (show n ≤ 100 by omega))
      rw [Int.natCast_pow, Int.natCast_pow] at h
      exact h
    refine Nat.lt_of_le_of_lt (m := (2 ^ 100 + 2 ^ 100 : Int).natAbs) ?_ (by decide +kernel)
    omega
section
variable {K : PySem.W.Frag} {T : List NTab} {a l : Addr}
def lawRest (K : PySem.W.Frag) (T : List NTab) : TS := tSeq (tAsg (tOp (rEqD K) (tCall (PmS K T spPick) [] C8.E0 (tCons (tVar 1) (tCons (tC (V.int 5)) tNil))) (tC (V.int 0))) (gName 2)) (tSeq (tAsg (tIf (tB (tVar 2)) (tCall (PmS K T spLawFew) [] C8.E0 (tCons (tVar 1) tNil)) (tCall (PmS K T spLawLot) [] C8.E0 (tCons (tVar 1) (tCons (tOp (rI0 fun i j => V.int (i + j)) (tC (V.int 2)) (tCall (PmS K T spPick) [] C8.E0 (tCons (tVar 1) (tCons (tC (V.int 2)) tNil)))) tNil)))) (gTup K 2 (gCons (gName 3) (gCons (gName 4) gNil)))) (tSeq (tAsg (tFrz 4 (tCall (Pm K T spLot) [] C8.E0 (tCons (tOp (rIxT K) (tVar 3) (tC (V.int 0))) (tCons (tOp (rIxT K) (tVar 3) (tC (V.int 1))) (tCons (tOp (rIxT K) (tVar 3) (tC (V.int 2))) (tCons (tOp (rIxT K) (tVar 3) (tC (V.int 3))) (tCons (tCall (Pm K T spModes) [] C8.E0 (tCons (tVar 4) tNil)) tNil))))))) (gName 5)) (tSeq (tAsg (tCall (Pm K T spRows) [] C8.E0 (tCons (tVar 3) (tCons (tVar 4) (tCons (tC (V.int 8)) tNil)))) (gName 6)) (tSeq (tAsg (tLc (iList K (tVar 6)) (gName 17) tYes (tCB (rLenS K) (tCons (tLc (iList K (tVar 17)) (gTup K 3 (gCons (gName 7) (gCons (gName 8) (gCons (gName 9) gNil)))) (tB (tVar 9)) (tVar 8) [7, 8, 9]) tNil)) [17]) (gName 10)) (tSeq (tIfS (tTest (tOp (rNeD K) (tLc (iRng1 (tCons (tC (V.int 9)) tNil)) (gName 11) tYes (tCall (Pm K T spTold) [] C8.E0 (tCons (tVar 5) (tCons (tVar 11) tNil))) [11]) (tOp rCat (tLst (tCons (tOp (rI0 fun i j => V.int (i + j)) (tCB rInt1 (tCons (tOp (rIxT K) (tVar 3) (tC (V.int 0))) tNil)) (tCB rInt1 (tCons (tOp (rIxT K) (tVar 3) (tC (V.int 1))) tNil))) tNil)) (tVar 10)))) (tRet (tC (V.bl false))) tNext) (tSeq (tFor (iRng1 (tCons (tC (V.int 10)) tNil)) (gName 12) (tSeq (tAsg (tCall (PmS K T spPick) [] C8.E0 (tCons (tVar 1) (tCons (tC (V.int 8)) tNil))) (gName 11)) (tSeq (tAsg (tCall (PmS K T spOf) [] C8.E0 (tCons (tVar 1) (tCons (tOp (rIxL K) (tVar 6) (tVar 11)) tNil))) (gTup K 3 (gCons (gName 7) (gCons (gName 8) (gCons (gName 9) gNil))))) (tSeq (tAsg (tCall (Pm K T spWayN) [] C8.E0 (tCons (tTup (tCons (tVar 7) (tCons (tCall (Pm K T spLRuns) [] C8.E0 (tCons (tVar 8) tNil)) tNil))) tNil)) (gName 13)) (tSeq (tIfS (tTest (tOp (rNeD K) (tCB rReprS (tCons (tCall (Pm K T spHas) [] C8.E0 (tCons (tVar 5) (tCons (tVar 13) tNil))) tNil)) (tCB rReprS (tCons (tVar 9) tNil)))) (tRet (tC (V.bl false))) tNext) (tSeq (tAsg (tCall (Pm K T spWayT) [] C8.E0 (tCons (tVar 13) tNil)) (gName 14)) (tIfS (tOr (tTest (tOp (rNeD K) (tOp (rIxT K) (tVar 14) (tC (V.int 0))) (tVar 7))) (tTest (tOp (rNeD K) (tCB (rSum K) (tCons (tLc (iTup K (tOp (rIxT K) (tVar 14) (tC (V.int 1)))) (gTup K 2 (gCons (gName 18) (gCons (gName 19) gNil))) tYes (tVar 19) [18, 19]) tNil)) (tVar 11)))) (tRet (tC (V.bl false))) tNext))))))) (tSeq (tAsg (tOp (rI0 fun i j => V.int (i + j)) (tC (V.int 9)) (tCall (PmS K T spPick) [] C8.E0 (tCons (tVar 1) (tCons (tC (V.int 50)) tNil)))) (gName 15)) (tSeq (tAsg (tOp (rI0 fun i j => V.int (i + j)) (tCall (Pm K T spFar) [] C8.E0 (tCons (tVar 4) (tCons (tOp (rIxT K) (tVar 3) (tC (V.int 2))) (tCons (tOp (rI0 fun i j => V.int (i - j)) (tVar 15) (tC (V.int 1))) tNil)))) (tCall (Pm K T spFar) [] C8.E0 (tCons (tVar 4) (tCons (tOp (rIxT K) (tVar 3) (tC (V.int 3))) (tCons (tOp (rI0 fun i j => V.int (i - j)) (tVar 15) (tC (V.int 1))) tNil))))) (gName 16)) (tSeq (tIfS (tTest (tOp (rNeD K) (tCB rReprS (tCons (tCall (Pm K T spTold) [] C8.E0 (tCons (tVar 5) (tCons (tVar 15) tNil))) tNil)) (tCB rReprS (tCons (tVar 16) tNil)))) (tRet (tC (V.bl false))) tNext) (tSeq (tIfS (tB (tVar 2)) (tRet (tAndV (tOp (rEqD K) (tCall (Pm K T spSize) [] C8.E0 (tCons (tVar 5) tNil)) (tOp (rI0 fun i j => V.int (i + j)) (tOp (rI0 fun i j => V.int (i + j)) (tCB rInt1 (tCons (tOp (rIxT K) (tVar 3) (tC (V.int 0))) tNil)) (tCB rInt1 (tCons (tOp (rIxT K) (tVar 3) (tC (V.int 1))) tNil))) (tCB (rSum K) (tCons (tVar 10) tNil)))) (tOp (rEqD K) (tVar 16) (tC (V.int 0))))) tNext) (tRet (tC (V.bl true)))))))))))))
def lawTs (K : PySem.W.Frag) (T : List NTab) : TS := tSeq (tAsg (tCall (spSource K T) [] C8.E0 (tCons (tVar 0) tNil)) (gName 1)) (lawRest K T)
theorem law_draw (ns : List Int) {env : Env} (h1 : env[1]? = some (.val (.ref a))) (h2 : env[2]? = some (.dat (.bool (fewB ns)))) : Dv ⟨K, T, srcW a l⟩ (tIf (tB (tVar 2)) (tCall (PmS K T spLawFew) [] C8.E0 (tCons (tVar 1) tNil)) (tCall (PmS K T spLawLot) [] C8.E0 (tCons (tVar 1) (tCons (tOp (rI0 fun i j => V.int (i + j)) (tC (V.int 2)) (tCall (PmS K T spPick) [] C8.E0 (tCons (tVar 1) (tCons (tC (V.int 2)) tNil)))) tNil)))) env (pickN (srcOf ns) 5) (lawD ns).r (lawD ns).s := by
  unfold lawD
  have hp := pickV_lt (pickN (srcOf ns) 5) (many := 2) (by omega)
  refine dv_if (C := ⟨K, T, srcW a l⟩) (s1 := pickN (srcOf ns) 5) (dt_B (dv_var h2)) (fun e => ?_) fun e => ?_
  · rw [if_pos e]
    exact pms_call (S := spLawFew) (da_cons (dv_val h1) da_nil) (.val .nil) ⟨rfl, rfl, rfl⟩
  · rw [if_neg (by rw [e]; decide)]
    exact pms_call (S := spLawLot) (da_cons (dv_val h1) (da_cons (dv_op (C := ⟨K, T, srcW a l⟩) dv_int (dv_pick h1 (by omega) (by omega)) rop_II) da_nil)) (.val (.dat rfl .nil)) ⟨_, rfl, by omega, rfl, rfl⟩
theorem tr_lawRest (scr : PyData) (ns : List Int) : ∃ s', Tr ⟨K, T, srcW a l⟩ (lawRest K T) [.dat scr, .val (.ref a), .un, .un, .un, .un, .un, .un, .un, .un, .un, .un, .un, .un, .un, .un, .un, .un, .un, .un] (srcOf ns) (.rt (.dat (.bool true)) s') := by
  obtain ⟨d, ed⟩ : ∃ d, d = lawD ns := ⟨_, rfl⟩
  have ok : d.Ok := by rw [ed]; exact lawD_ok ns
  obtain ⟨few, ef⟩ : ∃ few, few = fewB ns := ⟨_, rfl⟩
  obtain ⟨s1, es1⟩ : ∃ s1, s1 = lapsS d d.s 10 := ⟨_, rfl⟩
  obtain ⟨m, hm⟩ : ∃ m : Nat, pickV s1 50 = (m : Int) := ⟨_, (Int.toNat_of_nonneg (pickV_lt s1 (many := 50) (by omega)).1).symm⟩
  have m50 : m < 50 := by have := pickV_lt s1 (many := 50) (by omega); omega
  refine ⟨pickN s1 50, ?_⟩
  refine tr_seq (tr_asg (b := .dat (.bool few)) (dv_is (dv_pick0 (K := K) (T := T) (l := l) (s := srcOf ns) (i := 1) (many := 5) rfl (by omega) (by omega)) (by rw [ef]; rfl))) ?_
  -- head, modes
  refine tr_seq (tr_asgP (C := ⟨K, T, srcW a l⟩) (d := headD d.z d.t d.f d.b) (q := dictM d.modes) (s1 := d.s) (by
    have h := law_draw (K := K) (T := T) (a := a) (l := l) ns (env := [.dat scr, .val (.ref a), .dat (.bool few), .un, .un, .un, .un, .un, .un, .un, .un, .un, .un, .un, .un, .un, .un, .un, .un, .un]) rfl (by rw [ef]; rfl)
    rw [← ed] at h
    exact h)) ?_
  obtain ⟨hd, ehd⟩ : ∃ hd, hd = headD d.z d.t d.f d.b := ⟨_, rfl⟩
  have h0 : ∀ {env : Env}, env[3]? = some (.dat (headD d.z d.t d.f d.b)) → Dv ⟨K, T, srcW a l⟩ (tOp (rIxT K) (tVar 3) (tC (V.int 0))) env d.s (.dat (.bool d.z)) d.s := fun h => dv_op (dv_var h) dv_int (rop_ixT (d := .bool d.z) rfl)
  -- the lot
  refine tr_seq (tr_asgF (C := ⟨K, T, srcW a l⟩) (d := encL d.lot) (dv_frzD (C := ⟨K, T, srcW a l⟩) (q := dictM d.modes) (s1 := d.s) rfl (pm_call (C := ⟨K, T, srcW a l⟩) (S := spLot) (r := .dat (encL d.lot))
    (da_cons (h0 rfl) (da_cons (dv_op (dv_var rfl) dv_int (rop_ixT (d := .bool d.t) rfl)) (da_cons (dv_op (dv_var rfl) dv_int (rop_ixT (d := .str d.f) rfl)) (da_cons (dv_op (dv_var rfl) dv_int (rop_ixT (d := .str d.b) rfl)) (da_cons (pm_call (C := ⟨K, T, srcW a l⟩) (S := spModes) (r := .dat (.tuple (d.modes.map encM))) (da_cons (dv_var (d := mdD d.modes) rfl) da_nil) (.cons rfl .nil) ⟨d.modes, rfl, ok.m.nd, by have := ok.m.z; omega, rfl⟩ rfl) da_nil)))))
    (.cons rfl (.cons rfl (.cons rfl (.cons rfl (.cons rfl .nil))))) ⟨d.z, d.t, d.f, d.b, d.modes, rfl, ok.m, ok.hf, ok.hb, rfl⟩ rfl)) dg_name) ?_
  -- the rows
  refine tr_seq (tr_asg (b := .dat (.list (rowsR d.modes d.f d.b 8))) (pm_call (C := ⟨K, T, srcW a l⟩) (S := spRows) (da_cons (dv_var (d := headD d.z d.t d.f d.b) rfl) (da_cons (dv_var (d := mdD d.modes) rfl) (da_cons dv_int da_nil))) (.cons rfl (.cons rfl (.cons rfl .nil))) ⟨d.z, d.t, d.f, d.b, d.modes, 8, rfl, ok.m, ok.hf, ok.hb, Nat.le_refl _, rfl⟩ rfl)) ?_
  -- the counts
  have counts := dv_lcM (C := ⟨K, T, srcW a l⟩) (s := d.s) (s1 := d.s) (env := [.dat scr, .val (.ref a), .dat (.bool few), .dat (headD d.z d.t d.f d.b), .dat (mdD d.modes), .dat (encL d.lot), .dat (.list (rowsR d.modes d.f d.b 8)), .un, .un, .un, .un, .un, .un, .un, .un, .un, .un, .un, .un, .un]) (wi := iList K (tVar 6)) (tt := tYes) (vs := [17]) (g := gName 17) (te := tCB (rLenS K) (tCons (tLc (iList K (tVar 17)) (gTup K 3 (gCons (gName 7) (gCons (gName 8) (gCons (gName 9) gNil)))) (tB (tVar 9)) (tVar 8) [7, 8, 9]) tNil))
    (List.range 8) (fun i => .list ((lineR d.modes d.f d.b i).map (encRw d.modes))) (fun i => .int (rowCnt d.modes d.f d.b i : Int)) (di_list (dv_var rfl) rfl) rfl (Nat.le_of_ble_eq_true rfl) rfl fun i hi => by
      have hi := List.mem_range.mp hi
      have lz : (lineR d.modes d.f d.b i).length ≤ 512 := by
        rw [lineR_len]
        have := Nat.pow_le_pow_right (n := 2) (by omega) (show i ≤ 8 by omega)
        omega
      have inner := dv_lcF (C := ⟨K, T, srcW a l⟩) (s := d.s) (s1 := d.s) (env := [.dat scr, .val (.ref a), .dat (.bool few), .dat (headD d.z d.t d.f d.b), .dat (mdD d.modes), .dat (encL d.lot), .dat (.list (rowsR d.modes d.f d.b 8)), .un, .un, .un, .un, .un, .un, .un, .un, .un, .un, .dat (.list ((lineR d.modes d.f d.b i).map (encRw d.modes))), .un, .un]) (wi := iList K (tVar 17)) (tt := tB (tVar 9)) (vs := [7, 8, 9]) (g := gTup K 3 (gCons (gName 7) (gCons (gName 8) (gCons (gName 9) gNil)))) (te := tVar 8)
        (lineR d.modes d.f d.b i) (encRw d.modes) (fun x => if (mAt d.modes x.2.2).2.1 = true then some (.str (wayS x.2.1)) else none) (di_list (dv_var rfl) rfl) rfl (by omega) fun x hx =>
          ⟨_, _, dg_tup (dgs_cons dg_name (dgs_cons dg_name (dgs_cons dg_name dgs_nil))) rfl, by decide, (mAt d.modes x.2.2).2.1, dt_B (dv_var rfl), fun c => ⟨_, .str (wayS x.2.1), dv_var rfl, rfl, if_pos c⟩, fun c => if_neg (by rw [c]; decide)⟩
      rw [filterMap_if] at inner
      refine ⟨_, _, dg_name, by decide, _, dv_cb (da_cons inner da_nil) (rcb_len rfl), ?_⟩
      rw [List.length_map]
      rfl
  have ec : (List.range 8).map (fun i => PyData.int (rowCnt d.modes d.f d.b i : Int)) = (cntL d).map .int := by
    unfold cntL
    rw [List.map_map]
    rfl
  rw [ec] at counts
  refine tr_seq (tr_asg counts) ?_
  -- they are told
  have told := dv_lcM (C := ⟨K, T, srcW a l⟩) (s := d.s) (s1 := d.s) (env := [.dat scr, .val (.ref a), .dat (.bool few), .dat (headD d.z d.t d.f d.b), .dat (mdD d.modes), .dat (encL d.lot), .dat (.list (rowsR d.modes d.f d.b 8)), .un, .un, .un, .own ((cntL d).map .int), .un, .un, .un, .un, .un, .un, .un, .un, .un]) (wi := iRng1 (tCons (tC (V.int 9)) tNil)) (tt := tYes) (vs := [11]) (g := gName 11) (te := tCall (Pm K T spTold) [] C8.E0 (tCons (tVar 5) (tCons (tVar 11) tNil)))
    (List.range 9) (fun i => .int (0 + (i : Int))) (fun i => .int (cnt d.lot i)) (di_rng1 (n := 9) (da_cons dv_int da_nil) (by omega) (by omega)) rfl (Nat.le_of_ble_eq_true rfl) rfl fun i hi => by
      have hi := List.mem_range.mp hi
      exact ⟨_, _, dg_name, by decide, _, pm_call (C := ⟨K, T, srcW a l⟩) (S := spTold) (r := .dat (.int (cnt d.lot i))) (da_cons (dv_var (d := encL d.lot) rfl) (da_cons (dv_var (d := .int (0 + (i : Int))) rfl) da_nil)) (.cons rfl (.cons rfl .nil)) ⟨d.lot, i, by rw [Int.zero_add], Drawn.lotOk ok, by omega, cnt_small ok (by omega), rfl⟩ rfl, rfl⟩
  have e9 : (List.range 9).map (fun i => PyData.int (cnt d.lot i)) = ((b2n d.z + b2n d.t) :: cntL d).map .int := by
    rw [List.range_succ_eq_map, List.map_cons, List.map_map]
    show PyData.int (cnt d.lot 0) :: _ = PyData.int (b2n d.z + b2n d.t) :: _
    rw [Drawn.cnt0 ok]
    congr 1
    unfold cntL
    rw [List.map_map]
    refine List.map_congr_left fun i _ => ?_
    show PyData.int (cnt d.lot (i + 1)) = PyData.int (rowCnt d.modes d.f d.b i : Int)
    rw [Drawn.cntS ok, rowCnt_eq ok.m ok.hf ok.hb]
  rw [e9] at told
  have ez : ∀ {env : Env} {s : Src}, env[3]? = some (.dat (headD d.z d.t d.f d.b)) → Dv ⟨K, T, srcW a l⟩ (tOp (rI0 fun i j => V.int (i + j)) (tCB rInt1 (tCons (tOp (rIxT K) (tVar 3) (tC (V.int 0))) tNil)) (tCB rInt1 (tCons (tOp (rIxT K) (tVar 3) (tC (V.int 1))) tNil))) env s (.dat (.int (b2n d.z + b2n d.t))) s := fun h =>
    dv_op (C := ⟨K, T, srcW a l⟩) (dv_cb (da_cons (dv_op (dv_var h) dv_int (rop_ixT (d := .bool d.z) rfl)) da_nil) rcb_intB) (dv_cb (da_cons (dv_op (dv_var h) dv_int (rop_ixT (d := .bool d.t) rfl)) da_nil) rcb_intB) rop_II
  refine tr_seq (tr_if (c := false) (dt_is (dt_test (dv_op (C := ⟨K, T, srcW a l⟩) told (dv_op (C := ⟨K, T, srcW a l⟩) (dv_lst (da_cons (ez rfl) da_nil) (.cons rfl .nil) (Nat.le_of_ble_eq_true rfl)) (dv_bor (ds := (cntL d).map .int) rfl) (rop_cat rfl rfl (by
      show 1 + _ ≤ 100000
      unfold cntL
      rw [List.length_map, List.length_map, List.length_range]
      omega))) (rop_neD (d := .list (((b2n d.z + b2n d.t) :: cntL d).map .int)) (e := .list (((b2n d.z + b2n d.t) :: cntL d).map .int)) rfl rfl (sh_ints _) (sh_ints _)))) (by rw [eqv_ints]; rfl)) (fun z => by cases z) fun _ => tr_next) ?_
  -- the laps
  have lp := tr_for (C := ⟨K, T, srcW a l⟩) (env := lawEnv a scr few d) (s := d.s) (g := gName 12) (ds := rngD 0 10) (wi := iRng1 (tCons (tC (V.int 10)) tNil)) (p := tSeq (tAsg (tCall (PmS K T spPick) [] C8.E0 (tCons (tVar 1) (tCons (tC (V.int 8)) tNil))) (gName 11)) (tSeq (tAsg (tCall (PmS K T spOf) [] C8.E0 (tCons (tVar 1) (tCons (tOp (rIxL K) (tVar 6) (tVar 11)) tNil))) (gTup K 3 (gCons (gName 7) (gCons (gName 8) (gCons (gName 9) gNil))))) (tSeq (tAsg (tCall (Pm K T spWayN) [] C8.E0 (tCons (tTup (tCons (tVar 7) (tCons (tCall (Pm K T spLRuns) [] C8.E0 (tCons (tVar 8) tNil)) tNil))) tNil)) (gName 13)) (tSeq (tIfS (tTest (tOp (rNeD K) (tCB rReprS (tCons (tCall (Pm K T spHas) [] C8.E0 (tCons (tVar 5) (tCons (tVar 13) tNil))) tNil)) (tCB rReprS (tCons (tVar 9) tNil)))) (tRet (tC (V.bl false))) tNext) (tSeq (tAsg (tCall (Pm K T spWayT) [] C8.E0 (tCons (tVar 13) tNil)) (gName 14)) (tIfS (tOr (tTest (tOp (rNeD K) (tOp (rIxT K) (tVar 14) (tC (V.int 0))) (tVar 7))) (tTest (tOp (rNeD K) (tCB (rSum K) (tCons (tLc (iTup K (tOp (rIxT K) (tVar 14) (tC (V.int 1)))) (gTup K 2 (gCons (gName 18) (gCons (gName 19) gNil))) tYes (tVar 19) [18, 19]) tNil)) (tVar 11)))) (tRet (tC (V.bl false))) tNext))))))
    (fun _ => lawEnv a scr few d) (fun i => lapsS d d.s i) (di_rng1 (n := 10) (da_cons dv_int da_nil) (by omega) (by omega)) (Wks.refl _) fun i x hx => by
      obtain ⟨hi, rfl⟩ := rngD_get hx
      exact law_lap ok _ i
  rw [rngD_len, ← es1] at lp
  refine tr_seq lp ?_
  unfold lawEnv
  -- far
  have hfar : (9 : Int) + pickV s1 50 = ((m + 9 : Nat) : Int) := by rw [hm]; omega
  refine tr_seq (tr_asg (b := .dat (.int ((m + 9 : Nat) : Int))) (dv_is (dv_op (C := ⟨K, T, srcW a l⟩) dv_int (dv_pick rfl (by omega) (by omega)) rop_II) (by rw [hfar]))) ?_
  have e8 : (((m + 9 : Nat) : Int) - 1) = ((m + 8 : Nat) : Int) := by omega
  obtain ⟨due, edue⟩ : ∃ due, due = farV d.modes (m + 8) d.f + farV d.modes (m + 8) d.b := ⟨_, rfl⟩
  have far : ∀ {env : Env} {s : Src} {k : Int} {x : Str}, env[4]? = some (.dat (mdD d.modes)) → env[3]? = some (.dat (headD d.z d.t d.f d.b)) → env[15]? = some (.dat (.int ((m + 9 : Nat) : Int))) → atI ([.bool d.z, .bool d.t, .str d.f, .str d.b] : List PyData) k = some (.str x) → x ∈ d.modes.map (·.1) →
      Dv ⟨K, T, srcW a l⟩ (tCall (Pm K T spFar) [] C8.E0 (tCons (tVar 4) (tCons (tOp (rIxT K) (tVar 3) (tC (V.int k))) (tCons (tOp (rI0 fun i j => V.int (i - j)) (tVar 15) (tC (V.int 1))) tNil)))) env s (.dat (.int (farV d.modes (m + 8) x))) s := fun h4 h3 h15 hk hx =>
    pm_call (C := ⟨K, T, srcW a l⟩) (S := spFar) (da_cons (dv_var h4) (da_cons (dv_op (dv_var h3) dv_int (rop_ixT hk)) (da_cons (dv_op (dv_var h15) dv_int rop_II) da_nil))) (.cons rfl (.cons rfl (.cons rfl .nil))) ⟨d.modes, _, m + 8, by rw [e8], ok.m, hx, by omega, rfl⟩ rfl
  refine tr_seq (tr_asg (b := .dat (.int due)) (dv_is (dv_op (C := ⟨K, T, srcW a l⟩) (far (k := 2) rfl rfl rfl rfl ok.hf) (far (k := 3) rfl rfl rfl rfl ok.hb) rop_II) (by rw [edue]))) ?_
  have ecnt : cnt d.lot (m + 9) = due := by
    show cnt d.lot (m + 8 + 1) = due
    rw [Drawn.cntS ok, edue, farV_eq ok.m _ ok.hf, farV_eq ok.m _ ok.hb]
  have sdue : due.natAbs < 10 ^ 300 := by
    rw [← ecnt]
    exact cnt_small ok (by omega)
  refine tr_seq (tr_if (c := false) (dt_is (dt_test (dv_op (C := ⟨K, T, srcW a l⟩) (dv_cb (da_cons (pm_call (C := ⟨K, T, srcW a l⟩) (S := spTold) (r := .dat (.int due)) (da_cons (dv_var (d := encL d.lot) rfl) (da_cons (dv_var (d := .int ((m + 9 : Nat) : Int)) rfl) da_nil)) (.cons rfl (.cons rfl .nil)) ⟨d.lot, m + 9, rfl, Drawn.lotOk ok, by omega, cnt_small ok (by omega), by rw [ecnt]⟩ rfl) da_nil) (rcb_reprI sdue)) (dv_cb (da_cons (dv_var (d := .int due) rfl) da_nil) (rcb_reprI sdue)) (rop_neD rfl rfl (sh_ofString _) (sh_ofString _)))) (by rw [eqv_str, decide_eq_true rfl]; rfl)) (fun z => by cases z) fun _ => tr_next) ?_
  -- few
  cases hfew : few with
  | false =>
    exact tr_seq (tr_if (c := false) (dt_B (dv_var rfl)) (fun z => by cases z) fun _ => tr_next) (tr_ret dv_bl)
  | true =>
    have ed2 : d = fewD (pickN (srcOf ns) 5) := by
      rw [ed]
      unfold lawD
      rw [if_pos (by rw [← ef]; exact hfew)]
    have dz : due = 0 := by
      rw [edue, farV_eq ok.m _ ok.hf, farV_eq ok.m _ ok.hb]
      have hf := ok.hf
      have hb := ok.hb
      rw [ed2] at hf hb ⊢
      rw [few_all _ hf (by omega), few_all _ hb (by omega)]
      rfl
    have sz : sizeOf d.lot = some (b2n d.z + b2n d.t + (cntL d).sum) := by
      rw [cntL_sum d ok]
      have h := few_size (pickN (srcOf ns) 5)
      rw [← ed2] at h
      rw [h]
      congr 1
      omega
    refine tr_seqR (tr_if (c := true) (dt_B (dv_var rfl)) (fun _ => tr_ret (dv_is (dv_andV (C := ⟨K, T, srcW a l⟩) (a := true) (b := true) (dv_is (dv_op (C := ⟨K, T, srcW a l⟩) (pm_call (C := ⟨K, T, srcW a l⟩) (S := spSize) (r := .dat (.int (b2n d.z + b2n d.t + (cntL d).sum))) (da_cons (dv_var (d := encL d.lot) rfl) da_nil) (.cons rfl .nil) ⟨d.lot, rfl, Drawn.lotOk ok, by rw [sz]; rfl⟩ rfl) (dv_op (C := ⟨K, T, srcW a l⟩) (ez rfl) (dv_cb (da_cons (dv_bor (ds := (cntL d).map .int) rfl) da_nil) (rcb_sum rfl)) rop_II) rop_eqI) (by rw [decide_eq_true rfl])) fun _ => dv_is (dv_op (C := ⟨K, T, srcW a l⟩) (dv_var (d := .int due) rfl) dv_int rop_eqI) (by rw [decide_eq_true dz])) rfl)) fun z => by cases z)
def spLaw (ds : List PyData) (r : B) : Prop := ∃ ns : List Int, ds = [.list (ns.map .int)] ∧ ns.length ≤ 63 ∧ r = .dat (.bool true)
theorem law_body {N : List Str} (hN : N.length = 20) {vs : List V} {H : Hp} {Q : VK} {E : XK} (h : Pm K T spLaw vs H Q E) : lawTs K T { nx := fun _ H' => Q .non H', rt := Q } (L2.start N vs) H := by
  obtain ⟨F, ds, r, sub, tab, hd, ⟨ns, rfl, hz, rfl⟩, k⟩ := h
  have e0 := init_ok (N := N) sub tab hd
  have ei : initE N [.list (ns.map .int)] = [.dat (.list (ns.map .int)), .un, .un, .un, .un, .un, .un, .un, .un, .un, .un, .un, .un, .un, .un, .un, .un, .un, .un, .un] := by
    unfold initE
    rw [hN]
    rfl
  rw [ei] at e0
  obtain ⟨v, hv, bv⟩ := e0.at (i := 0) rfl (by intro z; cases z)
  refine ⟨v, hv, F, ns, v, rfl, sub, tab, bv, hz, fun a l H' F' x na nl fa fl sat => ?_⟩
  have hl : (L2.start N vs).length = 20 := e0.len
  have eW : EnvOk ⟨K, T, srcW a l⟩ F' H' ((L2.start N vs).set 1 (some (.ref a))) F' H' [.dat (.list (ns.map .int)), .val (.ref a), .un, .un, .un, .un, .un, .un, .un, .un, .un, .un, .un, .un, .un, .un, .un, .un, .un, .un] (srcOf ns) := by
    refine EnvOk.refl (C := ⟨K, T, srcW a l⟩) x.sub x.tab sat (fun b m => ?_) (by rw [List.length_set, hl]; rfl) fun i b hb => ?_
    · rcases m with m | m
      · rw [m]; exact fa
      · rw [m]; exact fl
    · match i, hb with
      | 0, hb =>
        cases hb
        refine ⟨some v, ?_, .inr ⟨rfl, v, rfl, dp_le x.fx _ _ bv⟩, rfl⟩
        rw [List.getElem?_set_ne (by omega)]
        exact hv
      | 1, hb =>
        cases hb
        exact ⟨some (.ref a), List.getElem?_set_self (by omega), .inr ⟨rfl, .ref a, rfl, rfl⟩, rfl⟩
      | i + 2, hb =>
        have hb2 : i < 18 := by
          have := (List.getElem?_eq_some_iff.mp hb).1
          simp at this
          omega
        have eb : b = .un := by
          have : ([.un, .un, .un, .un, .un, .un, .un, .un, .un, .un, .un, .un, .un, .un, .un, .un, .un, .un] : List B)[i]? = some b := hb
          have e2 : ([.un, .un, .un, .un, .un, .un, .un, .un, .un, .un, .un, .un, .un, .un, .un, .un, .un, .un] : List B) = List.replicate 18 .un := rfl
          rw [e2, List.getElem?_replicate, if_pos hb2] at this
          exact (Option.some.inj this).symm
        rw [eb]
        obtain ⟨y, hy⟩ : ∃ y, ((L2.start N vs).set 1 (some (.ref a)))[i + 2]? = some y := ⟨_, List.getElem?_eq_getElem (by rw [List.length_set, hl]; omega)⟩
        exact ⟨y, hy, .inl rfl, rfl⟩
  obtain ⟨s', tr⟩ := tr_lawRest (K := K) (T := T) (a := a) (l := l) (.list (ns.map .int)) ns
  refine tr F' H' _ F' H' eW _ fun u F2 H2 x2 _ b2 => ?_
  refine k u F2 H2 ⟨fun b o e n _ => ?_, fun b o e => ?_, x.fx.trans x2.fx, x2.sub, fun b o e => ?_, x2.tab⟩ b2
  · refine x2.hx b o (x.hx b o e n id) n fun m => ?_
    rcases m with m | m
    · rw [m, na] at e; cases e
    · rw [m, nl] at e; cases e
  · obtain ⟨o2, e2⟩ := x.dom b o e
    exact x2.dom b o2 e2
  · obtain ⟨o2, e2⟩ := x.dom b o e
    rw [x2.fr b o2 e2, x.fr b o e]
end
end DV
set_option maxHeartbeats 1000000
namespace W45
open PySem L2 NdefX LamX DV
section
variable {P : Program} {w : World} {K : PySem.W.Frag} {mg : Str → Option Value} {base : Heap} {g : GA}
theorem ok__law_modes (G : Glob K mg w g) : FnOk P w K mg base CX0 1 g.d__law_modes g.f__law_modes ["modes"] (Pm K (TT g) spModes) := by
  refine G.F__law_modes.ok sc__law_modes (pm_len fun ds r hS => by obtain ⟨_, e, _⟩ := hS; rw [e]; rfl) (fun cdv A outer s H vs Q E hr h => ?_)
  refine ⟨_, (pss_one (ps_ret (pe_callTy (cTup K) (by rfl) G.m_tuple (by decide +kernel) (pa_cons (pe_lc (own := [("name", 1)]) rfl sc__law_modes.nd (pi_keys (pv 0)) (blkOk_by (N := N__law_modes) (sc := defScope s__law_modes) (by decide +kernel)) (fun _ _ _ _ _ => (pg_name (i := 1) sc__law_modes.nd rfl (.inl rfl) (.inr rfl))) (fun _ _ _ _ _ => pts_nil) (fun _ _ _ _ _ => (pe_op (catA K) (pe_tup (pa_cons (pv 1) pa_nil)) (pe_dget (hu1 hr) (pv 0) (pv 1) (fun _ _ => rfl))))) pa_nil)))), ?_⟩
  exact pm_body h fun ds r hS => tr_modes rfl hS
theorem ok__law_rows (G : Glob K mg w g) : FnOk P w K mg base CX0 1 g.d__law_rows g.f__law_rows ["head", "modes", "most"] (Pm K (TT g) spRows) := by
  refine G.F__law_rows.ok sc__law_rows (pm_len fun ds r hS => by obtain ⟨_, _, _, _, _, _, e, _⟩ := hS; rw [e]; rfl) (fun cdv A outer s H vs Q E hr h => ?_)
  refine ⟨_, (pss_cons (ps_par (i := 3) (j := 4) rfl sc__law_rows.nd rfl rfl (by decide) rfl rfl (pa_cons (pe_lst (pa_cons (pe_tup (pa_cons pe_str (pa_cons pe_str (pa_cons (pe_ix (ixT K) (pv 0) pe_int (fun _ _ => rfl)) pa_nil)))) (pa_cons (pe_tup (pa_cons pe_str (pa_cons pe_str (pa_cons (pe_ix (ixT K) (pv 0) pe_int (fun _ _ => rfl)) pa_nil)))) pa_nil))) (pa_cons (pe_lst pa_nil) pa_nil)) rfl)
  (pss_cons (ps_for PassesOwn.never rfl (pi_range1 rfl G.m_range (pa_cons (pv 2) pa_nil)) (pg_name (i := 5) sc__law_rows.nd rfl (.inl rfl) (.inl rfl))
    (pss_cons (ps_expr (pe_bm PySem.F.plainAttrs_list PySem.F.slot_list_append PySem.F.type_list_append mt_append (pv 4) (pa_cons (pe_lc (own := [("side", 6), ("way", 7), ("name", 8)]) rfl sc__law_rows.nd (piL K (pv 3)) (blkOk_by (N := N__law_rows) (sc := defScope s__law_rows) (by decide +kernel)) (fun _ _ _ _ _ => (pgT K 3 rfl (pgs_cons (pg_name (i := 6) sc__law_rows.nd rfl (.inl rfl) (.inr rfl)) (pgs_cons (pg_name (i := 7) sc__law_rows.nd rfl (.inl rfl) (.inr rfl)) (pgs_cons (pg_name (i := 8) sc__law_rows.nd rfl (.inl rfl) (.inr rfl)) pgs_nil))))) (fun _ _ _ _ _ => pts_nil) (fun _ _ _ _ _ => (pe_tup (pa_cons (pv 6) (pa_cons (pv 7) (pa_cons (pe_ix (ixT K) (pe_dget (hu1 hr) (pv 1) (pv 8) (fun _ _ => rfl)) pe_int (fun _ _ => rfl)) pa_nil)))))) pa_nil)))
  (pss_cons (ps_set (i := 9) sc__law_rows.nd rfl (.inl rfl) (pe_lst pa_nil))
  (pss_cons (ps_for PassesOwn.never rfl (piL K (pv 3)) (pgT K 3 rfl (pgs_cons (pg_name (i := 6) sc__law_rows.nd rfl (.inl rfl) (.inl rfl)) (pgs_cons (pg_name (i := 7) sc__law_rows.nd rfl (.inl rfl) (.inl rfl)) (pgs_cons (pg_name (i := 8) sc__law_rows.nd rfl (.inl rfl) (.inl rfl)) pgs_nil))))
    (pss_one (ps_set (i := 9) sc__law_rows.nd rfl (.inl rfl) (pe_op op_cat (pv 9) (pe_lst (pa_cons (pe_tup (pa_cons (pv 6) (pa_cons (pe_op op_add_str (pv 7) pe_str) (pa_cons (pe_ix (ixT K) (pe_dget (hu1 hr) (pv 1) (pv 8) (fun _ _ => rfl)) pe_int (fun _ _ => rfl)) pa_nil)))) (pa_cons (pe_tup (pa_cons (pv 6) (pa_cons (pe_op op_add_str (pv 7) pe_str) (pa_cons (pe_ix (ixT K) (pe_dget (hu1 hr) (pv 1) (pv 8) (fun _ _ => rfl)) pe_int (fun _ _ => rfl)) pa_nil)))) pa_nil)))))))
  (pss_one (ps_set (i := 3) sc__law_rows.nd rfl (.inl rfl) (pv 9)))))))
  (pss_one (ps_ret (pv 4))))), ?_⟩
  exact pm_body h fun ds r hS => tr_rows rfl hS
theorem ok__law_far (G : Glob K mg w g) : FnOk P w K mg base CX0 1 g.d__law_far g.f__law_far ["modes", "name", "steps"] (Pm K (TT g) spFar) := by
  refine G.F__law_far.ok sc__law_far (pm_len fun ds r hS => by obtain ⟨_, _, _, e, _⟩ := hS; rw [e]; rfl) (fun cdv A outer s H vs Q E hr h => ?_)
  refine ⟨_, (pss_cons (ps_set (i := 3) sc__law_far.nd rfl (.inr rfl) (pe_callTy (call_dictP rfl) (by rfl) G.m_dict (by decide +kernel) (pa_cons (pe_lc (own := [("one", 5)]) rfl sc__law_far.nd (pi_keys (pv 0)) (blkOk_by (N := N__law_far) (sc := defScope s__law_far) (by decide +kernel)) (fun _ _ _ _ _ => (pg_name (i := 5) sc__law_far.nd rfl (.inl rfl) (.inr rfl))) (fun _ _ _ _ _ => pts_nil) (fun _ _ _ _ _ => (pe_tup (pa_cons (pv 5) (pa_cons (pe_callTy call_int1 (by rfl) G.m_int (by decide +kernel) (pa_cons (pe_ix (ixT K) (pe_dget (hu1 hr) (pv 0) (pv 5) (fun _ _ => rfl)) pe_int (fun _ _ => rfl)) pa_nil)) pa_nil))))) pa_nil)))
  (pss_cons (ps_for PassesOwn.never rfl (pi_range1 rfl G.m_range (pa_cons (pv 2) pa_nil)) (pg_name (i := 4) sc__law_far.nd rfl (.inl rfl) (.inl rfl))
    (pss_one (ps_set (i := 3) sc__law_far.nd rfl (.inr rfl) (pe_callTy (call_dictP rfl) (by rfl) G.m_dict (by decide +kernel) (pa_cons (pe_lc (own := [("one", 5)]) rfl sc__law_far.nd (pi_keys (pv 0)) (blkOk_by (N := N__law_far) (sc := defScope s__law_far) (by decide +kernel)) (fun _ _ _ _ _ => (pg_name (i := 5) sc__law_far.nd rfl (.inl rfl) (.inr rfl))) (fun _ _ _ _ _ => pts_nil) (fun _ _ _ _ _ => (pe_tup (pa_cons (pv 5) (pa_cons (pe_op op_add (pe_dget (hu1 hr) (pv 3) (pe_ix (ixT K) (pe_dget (hu1 hr) (pv 0) (pv 5) (fun _ _ => rfl)) pe_int (fun _ _ => rfl)) (fun _ _ => rfl)) (pe_dget (hu1 hr) (pv 3) (pe_ix (ixT K) (pe_dget (hu1 hr) (pv 0) (pv 5) (fun _ _ => rfl)) pe_int (fun _ _ => rfl)) (fun _ _ => rfl))) pa_nil))))) pa_nil)))))
  (pss_one (ps_ret (pe_dget (hu1 hr) (pv 3) (pv 1) (fun _ _ => rfl)))))), ?_⟩
  exact pm_body h fun ds r hS => tr_far rfl hS
theorem ok__law_key (G : Glob K mg w g) : FnOk P w K mg base CX0 1 g.d__law_key g.f__law_key ["edge", "many"] (Pm K (TT g) spKey) := by
  refine G.F__law_key.ok sc__law_key (pm_len fun ds r hS => by obtain ⟨_, _, e, _⟩ := hS; rw [e]; rfl) (fun cdv A outer s H vs Q E hr h => ?_)
  refine ⟨_, (pss_cons (ps_set (i := 2) sc__law_key.nd rfl (.inl rfl) (pe_callTy (cTup K) (by rfl) G.m_tuple (by decide +kernel) (pa_cons (pe_lc (own := [("number", 3)]) rfl sc__law_key.nd (piT K (pv 0)) (blkOk_by (N := N__law_key) (sc := defScope s__law_key) (by decide +kernel)) (fun _ _ _ _ _ => (pg_name (i := 3) sc__law_key.nd rfl (.inl rfl) (.inr rfl))) (fun _ _ _ _ _ => pts_nil) (fun _ _ _ _ _ => (pe_op op_mod (pe_callTy call_int1 (by rfl) G.m_int (by decide +kernel) (pa_cons (pv 3) pa_nil)) (pv 1)))) pa_nil)))
  (pss_one (ps_ret (pe_callB (call_minD rfl (hu64 hr)) (by rfl) G.m_min (by decide +kernel) (pa_cons (pv 2) (pa_cons (pe_callTy (cTup K) (by rfl) G.m_tuple (by decide +kernel) (pa_cons (pe_lc (own := [("number", 3)]) rfl sc__law_key.nd (piT K (pv 0)) (blkOk_by (N := N__law_key) (sc := defScope s__law_key) (by decide +kernel)) (fun _ _ _ _ _ => (pg_name (i := 3) sc__law_key.nd rfl (.inl rfl) (.inr rfl))) (fun _ _ _ _ _ => pts_nil) (fun _ _ _ _ _ => (pe_op op_mod (pe_callTy call_int1 (by rfl) G.m_int (by decide +kernel) (pa_cons (pe_op op_sub pe_int (pv 3)) pa_nil)) (pv 1)))) pa_nil)) pa_nil)))))), ?_⟩
  exact pm_body h fun ds r hS => tr_key rfl hS
theorem ok__law_modulo (G : Glob K mg w g) : FnOk P w K mg base CX0 2 g.d__law_modulo g.f__law_modulo ["source", "many"] (PmS K (TT g) spModulo) := by
  refine G.F__law_modulo.ok sc__law_modulo (pms_len fun a bs s r s' hS => by obtain ⟨_, e, _⟩ := hS; rw [e]; rfl) (fun cdv A outer s H vs Q E hr h => ?_)
  refine ⟨_, (pss_cons (ps_set (i := 2) sc__law_modulo.nd rfl (.inl rfl) pe_dnewT)
  (pss_cons (ps_for PassesOwn.never rfl (pi_range1 rfl G.m_range (pa_cons (pe_op op_mulS (pv 1) (pv 1)) pa_nil)) (pg_name (i := 3) sc__law_modulo.nd rfl (.inl rfl) (.inl rfl))
    (pss_cons (ps_par (i := 4) (j := 5) rfl sc__law_modulo.nd rfl rfl (by decide) rfl rfl (pa_cons (pe_op op_fdivW (pv 3) (pv 1)) (pa_cons (pe_op op_mod (pe_callTy call_int1 (by rfl) G.m_int (by decide +kernel) (pa_cons (pv 3) pa_nil)) (pv 1)) pa_nil)) rfl)
  (pss_cons (ps_set (i := 6) sc__law_modulo.nd rfl (.inl rfl) (pe_tup (pa_cons (pe_op op_mod (pe_callTy call_int1 (by rfl) G.m_int (by decide +kernel) (pa_cons (pe_op op_sub pe_int (pv 4)) pa_nil)) (pv 1)) (pa_cons (pe_op op_mod (pe_callTy call_int1 (by rfl) G.m_int (by decide +kernel) (pa_cons (pe_op op_sub pe_int (pv 5)) pa_nil)) (pv 1)) pa_nil))))
  (pss_one (ps_dput (hu1 hr) (pv 2) (pe_tup (pa_cons (pv 4) (pa_cons (pv 5) pa_nil))) (pe_ifExp (pt_cmp (pc_din (hu1 hr) (pv 6) (pv 2))) (pe_dget (hu1 hr) (pv 2) (pv 6) (fun _ _ => rfl)) (pe_cmpR (eqD K (hu64 hr)) (pe_call (ok__law_pick G) (hr.mono (by decide)) rfl G.m__law_pick G.F__law_pick.kp G.b__law_pick .nil pass0 (pa_cons (pv 0) (pa_cons pe_int pa_nil))) pe_int (nomark _))) rfl)))))
  (pss_cons (ps_set (i := 7) sc__law_modulo.nd rfl (.inl rfl) (pe_lst (pa_cons (pe_call (ok__law_key G) (hr.mono (by decide)) rfl G.m__law_key G.F__law_key.kp G.b__law_key .nil pass0 (pa_cons (pe_tup (pa_cons pe_int (pa_cons pe_int (pa_cons pe_int (pa_cons pe_int pa_nil))))) (pa_cons (pv 1) pa_nil))) (pa_cons (pe_call (ok__law_key G) (hr.mono (by decide)) rfl G.m__law_key G.F__law_key.kp G.b__law_key .nil pass0 (pa_cons (pe_tup (pa_cons (pe_un un_neg pe_int) (pa_cons pe_int (pa_cons pe_int (pa_cons pe_int pa_nil))))) (pa_cons (pv 1) pa_nil))) pa_nil))))
  (pss_cons (ps_asg (pe_tup (pa_cons (pe_callTy (cLst K) (by rfl) G.m_list (by decide +kernel) (pa_cons (pv 7) pa_nil)) (pa_cons pe_dnewK (pa_cons pe_int pa_nil)))) (pgT K 3 rfl (pgs_cons (pg_name (i := 8) sc__law_modulo.nd rfl (.inr rfl) (.inl rfl)) (pgs_cons (pg_name (i := 9) sc__law_modulo.nd rfl (.inl rfl) (.inl rfl)) (pgs_cons (pg_name (i := 3) sc__law_modulo.nd rfl (.inl rfl) (.inl rfl)) pgs_nil)))))
  (pss_cons (ps_while PassesOwn.never (pt_cmpR op_lt (pv 3) (pe_callB (cLen K) (by rfl) G.m_len PySem.boot_len (pa_cons (pv 8) pa_nil)) (nomark _))
    (pss_cons (ps_asg (pe_ix (ixL K) (pv 8) (pv 3) (fun _ _ => rfl)) (pgT K 4 rfl (pgs_cons (pg_name (i := 10) sc__law_modulo.nd rfl (.inl rfl) (.inl rfl)) (pgs_cons (pg_name (i := 11) sc__law_modulo.nd rfl (.inl rfl) (.inl rfl)) (pgs_cons (pg_name (i := 12) sc__law_modulo.nd rfl (.inl rfl) (.inl rfl)) (pgs_cons (pg_name (i := 13) sc__law_modulo.nd rfl (.inl rfl) (.inl rfl)) pgs_nil))))))
  (pss_cons (ps_set (i := 14) sc__law_modulo.nd rfl (.inl rfl) (pe_tup (pa_cons (pe_op op_add (pv 10) (pv 12)) (pa_cons (pe_op op_add (pv 11) (pv 13)) pa_nil))))
  (pss_cons (ps_set (i := 15) sc__law_modulo.nd rfl (.inl rfl) (pe_lst (pa_cons (pe_call (ok__law_key G) (hr.mono (by decide)) rfl G.m__law_key G.F__law_key.kp G.b__law_key .nil pass0 (pa_cons (pe_op (catA K) (pe_tup (pa_cons (pv 10) (pa_cons (pv 11) pa_nil))) (pv 14)) (pa_cons (pv 1) pa_nil))) (pa_cons (pe_call (ok__law_key G) (hr.mono (by decide)) rfl G.m__law_key G.F__law_key.kp G.b__law_key .nil pass0 (pa_cons (pe_op (catA K) (pv 14) (pe_tup (pa_cons (pv 12) (pa_cons (pv 13) pa_nil)))) (pa_cons (pv 1) pa_nil))) pa_nil))))
  (pss_cons (ps_set (i := 8) sc__law_modulo.nd rfl (.inr rfl) (pe_op op_cat (pv 8) (pe_lc (own := [("edge", 17)]) rfl sc__law_modulo.nd (piL K (pe_callB (call_sortKD (d := 4) (B := 3) (by decide) rfl) (by rfl) G.m_sorted (by decide +kernel) (pa_cons (pe_callTy (call_dictTD rfl (hu64 hr)) (by rfl) G.m_dict (by decide +kernel) (pa_cons (pe_lc (own := [("one", 18)]) rfl sc__law_modulo.nd (piL K (pv 15)) (blkOk_by (N := N__law_modulo) (sc := defScope s__law_modulo) (by decide +kernel)) (fun _ _ _ _ _ => (pg_name (i := 18) sc__law_modulo.nd rfl (.inl rfl) (.inr rfl))) (fun _ _ _ _ _ => pts_nil) (fun _ _ _ _ _ => (pe_tup (pa_cons (pv 18) (pa_cons pe_int pa_nil))))) pa_nil)) pa_nil))) (blkOk_by (N := N__law_modulo) (sc := defScope s__law_modulo) (by decide +kernel)) (fun _ _ _ _ _ => (pg_name (i := 17) sc__law_modulo.nd rfl (.inl rfl) (.inr rfl))) (fun _ _ _ _ _ => (pts_one (pt_cmpR (notInDK K (hu65 hr)) (pv 17) (pv 8) (by with_unfolding_all rfl)))) (fun _ _ _ _ _ => (pv 17)))))
  (pss_cons (ps_set (i := 16) sc__law_modulo.nd rfl (.inl rfl) (pe_dget (hu1 hr) (pv 2) (pe_tup (pa_cons (pe_op op_mod (pe_callTy call_int1 (by rfl) G.m_int (by decide +kernel) (pa_cons (pe_ix (ixT K) (pv 14) pe_int (fun _ _ => rfl)) pa_nil)) (pv 1)) (pa_cons (pe_op op_mod (pe_callTy call_int1 (by rfl) G.m_int (by decide +kernel) (pa_cons (pe_ix (ixT K) (pv 14) pe_int (fun _ _ => rfl)) pa_nil)) (pv 1)) pa_nil))) (fun _ _ => rfl)))
  (pss_cons (ps_dput (hu1 hr) (pv 9) (pe_call (ok__law_named G) (hr.mono (by decide)) rfl G.m__law_named G.F__law_named.kp G.b__law_named .nil pass0 (pa_cons (pe_ix (ixL K) (pv 8) (pv 3) (fun _ _ => rfl)) pa_nil)) (pe_tup (pa_cons (pv 16) (pa_cons (pe_call (ok__law_named G) (hr.mono (by decide)) rfl G.m__law_named G.F__law_named.kp G.b__law_named .nil pass0 (pa_cons (pe_ix (ixL K) (pv 15) pe_int (fun _ _ => rfl)) pa_nil)) (pa_cons (pe_call (ok__law_named G) (hr.mono (by decide)) rfl G.m__law_named G.F__law_named.kp G.b__law_named .nil pass0 (pa_cons (pe_ix (ixL K) (pv 15) pe_int (fun _ _ => rfl)) pa_nil)) pa_nil)))) rfl)
  (pss_one (ps_set (i := 3) sc__law_modulo.nd rfl (.inl rfl) (pe_op op_add (pv 3) pe_int))))))))))
  (pss_one (ps_ret (pe_tup (pa_cons (pe_tup (pa_cons (pe_dget (hu1 hr) (pv 2) (pe_tup (pa_cons pe_int (pa_cons pe_int pa_nil))) (fun _ _ => rfl)) (pa_cons (pe_dget (hu1 hr) (pv 2) (pe_tup (pa_cons pe_int (pa_cons pe_int pa_nil))) (fun _ _ => rfl)) (pa_cons (pe_call (ok__law_named G) (hr.mono (by decide)) rfl G.m__law_named G.F__law_named.kp G.b__law_named .nil pass0 (pa_cons (pe_ix (ixL K) (pv 7) pe_int (fun _ _ => rfl)) pa_nil)) (pa_cons (pe_call (ok__law_named G) (hr.mono (by decide)) rfl G.m__law_named G.F__law_named.kp G.b__law_named .nil pass0 (pa_cons (pe_ix (ixL K) (pv 7) pe_int (fun _ _ => rfl)) pa_nil)) pa_nil))))) (pa_cons (pv 9) pa_nil)))))))))), ?_⟩
  exact pms_body h fun a l bs s r s' hS => tr_modulo rfl hS
theorem ok__law_lot (G : Glob K mg w g) : FnOk P w K mg base CX0 3 g.d__law_lot g.f__law_lot ["source", "many"] (PmS K (TT g) spLawLot) := by
  refine G.F__law_lot.ok sc__law_lot (pms_len fun a bs s r s' hS => by obtain ⟨_, e, _⟩ := hS; rw [e]; rfl) (fun cdv A outer s H vs Q E hr h => ?_)
  refine ⟨_, (pss_cons (ps_if (pt_cmpR op_lt (pe_call (ok__law_pick G) (hr.mono (by decide)) rfl G.m__law_pick G.F__law_pick.kp G.b__law_pick .nil pass0 (pa_cons (pv 0) (pa_cons pe_int pa_nil))) pe_int (nomark _))
    (pss_one (ps_ret (pe_call (ok__law_modulo G) (hr.mono (by decide)) rfl G.m__law_modulo G.F__law_modulo.kp G.b__law_modulo .nil pass0 (pa_cons (pv 0) (pa_cons (pv 1) pa_nil)))))
    pss_nil)
  (pss_cons (ps_par (i := 2) (j := 3) rfl sc__law_lot.nd rfl rfl (by decide) rfl rfl (pa_cons (pe_slice (slL K) (pe_lst (pa_cons pe_str (pa_cons pe_str (pa_cons pe_str (pa_cons pe_str pa_nil))))) po_none (po_some (pe_op op_add pe_int (pe_call (ok__law_pick G) (hr.mono (by decide)) rfl G.m__law_pick G.F__law_pick.kp G.b__law_pick .nil pass0 (pa_cons (pv 0) (pa_cons pe_int pa_nil)))))) (pa_cons pe_dnewK pa_nil)) rfl)
  (pss_cons (ps_for PassesOwn.never rfl (piL K (pv 2)) (pg_name (i := 4) sc__law_lot.nd rfl (.inl rfl) (.inl rfl))
    (pss_cons (ps_set (i := 5) sc__law_lot.nd rfl (.inl rfl) (pe_op (catS K) (pv 2) (pe_lst (pa_cons (pv 4) (pa_cons (pe_ix (ixL K) (pv 2) (pe_un un_neg pe_int) (fun _ _ => rfl)) pa_nil)))))
  (pss_one (ps_dput (hu1 hr) (pv 3) (pv 4) (pe_tup (pa_cons (pe_cmpR (eqD K (hu64 hr)) (pe_call (ok__law_pick G) (hr.mono (by decide)) rfl G.m__law_pick G.F__law_pick.kp G.b__law_pick .nil pass0 (pa_cons (pv 0) (pa_cons pe_int pa_nil))) pe_int (nomark _)) (pa_cons (pe_call (ok__law_of G) (hr.mono (by decide)) rfl G.m__law_of G.F__law_of.kp G.b__law_of .nil pass0 (pa_cons (pv 0) (pa_cons (pv 5) pa_nil))) (pa_cons (pe_call (ok__law_of G) (hr.mono (by decide)) rfl G.m__law_of G.F__law_of.kp G.b__law_of .nil pass0 (pa_cons (pv 0) (pa_cons (pv 5) pa_nil))) pa_nil)))) rfl))))
  (pss_one (ps_ret (pe_tup (pa_cons (pe_tup (pa_cons (pe_cmpR (eqD K (hu64 hr)) (pe_call (ok__law_pick G) (hr.mono (by decide)) rfl G.m__law_pick G.F__law_pick.kp G.b__law_pick .nil pass0 (pa_cons (pv 0) (pa_cons pe_int pa_nil))) pe_int (nomark _)) (pa_cons (pe_cmpR (eqD K (hu64 hr)) (pe_call (ok__law_pick G) (hr.mono (by decide)) rfl G.m__law_pick G.F__law_pick.kp G.b__law_pick .nil pass0 (pa_cons (pv 0) (pa_cons pe_int pa_nil))) pe_int (nomark _)) (pa_cons (pe_ix (ixL K) (pv 2) pe_int (fun _ _ => rfl)) (pa_cons (pe_call (ok__law_of G) (hr.mono (by decide)) rfl G.m__law_of G.F__law_of.kp G.b__law_of .nil pass0 (pa_cons (pv 0) (pa_cons (pv 2) pa_nil))) pa_nil))))) (pa_cons (pv 3) pa_nil)))))))), ?_⟩
  exact pms_body h fun a l bs s r s' hS => tr_lawLot rfl hS
theorem ok__law_few (G : Glob K mg w g) : FnOk P w K mg base CX0 3 g.d__law_few g.f__law_few ["source"] (PmS K (TT g) spLawFew) := by
  refine G.F__law_few.ok sc__law_few (pms_len fun a bs s r s' hS => by rw [hS.1]; rfl) (fun cdv A outer s H vs Q E hr h => ?_)
  refine ⟨_, (pss_cons (ps_set (i := 1) sc__law_few.nd rfl (.inl rfl) (pe_op op_add pe_int (pe_call (ok__law_pick G) (hr.mono (by decide)) rfl G.m__law_pick G.F__law_pick.kp G.b__law_pick .nil pass0 (pa_cons (pv 0) (pa_cons pe_int pa_nil)))))
  (pss_cons (ps_set (i := 3) sc__law_few.nd rfl (.inl rfl) (pe_op (catS K) (pe_lc (own := [("k", 2)]) rfl sc__law_few.nd (pi_range1 rfl G.m_range (pa_cons (pv 1) pa_nil)) (blkOk_by (N := N__law_few) (sc := defScope s__law_few) (by decide +kernel)) (fun _ _ _ _ _ => (pg_name (i := 2) sc__law_few.nd rfl (.inl rfl) (.inr rfl))) (fun _ _ _ _ _ => pts_nil) (fun _ _ _ _ _ => (pe_op op_add_str pe_str (pe_callTy call_str_int (by rfl) G.m_str (by decide +kernel) (pa_cons (pv 2) pa_nil))))) (pe_lst (pa_cons pe_str pa_nil))))
  (pss_cons (ps_set (i := 4) sc__law_few.nd rfl (.inl rfl) (pe_disp (pps_cons pe_str (pe_tup (pa_cons pe_bl (pa_cons pe_str (pa_cons pe_str pa_nil)))) pps_nil) rfl rfl (by simp) (by decide)))
  (pss_cons (ps_for PassesOwn.never rfl (pi_range1 rfl G.m_range (pa_cons (pv 1) pa_nil)) (pg_name (i := 2) sc__law_few.nd rfl (.inl rfl) (.inl rfl))
    (pss_cons (ps_set (i := 5) sc__law_few.nd rfl (.inl rfl) (pe_slice (slL K) (pv 3) (po_some (pe_op op_add (pv 2) pe_int)) po_none))
  (pss_one (ps_dput (hu1 hr) (pv 4) (pe_ix (ixL K) (pv 3) (pv 2) (fun _ _ => rfl)) (pe_tup (pa_cons (pe_cmpR op_gt (pe_call (ok__law_pick G) (hr.mono (by decide)) rfl G.m__law_pick G.F__law_pick.kp G.b__law_pick .nil pass0 (pa_cons (pv 0) (pa_cons pe_int pa_nil))) pe_int (nomark _)) (pa_cons (pe_call (ok__law_of G) (hr.mono (by decide)) rfl G.m__law_of G.F__law_of.kp G.b__law_of .nil pass0 (pa_cons (pv 0) (pa_cons (pv 5) pa_nil))) (pa_cons (pe_call (ok__law_of G) (hr.mono (by decide)) rfl G.m__law_of G.F__law_of.kp G.b__law_of .nil pass0 (pa_cons (pv 0) (pa_cons (pv 5) pa_nil))) pa_nil)))) rfl))))
  (pss_one (ps_ret (pe_tup (pa_cons (pe_tup (pa_cons (pe_cmpR (eqD K (hu64 hr)) (pe_call (ok__law_pick G) (hr.mono (by decide)) rfl G.m__law_pick G.F__law_pick.kp G.b__law_pick .nil pass0 (pa_cons (pv 0) (pa_cons pe_int pa_nil))) pe_int (nomark _)) (pa_cons (pe_cmpR (eqD K (hu64 hr)) (pe_call (ok__law_pick G) (hr.mono (by decide)) rfl G.m__law_pick G.F__law_pick.kp G.b__law_pick .nil pass0 (pa_cons (pv 0) (pa_cons pe_int pa_nil))) pe_int (nomark _)) (pa_cons pe_str (pa_cons (pe_call (ok__law_of G) (hr.mono (by decide)) rfl G.m__law_of G.F__law_of.kp G.b__law_of .nil pass0 (pa_cons (pv 0) (pa_cons (pv 3) pa_nil))) pa_nil))))) (pa_cons (pv 4) pa_nil))))))))), ?_⟩
  exact pms_body h fun a l bs s r s' hS => tr_lawFew rfl hS
theorem ok_law (G : Glob K mg w g) (Z : Bs mg base g) : FnOk P w K mg base CX0 10 g.d_law g.f_law ["script"] (Pm K (TT g) spLaw) := by
  refine G.F_law.ok sc_law (pm_len fun ds r hS => by obtain ⟨_, e, _⟩ := hS; rw [e]; rfl) (fun cdv A outer s H vs Q E hr h => ?_)
  refine ⟨_, (pss_cons (ps_set (i := 1) sc_law.nd rfl (.inl rfl) (pe_call (ok__law_source G) (hr.mono (by decide)) rfl G.m__law_source G.F__law_source.kp G.b__law_source .nil pass0 (pa_cons (pv 0) pa_nil)))
  (pss_cons (ps_set (i := 2) sc_law.nd rfl (.inl rfl) (pe_cmpR (eqD K (hu64 hr)) (pe_call (ok__law_pick G) (hr.mono (by decide)) rfl G.m__law_pick G.F__law_pick.kp G.b__law_pick .nil pass0 (pa_cons (pv 1) (pa_cons pe_int pa_nil))) pe_int (nomark _)))
  (pss_cons (ps_asg (pe_ifExp (pt_val (pv 2)) (pe_call (ok__law_few G) (hr.mono (by decide)) rfl G.m__law_few G.F__law_few.kp G.b__law_few .nil pass0 (pa_cons (pv 1) pa_nil)) (pe_call (ok__law_lot G) (hr.mono (by decide)) rfl G.m__law_lot G.F__law_lot.kp G.b__law_lot .nil pass0 (pa_cons (pv 1) (pa_cons (pe_op op_add pe_int (pe_call (ok__law_pick G) (hr.mono (by decide)) rfl G.m__law_pick G.F__law_pick.kp G.b__law_pick .nil pass0 (pa_cons (pv 1) (pa_cons pe_int pa_nil)))) pa_nil)))) (pgT K 2 rfl (pgs_cons (pg_name (i := 3) sc_law.nd rfl (.inl rfl) (.inl rfl)) (pgs_cons (pg_name (i := 4) sc_law.nd rfl (.inl rfl) (.inl rfl)) pgs_nil))))
  (pss_cons (ps_set (i := 5) sc_law.nd rfl (.inr rfl) (pe_frz (i := 4) (pe_call (ok_lot_told G Z) (hr.mono (by decide)) rfl G.m_lot_told G.F_lot_told.kp G.b_lot_told .nil pass0 (pa_cons (pe_ix (ixT K) (pv 3) pe_int (fun _ _ => rfl)) (pa_cons (pe_ix (ixT K) (pv 3) pe_int (fun _ _ => rfl)) (pa_cons (pe_ix (ixT K) (pv 3) pe_int (fun _ _ => rfl)) (pa_cons (pe_ix (ixT K) (pv 3) pe_int (fun _ _ => rfl)) (pa_cons (pe_call (ok__law_modes G) (hr.mono (by decide)) rfl G.m__law_modes G.F__law_modes.kp G.b__law_modes .nil pass0 (pa_cons (pv 4) pa_nil)) pa_nil))))))))
  (pss_cons (ps_set (i := 6) sc_law.nd rfl (.inl rfl) (pe_call (ok__law_rows G) (hr.mono (by decide)) rfl G.m__law_rows G.F__law_rows.kp G.b__law_rows .nil pass0 (pa_cons (pv 3) (pa_cons (pv 4) (pa_cons pe_int pa_nil)))))
  (pss_cons (ps_setLc (i := 10) (own := [("row", 17)]) rfl sc_law.nd rfl rfl (sw_true rfl rfl rfl (by decide +kernel)) (piL K (pv 6)) (blkOk_by (N := N_law) (sc := defScope s_law) (by decide +kernel)) (fun _ _ _ _ _ => (pg_name (i := 17) sc_law.nd rfl (.inl rfl) (.inr rfl))) (fun _ _ _ _ _ => pts_nil) (fun _ _ _ _ _ => (pe_callB (cLen K) (by rfl) G.m_len PySem.boot_len (pa_cons (pe_lc (own := [("side", 7), ("way", 8), ("yes", 9)]) rfl sc_law.nd (piL K (pv 17)) (blkOk_by (N := N_law) (sc := { kind := .function, names := [(".0", .local), ("row", .local), ("len", .globalImplicit)], isGenerator := false, isCoroutine := false }) (by decide +kernel)) (fun _ _ _ _ _ => (pgT K 3 rfl (pgs_cons (pg_name (i := 7) sc_law.nd rfl (.inl rfl) (.inr rfl)) (pgs_cons (pg_name (i := 8) sc_law.nd rfl (.inl rfl) (.inr rfl)) (pgs_cons (pg_name (i := 9) sc_law.nd rfl (.inl rfl) (.inr rfl)) pgs_nil))))) (fun _ _ _ _ _ => (pts_one (pt_val (pv 9)))) (fun _ _ _ _ _ => (pv 8))) pa_nil))))
  (pss_cons (ps_if (pt_cmpR (neD K (hu64 hr)) (pe_lc (own := [("n", 11)]) rfl sc_law.nd (pi_range1 rfl G.m_range (pa_cons pe_int pa_nil)) (blkOk_by (N := N_law) (sc := defScope s_law) (by decide +kernel)) (fun _ _ _ _ _ => (pg_name (i := 11) sc_law.nd rfl (.inl rfl) (.inr rfl))) (fun _ _ _ _ _ => pts_nil) (fun _ _ _ _ _ => (pe_call (ok_count_told G) (hr.mono (by decide)) rfl G.m_count_told G.F_count_told.kp G.b_count_told .nil pass0 (pa_cons (pv 5) (pa_cons (pv 11) pa_nil))))) (pe_op op_cat (pe_lst (pa_cons (pe_op op_add (pe_callTy call_int1 (by rfl) G.m_int (by decide +kernel) (pa_cons (pe_ix (ixT K) (pv 3) pe_int (fun _ _ => rfl)) pa_nil)) (pe_callTy call_int1 (by rfl) G.m_int (by decide +kernel) (pa_cons (pe_ix (ixT K) (pv 3) pe_int (fun _ _ => rfl)) pa_nil))) pa_nil)) (pv 10)) (nomark _))
    (pss_one (ps_ret pe_bl))
    pss_nil)
  (pss_cons (ps_for PassesOwn.never rfl (pi_range1 rfl G.m_range (pa_cons pe_int pa_nil)) (pg_name (i := 12) sc_law.nd rfl (.inl rfl) (.inl rfl))
    (pss_cons (ps_set (i := 11) sc_law.nd rfl (.inl rfl) (pe_call (ok__law_pick G) (hr.mono (by decide)) rfl G.m__law_pick G.F__law_pick.kp G.b__law_pick .nil pass0 (pa_cons (pv 1) (pa_cons pe_int pa_nil))))
  (pss_cons (ps_asg (pe_call (ok__law_of G) (hr.mono (by decide)) rfl G.m__law_of G.F__law_of.kp G.b__law_of .nil pass0 (pa_cons (pv 1) (pa_cons (pe_ix (ixL K) (pv 6) (pv 11) (fun _ _ => rfl)) pa_nil))) (pgT K 3 rfl (pgs_cons (pg_name (i := 7) sc_law.nd rfl (.inl rfl) (.inl rfl)) (pgs_cons (pg_name (i := 8) sc_law.nd rfl (.inl rfl) (.inl rfl)) (pgs_cons (pg_name (i := 9) sc_law.nd rfl (.inl rfl) (.inl rfl)) pgs_nil)))))
  (pss_cons (ps_set (i := 13) sc_law.nd rfl (.inl rfl) (pe_call (ok_way_number G) (hr.mono (by decide)) rfl G.m_way_number G.F_way_number.kp G.b_way_number .nil pass0 (pa_cons (pe_tup (pa_cons (pv 7) (pa_cons (pe_call (ok__law_runs G) (hr.mono (by decide)) rfl G.m__law_runs G.F__law_runs.kp G.b__law_runs .nil pass0 (pa_cons (pv 8) pa_nil)) pa_nil))) pa_nil)))
  (pss_cons (ps_if (pt_cmpR (neD K (hu64 hr)) (pe_callB call_reprS (by rfl) G.m_repr (by decide +kernel) (pa_cons (pe_call (ok_has_fraction G) (hr.mono (by decide)) rfl G.m_has_fraction G.F_has_fraction.kp G.b_has_fraction .nil pass0 (pa_cons (pv 5) (pa_cons (pv 13) pa_nil))) pa_nil)) (pe_callB call_reprS (by rfl) G.m_repr (by decide +kernel) (pa_cons (pv 9) pa_nil)) (nomark _))
    (pss_one (ps_ret pe_bl))
    pss_nil)
  (pss_cons (ps_set (i := 14) sc_law.nd rfl (.inl rfl) (pe_call (ok_way_told G) (hr.mono (by decide)) rfl G.m_way_told G.F_way_told.kp G.b_way_told .nil pass0 (pa_cons (pv 13) pa_nil)))
  (pss_one (ps_if (pw_or (pt_cmpR (neD K (hu64 hr)) (pe_ix (ixT K) (pv 14) pe_int (fun _ _ => rfl)) (pv 7) (nomark _)) (pw_or1 (pt_cmpR (neD K (hu64 hr)) (pe_callB (cSum K rfl) (by rfl) G.m_sum (by decide +kernel) (pa_cons (pe_lc (own := [("letter", 18), ("many", 19)]) rfl sc_law.nd (piT K (pe_ix (ixT K) (pv 14) pe_int (fun _ _ => rfl))) (blkOk_by (N := N_law) (sc := defScope s_law) (by decide +kernel)) (fun _ _ _ _ _ => (pgT K 2 rfl (pgs_cons (pg_name (i := 18) sc_law.nd rfl (.inl rfl) (.inr rfl)) (pgs_cons (pg_name (i := 19) sc_law.nd rfl (.inl rfl) (.inr rfl)) pgs_nil)))) (fun _ _ _ _ _ => pts_nil) (fun _ _ _ _ _ => (pv 19))) pa_nil)) (pv 11) (nomark _)))).pt
    (pss_one (ps_ret pe_bl))
    pss_nil))))))))
  (pss_cons (ps_set (i := 15) sc_law.nd rfl (.inl rfl) (pe_op op_add pe_int (pe_call (ok__law_pick G) (hr.mono (by decide)) rfl G.m__law_pick G.F__law_pick.kp G.b__law_pick .nil pass0 (pa_cons (pv 1) (pa_cons pe_int pa_nil)))))
  (pss_cons (ps_set (i := 16) sc_law.nd rfl (.inl rfl) (pe_op op_add (pe_call (ok__law_far G) (hr.mono (by decide)) rfl G.m__law_far G.F__law_far.kp G.b__law_far .nil pass0 (pa_cons (pv 4) (pa_cons (pe_ix (ixT K) (pv 3) pe_int (fun _ _ => rfl)) (pa_cons (pe_op op_sub (pv 15) pe_int) pa_nil)))) (pe_call (ok__law_far G) (hr.mono (by decide)) rfl G.m__law_far G.F__law_far.kp G.b__law_far .nil pass0 (pa_cons (pv 4) (pa_cons (pe_ix (ixT K) (pv 3) pe_int (fun _ _ => rfl)) (pa_cons (pe_op op_sub (pv 15) pe_int) pa_nil))))))
  (pss_cons (ps_if (pt_cmpR (neD K (hu64 hr)) (pe_callB call_reprS (by rfl) G.m_repr (by decide +kernel) (pa_cons (pe_call (ok_count_told G) (hr.mono (by decide)) rfl G.m_count_told G.F_count_told.kp G.b_count_told .nil pass0 (pa_cons (pv 5) (pa_cons (pv 15) pa_nil))) pa_nil)) (pe_callB call_reprS (by rfl) G.m_repr (by decide +kernel) (pa_cons (pv 16) pa_nil)) (nomark _))
    (pss_one (ps_ret pe_bl))
    pss_nil)
  (pss_cons (ps_if (pt_val (pv 2))
    (pss_one (ps_ret (pe_and (pe_cmpR (eqD K (hu64 hr)) (pe_call (ok_lot_size G) (hr.mono (by decide)) rfl G.m_lot_size G.F_lot_size.kp G.b_lot_size .nil pass0 (pa_cons (pv 5) pa_nil)) (pe_op op_add (pe_op op_add (pe_callTy call_int1 (by rfl) G.m_int (by decide +kernel) (pa_cons (pe_ix (ixT K) (pv 3) pe_int (fun _ _ => rfl)) pa_nil)) (pe_callTy call_int1 (by rfl) G.m_int (by decide +kernel) (pa_cons (pe_ix (ixT K) (pv 3) pe_int (fun _ _ => rfl)) pa_nil))) (pe_callB (cSum K rfl) (by rfl) G.m_sum (by decide +kernel) (pa_cons (pv 10) pa_nil))) (nomark _)) (pe_one (pe_cmpR (eqD K (hu64 hr)) (pv 16) pe_int (nomark _))))))
    pss_nil)
  (pss_one (ps_ret pe_bl)))))))))))))), ?_⟩
  exact law_body rfl h
end
end W45
set_option maxHeartbeats 1000000
namespace DV
open PySem PySem.Spec PyProof.Rows L2 LamX NdefX
/-! ### the law's own call -/
theorem tabs_empty {T : List NTab} {H : Hp} (h : ∀ p ∈ T, H p.1 = some (.tbl #[])) : TabsN T H := fun p hp => ⟨#[], h p hp, by simp [TriplesOk], fun pos cv hc => by simp [codeAmong] at hc⟩
theorem law_prom {K : PySem.W.Frag} {T : List NTab} {H : Hp} {a : Addr} {ns : List Int} (tab : TabsN T H) (hS : SqL K H a (ns.map V.int)) (hl : ns.length ≤ 63) {E : XK} : Pm K T spLaw [.ref a] H (fun v _ => v = .bl true) E := by
  have key : ∃ F, Sub F H ∧ SqL K F a (ns.map V.int) := by
    have one : ∀ u : HO, H a = some u → NT u → Sub (fun b => if b = a then some u else none) H := fun u hu nt b o e => by
      by_cases z : b = a
      · rw [z] at e ⊢
        have e2 : some u = some o := (if_pos rfl).symm.trans e
        cases e2
        exact ⟨hu, nt⟩
      · have e2 : none = some o := (if_neg z).symm.trans e
        cases e2
    rcases hS with (h | ⟨o, h⟩) | h
    · exact ⟨_, one _ h nt_lst, .inl (.inl (if_pos rfl))⟩
    · exact ⟨_, one _ h nt_frz, .inl (.inr ⟨o, if_pos rfl⟩)⟩
    · exact ⟨fun _ => none, fun _ _ e => (by cases e), .inr h⟩
  obtain ⟨F, sub, sq⟩ := key
  exact ⟨F, [.list (ns.map .int)], .dat (.bool true), sub, tab, .cons (.lst sq (ints_daAll ns)) .nil, ⟨ns, rfl, hl, rfl⟩, fun v F' H' _ b => bok_bool b⟩
end DV
set_option maxHeartbeats 4000000
namespace W45
open PySem L2 NdefX LamX DV
theorem law_at {l : PySem.W.OpenLaw} {w : World} {K : PySem.W.Frag} {h : Heap} {mg : Str → Option Value} {fa : Addr} (X : K.In h) (G0 : h.Ns mainGlobals mg) (hfa : mg "law" = some (.ref fa))
    {c_Raw : Addr}
    {f_Raw___init__ : Addr} {oc_Raw___init__ kV_Raw___init__ dc_Raw___init__ pm_Raw___init__ cd_Raw___init__ ct_Raw___init__ : Value} {od_Raw___init__ an_Raw___init__ : Option Addr} {sl_Raw___init__ : Array (Option Value)}
    {f_Raw_number : Addr} {oc_Raw_number kV_Raw_number dc_Raw_number pm_Raw_number cd_Raw_number ct_Raw_number : Value} {od_Raw_number an_Raw_number : Option Addr} {sl_Raw_number : Array (Option Value)}
    {f_raw_views : Addr} {oc_raw_views kV_raw_views dc_raw_views pm_raw_views cd_raw_views ct_raw_views : Value} {od_raw_views an_raw_views : Option Addr} {sl_raw_views : Array (Option Value)}
    {f_counts_row : Addr} {oc_counts_row kV_counts_row dc_counts_row pm_counts_row cd_counts_row ct_counts_row : Value} {od_counts_row an_counts_row : Option Addr} {sl_counts_row : Array (Option Value)}
    {f_count_told : Addr} {oc_count_told kV_count_told dc_count_told pm_count_told cd_count_told ct_count_told : Value} {od_count_told an_count_told : Option Addr} {sl_count_told : Array (Option Value)}
    {f_classes_of : Addr} {oc_classes_of kV_classes_of dc_classes_of pm_classes_of cd_classes_of ct_classes_of : Value} {od_classes_of an_classes_of : Option Addr} {sl_classes_of : Array (Option Value)}
    {f_least_lot : Addr} {oc_least_lot kV_least_lot dc_least_lot pm_least_lot ct_least_lot : Value} {od_least_lot an_least_lot : Option Addr} {sl_least_lot : Array (Option Value)} {o_least_lot : Addr}
    {f_view_behind : Addr} {oc_view_behind kV_view_behind dc_view_behind pm_view_behind cd_view_behind ct_view_behind : Value} {od_view_behind an_view_behind : Option Addr} {sl_view_behind : Array (Option Value)}
    {f_view_along : Addr} {oc_view_along kV_view_along dc_view_along pm_view_along cd_view_along ct_view_along : Value} {od_view_along an_view_along : Option Addr} {sl_view_along : Array (Option Value)}
    {f_is_long : Addr} {oc_is_long kV_is_long dc_is_long pm_is_long cd_is_long ct_is_long : Value} {od_is_long an_is_long : Option Addr} {sl_is_long : Array (Option Value)}
    {f_not_long : Addr} {oc_not_long kV_not_long dc_not_long pm_not_long cd_not_long ct_not_long : Value} {od_not_long an_not_long : Option Addr} {sl_not_long : Array (Option Value)}
    {f_fraction_told : Addr} {oc_fraction_told kV_fraction_told dc_fraction_told pm_fraction_told cd_fraction_told ct_fraction_told : Value} {od_fraction_told an_fraction_told : Option Addr} {sl_fraction_told : Array (Option Value)}
    {f_number_floor : Addr} {oc_number_floor kV_number_floor dc_number_floor pm_number_floor cd_number_floor ct_number_floor : Value} {od_number_floor an_number_floor : Option Addr} {sl_number_floor : Array (Option Value)}
    {f_map_led : Addr} {oc_map_led kV_map_led dc_map_led pm_map_led cd_map_led ct_map_led : Value} {od_map_led an_map_led : Option Addr} {sl_map_led : Array (Option Value)}
    {f_not_long_2 : Addr} {oc_not_long_2 kV_not_long_2 dc_not_long_2 pm_not_long_2 cd_not_long_2 ct_not_long_2 : Value} {od_not_long_2 an_not_long_2 : Option Addr} {sl_not_long_2 : Array (Option Value)}
    {f_fraction_runs : Addr} {oc_fraction_runs kV_fraction_runs dc_fraction_runs pm_fraction_runs cd_fraction_runs ct_fraction_runs : Value} {od_fraction_runs an_fraction_runs : Option Addr} {sl_fraction_runs : Array (Option Value)}
    {f_is_below : Addr} {oc_is_below kV_is_below dc_is_below pm_is_below cd_is_below ct_is_below : Value} {od_is_below an_is_below : Option Addr} {sl_is_below : Array (Option Value)}
    {f_way_told : Addr} {oc_way_told kV_way_told dc_way_told pm_way_told cd_way_told ct_way_told : Value} {od_way_told an_way_told : Option Addr} {sl_way_told : Array (Option Value)}
    {f_edge_behind : Addr} {oc_edge_behind kV_edge_behind dc_edge_behind pm_edge_behind cd_edge_behind ct_edge_behind : Value} {od_edge_behind an_edge_behind : Option Addr} {sl_edge_behind : Array (Option Value)}
    {f_first_edge : Addr} {oc_first_edge kV_first_edge dc_first_edge pm_first_edge cd_first_edge ct_first_edge : Value} {od_first_edge an_first_edge : Option Addr} {sl_first_edge : Array (Option Value)}
    {f_way_number : Addr} {oc_way_number kV_way_number dc_way_number pm_way_number cd_way_number ct_way_number : Value} {od_way_number an_way_number : Option Addr} {sl_way_number : Array (Option Value)}
    {f_lot_told : Addr} {oc_lot_told kV_lot_told dc_lot_told pm_lot_told ct_lot_told : Value} {od_lot_told an_lot_told : Option Addr} {sl_lot_told : Array (Option Value)} {o_lot_told : Addr}
    {f_has_fraction : Addr} {oc_has_fraction kV_has_fraction dc_has_fraction pm_has_fraction cd_has_fraction ct_has_fraction : Value} {od_has_fraction an_has_fraction : Option Addr} {sl_has_fraction : Array (Option Value)}
    {f_live_views : Addr} {oc_live_views kV_live_views dc_live_views pm_live_views cd_live_views ct_live_views : Value} {od_live_views an_live_views : Option Addr} {sl_live_views : Array (Option Value)}
    {f_lot_size : Addr} {oc_lot_size kV_lot_size dc_lot_size pm_lot_size cd_lot_size ct_lot_size : Value} {od_lot_size an_lot_size : Option Addr} {sl_lot_size : Array (Option Value)}
    {f__law_source : Addr} {oc__law_source kV__law_source dc__law_source pm__law_source cd__law_source ct__law_source : Value} {od__law_source an__law_source : Option Addr} {sl__law_source : Array (Option Value)}
    {f__law_pick : Addr} {oc__law_pick kV__law_pick dc__law_pick pm__law_pick cd__law_pick ct__law_pick : Value} {od__law_pick an__law_pick : Option Addr} {sl__law_pick : Array (Option Value)}
    {f__law_of : Addr} {oc__law_of kV__law_of dc__law_of pm__law_of cd__law_of ct__law_of : Value} {od__law_of an__law_of : Option Addr} {sl__law_of : Array (Option Value)}
    {f__law_modulo : Addr} {oc__law_modulo kV__law_modulo dc__law_modulo pm__law_modulo cd__law_modulo ct__law_modulo : Value} {od__law_modulo an__law_modulo : Option Addr} {sl__law_modulo : Array (Option Value)}
    {f__law_key : Addr} {oc__law_key kV__law_key dc__law_key pm__law_key cd__law_key ct__law_key : Value} {od__law_key an__law_key : Option Addr} {sl__law_key : Array (Option Value)}
    {f__law_named : Addr} {oc__law_named kV__law_named dc__law_named pm__law_named cd__law_named ct__law_named : Value} {od__law_named an__law_named : Option Addr} {sl__law_named : Array (Option Value)}
    {f__law_lot : Addr} {oc__law_lot kV__law_lot dc__law_lot pm__law_lot cd__law_lot ct__law_lot : Value} {od__law_lot an__law_lot : Option Addr} {sl__law_lot : Array (Option Value)}
    {f__law_modes : Addr} {oc__law_modes kV__law_modes dc__law_modes pm__law_modes cd__law_modes ct__law_modes : Value} {od__law_modes an__law_modes : Option Addr} {sl__law_modes : Array (Option Value)}
    {f__law_rows : Addr} {oc__law_rows kV__law_rows dc__law_rows pm__law_rows cd__law_rows ct__law_rows : Value} {od__law_rows an__law_rows : Option Addr} {sl__law_rows : Array (Option Value)}
    {f__law_runs : Addr} {oc__law_runs kV__law_runs dc__law_runs pm__law_runs cd__law_runs ct__law_runs : Value} {od__law_runs an__law_runs : Option Addr} {sl__law_runs : Array (Option Value)}
    {f__law_far : Addr} {oc__law_far kV__law_far dc__law_far pm__law_far cd__law_far ct__law_far : Value} {od__law_far an__law_far : Option Addr} {sl__law_far : Array (Option Value)}
    {f__law_few : Addr} {oc__law_few kV__law_few dc__law_few pm__law_few cd__law_few ct__law_few : Value} {od__law_few an__law_few : Option Addr} {sl__law_few : Array (Option Value)}
    {f_law : Addr} {oc_law kV_law dc_law pm_law cd_law ct_law : Value} {od_law an_law : Option Addr} {sl_law : Array (Option Value)}
    {t_DOWN : Nat}
    {t_GREAT_COUNT : Nat}
    {t_LEFT : Nat}
    {t_LONG_NUMBER : Nat}
    {t_LONG_WAY : Nat}
    {t_MANY_RAW : Nat}
    {t_MANY_VIEWS : Nat}
    {t_MOST_FIGURES_circlenumbers : Nat}
    {t_MOST_FIGURES_counts : Nat}
    {t_MOST_RAW : Nat}
    {t_MOST_RUNS : Nat}
    {t_MOST_STEPS : Nat}
    {t_MOST_VIEWS : Nat}
    {t_RIGHT : Nat}
    {r_SIDES : Addr}
    {t_SURE_BITS : Nat}
    {r_TOP_WAY : Addr}
    {r_TURNED : Addr}
    {t_UP_lots : Nat}
    {t_UP_ways : Nat}
    {r_ZERO_WAY : Addr}
    {p_lot_told : Addr}
    {p_least_lot : Addr}
    {esS : Array DictEntry} {nS : Nat} {uS1 uS2 : Value}
    {oT : Obj} {itT : Array Value} {nT : Nat}
    (v_Raw : PySem.W.nsIn K mainGlobals "Raw" = some (some (.ref c_Raw)))
    (pg_Raw : PySem.W.plainGet K c_Raw Str.empty = true)
    (hd_Raw : PySem.W.hasDictIn K c_Raw = true)
    (po_Raw : PySem.W.plainOver K c_Raw = true)
    (sa_Raw : PySem.W.findIn K (.ref c_Raw) "__setattr__" = some (some (.builtin "object.__setattr__")))
    (mk_Raw : PySem.W.makesIn K c_Raw = true)
    (kc_Raw : PySem.W.keepIn K (.ref c_Raw) = true)
    (n_Raw_known : PySem.W.findIn K (.ref c_Raw) "known" = some none)
    (n_Raw_line : PySem.W.findIn K (.ref c_Raw) "line" = some none)
    (a_Raw___init__ : PySem.W.findIn K (.ref c_Raw) "__init__" = some (some (.ref f_Raw___init__)))
    (i_Raw___init__ : PySem.W.isFn K (.ref f_Raw___init__) = true)
    (l_Raw___init__ : K.lookup f_Raw___init__ = some ⟨oc_Raw___init__, od_Raw___init__, .func (PySem.W.fnOf "__init__" "Raw.__init__" (defArgs s_Raw___init__) (defBody s_Raw___init__) (defScope s_Raw___init__) .none kV_Raw___init__ dc_Raw___init__ pm_Raw___init__ an_Raw___init__ cd_Raw___init__ ct_Raw___init__), sl_Raw___init__⟩)
    (c_Raw___init__ : PySem.W.codeIn K cd_Raw___init__ "Raw.__init__" = true)
    (k_Raw___init__ : PySem.W.keepIn K (.ref f_Raw___init__) = true)
    (a_Raw_number : PySem.W.findIn K (.ref c_Raw) "number" = some (some (.ref f_Raw_number)))
    (i_Raw_number : PySem.W.isFn K (.ref f_Raw_number) = true)
    (l_Raw_number : K.lookup f_Raw_number = some ⟨oc_Raw_number, od_Raw_number, .func (PySem.W.fnOf "number" "Raw.number" (defArgs s_Raw_number) (defBody s_Raw_number) (defScope s_Raw_number) .none kV_Raw_number dc_Raw_number pm_Raw_number an_Raw_number cd_Raw_number ct_Raw_number), sl_Raw_number⟩)
    (c_Raw_number : PySem.W.codeIn K cd_Raw_number "Raw.number" = true)
    (k_Raw_number : PySem.W.keepIn K (.ref f_Raw_number) = true)
    (a_raw_views : PySem.W.nsIn K mainGlobals "raw_views" = some (some (.ref f_raw_views)))
    (l_raw_views : K.lookup f_raw_views = some ⟨oc_raw_views, od_raw_views, .func (PySem.W.fnOf "raw_views" "raw_views" (defArgs s_raw_views) (defBody s_raw_views) (defScope s_raw_views) .none kV_raw_views dc_raw_views pm_raw_views an_raw_views cd_raw_views ct_raw_views), sl_raw_views⟩)
    (c_raw_views : PySem.W.codeIn K cd_raw_views "raw_views" = true)
    (k_raw_views : PySem.W.keepIn K (.ref f_raw_views) = true)
    (a_counts_row : PySem.W.nsIn K mainGlobals "counts_row" = some (some (.ref f_counts_row)))
    (l_counts_row : K.lookup f_counts_row = some ⟨oc_counts_row, od_counts_row, .func (PySem.W.fnOf "counts_row" "counts_row" (defArgs s_counts_row) (defBody s_counts_row) (defScope s_counts_row) .none kV_counts_row dc_counts_row pm_counts_row an_counts_row cd_counts_row ct_counts_row), sl_counts_row⟩)
    (c_counts_row : PySem.W.codeIn K cd_counts_row "counts_row" = true)
    (k_counts_row : PySem.W.keepIn K (.ref f_counts_row) = true)
    (a_count_told : PySem.W.nsIn K mainGlobals "count_told" = some (some (.ref f_count_told)))
    (l_count_told : K.lookup f_count_told = some ⟨oc_count_told, od_count_told, .func (PySem.W.fnOf "count_told" "count_told" (defArgs s_count_told) (defBody s_count_told) (defScope s_count_told) .none kV_count_told dc_count_told pm_count_told an_count_told cd_count_told ct_count_told), sl_count_told⟩)
    (c_count_told : PySem.W.codeIn K cd_count_told "count_told" = true)
    (k_count_told : PySem.W.keepIn K (.ref f_count_told) = true)
    (a_classes_of : PySem.W.nsIn K mainGlobals "classes_of" = some (some (.ref f_classes_of)))
    (l_classes_of : K.lookup f_classes_of = some ⟨oc_classes_of, od_classes_of, .func (PySem.W.fnOf "classes_of" "classes_of" (defArgs s_classes_of) (defBody s_classes_of) (defScope s_classes_of) .none kV_classes_of dc_classes_of pm_classes_of an_classes_of cd_classes_of ct_classes_of), sl_classes_of⟩)
    (c_classes_of : PySem.W.codeIn K cd_classes_of "classes_of" = true)
    (k_classes_of : PySem.W.keepIn K (.ref f_classes_of) = true)
    (a_least_lot : PySem.W.nsIn K mainGlobals "least_lot" = some (some (.ref f_least_lot)))
    (l_least_lot : K.lookup f_least_lot = some ⟨oc_least_lot, od_least_lot, .func (PySem.W.fnOf "least_lot" "least_lot" (defArgs s_least_lot) (defBody s_least_lot) (defScope s_least_lot) .none kV_least_lot dc_least_lot pm_least_lot an_least_lot (.ref o_least_lot) ct_least_lot), sl_least_lot⟩)
    (c_least_lot : PySem.W.codeIn K (.ref o_least_lot) "least_lot" = true)
    (k_least_lot : PySem.W.keepIn K (.ref f_least_lot) = true)
    (a_view_behind : PySem.W.nsIn K mainGlobals "view_behind" = some (some (.ref f_view_behind)))
    (l_view_behind : K.lookup f_view_behind = some ⟨oc_view_behind, od_view_behind, .func (PySem.W.fnOf "view_behind" "view_behind" (defArgs s_view_behind) (defBody s_view_behind) (defScope s_view_behind) .none kV_view_behind dc_view_behind pm_view_behind an_view_behind cd_view_behind ct_view_behind), sl_view_behind⟩)
    (c_view_behind : PySem.W.codeIn K cd_view_behind "view_behind" = true)
    (k_view_behind : PySem.W.keepIn K (.ref f_view_behind) = true)
    (a_view_along : PySem.W.nsIn K mainGlobals "view_along" = some (some (.ref f_view_along)))
    (l_view_along : K.lookup f_view_along = some ⟨oc_view_along, od_view_along, .func (PySem.W.fnOf "view_along" "view_along" (defArgs s_view_along) (defBody s_view_along) (defScope s_view_along) .none kV_view_along dc_view_along pm_view_along an_view_along cd_view_along ct_view_along), sl_view_along⟩)
    (c_view_along : PySem.W.codeIn K cd_view_along "view_along" = true)
    (k_view_along : PySem.W.keepIn K (.ref f_view_along) = true)
    (a_is_long : PySem.W.nsIn K mainGlobals "is_long" = some (some (.ref f_is_long)))
    (l_is_long : K.lookup f_is_long = some ⟨oc_is_long, od_is_long, .func (PySem.W.fnOf "is_long" "is_long" (defArgs s_is_long) (defBody s_is_long) (defScope s_is_long) .none kV_is_long dc_is_long pm_is_long an_is_long cd_is_long ct_is_long), sl_is_long⟩)
    (c_is_long : PySem.W.codeIn K cd_is_long "is_long" = true)
    (k_is_long : PySem.W.keepIn K (.ref f_is_long) = true)
    (a_not_long : PySem.W.nsIn K mainGlobals "not_long_circlenumbers" = some (some (.ref f_not_long)))
    (l_not_long : K.lookup f_not_long = some ⟨oc_not_long, od_not_long, .func (PySem.W.fnOf "not_long" "not_long" (defArgs s_not_long) (defBody s_not_long) (defScope s_not_long) .none kV_not_long dc_not_long pm_not_long an_not_long cd_not_long ct_not_long), sl_not_long⟩)
    (c_not_long : PySem.W.codeIn K cd_not_long "not_long" = true)
    (k_not_long : PySem.W.keepIn K (.ref f_not_long) = true)
    (a_fraction_told : PySem.W.nsIn K mainGlobals "fraction_told" = some (some (.ref f_fraction_told)))
    (l_fraction_told : K.lookup f_fraction_told = some ⟨oc_fraction_told, od_fraction_told, .func (PySem.W.fnOf "fraction_told" "fraction_told" (defArgs s_fraction_told) (defBody s_fraction_told) (defScope s_fraction_told) .none kV_fraction_told dc_fraction_told pm_fraction_told an_fraction_told cd_fraction_told ct_fraction_told), sl_fraction_told⟩)
    (c_fraction_told : PySem.W.codeIn K cd_fraction_told "fraction_told" = true)
    (k_fraction_told : PySem.W.keepIn K (.ref f_fraction_told) = true)
    (a_number_floor : PySem.W.nsIn K mainGlobals "number_floor" = some (some (.ref f_number_floor)))
    (l_number_floor : K.lookup f_number_floor = some ⟨oc_number_floor, od_number_floor, .func (PySem.W.fnOf "number_floor" "number_floor" (defArgs s_number_floor) (defBody s_number_floor) (defScope s_number_floor) .none kV_number_floor dc_number_floor pm_number_floor an_number_floor cd_number_floor ct_number_floor), sl_number_floor⟩)
    (c_number_floor : PySem.W.codeIn K cd_number_floor "number_floor" = true)
    (k_number_floor : PySem.W.keepIn K (.ref f_number_floor) = true)
    (a_map_led : PySem.W.nsIn K mainGlobals "map_led" = some (some (.ref f_map_led)))
    (l_map_led : K.lookup f_map_led = some ⟨oc_map_led, od_map_led, .func (PySem.W.fnOf "map_led" "map_led" (defArgs s_map_led) (defBody s_map_led) (defScope s_map_led) .none kV_map_led dc_map_led pm_map_led an_map_led cd_map_led ct_map_led), sl_map_led⟩)
    (c_map_led : PySem.W.codeIn K cd_map_led "map_led" = true)
    (k_map_led : PySem.W.keepIn K (.ref f_map_led) = true)
    (a_not_long_2 : PySem.W.nsIn K mainGlobals "not_long_ways" = some (some (.ref f_not_long_2)))
    (l_not_long_2 : K.lookup f_not_long_2 = some ⟨oc_not_long_2, od_not_long_2, .func (PySem.W.fnOf "not_long" "not_long" (defArgs s_not_long_2) (defBody s_not_long_2) (defScope s_not_long_2) .none kV_not_long_2 dc_not_long_2 pm_not_long_2 an_not_long_2 cd_not_long_2 ct_not_long_2), sl_not_long_2⟩)
    (c_not_long_2 : PySem.W.codeIn K cd_not_long_2 "not_long" = true)
    (k_not_long_2 : PySem.W.keepIn K (.ref f_not_long_2) = true)
    (a_fraction_runs : PySem.W.nsIn K mainGlobals "fraction_runs" = some (some (.ref f_fraction_runs)))
    (l_fraction_runs : K.lookup f_fraction_runs = some ⟨oc_fraction_runs, od_fraction_runs, .func (PySem.W.fnOf "fraction_runs" "fraction_runs" (defArgs s_fraction_runs) (defBody s_fraction_runs) (defScope s_fraction_runs) .none kV_fraction_runs dc_fraction_runs pm_fraction_runs an_fraction_runs cd_fraction_runs ct_fraction_runs), sl_fraction_runs⟩)
    (c_fraction_runs : PySem.W.codeIn K cd_fraction_runs "fraction_runs" = true)
    (k_fraction_runs : PySem.W.keepIn K (.ref f_fraction_runs) = true)
    (a_is_below : PySem.W.nsIn K mainGlobals "is_below" = some (some (.ref f_is_below)))
    (l_is_below : K.lookup f_is_below = some ⟨oc_is_below, od_is_below, .func (PySem.W.fnOf "is_below" "is_below" (defArgs s_is_below) (defBody s_is_below) (defScope s_is_below) .none kV_is_below dc_is_below pm_is_below an_is_below cd_is_below ct_is_below), sl_is_below⟩)
    (c_is_below : PySem.W.codeIn K cd_is_below "is_below" = true)
    (k_is_below : PySem.W.keepIn K (.ref f_is_below) = true)
    (a_way_told : PySem.W.nsIn K mainGlobals "way_told" = some (some (.ref f_way_told)))
    (l_way_told : K.lookup f_way_told = some ⟨oc_way_told, od_way_told, .func (PySem.W.fnOf "way_told" "way_told" (defArgs s_way_told) (defBody s_way_told) (defScope s_way_told) .none kV_way_told dc_way_told pm_way_told an_way_told cd_way_told ct_way_told), sl_way_told⟩)
    (c_way_told : PySem.W.codeIn K cd_way_told "way_told" = true)
    (k_way_told : PySem.W.keepIn K (.ref f_way_told) = true)
    (a_edge_behind : PySem.W.nsIn K mainGlobals "edge_behind" = some (some (.ref f_edge_behind)))
    (l_edge_behind : K.lookup f_edge_behind = some ⟨oc_edge_behind, od_edge_behind, .func (PySem.W.fnOf "edge_behind" "edge_behind" (defArgs s_edge_behind) (defBody s_edge_behind) (defScope s_edge_behind) .none kV_edge_behind dc_edge_behind pm_edge_behind an_edge_behind cd_edge_behind ct_edge_behind), sl_edge_behind⟩)
    (c_edge_behind : PySem.W.codeIn K cd_edge_behind "edge_behind" = true)
    (k_edge_behind : PySem.W.keepIn K (.ref f_edge_behind) = true)
    (a_first_edge : PySem.W.nsIn K mainGlobals "first_edge" = some (some (.ref f_first_edge)))
    (l_first_edge : K.lookup f_first_edge = some ⟨oc_first_edge, od_first_edge, .func (PySem.W.fnOf "first_edge" "first_edge" (defArgs s_first_edge) (defBody s_first_edge) (defScope s_first_edge) .none kV_first_edge dc_first_edge pm_first_edge an_first_edge cd_first_edge ct_first_edge), sl_first_edge⟩)
    (c_first_edge : PySem.W.codeIn K cd_first_edge "first_edge" = true)
    (k_first_edge : PySem.W.keepIn K (.ref f_first_edge) = true)
    (a_way_number : PySem.W.nsIn K mainGlobals "way_number" = some (some (.ref f_way_number)))
    (l_way_number : K.lookup f_way_number = some ⟨oc_way_number, od_way_number, .func (PySem.W.fnOf "way_number" "way_number" (defArgs s_way_number) (defBody s_way_number) (defScope s_way_number) .none kV_way_number dc_way_number pm_way_number an_way_number cd_way_number ct_way_number), sl_way_number⟩)
    (c_way_number : PySem.W.codeIn K cd_way_number "way_number" = true)
    (k_way_number : PySem.W.keepIn K (.ref f_way_number) = true)
    (a_lot_told : PySem.W.nsIn K mainGlobals "lot_told" = some (some (.ref f_lot_told)))
    (l_lot_told : K.lookup f_lot_told = some ⟨oc_lot_told, od_lot_told, .func (PySem.W.fnOf "lot_told" "lot_told" (defArgs s_lot_told) (defBody s_lot_told) (defScope s_lot_told) .none kV_lot_told dc_lot_told pm_lot_told an_lot_told (.ref o_lot_told) ct_lot_told), sl_lot_told⟩)
    (c_lot_told : PySem.W.codeIn K (.ref o_lot_told) "lot_told" = true)
    (k_lot_told : PySem.W.keepIn K (.ref f_lot_told) = true)
    (a_has_fraction : PySem.W.nsIn K mainGlobals "has_fraction" = some (some (.ref f_has_fraction)))
    (l_has_fraction : K.lookup f_has_fraction = some ⟨oc_has_fraction, od_has_fraction, .func (PySem.W.fnOf "has_fraction" "has_fraction" (defArgs s_has_fraction) (defBody s_has_fraction) (defScope s_has_fraction) .none kV_has_fraction dc_has_fraction pm_has_fraction an_has_fraction cd_has_fraction ct_has_fraction), sl_has_fraction⟩)
    (c_has_fraction : PySem.W.codeIn K cd_has_fraction "has_fraction" = true)
    (k_has_fraction : PySem.W.keepIn K (.ref f_has_fraction) = true)
    (a_live_views : PySem.W.nsIn K mainGlobals "live_views" = some (some (.ref f_live_views)))
    (l_live_views : K.lookup f_live_views = some ⟨oc_live_views, od_live_views, .func (PySem.W.fnOf "live_views" "live_views" (defArgs s_live_views) (defBody s_live_views) (defScope s_live_views) .none kV_live_views dc_live_views pm_live_views an_live_views cd_live_views ct_live_views), sl_live_views⟩)
    (c_live_views : PySem.W.codeIn K cd_live_views "live_views" = true)
    (k_live_views : PySem.W.keepIn K (.ref f_live_views) = true)
    (a_lot_size : PySem.W.nsIn K mainGlobals "lot_size" = some (some (.ref f_lot_size)))
    (l_lot_size : K.lookup f_lot_size = some ⟨oc_lot_size, od_lot_size, .func (PySem.W.fnOf "lot_size" "lot_size" (defArgs s_lot_size) (defBody s_lot_size) (defScope s_lot_size) .none kV_lot_size dc_lot_size pm_lot_size an_lot_size cd_lot_size ct_lot_size), sl_lot_size⟩)
    (c_lot_size : PySem.W.codeIn K cd_lot_size "lot_size" = true)
    (k_lot_size : PySem.W.keepIn K (.ref f_lot_size) = true)
    (a__law_source : PySem.W.nsIn K mainGlobals "_law_source" = some (some (.ref f__law_source)))
    (l__law_source : K.lookup f__law_source = some ⟨oc__law_source, od__law_source, .func (PySem.W.fnOf "_law_source" "_law_source" (defArgs s__law_source) (defBody s__law_source) (defScope s__law_source) .none kV__law_source dc__law_source pm__law_source an__law_source cd__law_source ct__law_source), sl__law_source⟩)
    (c__law_source : PySem.W.codeIn K cd__law_source "_law_source" = true)
    (k__law_source : PySem.W.keepIn K (.ref f__law_source) = true)
    (a__law_pick : PySem.W.nsIn K mainGlobals "_law_pick" = some (some (.ref f__law_pick)))
    (l__law_pick : K.lookup f__law_pick = some ⟨oc__law_pick, od__law_pick, .func (PySem.W.fnOf "_law_pick" "_law_pick" (defArgs s__law_pick) (defBody s__law_pick) (defScope s__law_pick) .none kV__law_pick dc__law_pick pm__law_pick an__law_pick cd__law_pick ct__law_pick), sl__law_pick⟩)
    (c__law_pick : PySem.W.codeIn K cd__law_pick "_law_pick" = true)
    (k__law_pick : PySem.W.keepIn K (.ref f__law_pick) = true)
    (a__law_of : PySem.W.nsIn K mainGlobals "_law_of" = some (some (.ref f__law_of)))
    (l__law_of : K.lookup f__law_of = some ⟨oc__law_of, od__law_of, .func (PySem.W.fnOf "_law_of" "_law_of" (defArgs s__law_of) (defBody s__law_of) (defScope s__law_of) .none kV__law_of dc__law_of pm__law_of an__law_of cd__law_of ct__law_of), sl__law_of⟩)
    (c__law_of : PySem.W.codeIn K cd__law_of "_law_of" = true)
    (k__law_of : PySem.W.keepIn K (.ref f__law_of) = true)
    (a__law_modulo : PySem.W.nsIn K mainGlobals "_law_modulo" = some (some (.ref f__law_modulo)))
    (l__law_modulo : K.lookup f__law_modulo = some ⟨oc__law_modulo, od__law_modulo, .func (PySem.W.fnOf "_law_modulo" "_law_modulo" (defArgs s__law_modulo) (defBody s__law_modulo) (defScope s__law_modulo) .none kV__law_modulo dc__law_modulo pm__law_modulo an__law_modulo cd__law_modulo ct__law_modulo), sl__law_modulo⟩)
    (c__law_modulo : PySem.W.codeIn K cd__law_modulo "_law_modulo" = true)
    (k__law_modulo : PySem.W.keepIn K (.ref f__law_modulo) = true)
    (a__law_key : PySem.W.nsIn K mainGlobals "_law_key" = some (some (.ref f__law_key)))
    (l__law_key : K.lookup f__law_key = some ⟨oc__law_key, od__law_key, .func (PySem.W.fnOf "_law_key" "_law_key" (defArgs s__law_key) (defBody s__law_key) (defScope s__law_key) .none kV__law_key dc__law_key pm__law_key an__law_key cd__law_key ct__law_key), sl__law_key⟩)
    (c__law_key : PySem.W.codeIn K cd__law_key "_law_key" = true)
    (k__law_key : PySem.W.keepIn K (.ref f__law_key) = true)
    (a__law_named : PySem.W.nsIn K mainGlobals "_law_named" = some (some (.ref f__law_named)))
    (l__law_named : K.lookup f__law_named = some ⟨oc__law_named, od__law_named, .func (PySem.W.fnOf "_law_named" "_law_named" (defArgs s__law_named) (defBody s__law_named) (defScope s__law_named) .none kV__law_named dc__law_named pm__law_named an__law_named cd__law_named ct__law_named), sl__law_named⟩)
    (c__law_named : PySem.W.codeIn K cd__law_named "_law_named" = true)
    (k__law_named : PySem.W.keepIn K (.ref f__law_named) = true)
    (a__law_lot : PySem.W.nsIn K mainGlobals "_law_lot" = some (some (.ref f__law_lot)))
    (l__law_lot : K.lookup f__law_lot = some ⟨oc__law_lot, od__law_lot, .func (PySem.W.fnOf "_law_lot" "_law_lot" (defArgs s__law_lot) (defBody s__law_lot) (defScope s__law_lot) .none kV__law_lot dc__law_lot pm__law_lot an__law_lot cd__law_lot ct__law_lot), sl__law_lot⟩)
    (c__law_lot : PySem.W.codeIn K cd__law_lot "_law_lot" = true)
    (k__law_lot : PySem.W.keepIn K (.ref f__law_lot) = true)
    (a__law_modes : PySem.W.nsIn K mainGlobals "_law_modes" = some (some (.ref f__law_modes)))
    (l__law_modes : K.lookup f__law_modes = some ⟨oc__law_modes, od__law_modes, .func (PySem.W.fnOf "_law_modes" "_law_modes" (defArgs s__law_modes) (defBody s__law_modes) (defScope s__law_modes) .none kV__law_modes dc__law_modes pm__law_modes an__law_modes cd__law_modes ct__law_modes), sl__law_modes⟩)
    (c__law_modes : PySem.W.codeIn K cd__law_modes "_law_modes" = true)
    (k__law_modes : PySem.W.keepIn K (.ref f__law_modes) = true)
    (a__law_rows : PySem.W.nsIn K mainGlobals "_law_rows" = some (some (.ref f__law_rows)))
    (l__law_rows : K.lookup f__law_rows = some ⟨oc__law_rows, od__law_rows, .func (PySem.W.fnOf "_law_rows" "_law_rows" (defArgs s__law_rows) (defBody s__law_rows) (defScope s__law_rows) .none kV__law_rows dc__law_rows pm__law_rows an__law_rows cd__law_rows ct__law_rows), sl__law_rows⟩)
    (c__law_rows : PySem.W.codeIn K cd__law_rows "_law_rows" = true)
    (k__law_rows : PySem.W.keepIn K (.ref f__law_rows) = true)
    (a__law_runs : PySem.W.nsIn K mainGlobals "_law_runs" = some (some (.ref f__law_runs)))
    (l__law_runs : K.lookup f__law_runs = some ⟨oc__law_runs, od__law_runs, .func (PySem.W.fnOf "_law_runs" "_law_runs" (defArgs s__law_runs) (defBody s__law_runs) (defScope s__law_runs) .none kV__law_runs dc__law_runs pm__law_runs an__law_runs cd__law_runs ct__law_runs), sl__law_runs⟩)
    (c__law_runs : PySem.W.codeIn K cd__law_runs "_law_runs" = true)
    (k__law_runs : PySem.W.keepIn K (.ref f__law_runs) = true)
    (a__law_far : PySem.W.nsIn K mainGlobals "_law_far" = some (some (.ref f__law_far)))
    (l__law_far : K.lookup f__law_far = some ⟨oc__law_far, od__law_far, .func (PySem.W.fnOf "_law_far" "_law_far" (defArgs s__law_far) (defBody s__law_far) (defScope s__law_far) .none kV__law_far dc__law_far pm__law_far an__law_far cd__law_far ct__law_far), sl__law_far⟩)
    (c__law_far : PySem.W.codeIn K cd__law_far "_law_far" = true)
    (k__law_far : PySem.W.keepIn K (.ref f__law_far) = true)
    (a__law_few : PySem.W.nsIn K mainGlobals "_law_few" = some (some (.ref f__law_few)))
    (l__law_few : K.lookup f__law_few = some ⟨oc__law_few, od__law_few, .func (PySem.W.fnOf "_law_few" "_law_few" (defArgs s__law_few) (defBody s__law_few) (defScope s__law_few) .none kV__law_few dc__law_few pm__law_few an__law_few cd__law_few ct__law_few), sl__law_few⟩)
    (c__law_few : PySem.W.codeIn K cd__law_few "_law_few" = true)
    (k__law_few : PySem.W.keepIn K (.ref f__law_few) = true)
    (a_law : PySem.W.nsIn K mainGlobals "law" = some (some (.ref f_law)))
    (l_law : K.lookup f_law = some ⟨oc_law, od_law, .func (PySem.W.fnOf "law" "law" (defArgs s_law) (defBody s_law) (defScope s_law) .none kV_law dc_law pm_law an_law cd_law ct_law), sl_law⟩)
    (c_law : PySem.W.codeIn K cd_law "law" = true)
    (k_law : PySem.W.keepIn K (.ref f_law) = true)
    (v_DOWN : PySem.W.nsIn K mainGlobals "DOWN" = some (some (.str "down" t_DOWN)))
    (v_GREAT_COUNT : PySem.W.nsIn K mainGlobals "GREAT_COUNT" = some (some (.int 4 t_GREAT_COUNT)))
    (v_LEFT : PySem.W.nsIn K mainGlobals "LEFT" = some (some (.str "left" t_LEFT)))
    (v_LONG_NUMBER : PySem.W.nsIn K mainGlobals "LONG_NUMBER" = some (some (.int 4 t_LONG_NUMBER)))
    (v_LONG_WAY : PySem.W.nsIn K mainGlobals "LONG_WAY" = some (some (.int 3 t_LONG_WAY)))
    (v_MANY_RAW : PySem.W.nsIn K mainGlobals "MANY_RAW" = some (some (.int 1 t_MANY_RAW)))
    (v_MANY_VIEWS : PySem.W.nsIn K mainGlobals "MANY_VIEWS" = some (some (.int 0 t_MANY_VIEWS)))
    (v_MOST_FIGURES_circlenumbers : PySem.W.nsIn K mainGlobals "MOST_FIGURES_circlenumbers" = some (some (.int 300 t_MOST_FIGURES_circlenumbers)))
    (v_MOST_FIGURES_counts : PySem.W.nsIn K mainGlobals "MOST_FIGURES_counts" = some (some (.int 300 t_MOST_FIGURES_counts)))
    (v_MOST_RAW : PySem.W.nsIn K mainGlobals "MOST_RAW" = some (some (.int 1200 t_MOST_RAW)))
    (v_MOST_RUNS : PySem.W.nsIn K mainGlobals "MOST_RUNS" = some (some (.int 200 t_MOST_RUNS)))
    (v_MOST_STEPS : PySem.W.nsIn K mainGlobals "MOST_STEPS" = some (some (.int 3000 t_MOST_STEPS)))
    (v_MOST_VIEWS : PySem.W.nsIn K mainGlobals "MOST_VIEWS" = some (some (.int 60 t_MOST_VIEWS)))
    (v_RIGHT : PySem.W.nsIn K mainGlobals "RIGHT" = some (some (.str "right" t_RIGHT)))
    (v_SIDES : PySem.W.nsIn K mainGlobals "SIDES" = some (some (.ref r_SIDES)))
    (v_SURE_BITS : PySem.W.nsIn K mainGlobals "SURE_BITS" = some (some (.int 997 t_SURE_BITS)))
    (v_TOP_WAY : PySem.W.nsIn K mainGlobals "TOP_WAY" = some (some (.ref r_TOP_WAY)))
    (v_TURNED : PySem.W.nsIn K mainGlobals "TURNED" = some (some (.ref r_TURNED)))
    (v_UP_lots : PySem.W.nsIn K mainGlobals "UP_lots" = some (some (.str "up" t_UP_lots)))
    (v_UP_ways : PySem.W.nsIn K mainGlobals "UP_ways" = some (some (.str "up" t_UP_ways)))
    (v_ZERO_WAY : PySem.W.nsIn K mainGlobals "ZERO_WAY" = some (some (.ref r_ZERO_WAY)))
    (z_abs : PySem.W.nsIn K mainGlobals "abs" = some none)
    (z_any : PySem.W.nsIn K mainGlobals "any" = some none)
    (z_dict : PySem.W.nsIn K mainGlobals "dict" = some none)
    (z_enumerate : PySem.W.nsIn K mainGlobals "enumerate" = some none)
    (z_gcd : PySem.W.nsIn K mainGlobals "gcd" = some (some (.builtin "math.gcd")))
    (z_int : PySem.W.nsIn K mainGlobals "int" = some none)
    (z_isqrt : PySem.W.nsIn K mainGlobals "isqrt" = some (some (.builtin "math.isqrt")))
    (z_len : PySem.W.nsIn K mainGlobals "len" = some none)
    (z_list : PySem.W.nsIn K mainGlobals "list" = some none)
    (z_max : PySem.W.nsIn K mainGlobals "max" = some none)
    (z_min : PySem.W.nsIn K mainGlobals "min" = some none)
    (z_range : PySem.W.nsIn K mainGlobals "range" = some none)
    (z_repr : PySem.W.nsIn K mainGlobals "repr" = some none)
    (z_sorted : PySem.W.nsIn K mainGlobals "sorted" = some none)
    (z_str : PySem.W.nsIn K mainGlobals "str" = some none)
    (z_sum : PySem.W.nsIn K mainGlobals "sum" = some none)
    (z_tuple : PySem.W.nsIn K mainGlobals "tuple" = some none)
    (ch_lot_told : PySem.W.codeHdIn K o_lot_told p_lot_told = true)
    (tn_lot_told : K.lookup p_lot_told = none)
    (th_lot_told : h.get? p_lot_told = some { cls := .none, data := .fields #[] })
    (ch_least_lot : PySem.W.codeHdIn K o_least_lot p_least_lot = true)
    (tn_least_lot : K.lookup p_least_lot = none)
    (th_least_lot : h.get? p_least_lot = some { cls := .none, data := .fields #[] })
    (np_lot_told_least_lot : p_lot_told ≠ p_least_lot)
    (sd : K.lookup r_SIDES = some ⟨.type "dict", none, .dict esS nS, #[]⟩)
    (sk : PySem.W.KeysLit w.params esS.toList)
    (s1 : PySem.W.nsIn K r_SIDES "left" = some (some uS1))
    (s1v : RelV (.int 1) uS1)
    (s2 : PySem.W.nsIn K r_SIDES "right" = some (some uS2))
    (s2v : RelV (.int 2) uS2)
    (tl : K.lookup r_TURNED = some oT)
    (tc : oT.cls = .type "tuple")
    (td : oT.data = .seq itT nT)
    (tz : itT.size ≤ sizeLine)
    (tv : L2.Vals [.int 0, .int 1, .int (-1), .int 0] itT.toList) : LamX.LawAtS l w K CX0 10 63 "script" mg fa h := by
  have e : f_law = fa := by
    have e := hfa.symm.trans (PySem.W.mg_of X G0 a_law)
    cases e
    rfl
  subst e
  have F_Raw___init__ := fun_mk (st := s_Raw___init__) l_Raw___init__ c_Raw___init__ k_Raw___init__
  have b_Raw___init__ := F_Raw___init__.binds (ps := ["self"]) fun _ _ _ _ _ _ us hl => match us, hl with | [_], _ => rfl
  have F_Raw_number := fun_mk (st := s_Raw_number) l_Raw_number c_Raw_number k_Raw_number
  have b_Raw_number := F_Raw_number.binds (ps := ["self", "state"]) fun _ _ _ _ _ _ us hl => match us, hl with | [_, _], _ => rfl
  have F_raw_views := fun_mk (st := s_raw_views) l_raw_views c_raw_views k_raw_views
  have b_raw_views := F_raw_views.binds (ps := ["starts", "view_of"]) fun _ _ _ _ _ _ us hl => match us, hl with | [_, _], _ => rfl
  have F_counts_row := fun_mk (st := s_counts_row) l_counts_row c_counts_row k_counts_row
  have b_counts_row := F_counts_row.binds (ps := ["lot", "many"]) fun _ _ _ _ _ _ us hl => match us, hl with | [_, _], _ => rfl
  have F_count_told := fun_mk (st := s_count_told) l_count_told c_count_told k_count_told
  have b_count_told := F_count_told.binds (ps := ["lot", "n"]) fun _ _ _ _ _ _ us hl => match us, hl with | [_, _], _ => rfl
  have F_classes_of := fun_mk (st := s_classes_of) l_classes_of c_classes_of k_classes_of
  have b_classes_of := F_classes_of.binds (ps := ["views"]) fun _ _ _ _ _ _ us hl => match us, hl with | [_], _ => rfl
  have F_least_lot := fun_mk (st := s_least_lot) l_least_lot c_least_lot k_least_lot
  have b_least_lot := F_least_lot.binds (ps := ["zero", "top", "front", "back", "view_of"]) fun _ _ _ _ _ _ us hl => match us, hl with | [_, _, _, _, _], _ => rfl
  have F_view_behind := fun_mk (st := s_view_behind) l_view_behind c_view_behind k_view_behind
  have b_view_behind := F_view_behind.binds (ps := ["views", "view", "letter", "many"]) fun _ _ _ _ _ _ us hl => match us, hl with | [_, _, _, _], _ => rfl
  have F_view_along := fun_mk (st := s_view_along) l_view_along c_view_along k_view_along
  have b_view_along := F_view_along.binds (ps := ["views", "view", "runs"]) fun _ _ _ _ _ _ us hl => match us, hl with | [_, _, _], _ => rfl
  have F_is_long := fun_mk (st := s_is_long) l_is_long c_is_long k_is_long
  have b_is_long := F_is_long.binds (ps := ["number"]) fun _ _ _ _ _ _ us hl => match us, hl with | [_], _ => rfl
  have F_not_long := fun_mk (st := s_not_long) l_not_long c_not_long k_not_long
  have b_not_long := F_not_long.binds (ps := ["numbers"]) fun _ _ _ _ _ _ us hl => match us, hl with | [_], _ => rfl
  have F_fraction_told := fun_mk (st := s_fraction_told) l_fraction_told c_fraction_told k_fraction_told
  have b_fraction_told := F_fraction_told.binds (ps := ["top", "bottom"]) fun _ _ _ _ _ _ us hl => match us, hl with | [_, _], _ => rfl
  have F_number_floor := fun_mk (st := s_number_floor) l_number_floor c_number_floor k_number_floor
  have b_number_floor := F_number_floor.binds (ps := ["number"]) fun _ _ _ _ _ _ us hl => match us, hl with | [_], _ => rfl
  have F_map_led := fun_mk (st := s_map_led) l_map_led c_map_led k_map_led
  have b_map_led := F_map_led.binds (ps := ["one", "number"]) fun _ _ _ _ _ _ us hl => match us, hl with | [_, _], _ => rfl
  have F_not_long_2 := fun_mk (st := s_not_long_2) l_not_long_2 c_not_long_2 k_not_long_2
  have b_not_long_2 := F_not_long_2.binds (ps := ["runs"]) fun _ _ _ _ _ _ us hl => match us, hl with | [_], _ => rfl
  have F_fraction_runs := fun_mk (st := s_fraction_runs) l_fraction_runs c_fraction_runs k_fraction_runs
  have b_fraction_runs := F_fraction_runs.binds (ps := ["top", "bottom"]) fun _ _ _ _ _ _ us hl => match us, hl with | [_, _], _ => rfl
  have F_is_below := fun_mk (st := s_is_below) l_is_below c_is_below k_is_below
  have b_is_below := F_is_below.binds (ps := ["number"]) fun _ _ _ _ _ _ us hl => match us, hl with | [_], _ => rfl
  have F_way_told := fun_mk (st := s_way_told) l_way_told c_way_told k_way_told
  have b_way_told := F_way_told.binds (ps := ["number"]) fun _ _ _ _ _ _ us hl => match us, hl with | [_], _ => rfl
  have F_edge_behind := fun_mk (st := s_edge_behind) l_edge_behind c_edge_behind k_edge_behind
  have b_edge_behind := F_edge_behind.binds (ps := ["edge", "runs"]) fun _ _ _ _ _ _ us hl => match us, hl with | [_, _], _ => rfl
  have F_first_edge := fun_mk (st := s_first_edge) l_first_edge c_first_edge k_first_edge
  have b_first_edge := F_first_edge.binds (ps := ["side"]) fun _ _ _ _ _ _ us hl => match us, hl with | [_], _ => rfl
  have F_way_number := fun_mk (st := s_way_number) l_way_number c_way_number k_way_number
  have b_way_number := F_way_number.binds (ps := ["way"]) fun _ _ _ _ _ _ us hl => match us, hl with | [_], _ => rfl
  have F_lot_told := fun_mk (st := s_lot_told) l_lot_told c_lot_told k_lot_told
  have b_lot_told := F_lot_told.binds (ps := ["zero", "top", "front", "back", "modes"]) fun _ _ _ _ _ _ us hl => match us, hl with | [_, _, _, _, _], _ => rfl
  have F_has_fraction := fun_mk (st := s_has_fraction) l_has_fraction c_has_fraction k_has_fraction
  have b_has_fraction := F_has_fraction.binds (ps := ["lot", "x"]) fun _ _ _ _ _ _ us hl => match us, hl with | [_, _], _ => rfl
  have F_live_views := fun_mk (st := s_live_views) l_live_views c_live_views k_live_views
  have b_live_views := F_live_views.binds (ps := ["views"]) fun _ _ _ _ _ _ us hl => match us, hl with | [_], _ => rfl
  have F_lot_size := fun_mk (st := s_lot_size) l_lot_size c_lot_size k_lot_size
  have b_lot_size := F_lot_size.binds (ps := ["lot"]) fun _ _ _ _ _ _ us hl => match us, hl with | [_], _ => rfl
  have F__law_source := fun_mk (st := s__law_source) l__law_source c__law_source k__law_source
  have b__law_source := F__law_source.binds (ps := ["script"]) fun _ _ _ _ _ _ us hl => match us, hl with | [_], _ => rfl
  have F__law_pick := fun_mk (st := s__law_pick) l__law_pick c__law_pick k__law_pick
  have b__law_pick := F__law_pick.binds (ps := ["source", "many"]) fun _ _ _ _ _ _ us hl => match us, hl with | [_, _], _ => rfl
  have F__law_of := fun_mk (st := s__law_of) l__law_of c__law_of k__law_of
  have b__law_of := F__law_of.binds (ps := ["source", "some"]) fun _ _ _ _ _ _ us hl => match us, hl with | [_, _], _ => rfl
  have F__law_modulo := fun_mk (st := s__law_modulo) l__law_modulo c__law_modulo k__law_modulo
  have b__law_modulo := F__law_modulo.binds (ps := ["source", "many"]) fun _ _ _ _ _ _ us hl => match us, hl with | [_, _], _ => rfl
  have F__law_key := fun_mk (st := s__law_key) l__law_key c__law_key k__law_key
  have b__law_key := F__law_key.binds (ps := ["edge", "many"]) fun _ _ _ _ _ _ us hl => match us, hl with | [_, _], _ => rfl
  have F__law_named := fun_mk (st := s__law_named) l__law_named c__law_named k__law_named
  have b__law_named := F__law_named.binds (ps := ["edge"]) fun _ _ _ _ _ _ us hl => match us, hl with | [_], _ => rfl
  have F__law_lot := fun_mk (st := s__law_lot) l__law_lot c__law_lot k__law_lot
  have b__law_lot := F__law_lot.binds (ps := ["source", "many"]) fun _ _ _ _ _ _ us hl => match us, hl with | [_, _], _ => rfl
  have F__law_modes := fun_mk (st := s__law_modes) l__law_modes c__law_modes k__law_modes
  have b__law_modes := F__law_modes.binds (ps := ["modes"]) fun _ _ _ _ _ _ us hl => match us, hl with | [_], _ => rfl
  have F__law_rows := fun_mk (st := s__law_rows) l__law_rows c__law_rows k__law_rows
  have b__law_rows := F__law_rows.binds (ps := ["head", "modes", "most"]) fun _ _ _ _ _ _ us hl => match us, hl with | [_, _, _], _ => rfl
  have F__law_runs := fun_mk (st := s__law_runs) l__law_runs c__law_runs k__law_runs
  have b__law_runs := F__law_runs.binds (ps := ["way"]) fun _ _ _ _ _ _ us hl => match us, hl with | [_], _ => rfl
  have F__law_far := fun_mk (st := s__law_far) l__law_far c__law_far k__law_far
  have b__law_far := F__law_far.binds (ps := ["modes", "name", "steps"]) fun _ _ _ _ _ _ us hl => match us, hl with | [_, _, _], _ => rfl
  have F__law_few := fun_mk (st := s__law_few) l__law_few c__law_few k__law_few
  have b__law_few := F__law_few.binds (ps := ["source"]) fun _ _ _ _ _ _ us hl => match us, hl with | [_], _ => rfl
  have F_law := fun_mk (st := s_law) l_law c_law k_law
  have b_law := F_law.binds (ps := ["script"]) fun _ _ _ _ _ _ us hl => match us, hl with | [_], _ => rfl
  let g : GA := { c_Raw := c_Raw, d_Raw___init__ := f_Raw___init__, f_Raw___init__ := PySem.W.fnOf "__init__" "Raw.__init__" (defArgs s_Raw___init__) (defBody s_Raw___init__) (defScope s_Raw___init__) .none kV_Raw___init__ dc_Raw___init__ pm_Raw___init__ an_Raw___init__ cd_Raw___init__ ct_Raw___init__, d_Raw_number := f_Raw_number, f_Raw_number := PySem.W.fnOf "number" "Raw.number" (defArgs s_Raw_number) (defBody s_Raw_number) (defScope s_Raw_number) .none kV_Raw_number dc_Raw_number pm_Raw_number an_Raw_number cd_Raw_number ct_Raw_number, d_raw_views := f_raw_views, f_raw_views := PySem.W.fnOf "raw_views" "raw_views" (defArgs s_raw_views) (defBody s_raw_views) (defScope s_raw_views) .none kV_raw_views dc_raw_views pm_raw_views an_raw_views cd_raw_views ct_raw_views, d_counts_row := f_counts_row, f_counts_row := PySem.W.fnOf "counts_row" "counts_row" (defArgs s_counts_row) (defBody s_counts_row) (defScope s_counts_row) .none kV_counts_row dc_counts_row pm_counts_row an_counts_row cd_counts_row ct_counts_row, d_count_told := f_count_told, f_count_told := PySem.W.fnOf "count_told" "count_told" (defArgs s_count_told) (defBody s_count_told) (defScope s_count_told) .none kV_count_told dc_count_told pm_count_told an_count_told cd_count_told ct_count_told, d_classes_of := f_classes_of, f_classes_of := PySem.W.fnOf "classes_of" "classes_of" (defArgs s_classes_of) (defBody s_classes_of) (defScope s_classes_of) .none kV_classes_of dc_classes_of pm_classes_of an_classes_of cd_classes_of ct_classes_of, d_least_lot := f_least_lot, f_least_lot := PySem.W.fnOf "least_lot" "least_lot" (defArgs s_least_lot) (defBody s_least_lot) (defScope s_least_lot) .none kV_least_lot dc_least_lot pm_least_lot an_least_lot (.ref o_least_lot) ct_least_lot, d_view_behind := f_view_behind, f_view_behind := PySem.W.fnOf "view_behind" "view_behind" (defArgs s_view_behind) (defBody s_view_behind) (defScope s_view_behind) .none kV_view_behind dc_view_behind pm_view_behind an_view_behind cd_view_behind ct_view_behind, d_view_along := f_view_along, f_view_along := PySem.W.fnOf "view_along" "view_along" (defArgs s_view_along) (defBody s_view_along) (defScope s_view_along) .none kV_view_along dc_view_along pm_view_along an_view_along cd_view_along ct_view_along, d_is_long := f_is_long, f_is_long := PySem.W.fnOf "is_long" "is_long" (defArgs s_is_long) (defBody s_is_long) (defScope s_is_long) .none kV_is_long dc_is_long pm_is_long an_is_long cd_is_long ct_is_long, d_not_long := f_not_long, f_not_long := PySem.W.fnOf "not_long" "not_long" (defArgs s_not_long) (defBody s_not_long) (defScope s_not_long) .none kV_not_long dc_not_long pm_not_long an_not_long cd_not_long ct_not_long, d_fraction_told := f_fraction_told, f_fraction_told := PySem.W.fnOf "fraction_told" "fraction_told" (defArgs s_fraction_told) (defBody s_fraction_told) (defScope s_fraction_told) .none kV_fraction_told dc_fraction_told pm_fraction_told an_fraction_told cd_fraction_told ct_fraction_told, d_number_floor := f_number_floor, f_number_floor := PySem.W.fnOf "number_floor" "number_floor" (defArgs s_number_floor) (defBody s_number_floor) (defScope s_number_floor) .none kV_number_floor dc_number_floor pm_number_floor an_number_floor cd_number_floor ct_number_floor, d_map_led := f_map_led, f_map_led := PySem.W.fnOf "map_led" "map_led" (defArgs s_map_led) (defBody s_map_led) (defScope s_map_led) .none kV_map_led dc_map_led pm_map_led an_map_led cd_map_led ct_map_led, d_not_long_2 := f_not_long_2, f_not_long_2 := PySem.W.fnOf "not_long" "not_long" (defArgs s_not_long_2) (defBody s_not_long_2) (defScope s_not_long_2) .none kV_not_long_2 dc_not_long_2 pm_not_long_2 an_not_long_2 cd_not_long_2 ct_not_long_2, d_fraction_runs := f_fraction_runs, f_fraction_runs := PySem.W.fnOf "fraction_runs" "fraction_runs" (defArgs s_fraction_runs) (defBody s_fraction_runs) (defScope s_fraction_runs) .none kV_fraction_runs dc_fraction_runs pm_fraction_runs an_fraction_runs cd_fraction_runs ct_fraction_runs, d_is_below := f_is_below, f_is_below := PySem.W.fnOf "is_below" "is_below" (defArgs s_is_below) (defBody s_is_below) (defScope s_is_below) .none kV_is_below dc_is_below pm_is_below an_is_below cd_is_below ct_is_below, d_way_told := f_way_told, f_way_told := PySem.W.fnOf "way_told" "way_told" (defArgs s_way_told) (defBody s_way_told) (defScope s_way_told) .none kV_way_told dc_way_told pm_way_told an_way_told cd_way_told ct_way_told, d_edge_behind := f_edge_behind, f_edge_behind := PySem.W.fnOf "edge_behind" "edge_behind" (defArgs s_edge_behind) (defBody s_edge_behind) (defScope s_edge_behind) .none kV_edge_behind dc_edge_behind pm_edge_behind an_edge_behind cd_edge_behind ct_edge_behind, d_first_edge := f_first_edge, f_first_edge := PySem.W.fnOf "first_edge" "first_edge" (defArgs s_first_edge) (defBody s_first_edge) (defScope s_first_edge) .none kV_first_edge dc_first_edge pm_first_edge an_first_edge cd_first_edge ct_first_edge, d_way_number := f_way_number, f_way_number := PySem.W.fnOf "way_number" "way_number" (defArgs s_way_number) (defBody s_way_number) (defScope s_way_number) .none kV_way_number dc_way_number pm_way_number an_way_number cd_way_number ct_way_number, d_lot_told := f_lot_told, f_lot_told := PySem.W.fnOf "lot_told" "lot_told" (defArgs s_lot_told) (defBody s_lot_told) (defScope s_lot_told) .none kV_lot_told dc_lot_told pm_lot_told an_lot_told (.ref o_lot_told) ct_lot_told, d_has_fraction := f_has_fraction, f_has_fraction := PySem.W.fnOf "has_fraction" "has_fraction" (defArgs s_has_fraction) (defBody s_has_fraction) (defScope s_has_fraction) .none kV_has_fraction dc_has_fraction pm_has_fraction an_has_fraction cd_has_fraction ct_has_fraction, d_live_views := f_live_views, f_live_views := PySem.W.fnOf "live_views" "live_views" (defArgs s_live_views) (defBody s_live_views) (defScope s_live_views) .none kV_live_views dc_live_views pm_live_views an_live_views cd_live_views ct_live_views, d_lot_size := f_lot_size, f_lot_size := PySem.W.fnOf "lot_size" "lot_size" (defArgs s_lot_size) (defBody s_lot_size) (defScope s_lot_size) .none kV_lot_size dc_lot_size pm_lot_size an_lot_size cd_lot_size ct_lot_size, d__law_source := f__law_source, f__law_source := PySem.W.fnOf "_law_source" "_law_source" (defArgs s__law_source) (defBody s__law_source) (defScope s__law_source) .none kV__law_source dc__law_source pm__law_source an__law_source cd__law_source ct__law_source, d__law_pick := f__law_pick, f__law_pick := PySem.W.fnOf "_law_pick" "_law_pick" (defArgs s__law_pick) (defBody s__law_pick) (defScope s__law_pick) .none kV__law_pick dc__law_pick pm__law_pick an__law_pick cd__law_pick ct__law_pick, d__law_of := f__law_of, f__law_of := PySem.W.fnOf "_law_of" "_law_of" (defArgs s__law_of) (defBody s__law_of) (defScope s__law_of) .none kV__law_of dc__law_of pm__law_of an__law_of cd__law_of ct__law_of, d__law_modulo := f__law_modulo, f__law_modulo := PySem.W.fnOf "_law_modulo" "_law_modulo" (defArgs s__law_modulo) (defBody s__law_modulo) (defScope s__law_modulo) .none kV__law_modulo dc__law_modulo pm__law_modulo an__law_modulo cd__law_modulo ct__law_modulo, d__law_key := f__law_key, f__law_key := PySem.W.fnOf "_law_key" "_law_key" (defArgs s__law_key) (defBody s__law_key) (defScope s__law_key) .none kV__law_key dc__law_key pm__law_key an__law_key cd__law_key ct__law_key, d__law_named := f__law_named, f__law_named := PySem.W.fnOf "_law_named" "_law_named" (defArgs s__law_named) (defBody s__law_named) (defScope s__law_named) .none kV__law_named dc__law_named pm__law_named an__law_named cd__law_named ct__law_named, d__law_lot := f__law_lot, f__law_lot := PySem.W.fnOf "_law_lot" "_law_lot" (defArgs s__law_lot) (defBody s__law_lot) (defScope s__law_lot) .none kV__law_lot dc__law_lot pm__law_lot an__law_lot cd__law_lot ct__law_lot, d__law_modes := f__law_modes, f__law_modes := PySem.W.fnOf "_law_modes" "_law_modes" (defArgs s__law_modes) (defBody s__law_modes) (defScope s__law_modes) .none kV__law_modes dc__law_modes pm__law_modes an__law_modes cd__law_modes ct__law_modes, d__law_rows := f__law_rows, f__law_rows := PySem.W.fnOf "_law_rows" "_law_rows" (defArgs s__law_rows) (defBody s__law_rows) (defScope s__law_rows) .none kV__law_rows dc__law_rows pm__law_rows an__law_rows cd__law_rows ct__law_rows, d__law_runs := f__law_runs, f__law_runs := PySem.W.fnOf "_law_runs" "_law_runs" (defArgs s__law_runs) (defBody s__law_runs) (defScope s__law_runs) .none kV__law_runs dc__law_runs pm__law_runs an__law_runs cd__law_runs ct__law_runs, d__law_far := f__law_far, f__law_far := PySem.W.fnOf "_law_far" "_law_far" (defArgs s__law_far) (defBody s__law_far) (defScope s__law_far) .none kV__law_far dc__law_far pm__law_far an__law_far cd__law_far ct__law_far, d__law_few := f__law_few, f__law_few := PySem.W.fnOf "_law_few" "_law_few" (defArgs s__law_few) (defBody s__law_few) (defScope s__law_few) .none kV__law_few dc__law_few pm__law_few an__law_few cd__law_few ct__law_few, d_law := f_law, f_law := PySem.W.fnOf "law" "law" (defArgs s_law) (defBody s_law) (defScope s_law) .none kV_law dc_law pm_law an_law cd_law ct_law, t_DOWN := t_DOWN, t_GREAT_COUNT := t_GREAT_COUNT, t_LEFT := t_LEFT, t_LONG_NUMBER := t_LONG_NUMBER, t_LONG_WAY := t_LONG_WAY, t_MANY_RAW := t_MANY_RAW, t_MANY_VIEWS := t_MANY_VIEWS, t_MOST_FIGURES_circlenumbers := t_MOST_FIGURES_circlenumbers, t_MOST_FIGURES_counts := t_MOST_FIGURES_counts, t_MOST_RAW := t_MOST_RAW, t_MOST_RUNS := t_MOST_RUNS, t_MOST_STEPS := t_MOST_STEPS, t_MOST_VIEWS := t_MOST_VIEWS, t_RIGHT := t_RIGHT, r_SIDES := r_SIDES, t_SURE_BITS := t_SURE_BITS, r_TOP_WAY := r_TOP_WAY, r_TURNED := r_TURNED, t_UP_lots := t_UP_lots, t_UP_ways := t_UP_ways, r_ZERO_WAY := r_ZERO_WAY, p_lot_told := p_lot_told, o_lot_told := o_lot_told, p_least_lot := p_least_lot, o_least_lot := o_least_lot }
  have GL : Glob K mg w g :=
    { C_Raw := ⟨pg_Raw, hd_Raw, po_Raw, sa_Raw⟩,
      m_Raw := PySem.W.mg_of X G0 v_Raw,
      a_Raw_known := n_Raw_known,
      a_Raw_line := n_Raw_line,
      F_Raw___init__ := F_Raw___init__,
      b_Raw___init__ := b_Raw___init__,
      k_Raw := ⟨mk_Raw, a_Raw___init__, i_Raw___init__, kc_Raw⟩,
      F_Raw_number := F_Raw_number,
      b_Raw_number := b_Raw_number,
      e_Raw_number := ⟨a_Raw_number, i_Raw_number, k_Raw_number⟩,
      F_raw_views := F_raw_views,
      b_raw_views := b_raw_views,
      F_counts_row := F_counts_row,
      b_counts_row := b_counts_row,
      F_count_told := F_count_told,
      b_count_told := b_count_told,
      F_classes_of := F_classes_of,
      b_classes_of := b_classes_of,
      F_least_lot := ⟨⟨oc_least_lot, od_least_lot, kV_least_lot, dc_least_lot, pm_least_lot, an_least_lot, ct_least_lot, sl_least_lot, rfl, l_least_lot, c_least_lot⟩, k_least_lot⟩,
      b_least_lot := b_least_lot,
      F_view_behind := F_view_behind,
      b_view_behind := b_view_behind,
      F_view_along := F_view_along,
      b_view_along := b_view_along,
      F_is_long := F_is_long,
      b_is_long := b_is_long,
      F_not_long := F_not_long,
      b_not_long := b_not_long,
      F_fraction_told := F_fraction_told,
      b_fraction_told := b_fraction_told,
      F_number_floor := F_number_floor,
      b_number_floor := b_number_floor,
      F_map_led := F_map_led,
      b_map_led := b_map_led,
      F_not_long_2 := F_not_long_2,
      b_not_long_2 := b_not_long_2,
      F_fraction_runs := F_fraction_runs,
      b_fraction_runs := b_fraction_runs,
      F_is_below := F_is_below,
      b_is_below := b_is_below,
      F_way_told := F_way_told,
      b_way_told := b_way_told,
      F_edge_behind := F_edge_behind,
      b_edge_behind := b_edge_behind,
      F_first_edge := F_first_edge,
      b_first_edge := b_first_edge,
      F_way_number := F_way_number,
      b_way_number := b_way_number,
      F_lot_told := ⟨⟨oc_lot_told, od_lot_told, kV_lot_told, dc_lot_told, pm_lot_told, an_lot_told, ct_lot_told, sl_lot_told, rfl, l_lot_told, c_lot_told⟩, k_lot_told⟩,
      b_lot_told := b_lot_told,
      F_has_fraction := F_has_fraction,
      b_has_fraction := b_has_fraction,
      F_live_views := F_live_views,
      b_live_views := b_live_views,
      F_lot_size := F_lot_size,
      b_lot_size := b_lot_size,
      F__law_source := F__law_source,
      b__law_source := b__law_source,
      F__law_pick := F__law_pick,
      b__law_pick := b__law_pick,
      F__law_of := F__law_of,
      b__law_of := b__law_of,
      F__law_modulo := F__law_modulo,
      b__law_modulo := b__law_modulo,
      F__law_key := F__law_key,
      b__law_key := b__law_key,
      F__law_named := F__law_named,
      b__law_named := b__law_named,
      F__law_lot := F__law_lot,
      b__law_lot := b__law_lot,
      F__law_modes := F__law_modes,
      b__law_modes := b__law_modes,
      F__law_rows := F__law_rows,
      b__law_rows := b__law_rows,
      F__law_runs := F__law_runs,
      b__law_runs := b__law_runs,
      F__law_far := F__law_far,
      b__law_far := b__law_far,
      F__law_few := F__law_few,
      b__law_few := b__law_few,
      F_law := F_law,
      b_law := b_law,
      m_DOWN := PySem.W.mg_of X G0 v_DOWN,
      m_GREAT_COUNT := PySem.W.mg_of X G0 v_GREAT_COUNT,
      m_LEFT := PySem.W.mg_of X G0 v_LEFT,
      m_LONG_NUMBER := PySem.W.mg_of X G0 v_LONG_NUMBER,
      m_LONG_WAY := PySem.W.mg_of X G0 v_LONG_WAY,
      m_MANY_RAW := PySem.W.mg_of X G0 v_MANY_RAW,
      m_MANY_VIEWS := PySem.W.mg_of X G0 v_MANY_VIEWS,
      m_MOST_FIGURES_circlenumbers := PySem.W.mg_of X G0 v_MOST_FIGURES_circlenumbers,
      m_MOST_FIGURES_counts := PySem.W.mg_of X G0 v_MOST_FIGURES_counts,
      m_MOST_RAW := PySem.W.mg_of X G0 v_MOST_RAW,
      m_MOST_RUNS := PySem.W.mg_of X G0 v_MOST_RUNS,
      m_MOST_STEPS := PySem.W.mg_of X G0 v_MOST_STEPS,
      m_MOST_VIEWS := PySem.W.mg_of X G0 v_MOST_VIEWS,
      m_RIGHT := PySem.W.mg_of X G0 v_RIGHT,
      m_SIDES := PySem.W.mg_of X G0 v_SIDES,
      m_SURE_BITS := PySem.W.mg_of X G0 v_SURE_BITS,
      m_TOP_WAY := PySem.W.mg_of X G0 v_TOP_WAY,
      m_TURNED := PySem.W.mg_of X G0 v_TURNED,
      m_UP_lots := PySem.W.mg_of X G0 v_UP_lots,
      m_UP_ways := PySem.W.mg_of X G0 v_UP_ways,
      m_ZERO_WAY := PySem.W.mg_of X G0 v_ZERO_WAY,
      m__law_far := PySem.W.mg_of X G0 a__law_far,
      m__law_few := PySem.W.mg_of X G0 a__law_few,
      m__law_key := PySem.W.mg_of X G0 a__law_key,
      m__law_lot := PySem.W.mg_of X G0 a__law_lot,
      m__law_modes := PySem.W.mg_of X G0 a__law_modes,
      m__law_modulo := PySem.W.mg_of X G0 a__law_modulo,
      m__law_named := PySem.W.mg_of X G0 a__law_named,
      m__law_of := PySem.W.mg_of X G0 a__law_of,
      m__law_pick := PySem.W.mg_of X G0 a__law_pick,
      m__law_rows := PySem.W.mg_of X G0 a__law_rows,
      m__law_runs := PySem.W.mg_of X G0 a__law_runs,
      m__law_source := PySem.W.mg_of X G0 a__law_source,
      m_abs := PySem.W.mg_none_of X G0 z_abs,
      m_any := PySem.W.mg_none_of X G0 z_any,
      m_classes_of := PySem.W.mg_of X G0 a_classes_of,
      m_count_told := PySem.W.mg_of X G0 a_count_told,
      m_counts_row := PySem.W.mg_of X G0 a_counts_row,
      m_dict := PySem.W.mg_none_of X G0 z_dict,
      m_edge_behind := PySem.W.mg_of X G0 a_edge_behind,
      m_enumerate := PySem.W.mg_none_of X G0 z_enumerate,
      m_first_edge := PySem.W.mg_of X G0 a_first_edge,
      m_fraction_runs := PySem.W.mg_of X G0 a_fraction_runs,
      m_fraction_told := PySem.W.mg_of X G0 a_fraction_told,
      m_gcd := PySem.W.mg_of X G0 z_gcd,
      m_has_fraction := PySem.W.mg_of X G0 a_has_fraction,
      m_int := PySem.W.mg_none_of X G0 z_int,
      m_is_below := PySem.W.mg_of X G0 a_is_below,
      m_is_long := PySem.W.mg_of X G0 a_is_long,
      m_isqrt := PySem.W.mg_of X G0 z_isqrt,
      m_least_lot := PySem.W.mg_of X G0 a_least_lot,
      m_len := PySem.W.mg_none_of X G0 z_len,
      m_list := PySem.W.mg_none_of X G0 z_list,
      m_live_views := PySem.W.mg_of X G0 a_live_views,
      m_lot_size := PySem.W.mg_of X G0 a_lot_size,
      m_lot_told := PySem.W.mg_of X G0 a_lot_told,
      m_map_led := PySem.W.mg_of X G0 a_map_led,
      m_max := PySem.W.mg_none_of X G0 z_max,
      m_min := PySem.W.mg_none_of X G0 z_min,
      m_not_long_circlenumbers := PySem.W.mg_of X G0 a_not_long,
      m_not_long_ways := PySem.W.mg_of X G0 a_not_long_2,
      m_number_floor := PySem.W.mg_of X G0 a_number_floor,
      m_range := PySem.W.mg_none_of X G0 z_range,
      m_raw_views := PySem.W.mg_of X G0 a_raw_views,
      m_repr := PySem.W.mg_none_of X G0 z_repr,
      m_sorted := PySem.W.mg_none_of X G0 z_sorted,
      m_str := PySem.W.mg_none_of X G0 z_str,
      m_sum := PySem.W.mg_none_of X G0 z_sum,
      m_tuple := PySem.W.mg_none_of X G0 z_tuple,
      m_view_along := PySem.W.mg_of X G0 a_view_along,
      m_view_behind := PySem.W.mg_of X G0 a_view_behind,
      m_way_number := PySem.W.mg_of X G0 a_way_number,
      m_way_told := PySem.W.mg_of X G0 a_way_told,
      n_lot_told_least_lot := np_lot_told_least_lot,
      sides := ⟨⟨esS, nS, uS1, sd, sk, s1, s1v⟩, ⟨esS, nS, uS2, sd, sk, s2, s2v⟩⟩,
      turned := fun F => .inr ⟨oT, itT, nT, tl, tc, td, tz, tv⟩ }
  refine ⟨_, [(o_lot_told, p_lot_told), (o_least_lot, p_least_lot)], Pm K (TT g) spLaw, (List.forall_mem_cons.mpr ⟨th_lot_told, (List.forall_mem_cons.mpr ⟨th_least_lot, fun _ hp => nomatch hp⟩)⟩), (List.forall_mem_cons.mpr ⟨tn_lot_told, (List.forall_mem_cons.mpr ⟨tn_least_lot, fun _ hp => nomatch hp⟩)⟩), (List.forall_mem_cons.mpr ⟨PySem.W.codeHd_of_K X ch_lot_told, (List.forall_mem_cons.mpr ⟨PySem.W.codeHd_of_K X ch_least_lot, fun _ hp => nomatch hp⟩)⟩), fun s u => ?_, fun H a ns hl _ hT hS => law_prom (tabs_empty ?_) hS hl, fun base KB GB TB => ok_law GL ⟨TB (o_lot_told, p_lot_told) (by simp), TB (o_least_lot, p_least_lot) (by simp)⟩⟩
  · exact .of_eq rfl
  · exact (List.forall_mem_cons.mpr ⟨hT (o_lot_told, p_lot_told) (by simp), (List.forall_mem_cons.mpr ⟨hT (o_least_lot, p_least_lot) (by simp), fun _ hp => nomatch hp⟩)⟩)
end W45
open PySem PySem.W PyProof.Rows
set_option maxRecDepth 100000 in
set_option maxHeartbeats 0 in
theorem PySem.Challenge.cw_waylots_k45_whole_counts_by_all_steps_holds : PySem.Challenge.rw_waylots_k45_whole_counts_by_all_steps.Holds := by
  w_on; o_law; k_head; (case hw => w_witness2)
  k_fill
  refine LamX.walk_ofTs (l := PySem.Challenge.rw_waylots_k45_whole_counts_by_all_steps) (n := 63) (k := 10) (x := "script") (CX := fun _ => L2.CX0) rfl (by decide) rfl ⟨rfl, by decide, by decide⟩ (fun w h Y => km_in_of Y) ?F (fun _ _ _ _ _ z => z)
  case F =>
    intro w mg fa h Y KX G hmg
    refine' W45.law_at KX G hmg (p_lot_told := 296) (p_least_lot := 129) ?v_Raw ?pg_Raw ?hd_Raw ?po_Raw ?sa_Raw ?mk_Raw ?kc_Raw ?n_Raw_known ?n_Raw_line ?a_Raw___init__ ?i_Raw___init__ ?l_Raw___init__ ?c_Raw___init__ ?k_Raw___init__ ?a_Raw_number ?i_Raw_number ?l_Raw_number ?c_Raw_number ?k_Raw_number ?a_raw_views ?l_raw_views ?c_raw_views ?k_raw_views ?a_counts_row ?l_counts_row ?c_counts_row ?k_counts_row ?a_count_told ?l_count_told ?c_count_told ?k_count_told ?a_classes_of ?l_classes_of ?c_classes_of ?k_classes_of ?a_least_lot ?l_least_lot ?c_least_lot ?k_least_lot ?a_view_behind ?l_view_behind ?c_view_behind ?k_view_behind ?a_view_along ?l_view_along ?c_view_along ?k_view_along ?a_is_long ?l_is_long ?c_is_long ?k_is_long ?a_not_long ?l_not_long ?c_not_long ?k_not_long ?a_fraction_told ?l_fraction_told ?c_fraction_told ?k_fraction_told ?a_number_floor ?l_number_floor ?c_number_floor ?k_number_floor ?a_map_led ?l_map_led ?c_map_led ?k_map_led ?a_not_long_2 ?l_not_long_2 ?c_not_long_2 ?k_not_long_2 ?a_fraction_runs ?l_fraction_runs ?c_fraction_runs ?k_fraction_runs ?a_is_below ?l_is_below ?c_is_below ?k_is_below ?a_way_told ?l_way_told ?c_way_told ?k_way_told ?a_edge_behind ?l_edge_behind ?c_edge_behind ?k_edge_behind ?a_first_edge ?l_first_edge ?c_first_edge ?k_first_edge ?a_way_number ?l_way_number ?c_way_number ?k_way_number ?a_lot_told ?l_lot_told ?c_lot_told ?k_lot_told ?a_has_fraction ?l_has_fraction ?c_has_fraction ?k_has_fraction ?a_live_views ?l_live_views ?c_live_views ?k_live_views ?a_lot_size ?l_lot_size ?c_lot_size ?k_lot_size ?a__law_source ?l__law_source ?c__law_source ?k__law_source ?a__law_pick ?l__law_pick ?c__law_pick ?k__law_pick ?a__law_of ?l__law_of ?c__law_of ?k__law_of ?a__law_modulo ?l__law_modulo ?c__law_modulo ?k__law_modulo ?a__law_key ?l__law_key ?c__law_key ?k__law_key ?a__law_named ?l__law_named ?c__law_named ?k__law_named ?a__law_lot ?l__law_lot ?c__law_lot ?k__law_lot ?a__law_modes ?l__law_modes ?c__law_modes ?k__law_modes ?a__law_rows ?l__law_rows ?c__law_rows ?k__law_rows ?a__law_runs ?l__law_runs ?c__law_runs ?k__law_runs ?a__law_far ?l__law_far ?c__law_far ?k__law_far ?a__law_few ?l__law_few ?c__law_few ?k__law_few ?a_law ?l_law ?c_law ?k_law ?v_DOWN ?v_GREAT_COUNT ?v_LEFT ?v_LONG_NUMBER ?v_LONG_WAY ?v_MANY_RAW ?v_MANY_VIEWS ?v_MOST_FIGURES_circlenumbers ?v_MOST_FIGURES_counts ?v_MOST_RAW ?v_MOST_RUNS ?v_MOST_STEPS ?v_MOST_VIEWS ?v_RIGHT ?v_SIDES ?v_SURE_BITS ?v_TOP_WAY ?v_TURNED ?v_UP_lots ?v_UP_ways ?v_ZERO_WAY ?z_abs ?z_any ?z_dict ?z_enumerate ?z_gcd ?z_int ?z_isqrt ?z_len ?z_list ?z_max ?z_min ?z_range ?z_repr ?z_sorted ?z_str ?z_sum ?z_tuple ?ch_lot_told ?tn_lot_told ?th_lot_told ?ch_least_lot ?tn_least_lot ?th_least_lot ?np_lot_told_least_lot ?sd ?sk ?s1 ?s1v ?s2 ?s2v ?tl ?tc ?td ?tz ?tv
    (case v_Raw => k_is)
    (case pg_Raw => k_is)
    (case hd_Raw => k_is)
    (case po_Raw => k_is)
    (case sa_Raw => k_is)
    (case mk_Raw => k_is)
    (case kc_Raw => k_is)
    (case n_Raw_known => k_is)
    (case n_Raw_line => k_is)
    (case a_Raw___init__ => k_is)
    (case i_Raw___init__ => k_is)
    (case l_Raw___init__ => k_is)
    (case c_Raw___init__ => k_is)
    (case k_Raw___init__ => k_is)
    (case a_Raw_number => k_is)
    (case i_Raw_number => k_is)
    (case l_Raw_number => k_is)
    (case c_Raw_number => k_is)
    (case k_Raw_number => k_is)
    (case a_raw_views => k_is)
    (case l_raw_views => k_is)
    (case c_raw_views => k_is)
    (case k_raw_views => k_is)
    (case a_counts_row => k_is)
    (case l_counts_row => k_is)
    (case c_counts_row => k_is)
    (case k_counts_row => k_is)
    (case a_count_told => k_is)
    (case l_count_told => k_is)
    (case c_count_told => k_is)
    (case k_count_told => k_is)
    (case a_classes_of => k_is)
    (case l_classes_of => k_is)
    (case c_classes_of => k_is)
    (case k_classes_of => k_is)
    (case a_least_lot => k_is)
    (case l_least_lot => k_is)
    (case c_least_lot => k_is)
    (case k_least_lot => k_is)
    (case a_view_behind => k_is)
    (case l_view_behind => k_is)
    (case c_view_behind => k_is)
    (case k_view_behind => k_is)
    (case a_view_along => k_is)
    (case l_view_along => k_is)
    (case c_view_along => k_is)
    (case k_view_along => k_is)
    (case a_is_long => k_is)
    (case l_is_long => k_is)
    (case c_is_long => k_is)
    (case k_is_long => k_is)
    (case a_not_long => k_is)
    (case l_not_long => k_is)
    (case c_not_long => k_is)
    (case k_not_long => k_is)
    (case a_fraction_told => k_is)
    (case l_fraction_told => k_is)
    (case c_fraction_told => k_is)
    (case k_fraction_told => k_is)
    (case a_number_floor => k_is)
    (case l_number_floor => k_is)
    (case c_number_floor => k_is)
    (case k_number_floor => k_is)
    (case a_map_led => k_is)
    (case l_map_led => k_is)
    (case c_map_led => k_is)
    (case k_map_led => k_is)
    (case a_not_long_2 => k_is)
    (case l_not_long_2 => k_is)
    (case c_not_long_2 => k_is)
    (case k_not_long_2 => k_is)
    (case a_fraction_runs => k_is)
    (case l_fraction_runs => k_is)
    (case c_fraction_runs => k_is)
    (case k_fraction_runs => k_is)
    (case a_is_below => k_is)
    (case l_is_below => k_is)
    (case c_is_below => k_is)
    (case k_is_below => k_is)
    (case a_way_told => k_is)
    (case l_way_told => k_is)
    (case c_way_told => k_is)
    (case k_way_told => k_is)
    (case a_edge_behind => k_is)
    (case l_edge_behind => k_is)
    (case c_edge_behind => k_is)
    (case k_edge_behind => k_is)
    (case a_first_edge => k_is)
    (case l_first_edge => k_is)
    (case c_first_edge => k_is)
    (case k_first_edge => k_is)
    (case a_way_number => k_is)
    (case l_way_number => k_is)
    (case c_way_number => k_is)
    (case k_way_number => k_is)
    (case a_lot_told => k_is)
    (case l_lot_told => k_is)
    (case c_lot_told => k_is)
    (case k_lot_told => k_is)
    (case a_has_fraction => k_is)
    (case l_has_fraction => k_is)
    (case c_has_fraction => k_is)
    (case k_has_fraction => k_is)
    (case a_live_views => k_is)
    (case l_live_views => k_is)
    (case c_live_views => k_is)
    (case k_live_views => k_is)
    (case a_lot_size => k_is)
    (case l_lot_size => k_is)
    (case c_lot_size => k_is)
    (case k_lot_size => k_is)
    (case a__law_source => k_is)
    (case l__law_source => k_is)
    (case c__law_source => k_is)
    (case k__law_source => k_is)
    (case a__law_pick => k_is)
    (case l__law_pick => k_is)
    (case c__law_pick => k_is)
    (case k__law_pick => k_is)
    (case a__law_of => k_is)
    (case l__law_of => k_is)
    (case c__law_of => k_is)
    (case k__law_of => k_is)
    (case a__law_modulo => k_is)
    (case l__law_modulo => k_is)
    (case c__law_modulo => k_is)
    (case k__law_modulo => k_is)
    (case a__law_key => k_is)
    (case l__law_key => k_is)
    (case c__law_key => k_is)
    (case k__law_key => k_is)
    (case a__law_named => k_is)
    (case l__law_named => k_is)
    (case c__law_named => k_is)
    (case k__law_named => k_is)
    (case a__law_lot => k_is)
    (case l__law_lot => k_is)
    (case c__law_lot => k_is)
    (case k__law_lot => k_is)
    (case a__law_modes => k_is)
    (case l__law_modes => k_is)
    (case c__law_modes => k_is)
    (case k__law_modes => k_is)
    (case a__law_rows => k_is)
    (case l__law_rows => k_is)
    (case c__law_rows => k_is)
    (case k__law_rows => k_is)
    (case a__law_runs => k_is)
    (case l__law_runs => k_is)
    (case c__law_runs => k_is)
    (case k__law_runs => k_is)
    (case a__law_far => k_is)
    (case l__law_far => k_is)
    (case c__law_far => k_is)
    (case k__law_far => k_is)
    (case a__law_few => k_is)
    (case l__law_few => k_is)
    (case c__law_few => k_is)
    (case k__law_few => k_is)
    (case a_law => k_is)
    (case l_law => k_is)
    (case c_law => k_is)
    (case k_law => k_is)
    (case v_DOWN => k_is)
    (case v_GREAT_COUNT => k_is)
    (case v_LEFT => k_is)
    (case v_LONG_NUMBER => k_is)
    (case v_LONG_WAY => k_is)
    (case v_MANY_RAW => k_is)
    (case v_MANY_VIEWS => k_is)
    (case v_MOST_FIGURES_circlenumbers => k_is)
    (case v_MOST_FIGURES_counts => k_is)
    (case v_MOST_RAW => k_is)
    (case v_MOST_RUNS => k_is)
    (case v_MOST_STEPS => k_is)
    (case v_MOST_VIEWS => k_is)
    (case v_RIGHT => k_is)
    (case v_SIDES => k_is)
    (case v_SURE_BITS => k_is)
    (case v_TOP_WAY => k_is)
    (case v_TURNED => k_is)
    (case v_UP_lots => k_is)
    (case v_UP_ways => k_is)
    (case v_ZERO_WAY => k_is)
    (case z_abs => k_is)
    (case z_any => k_is)
    (case z_dict => k_is)
    (case z_enumerate => k_is)
    (case z_gcd => k_is)
    (case z_int => k_is)
    (case z_isqrt => k_is)
    (case z_len => k_is)
    (case z_list => k_is)
    (case z_max => k_is)
    (case z_min => k_is)
    (case z_range => k_is)
    (case z_repr => k_is)
    (case z_sorted => k_is)
    (case z_str => k_is)
    (case z_sum => k_is)
    (case z_tuple => k_is)
    (case ch_lot_told => kernel_rfl)
    (case tn_lot_told => kernel_rfl)
    (case th_lot_told => exact km_tabs_of Y _ (by simp))
    (case ch_least_lot => kernel_rfl)
    (case tn_least_lot => kernel_rfl)
    (case th_least_lot => exact km_tabs_of Y _ (by simp))
    (case np_lot_told_least_lot => decide)
    (case sd => k_is)
    (case sk => exact ⟨⟨_, _, rfl, rfl⟩, ⟨_, _, rfl, rfl⟩, trivial⟩)
    (case s1 => k_is)
    (case s1v => exact ⟨_, rfl⟩)
    (case s2 => k_is)
    (case s2v => exact ⟨_, rfl⟩)
    (case tl => k_is)
    (case tc => exact rfl)
    (case td => exact rfl)
    (case tz => decide)
    (case tv => exact .cons ⟨_, rfl⟩ (.cons ⟨_, rfl⟩ (.cons ⟨_, rfl⟩ (.cons ⟨_, rfl⟩ .nil))))
