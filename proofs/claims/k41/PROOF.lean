import PyProof.Rows.All
import Wide.All
import OpenK.AllK
import Wide.FinOn
import HandS.ForMost
import HandS.ForExc
import KE.KDictKeyed
import HandS.Deep
import HandS.Style
import HandS.IsInst
import HandS.Wide
import KE.KStateDown
import HandS.More
import HandS.Defaults
import HandS.Head0
import HandS.Head1
import HandS.Head2
import HandS.HeadEnd
import HandS.HeadHook1
import HandS.HeadHook2
import HandS.SortInts
import HandS.TupLe
import HandS.Zip
import HandS.Strs
import HandS.SetFor
import HandS.TupSets
import HandS.Text
import HandS.Dict
import HandS.NoneIn
import HandS.TupAny
import KE.KDictCopyH
import KE.KDictDisplayH
import PyProof.Rows.TupTab
import KE.SortData
import KE.KDictSum
import KE.DataMinMax
import HandS.Iter
import KE.GoesMore
import HandS.Conv
import HandS.ExcIs
import HandS.HotCalls
import HandS.TupMul
import KE.GoesComp
import KE.GoesDict
import PySem.Challenge.RW_driftsums_k41_whole_stuck
set_option Elab.async false
set_option linter.all false
set_option maxRecDepth 100000
set_option maxHeartbeats 0
/-! DL0: data by value over the hand layer: what a value is worth (Rep), slots, cells, the state, what holds behind a step. -/
namespace DL
open PySem PySem.Spec PyProof.Rows L2

abbrev D := PyData
abbrev St := L2.St
structure Ct where
  w : World
  K : PySem.W.Frag
  mg : Str → Option Value
abbrev ctOf (X : Cx) : Ct := ⟨X.w, X.K, X.mg⟩

def dictHO (a : Addr) (o : Obj) : HO := .ext fun h => h.get? a = some o

mutual
def toNK : D → Option NestedKey
  | .none => some .none
  | .bool b => some (.num (if b then 1 else 0))
  | .int i => some (.num i)
  | .str x => some (.text x)
  | .tuple ds => (toNKs ds).map .tup
  | _ => none
def toNKs : List D → Option (List NestedKey)
  | [] => some []
  | d :: ds => (toNK d).bind fun k => (toNKs ds).map fun ks => k :: ks
end

mutual
inductive Rep (C : Ct) (Z : Hp) : V → D → Prop
  | non : Rep C Z .non .none
  | bl (b : Bool) : Rep C Z (.bl b) (.bool b)
  | int (i : Int) : Rep C Z (.int i) (.int i)
  | str (x : Str) : Rep C Z (.str x) (.str x)
  | lst {a : Addr} {xs : List V} {ds : List D} : SqL C.K Z a xs → Reps C Z xs ds → Rep C Z (.ref a) (.list ds)
  | tup {a : Addr} {xs : List V} {ds : List D} : SqT C.K Z a xs → Reps C Z xs ds → Rep C Z (.ref a) (.tuple ds)
  | dic {a : Addr} {o : Obj} {es : Array DictEntry} {ep : Nat} {kvs : List (D × D)} : Z a = some (dictHO a o) → (a == sysModules) = false → o.ExactDict → o.data = .dict es ep → Ents C Z es.toList kvs → (kvs.map fun p => toNK p.1).Nodup → Rep C Z (.ref a) (.dict kvs)
inductive Reps (C : Ct) (Z : Hp) : List V → List D → Prop
  | nil : Reps C Z [] []
  | cons {v : V} {vs : List V} {d : D} {ds : List D} : Rep C Z v d → Reps C Z vs ds → Reps C Z (v :: vs) (d :: ds)
inductive Ents (C : Ct) (Z : Hp) : List DictEntry → List (D × D) → Prop
  | nil : Ents C Z [] []
  | cons {e : DictEntry} {es : List DictEntry} {kv vv : V} {k d : D} {nk : NestedKey} {kvs : List (D × D)} : RelV kv e.key → Rep C Z kv k → toNK k = some nk → nk.depth ≤ 8 → e.hash = nk.hash C.w → RelV vv e.val → Rep C Z vv d → Ents C Z es kvs → Ents C Z (e :: es) ((k, d) :: kvs)
end

theorem sqT_mono {K : PySem.W.Frag} {H H' : Hp} {a : Addr} {xs : List V} (e : Same H H') (h : SqT K H a xs) : SqT K H' a xs := by
  rcases h with (h | ⟨o, h⟩) | h
  · exact .inl (.inl (e _ _ h))
  · exact .inl (.inr ⟨o, e _ _ h⟩)
  · exact .inr h
mutual
theorem Rep.mono {C : Ct} {Z Z' : Hp} (e : Same Z Z') : ∀ {v : V} {d : D}, Rep C Z v d → Rep C Z' v d
  | _, _, .non => .non
  | _, _, .bl b => .bl b
  | _, _, .int i => .int i
  | _, _, .str x => .str x
  | _, _, .lst h r => .lst (e.seq h) (r.mono e)
  | _, _, .tup h r => .tup (sqT_mono e h) (r.mono e)
  | _, _, .dic h1 h2 h3 h4 h5 h6 => .dic (e _ _ h1) h2 h3 h4 (h5.mono e) h6
theorem Reps.mono {C : Ct} {Z Z' : Hp} (e : Same Z Z') : ∀ {vs : List V} {ds : List D}, Reps C Z vs ds → Reps C Z' vs ds
  | _, _, .nil => .nil
  | _, _, .cons r t => .cons (r.mono e) (t.mono e)
theorem Ents.mono {C : Ct} {Z Z' : Hp} (e : Same Z Z') : ∀ {es : List DictEntry} {kvs : List (D × D)}, Ents C Z es kvs → Ents C Z' es kvs
  | _, _, .nil => .nil
  | _, _, .cons a b c d f g h t => .cons a (b.mono e) c d f g (h.mono e) (t.mono e)
end
theorem Reps.length {C : Ct} {Z : Hp} : ∀ {vs : List V} {ds : List D}, Reps C Z vs ds → vs.length = ds.length
  | _, _, .nil => rfl
  | _, _, .cons _ t => congrArg (· + 1) t.length
theorem Reps.get {C : Ct} {Z : Hp} : ∀ {vs : List V} {ds : List D} {i : Nat} {d : D}, Reps C Z vs ds → ds[i]? = some d → ∃ v, vs[i]? = some v ∧ Rep C Z v d
  | _, _, _, _, .nil, e => by simp at e
  | _, _, 0, _, .cons r _, e => by simp at e; subst e; exact ⟨_, rfl, r⟩
  | _, _, i + 1, d, .cons _ t, e => by
    obtain ⟨v, h1, h2⟩ := t.get (i := i) (d := d) (by simpa using e)
    exact ⟨v, by simpa using h1, h2⟩
theorem Reps.getV {C : Ct} {Z : Hp} : ∀ {vs : List V} {ds : List D} {i : Nat} {v : V}, Reps C Z vs ds → vs[i]? = some v → ∃ d, ds[i]? = some d ∧ Rep C Z v d
  | _, _, _, _, .nil, e => by simp at e
  | _, _, 0, _, .cons r _, e => by simp at e; subst e; exact ⟨_, rfl, r⟩
  | _, _, i + 1, v, .cons _ t, e => by
    obtain ⟨d, h1, h2⟩ := t.getV (i := i) (v := v) (by simpa using e)
    exact ⟨d, by simpa using h1, h2⟩
theorem Reps.append {C : Ct} {Z : Hp} : ∀ {vs ws : List V} {ds es : List D}, Reps C Z vs ds → Reps C Z ws es → Reps C Z (vs ++ ws) (ds ++ es)
  | _, _, _, _, .nil, s => s
  | _, _, _, _, .cons r t, s => .cons r (t.append s)
theorem Reps.take {C : Ct} {Z : Hp} : ∀ {vs : List V} {ds : List D} (n : Nat), Reps C Z vs ds → Reps C Z (vs.take n) (ds.take n)
  | _, _, 0, _ => .nil
  | _, _, _ + 1, .nil => .nil
  | _, _, n + 1, .cons r t => .cons r (t.take n)
theorem Reps.drop {C : Ct} {Z : Hp} : ∀ {vs : List V} {ds : List D} (n : Nat), Reps C Z vs ds → Reps C Z (vs.drop n) (ds.drop n)
  | _, _, 0, r => r
  | _, _, _ + 1, .nil => .nil
  | _, _, n + 1, .cons _ t => t.drop n
theorem Reps.set {C : Ct} {Z : Hp} {v : V} {d : D} (r : Rep C Z v d) : ∀ {vs : List V} {ds : List D} (i : Nat), Reps C Z vs ds → Reps C Z (vs.set i v) (ds.set i d)
  | _, _, _, .nil => .nil
  | _, _, 0, .cons _ t => .cons r t
  | _, _, i + 1, .cons q t => .cons q (t.set r i)
theorem Reps.reverse {C : Ct} {Z : Hp} : ∀ {vs : List V} {ds : List D}, Reps C Z vs ds → Reps C Z vs.reverse ds.reverse
  | _, _, .nil => .nil
  | _, _, .cons r t => by rw [List.reverse_cons, List.reverse_cons]; exact t.reverse.append (.cons r .nil)
theorem Reps.one {C : Ct} {Z : Hp} {v : V} {d : D} (r : Rep C Z v d) : Reps C Z [v] [d] := .cons r .nil

/- plain data: no list, no dict -/
mutual
def plain : D → Bool
  | .none => true | .bool _ => true | .int _ => true | .str _ => true
  | .tuple ds => plains ds
  | .list _ => false | .dict _ => false
def plains : List D → Bool
  | [] => true
  | d :: ds => plain d && plains ds
end

/-! ### slots, cells, states -/
inductive Sl where
  | un
  | v (d : D)
  | ol (ds : List D)
  | od (kvs : List (D × D))
  | cell (g : Nat)
def Sl.own : Sl → Bool
  | .ol _ => true
  | .od _ => true
  | _ => false
inductive Cell where
  | lst (ds : List D)
  | dic (kvs : List (D × D))
  | ins (C : Str) (fs : List (Str × Sl))
structure S where
  env : List Sl
  st : List Cell

structure DicR (C : Ct) (Z H : Hp) (p : Addr) (kvs : List (D × D)) : Prop where
  ns : (p == sysModules) = false
  o : ∃ (o : Obj) (es : Array DictEntry) (ep : Nat), H p = some (dictHO p o) ∧ o.ExactDict ∧ o.data = .dict es ep ∧ Ents C Z es.toList kvs
  nd : (kvs.map fun p => toNK p.1).Nodup
def SlR (C : Ct) (Z H : Hp) (as : List Addr) : Option V → Sl → Prop
  | _, .un => True
  | some x, .v d => Rep C Z x d
  | some (.ref p), .ol ds => Z p = none ∧ ∃ xs, H p = some (.lst xs) ∧ Reps C Z xs ds
  | some (.ref p), .od kvs => Z p = none ∧ DicR C Z H p kvs
  | some (.ref p), .cell g => as[g]? = some p
  | _, _ => False
def CellR (C : Ct) (Z H : Hp) (as : List Addr) (a : Addr) : Cell → Prop
  | .lst ds => ∃ xs, H a = some (.lst xs) ∧ Reps C Z xs ds
  | .dic kvs => DicR C Z H a kvs
  | .ins c fs => ∃ (Ca dx : Addr) (vs : List (Str × V)), C.mg c = some (.ref Ca) ∧ H a = some (.ins Ca dx vs) ∧ Paired (fun (x : Str × V) (y : Str × Sl) => x.1 = y.1 ∧ y.2.own = false ∧ SlR C Z H as (some x.2) y.2) vs fs

structure SR (C : Ct) (B Z : Hp) (σ : St) (H : Hp) (as : List Addr) (s : S) : Prop where
  zh : Same Z H
  bh : Same B H
  env : Paired (SlR C Z H as) σ s.env
  st : Paired (CellR C Z H as) as s.st
  asn : as.Nodup
  asb : ∀ a ∈ as, B a = none ∧ Z a = none
  own : ∀ (i : Nat) (p : Addr) (sl : Sl), σ[i]? = some (some (.ref p)) → s.env[i]? = some sl → sl.own = true → B p = none ∧ p ∉ as
  dis : ∀ (i j : Nat) (p : Addr) (a b : Sl), i ≠ j → σ[i]? = some (some (.ref p)) → σ[j]? = some (some (.ref p)) → s.env[i]? = some a → s.env[j]? = some b → a.own = true → b.own = false

structure Ext (B Z Z' : Hp) : Prop where
  same : Same Z Z'
  new : ∀ a o, Z' a = some o → Z a = some o ∨ B a = none
theorem Ext.refl {B Z : Hp} : Ext B Z Z := ⟨Same.refl _, fun _ _ h => .inl h⟩
theorem Ext.trans {B Z1 Z2 Z3 : Hp} (a : Ext B Z1 Z2) (b : Ext B Z2 Z3) : Ext B Z1 Z3 :=
  ⟨a.same.trans b.same, fun c o h => (b.new c o h).elim (fun h => a.new c o h) .inr⟩

theorem paired_get {α β : Type} {F : α → β → Prop} : ∀ {l : List α} {m : List β} {i : Nat} {b : β}, Paired F l m → m[i]? = some b → ∃ a, l[i]? = some a ∧ F a b
  | _, _, _, _, .nil, e => by simp at e
  | _, _, 0, _, .cons r _, e => by simp at e; subst e; exact ⟨_, rfl, r⟩
  | _, _, i + 1, b, .cons _ t, e => by
    obtain ⟨a, h1, h2⟩ := paired_get (i := i) (b := b) t (by simpa using e)
    exact ⟨a, by simpa using h1, h2⟩
theorem paired_getL {α β : Type} {F : α → β → Prop} : ∀ {l : List α} {m : List β} {i : Nat} {a : α}, Paired F l m → l[i]? = some a → ∃ b, m[i]? = some b ∧ F a b
  | _, _, _, _, .nil, e => by simp at e
  | _, _, 0, _, .cons r _, e => by simp at e; subst e; exact ⟨_, rfl, r⟩
  | _, _, i + 1, a, .cons _ t, e => by
    obtain ⟨b, h1, h2⟩ := paired_getL (i := i) (a := a) t (by simpa using e)
    exact ⟨b, by simpa using h1, h2⟩
theorem paired_set {α β : Type} {F : α → β → Prop} {a : α} {b : β} (r : F a b) : ∀ {l : List α} {m : List β} (i : Nat), Paired F l m → Paired F (l.set i a) (m.set i b)
  | _, _, _, .nil => .nil
  | _, _, 0, .cons _ t => .cons r t
  | _, _, i + 1, .cons q t => .cons q (paired_set r i t)
theorem paired_imp {α β : Type} {F G : α → β → Prop} : ∀ {l : List α} {m : List β}, Paired F l m → (∀ (i : Nat) (a : α) (b : β), l[i]? = some a → m[i]? = some b → F a b → G a b) → Paired G l m
  | _, _, .nil, _ => .nil
  | _, _, .cons r t, h => .cons (h 0 _ _ rfl rfl r) (paired_imp t fun i a b e1 e2 f => h (i + 1) a b (by simpa using e1) (by simpa using e2) f)

section
variable {C : Ct} {B Z Z' H H' : Hp} {σ : St} {as as' : List Addr} {s : S}

/-- a slot's content stays: what is frozen grows, what is owned stands -/
theorem SlR.keep {o : Option V} {sl : Sl} (h : SlR C Z H as o sl) (hz : Same Z Z') (ha : as <+: as') (hp : ∀ p, o = some (.ref p) → sl.own = true → Z' p = none ∧ H' p = H p) : SlR C Z' H' as' o sl := by
  cases sl with
  | un => cases o <;> trivial
  | v d =>
    cases o with
    | none => exact h
    | some x => exact Rep.mono hz h
  | ol ds =>
    cases o with
    | none => exact h
    | some x =>
      cases x with
      | ref p =>
        obtain ⟨h1, xs, h2, h3⟩ := h
        obtain ⟨q1, q2⟩ := hp p rfl rfl
        exact ⟨q1, xs, q2.trans h2, h3.mono hz⟩
      | _ => exact h
  | od kvs =>
    cases o with
    | none => exact h
    | some x =>
      cases x with
      | ref p =>
        obtain ⟨h1, n1, ⟨o, es, ep, h2, h3, h4, h5⟩, n2⟩ := h
        obtain ⟨q1, q2⟩ := hp p rfl rfl
        exact ⟨q1, n1, ⟨o, es, ep, q2.trans h2, h3, h4, h5.mono hz⟩, n2⟩
      | _ => exact h
  | cell g =>
    cases o with
    | none => exact h
    | some x =>
      cases x with
      | ref p =>
        obtain ⟨t, rfl⟩ := ha
        have h' : as[g]? = some p := h
        show (as ++ t)[g]? = some p
        rw [List.getElem?_append_left (List.getElem?_eq_some_iff.mp h').1]
        exact h'
      | _ => exact h
theorem CellR.keep {a : Addr} {c : Cell} (h : CellR C Z H as a c) (hz : Same Z Z') (ha : as <+: as') (hp : H' a = H a) : CellR C Z' H' as' a c := by
  cases c with
  | lst ds => obtain ⟨xs, h2, h3⟩ := h; exact ⟨xs, hp.trans h2, h3.mono hz⟩
  | dic kvs => obtain ⟨n1, ⟨o, es, ep, h2, h3, h4, h5⟩, n2⟩ := h; exact ⟨n1, ⟨o, es, ep, hp.trans h2, h3, h4, h5.mono hz⟩, n2⟩
  | ins c fs =>
    obtain ⟨Ca, dx, vs, h1, h2, h3⟩ := h
    refine ⟨Ca, dx, vs, h1, hp.trans h2, paired_imp h3 fun i x y _ _ ⟨q1, q2, q3⟩ => ⟨q1, q2, q3.keep hz ha fun p _ hw => ?_⟩⟩
    rw [q2] at hw; cases hw

/-- the heap changes away from what is owned; what is frozen grows -/
theorem SR.grow (I : SR C B Z σ H as s) (hz : Same Z Z') (zh : Same Z' H') (bh : Same B H')
    (ho : ∀ (i : Nat) (p : Addr) (sl : Sl), σ[i]? = some (some (.ref p)) → s.env[i]? = some sl → sl.own = true → Z' p = none ∧ H' p = H p)
    (hc : ∀ a ∈ as, Z' a = none ∧ H' a = H a) : SR C B Z' σ H' as s :=
  ⟨zh, bh, paired_imp I.env fun i o sl e1 e2 h => h.keep hz (List.prefix_refl _) fun p e hw => ho i p sl (by rw [e1, e]) e2 hw,
    paired_imp I.st fun i a c e1 e2 h => h.keep hz (List.prefix_refl _) (hc a (List.mem_of_getElem? e1)).2,
    I.asn, fun a ha => ⟨(I.asb a ha).1, (hc a ha).1⟩, I.own, I.dis⟩
theorem SR.ownH (I : SR C B Z σ H as s) {i : Nat} {p : Addr} {sl : Sl} (e1 : σ[i]? = some (some (.ref p))) (e2 : s.env[i]? = some sl) (hw : sl.own = true) : Z p = none ∧ ∃ o, H p = some o := by
  obtain ⟨a, h1, h2⟩ := paired_get I.env e2
  rw [e1] at h1; cases h1
  cases sl with
  | ol ds => obtain ⟨q, xs, h, _⟩ := h2; exact ⟨q, _, h⟩
  | od kvs => obtain ⟨q, _, ⟨o, _, _, h, _⟩, _⟩ := h2; exact ⟨q, _, h⟩
  | _ => cases hw
theorem SR.cellH (I : SR C B Z σ H as s) {a : Addr} (ha : a ∈ as) : ∃ o, H a = some o := by
  obtain ⟨i, hi, e⟩ := List.mem_iff_getElem.mp ha
  obtain ⟨c, _, h⟩ := paired_getL I.st (show as[i]? = some a by rw [← e]; exact List.getElem?_eq_getElem hi)
  cases c with
  | lst ds => obtain ⟨xs, h, _⟩ := h; exact ⟨_, h⟩
  | dic kvs => obtain ⟨_, ⟨o, _, _, h, _⟩, _⟩ := h; exact ⟨_, h⟩
  | ins c fs => obtain ⟨_, _, _, _, h, _⟩ := h; exact ⟨_, h⟩
/-- a new object that is frozen at once -/
theorem SR.alloc (I : SR C B Z σ H as s) {p : Addr} {o : HO} (np : H p = none) : SR C B (upd Z p o) σ (upd H p o) as s ∧ Ext B Z (upd Z p o) ∧ (upd Z p o) p = some o := by
  have nz : Z p = none := I.zh.free np
  have nb : B p = none := I.bh.free np
  have se : Same Z (upd Z p o) := fun b x e => by rw [upd_ne (ne_of_none e nz)]; exact e
  refine ⟨I.grow se (fun b x e => ?_) (fun b x e => ?_) (fun i q sl e1 e2 hw => ?_) (fun a ha => ?_), ⟨se, fun b x e => ?_⟩, upd_same⟩
  · by_cases h : b = p
    · subst h; rw [upd_same] at e ⊢; exact e
    · rw [upd_ne h] at e ⊢; exact I.zh b x e
  · rw [upd_ne (ne_of_none e nb)]; exact I.bh b x e
  · obtain ⟨q1, o', q2⟩ := I.ownH e1 e2 hw
    have h : q ≠ p := ne_of_none q2 np
    exact ⟨by rw [upd_ne h]; exact q1, upd_ne h⟩
  · obtain ⟨o', q2⟩ := I.cellH ha
    have h : a ≠ p := ne_of_none q2 np
    exact ⟨by rw [upd_ne h]; exact (I.asb a ha).2, upd_ne h⟩
  · by_cases h : b = p
    · subst h; exact .inr nb
    · rw [upd_ne h] at e; exact .inl e
/-- a new object that nobody knows yet -/
theorem SR.fresh (I : SR C B Z σ H as s) {p : Addr} {o : HO} (np : H p = none) : SR C B Z σ (upd H p o) as s := by
  have nz : Z p = none := I.zh.free np
  have nb : B p = none := I.bh.free np
  refine I.grow (Same.refl _) (fun b x e => ?_) (fun b x e => ?_) (fun i q sl e1 e2 hw => ?_) (fun a ha => ?_)
  · rw [upd_ne (ne_of_none e nz)]; exact I.zh b x e
  · rw [upd_ne (ne_of_none e nb)]; exact I.bh b x e
  · obtain ⟨q1, o', q2⟩ := I.ownH e1 e2 hw
    exact ⟨q1, upd_ne (ne_of_none q2 np)⟩
  · obtain ⟨o', q2⟩ := I.cellH ha
    exact ⟨(I.asb a ha).2, upd_ne (ne_of_none q2 np)⟩
/-- who owns nothing of p -/
def Free (σ : St) (as : List Addr) (s : S) (p : Addr) : Prop := p ∉ as ∧ ∀ (i : Nat) (sl : Sl), σ[i]? = some (some (.ref p)) → s.env[i]? = some sl → sl.own = false
theorem SR.free_new (I : SR C B Z σ H as s) {p : Addr} (np : H p = none) : Free σ as s p := by
  refine ⟨fun ha => ?_, fun i sl e1 e2 => ?_⟩
  · obtain ⟨o, h⟩ := I.cellH ha
    rw [np] at h; cases h
  · cases hw : sl.own with
    | false => rfl
    | true => obtain ⟨_, o, h⟩ := I.ownH e1 e2 hw; rw [np] at h; cases h
/-- what stands at p unowned is frozen from now on -/
theorem SR.freeze (I : SR C B Z σ H as s) {p : Addr} {o : HO} (hp : H p = some o) (nz : Z p = none) (nb : B p = none) (hf : Free σ as s p) : SR C B (upd Z p o) σ H as s ∧ Ext B Z (upd Z p o) := by
  have se : Same Z (upd Z p o) := fun b x e => by rw [upd_ne (ne_of_none e nz)]; exact e
  refine ⟨I.grow se (fun b x e => ?_) I.bh (fun i q sl e1 e2 hw => ?_) (fun a ha => ?_), ⟨se, fun b x e => ?_⟩⟩
  · by_cases h : b = p
    · subst h; rw [upd_same] at e; cases e; exact hp
    · rw [upd_ne h] at e; exact I.zh b x e
  · obtain ⟨q1, _⟩ := I.ownH e1 e2 hw
    have h : q ≠ p := fun e => by subst e; rw [hf.2 i sl e1 e2] at hw; cases hw
    exact ⟨by rw [upd_ne h]; exact q1, rfl⟩
  · have h : a ≠ p := fun e => by subst e; exact hf.1 ha
    exact ⟨by rw [upd_ne h]; exact (I.asb a ha).2, rfl⟩
  · by_cases h : b = p
    · subst h; exact .inr nb
    · rw [upd_ne h] at e; exact .inl e

theorem paired_setR {α β : Type} {F : α → β → Prop} {b : β} : ∀ {l : List α} {m : List β} (i : Nat), Paired F l m → (∀ a, l[i]? = some a → F a b) → Paired F l (m.set i b)
  | _, _, _, .nil, _ => .nil
  | _, _, 0, .cons _ t, h => .cons (h _ rfl) t
  | _, _, i + 1, .cons q t, h => .cons q (paired_setR i t fun a e => h a (by simpa using e))
theorem paired_length {α β : Type} {F : α → β → Prop} : ∀ {l : List α} {m : List β}, Paired F l m → l.length = m.length
  | _, _, .nil => rfl
  | _, _, .cons _ t => congrArg (· + 1) (paired_length t)
/-- a slot's word is put in another, unowned way -/
theorem SR.slot (I : SR C B Z σ H as s) (i : Nat) (sl : Sl) (h : ∀ o, σ[i]? = some o → SlR C Z H as o sl) (hw : sl.own = false) : SR C B Z σ H as { s with env := s.env.set i sl } := by
  refine ⟨I.zh, I.bh, paired_setR i I.env h, I.st, I.asn, I.asb, fun j p sl' e1 e2 hw' => ?_, fun j k p a b hjk e1 e2 e3 e4 ha => ?_⟩
  · by_cases hj : i = j
    · subst hj
      obtain ⟨h1, h2⟩ := List.getElem?_eq_some_iff.mp e2
      rw [List.getElem_set_self] at h2
      subst h2; rw [hw] at hw'; cases hw'
    · rw [List.getElem?_set_ne hj] at e2; exact I.own j p sl' e1 e2 hw'
  · by_cases hj : i = j
    · subst hj
      obtain ⟨h1, h2⟩ := List.getElem?_eq_some_iff.mp e3
      rw [List.getElem_set_self] at h2
      subst h2; rw [hw] at ha; cases ha
    · rw [List.getElem?_set_ne hj] at e3
      by_cases hk : i = k
      · subst hk
        obtain ⟨h1, h2⟩ := List.getElem?_eq_some_iff.mp e4
        rw [List.getElem_set_self] at h2
        subst h2; exact hw
      · rw [List.getElem?_set_ne hk] at e4; exact I.dis j k p a b hjk e1 e2 e3 e4 ha
/-- an owned slot gives its object up to what is frozen -/
theorem SR.freezeSlot (I : SR C B Z σ H as s) {i : Nat} {p : Addr} {sl : Sl} {o : HO} {d : D} (e1 : σ[i]? = some (some (.ref p))) (e2 : s.env[i]? = some sl) (hw : sl.own = true) (hp : H p = some o) (hd : Rep C (upd Z p o) (.ref p) d) :
    SR C B (upd Z p o) σ H as { s with env := s.env.set i (.v d) } ∧ Ext B Z (upd Z p o) := by
  obtain ⟨nz, _⟩ := I.ownH e1 e2 hw
  obtain ⟨nb, na⟩ := I.own i p sl e1 e2 hw
  have hi : i < s.env.length := (List.getElem?_eq_some_iff.mp e2).1
  have I1 := I.slot i .un (fun o _ => by cases o <;> trivial) rfl
  have hf : Free σ as { s with env := s.env.set i .un } p := by
    refine ⟨na, fun j sl' f1 f2 => ?_⟩
    by_cases hj : i = j
    · subst hj
      dsimp only at f2
      rw [List.getElem?_set_self hi] at f2; cases f2; rfl
    · dsimp only at f2
      rw [List.getElem?_set_ne hj] at f2; exact I.dis i j p sl sl' hj e1 f1 e2 f2 hw
  obtain ⟨I2, E2⟩ := I1.freeze hp nz nb hf
  have I3 := I2.slot i (.v d) (fun o' f => by rw [e1] at f; cases f; exact hd) rfl
  dsimp only at I3
  rw [List.set_set] at I3
  exact ⟨I3, E2⟩
/-- a slot is stored -/
theorem SR.store (I : SR C B Z σ H as s) {i : Nat} {v : V} {sl : Sl} (h : SlR C Z H as (some v) sl) (hw : sl.own = true → ∃ p, v = .ref p ∧ B p = none ∧ Free σ as s p) : SR C B Z (σ.set i (some v)) H as { s with env := s.env.set i sl } := by
  refine ⟨I.zh, I.bh, paired_set h i I.env, I.st, I.asn, I.asb, fun j p sl' e1 e2 hw' => ?_, fun j k p a b hjk e1 e2 e3 e4 ha => ?_⟩
  · by_cases hj : i = j
    · subst hj
      obtain ⟨h1, h2⟩ := List.getElem?_eq_some_iff.mp e1
      obtain ⟨h3, h4⟩ := List.getElem?_eq_some_iff.mp e2
      rw [List.getElem_set_self] at h2 h4
      subst h4; cases h2
      obtain ⟨p', q1, q2, q3⟩ := hw hw'
      cases q1; exact ⟨q2, q3.1⟩
    · rw [List.getElem?_set_ne hj] at e1 e2; exact I.own j p sl' e1 e2 hw'
  · by_cases hj : i = j
    · subst hj
      obtain ⟨h1, h2⟩ := List.getElem?_eq_some_iff.mp e1
      obtain ⟨h3, h4⟩ := List.getElem?_eq_some_iff.mp e3
      rw [List.getElem_set_self] at h2 h4
      subst h4; cases h2
      obtain ⟨p', q1, q2, q3⟩ := hw ha
      cases q1
      rw [List.getElem?_set_ne hjk] at e2 e4
      exact q3.2 k b e2 e4
    · rw [List.getElem?_set_ne hj] at e1 e3
      by_cases hk : i = k
      · subst hk
        obtain ⟨h1, h2⟩ := List.getElem?_eq_some_iff.mp e2
        obtain ⟨h3, h4⟩ := List.getElem?_eq_some_iff.mp e4
        rw [List.getElem_set_self] at h2 h4
        subst h4; cases h2
        cases hb : sl.own with
        | false => rfl
        | true =>
          obtain ⟨p', q1, q2, q3⟩ := hw hb
          cases q1
          rw [q3.2 j a e1 e3] at ha; cases ha
      · rw [List.getElem?_set_ne hk] at e2 e4; exact I.dis j k p a b hjk e1 e2 e3 e4 ha
end
end DL

/-! DL1: the monad, what a reading over data is, expressions. -/
namespace DL
open PySem PySem.Spec PyProof.Rows L2

inductive R (α : Type) where
  | ok (a : α) (s : S)
  | exc (c : Str) (s : S)
  | bad
abbrev DM (α : Type) := S → R α
def bindM {α β : Type} (m : DM α) (k : α → DM β) : DM β := fun s =>
  match m s with
  | .ok a s' => k a s'
  | .exc c s' => .exc c s'
  | .bad => .bad
def pureM {α : Type} (a : α) : DM α := fun s => .ok a s
def badM {α : Type} : DM α := fun _ => .bad
def liftO {α : Type} : Option α → DM α
  | some a => pureM a
  | none => badM
inductive RV where
  | d (x : D)
  | fl (ds : List D)
  | fd (kvs : List (D × D))
  | cell (g : Nat)
inductive Fl where
  | nx
  | rt (r : RV)
  | bk
  | ct

def After {α : Type} (C : Ct) (W : WX) (B Z : Hp) (as : List Addr) (σ : St) (good : α → S → Hp → Hp → List Addr → Prop) : R α → Prop
  | .ok a s' => ∀ H' Z' as', SR C B Z' σ H' as' s' → Ext B Z Z' → as <+: as' → good a s' H' Z' as'
  | .exc c s' => ∀ Ca H' Z' as', C.mg c = some (.ref Ca) → SR C B Z' σ H' as' s' → Ext B Z Z' → as <+: as' → W (.ref Ca) none σ H'
  | .bad => False
section
variable {α β : Type} {C : Ct} {W : WX} {B Z : Hp} {as : List Addr} {σ : St}
theorem After.imp {good good' : α → S → Hp → Hp → List Addr → Prop} : ∀ {r : R α}, After C W B Z as σ good r → (∀ a s' H' Z' as', SR C B Z' σ H' as' s' → Ext B Z Z' → as <+: as' → good a s' H' Z' as' → good' a s' H' Z' as') → After C W B Z as σ good' r
  | .ok _ _, h, f => fun H' Z' as' I E P => f _ _ _ _ _ I E P (h H' Z' as' I E P)
  | .exc _ _, h, _ => h
  | .bad, h, _ => h
theorem After.bind {m : DM α} {k : α → DM β} {good : β → S → Hp → Hp → List Addr → Prop} {s : S} (h : After C W B Z as σ good (bindM m k s)) :
    After C W B Z as σ (fun a s1 _ Z1 as1 => After C W B Z1 as1 σ good (k a s1)) (m s) := by
  unfold bindM at h
  cases e : m s with
  | bad => rw [e] at h; exact h
  | exc c s' => rw [e] at h; exact h
  | ok a s1 =>
    rw [e] at h
    intro H1 Z1 as1 I1 E1 P1
    dsimp only at h
    cases e2 : k a s1 with
    | bad => rw [e2] at h; exact h
    | exc c s' => rw [e2] at h; exact fun Ca H' Z' as' hc I E P => h Ca H' Z' as' hc I (E1.trans E) (P1.trans P)
    | ok b s2 => rw [e2] at h; exact fun H' Z' as' I E P => h H' Z' as' I (E1.trans E) (P1.trans P)
theorem After.pure {a : α} {s : S} {good : α → S → Hp → Hp → List Addr → Prop} {H : Hp} (h : After C W B Z as σ good (pureM a s)) (I : SR C B Z σ H as s) : good a s H Z as := h H Z as I .refl (List.prefix_refl _)
theorem After.lift {o : Option α} {s : S} {good : α → S → Hp → Hp → List Addr → Prop} {H : Hp} (h : After C W B Z as σ good (liftO o s)) (I : SR C B Z σ H as s) : ∃ a, o = some a ∧ good a s H Z as := by
  cases o with
  | none => exact h.elim
  | some a => exact ⟨a, rfl, After.pure h I⟩
end

/-! ### readings over data -/
def rD (C : Ct) (W : WX) (f : DM D) : TE := fun σ H Q => ∃ B Z as s, SR C B Z σ H as s ∧ After C W B Z as σ (fun d _ H' Z' _ => ∀ v, Rep C Z' v d → Q v H') (f s)
def rB (C : Ct) (W : WX) (f : DM Bool) : TT := fun σ H Q => ∃ B Z as s, SR C B Z σ H as s ∧ After C W B Z as σ (fun b _ H' _ _ => Q b H') (f s)
/-- the items of a written list of expressions -/
def rL (C : Ct) (W : WX) (f : DM (List D)) : TA := fun σ H Q => ∃ B Z as s, SR C B Z σ H as s ∧ After C W B Z as σ (fun ds _ H' Z' _ => ∀ vs, Reps C Z' vs ds → Q vs H') (f s)

theorem pe_imp {X : Cx} {e : Expr} {t t' : TE} (h : PE X e t) (w : ∀ σ H Q, t' σ H Q → t σ H Q) : PE X e t' := ⟨fun pins s σ H Q I q => h.run pins s σ H Q I (w σ H Q q)⟩
theorem pt_imp {X : Cx} {e : Expr} {t t' : TT} (h : PT X e t) (w : ∀ σ H Q, t' σ H Q → t σ H Q) : PT X e t' := ⟨fun pins s σ H Q I q => h.run pins s σ H Q I (w σ H Q q)⟩
theorem pw_imp {X : Cx} {e : Expr} {t t' : TT} (h : PW X e t) (w : ∀ σ H Q, t' σ H Q → t σ H Q) : PW X e t' := ⟨fun wh pins s σ H Q I q => h.run wh pins s σ H Q I (w σ H Q q)⟩
theorem pa_imp {X : Cx} {e : List Expr} {t t' : TA} (h : PA X e t) (w : ∀ σ H Q, t' σ H Q → t σ H Q) : PA X e t' := ⟨fun pos pins s σ H Q I q => h.run pos pins s σ H Q I (w σ H Q q)⟩

/-- e is worth f, as data -/
abbrev DE (X : Cx) (W : WX) (e : Expr) (f : DM D) : Prop := PE X e (rD (ctOf X) W f)
abbrev DT (X : Cx) (W : WX) (e : Expr) (f : DM Bool) : Prop := PT X e (rB (ctOf X) W f)
abbrev DW (X : Cx) (W : WX) (e : Expr) (f : DM Bool) : Prop := PW X e (rB (ctOf X) W f)
abbrev DL (X : Cx) (W : WX) (es : List Expr) (f : DM (List D)) : Prop := PA X es (rL (ctOf X) W f)

/-! ### operands: a name is looked at where the operation stands, anything else is reckoned -/
inductive Opd where
  | n (i : Nat)
  | g (f : DM D)
  | c (f : DM Nat)
inductive Ov where
  | d (x : D)
  | n (i : Nat)
  | c (g : Nat)
/-- what a slot holds, looked at -/
def peek (i : Nat) (s : S) : Option D :=
  match s.env[i]? with
  | some (.v d) => some d
  | some (.ol ds) => some (.list ds)
  | some (.od kvs) => some (.dict kvs)
  | some (.cell g) => match s.st[g]? with
    | some (.lst ds) => some (.list ds)
    | some (.dic kvs) => some (.dict kvs)
    | _ => none
  | _ => none
/-- what a cell holds, looked at -/
def peekC (g : Nat) (s : S) : Option D := match s.st[g]? with
  | some (.lst ds) => some (.list ds)
  | some (.dic kvs) => some (.dict kvs)
  | _ => none
/-- an expression that is worth a cell -/
def rC (C : Ct) (W : WX) (f : DM Nat) : TE := fun σ H Q => ∃ B Z as s, SR C B Z σ H as s ∧ After C W B Z as σ (fun g _ H' _ as' => ∀ p, as'[g]? = some p → Q (.ref p) H') (f s)
def evO : Opd → DM Ov
  | .n i => fun s => match peek i s with
    | some _ => .ok (.n i) s
    | none => .bad
  | .g f => bindM f fun d => pureM (.d d)
  | .c f => bindM f fun g => pureM (.c g)
def res (s : S) : Ov → Option D
  | .d x => some x
  | .n i => peek i s
  | .c g => peekC g s
def OvR (C : Ct) (Z : Hp) (σ : St) (as : List Addr) (v : V) : Ov → Prop
  | .d x => Rep C Z v x
  | .n i => σ[i]? = some (some v)
  | .c g => ∃ p, v = .ref p ∧ as[g]? = some p
def rO (C : Ct) (W : WX) : Opd → TE
  | .n i => tVar i
  | .g f => rD C W f
  | .c f => rC C W f
abbrev DO (X : Cx) (W : WX) (e : Expr) (o : Opd) : Prop := PE X e (rO (ctOf X) W o)
/-- data that may be looked at: frozen, or the whole of an owned list or dict -/
inductive BRep (C : Ct) (Z H : Hp) : V → D → Prop where
  | f {v : V} {d : D} : Rep C Z v d → BRep C Z H v d
  | l {p : Addr} {xs : List V} {ds : List D} : H p = some (.lst xs) → Reps C Z xs ds → BRep C Z H (.ref p) (.list ds)
  | k {p : Addr} {kvs : List (D × D)} : DicR C Z H p kvs → BRep C Z H (.ref p) (.dict kvs)
section
variable {C : Ct} {Z Z' H B : Hp} {σ : St} {as : List Addr} {s : S} {v : V} {d : D}
theorem BRep.toH (zh : Same Z H) (h : BRep C Z H v d) : Rep C H v d := by
  cases h with
  | f h => exact h.mono zh
  | l h r => exact .lst (.inl (.inl h)) (r.mono zh)
  | k h =>
    obtain ⟨n, ⟨o, es, ep, h1, h2, h3, h4⟩, nd⟩ := h
    exact .dic h1 n h2 h3 (h4.mono zh) nd
theorem BRep.list {ds : List D} (zh : Same Z H) (h : BRep C Z H v (.list ds)) : ∃ p xs, v = .ref p ∧ SqL C.K H p xs ∧ Reps C Z xs ds := by
  cases h with
  | f h => cases h with | lst h r => exact ⟨_, _, rfl, L2.Same.seq zh h, r⟩
  | l h r => exact ⟨_, _, rfl, .inl (.inl h), r⟩
theorem BRep.tuple {ds : List D} (zh : Same Z H) (h : BRep C Z H v (.tuple ds)) : ∃ p xs, v = .ref p ∧ SqT C.K H p xs ∧ Reps C Z xs ds := by
  cases h with
  | f h => cases h with | tup h r => exact ⟨_, _, rfl, sqT_mono zh h, r⟩
theorem BRep.int {i : Int} (h : BRep C Z H v (.int i)) : v = .int i := by cases h with | f h => cases h; rfl
theorem BRep.str {i : Str} (h : BRep C Z H v (.str i)) : v = .str i := by cases h with | f h => cases h; rfl
theorem BRep.bool {i : Bool} (h : BRep C Z H v (.bool i)) : v = .bl i := by cases h with | f h => cases h; rfl
theorem BRep.none (h : BRep C Z H v .none) : v = .non := by cases h with | f h => cases h; rfl
theorem peek_rep (I : SR C B Z σ H as s) {i : Nat} (h : peek i s = some d) : ∃ v, σ[i]? = some (some v) ∧ BRep C Z H v d := by
  unfold peek at h
  cases e : s.env[i]? with
  | none => rw [e] at h; cases h
  | some sl =>
    rw [e] at h
    obtain ⟨o, h1, h2⟩ := paired_get I.env e
    cases sl with
    | un => cases h
    | v x =>
      cases h
      cases o with
      | none => exact h2.elim
      | some v => exact ⟨v, h1, .f h2⟩
    | ol ds =>
      cases h
      cases o with
      | none => exact h2.elim
      | some v =>
        cases v with
        | ref p => obtain ⟨_, xs, h3, h4⟩ := h2; exact ⟨_, h1, .l h3 h4⟩
        | _ => exact h2.elim
    | od kvs =>
      cases h
      cases o with
      | none => exact h2.elim
      | some v =>
        cases v with
        | ref p => exact ⟨_, h1, .k h2.2⟩
        | _ => exact h2.elim
    | cell g =>
      cases o with
      | none => exact h2.elim
      | some v =>
        cases v with
        | ref p =>
          have h3 : as[g]? = some p := h2
          obtain ⟨c, h4, h5⟩ := paired_getL I.st h3
          dsimp only at h
          rw [h4] at h
          cases c with
          | lst ds => cases h; obtain ⟨xs, h6, h7⟩ := h5; exact ⟨_, h1, .l h6 h7⟩
          | dic kvs => cases h; exact ⟨_, h1, .k h5⟩
          | ins c fs => cases h
        | _ => exact h2.elim
theorem res_rep (I : SR C B Z σ H as s) {o : Ov} (ho : OvR C Z σ as v o) (h : res s o = some d) : BRep C Z H v d := by
  cases o with
  | d x => cases h; exact .f ho
  | n i =>
    obtain ⟨v', h1, h2⟩ := peek_rep I h
    have ho' : σ[i]? = some (some v) := ho
    rw [ho'] at h1; cases h1; exact h2
  | c g =>
    obtain ⟨p, rfl, h3⟩ := ho
    obtain ⟨c, h4, h5⟩ := paired_getL I.st h3
    have h' : peekC g s = some d := h
    unfold peekC at h'
    rw [h4] at h'
    cases c with
    | lst ds => cases h'; obtain ⟨xs, h6, h7⟩ := h5; exact .l h6 h7
    | dic kvs => cases h'; exact .k h5
    | ins c fs => cases h'
theorem OvR.mono {as' : List Addr} (hz : Same Z Z') (hp : as <+: as') {o : Ov} (h : OvR C Z σ as v o) : OvR C Z' σ as' v o := by
  cases o with
  | d x => exact Rep.mono hz h
  | n i => exact h
  | c g =>
    obtain ⟨p, rfl, h3⟩ := h
    obtain ⟨t, rfl⟩ := hp
    refine ⟨p, rfl, ?_⟩
    rw [List.getElem?_append_left (List.getElem?_eq_some_iff.mp h3).1]
    exact h3
end

section
variable {C : Ct} {W : WX} {oa ob oc : Opd} {f : DM D} {σ : St} {H : Hp} {Q : VK} {B Z : Hp} {as : List Addr} {s : S}
/-- an operand is had -/
theorem rO_ev {good : Ov → S → Hp → Hp → List Addr → Prop} (I : SR C B Z σ H as s) (h : After C W B Z as σ good (evO oa s)) :
    rO C W oa σ H fun v H1 => ∃ Z1 as1 s1 x, SR C B Z1 σ H1 as1 s1 ∧ Ext B Z Z1 ∧ as <+: as1 ∧ OvR C Z1 σ as1 v x ∧ good x s1 H1 Z1 as1 := by
  cases oa with
  | n i =>
    dsimp only [evO] at h
    cases e : peek i s with
    | none => rw [e] at h; exact h.elim
    | some d =>
      rw [e] at h
      obtain ⟨v, h1, _⟩ := peek_rep I e
      exact ⟨v, h1, Z, as, s, .n i, I, .refl, List.prefix_refl _, h1, h _ _ _ I .refl (List.prefix_refl _)⟩
  | g f =>
    refine ⟨B, Z, as, s, I, (After.bind h).imp fun d s1 H1 Z1 as1 I1 E1 P1 h1 v rv => ?_⟩
    exact ⟨Z1, as1, s1, .d d, I1, E1, P1, rv, After.pure h1 I1⟩
  | c f =>
    refine ⟨B, Z, as, s, I, (After.bind h).imp fun g s1 H1 Z1 as1 I1 E1 P1 h1 p hp => ?_⟩
    exact ⟨Z1, as1, s1, .c g, I1, E1, P1, ⟨p, rfl, hp⟩, After.pure h1 I1⟩
theorem rO_mono {Q' : VK} (h : rO C W oa σ H Q) (w : ∀ v H, Q v H → Q' v H) : rO C W oa σ H Q' := by
  cases oa with
  | n i => obtain ⟨v, e, q⟩ := h; exact ⟨v, e, w _ _ q⟩
  | g f =>
    obtain ⟨B, Z, as, s, I, h⟩ := h
    exact ⟨B, Z, as, s, I, h.imp fun d s1 H1 Z1 as1 _ _ _ h v rv => w _ _ (h v rv)⟩
  | c f =>
    obtain ⟨B, Z, as, s, I, h⟩ := h
    exact ⟨B, Z, as, s, I, h.imp fun g s1 H1 Z1 as1 _ _ _ h p hp => w _ _ (h p hp)⟩

def with2 {α : Type} (g : D → D → Option α) (x y : Ov) : DM α := fun s =>
  match res s x, res s y with
  | some dx, some dy => liftO (g dx dy) s
  | _, _ => .bad
def with1 {α : Type} (g : D → Option α) (x : Ov) : DM α := fun s =>
  match res s x with
  | some dx => liftO (g dx) s
  | _ => .bad
def e2 {α : Type} (g : D → D → Option α) (oa ob : Opd) : DM α := bindM (evO oa) fun x => bindM (evO ob) fun y => with2 g x y
def e1 {α : Type} (g : D → Option α) (oa : Opd) : DM α := bindM (evO oa) fun x => with1 g x

theorem rO2 {α : Type} {g : D → D → Option α} {good : α → S → Hp → Hp → List Addr → Prop} (I : SR C B Z σ H as s) (h : After C W B Z as σ good (e2 g oa ob s)) :
    rO C W oa σ H fun v H1 => rO C W ob σ H1 fun u H2 => ∃ Z2 as2 s2 dx dy a, SR C B Z2 σ H2 as2 s2 ∧ Ext B Z Z2 ∧ as <+: as2 ∧ BRep C Z2 H2 v dx ∧ BRep C Z2 H2 u dy ∧ g dx dy = some a ∧ good a s2 H2 Z2 as2 := by
  refine rO_mono (rO_ev I (After.bind h)) fun v H1 ⟨Z1, as1, s1, x, I1, E1, P1, rx, h1⟩ => ?_
  refine rO_mono (rO_ev I1 (After.bind h1)) fun u H2 ⟨Z2, as2, s2, y, I2, E2, P2, ry, h2⟩ => ?_
  unfold with2 at h2
  cases ex : res s2 x with
  | none => rw [ex] at h2; exact h2.elim
  | some dx =>
    cases ey : res s2 y with
    | none => rw [ex, ey] at h2; exact h2.elim
    | some dy =>
      rw [ex, ey] at h2
      obtain ⟨a, e, q⟩ := After.lift h2 I2
      exact ⟨Z2, as2, s2, dx, dy, a, I2, E1.trans E2, P1.trans P2, res_rep I2 (rx.mono E2.same P2) ex, res_rep I2 ry ey, e, q⟩
theorem rO1 {α : Type} {g : D → Option α} {good : α → S → Hp → Hp → List Addr → Prop} (I : SR C B Z σ H as s) (h : After C W B Z as σ good (e1 g oa s)) :
    rO C W oa σ H fun v H1 => ∃ Z1 as1 s1 dx a, SR C B Z1 σ H1 as1 s1 ∧ Ext B Z Z1 ∧ as <+: as1 ∧ BRep C Z1 H1 v dx ∧ g dx = some a ∧ good a s1 H1 Z1 as1 := by
  refine rO_mono (rO_ev I (After.bind h)) fun v H1 ⟨Z1, as1, s1, x, I1, E1, P1, rx, h1⟩ => ?_
  unfold with1 at h1
  cases ex : res s1 x with
  | none => rw [ex] at h1; exact h1.elim
  | some dx =>
    rw [ex] at h1
    obtain ⟨a, e, q⟩ := After.lift h1 I1
    exact ⟨Z1, as1, s1, dx, a, I1, E1, P1, res_rep I1 rx ex, e, q⟩

/-- what a two-place rule asks is given by a function of data -/
def Of2 (C : Ct) (r : R2) (g : D → D → Option D) : Prop := ∀ (Z H : Hp) (x y : V) (dx dy d : D) (Q : VK), BRep C Z H x dx → BRep C Z H y dy → Same Z H → g dx dy = some d → (∀ v, Rep C Z v d → Q v H) → r x y H Q
theorem rD_op {r : R2} {g : D → D → Option D} (hr : Of2 C r g) (h : rD C W (e2 g oa ob) σ H Q) : tOp r (rO C W oa) (rO C W ob) σ H Q := by
  obtain ⟨B, Z, as, s, I, h⟩ := h
  refine rO_mono (rO2 I h) fun v H1 h1 => rO_mono h1 fun u H2 ⟨Z2, as2, s2, dx, dy, d, I2, E2, P2, rx, ry, e, q⟩ => ?_
  exact hr Z2 H2 v u dx dy d Q rx ry I2.zh e q
/-- one that makes a tuple -/
def Of2T (C : Ct) (r : R2) (g : D → D → Option (List D)) : Prop := ∀ (Z H : Hp) (x y : V) (dx dy : D) (ds : List D) (Q : VK), BRep C Z H x dx → BRep C Z H y dy → Same Z H → g dx dy = some ds → (∀ v, Rep C Z v (.tuple ds) → Q v H) → (∀ p vs, H p = none → Reps C Z vs ds → Q (.ref p) (upd H p (.tup vs))) → r x y H Q
theorem rD_opT {r : R2} {g : D → D → Option (List D)} (hr : Of2T C r g) (h : rD C W (bindM (e2 g oa ob) fun ds => pureM (.tuple ds)) σ H Q) : tOp r (rO C W oa) (rO C W ob) σ H Q := by
  obtain ⟨B, Z, as, s, I, h⟩ := h
  refine rO_mono (rO2 I (After.bind h)) fun v H1 h1 => rO_mono h1 fun u H2 ⟨Z2, as2, s2, dx, dy, ds, I2, E2, P2, rx, ry, e, q⟩ => ?_
  refine hr Z2 H2 v u dx dy ds Q rx ry I2.zh e (After.pure q I2) fun p vs np rs => ?_
  obtain ⟨I3, E3, z3⟩ := I2.alloc (o := .tup vs) np
  exact q _ _ _ I3 E3 (List.prefix_refl _) _ (.tup (.inl (.inl z3)) (rs.mono E3.same))
def Of1 (C : Ct) (r : V → Hp → VK → Prop) (g : D → Option D) : Prop := ∀ (Z H : Hp) (x : V) (dx d : D) (Q : VK), BRep C Z H x dx → Same Z H → g dx = some d → (∀ v, Rep C Z v d → Q v H) → r x H Q
theorem rD_un {r : V → Hp → VK → Prop} {g : D → Option D} (hr : Of1 C r g) (h : rD C W (e1 g oa) σ H Q) : tUn r (rO C W oa) σ H Q := by
  obtain ⟨B, Z, as, s, I, h⟩ := h
  refine rO_mono (rO1 I h) fun v H1 ⟨Z1, as1, s1, dx, d, I1, E1, P1, rx, e, q⟩ => ?_
  exact hr Z1 H1 v dx d Q rx I1.zh e q
/-- a value that is a truth value, as a test -/
def asB : D → Option Bool
  | .bool b => some b
  | _ => none
def tB1 (fa : DM D) : DM Bool := bindM fa fun x => liftO (asB x)
theorem rB_test {t : TE} {fa : DM D} {Q : Bool → Hp → Prop} (ht : ∀ σ H (Q : VK), rD C W fa σ H Q → t σ H Q) (h : rB C W (tB1 fa) σ H Q) : tTest t σ H Q := by
  obtain ⟨B, Z, as, s, I, h⟩ := h
  refine ht σ H _ ⟨B, Z, as, s, I, (After.bind h).imp fun x s1 H1 Z1 as1 I1 E1 P1 h1 v rv => ?_⟩
  obtain ⟨b, e, q⟩ := After.lift h1 I1
  cases x with
  | bool b' => cases rv; cases e; exact ⟨b, rfl, q⟩
  | _ => cases e
end

/-! ### int operations -/
def gI2 (c : Int → Int → Bool) (g : Int → Int → D) : D → D → Option D
  | .int i, .int j => if c i j then some (g i j) else none
  | _, _ => none
def gI0 (g : Int → Int → D) : D → D → Option D
  | .int i, .int j => some (g i j)
  | _, _ => none
theorem of_gI0 {C : Ct} {gv : Int → Int → V} {g : Int → Int → D} (hg : ∀ i j Z, Rep C Z (gv i j) (g i j)) : Of2 C (rI0 gv) (gI0 g) := by
  intro Z H x y dx dy d Q rx ry zh e q
  cases dx with
  | int i =>
    cases dy with
    | int j => cases e; exact ⟨i, j, rx.int, ry.int, q _ (hg i j Z)⟩
    | _ => cases e
  | _ => cases e
theorem of_gI2 {C : Ct} {c : Int → Int → Bool} {P : Int → Int → Prop} {gv : Int → Int → V} {g : Int → Int → D} (hc : ∀ i j, c i j = true → P i j) (hg : ∀ i j Z, c i j = true → Rep C Z (gv i j) (g i j)) : Of2 C (rI P gv) (gI2 c g) := by
  intro Z H x y dx dy d Q rx ry zh e q
  cases dx with
  | int i =>
    cases dy with
    | int j =>
      unfold gI2 at e
      dsimp only at e
      split at e
      · rename_i h; cases e; exact ⟨i, j, rx.int, ry.int, hc i j h, q _ (hg i j Z h)⟩
      · cases e
    | _ => cases e
  | _ => cases e

def gAdd := gI0 fun i j => .int (i + j)
def gSub := gI0 fun i j => .int (i - j)
def mulOk (i j : Int) : Bool := (decide (-(2 ^ 64) < i) && decide (i < 2 ^ 64)) || (decide (-(2 ^ 64) < j) && decide (j < 2 ^ 64))
def gMul := gI2 mulOk fun i j => .int (i * j)
def divOk (_ j : Int) : Bool := decide (0 < j) && decide (j < 1073741824)
def gDiv := gI2 divOk fun i j => .int (i / j)
def gMod := gI2 (fun _ j => decide (0 < j)) fun i j => .int (i % j)
def powOk (i j : Int) : Bool := decide (0 ≤ j) && decide (j ≤ 1000000) && decide (i.natAbs < 2 ^ 64)
def gPow := gI2 powOk fun i j => .int (i ^ j.toNat)
def gLt := gI0 fun i j => .bool (decide (i < j))
def gLe := gI0 fun i j => .bool (decide (i ≤ j))
def gGt := gI0 fun i j => .bool (decide (j < i))
def gGe := gI0 fun i j => .bool (decide (j ≤ i))
section
variable {C : Ct}
theorem of_add : Of2 C (rI0 fun i j => .int (i + j)) gAdd := of_gI0 fun _ _ _ => .int _
theorem of_sub : Of2 C (rI0 fun i j => .int (i - j)) gSub := of_gI0 fun _ _ _ => .int _
theorem of_mul : Of2 C (rI CMul fun i j => .int (i * j)) gMul := of_gI2 (fun i j h => by simpa [mulOk, CMul] using h) fun _ _ _ _ => .int _
theorem of_div : Of2 C (rI CDiv fun i j => .int (i / j)) gDiv := of_gI2 (fun i j h => by simpa [divOk, CDiv] using h) fun _ _ _ _ => .int _
theorem of_mod : Of2 C (rI (fun _ j => 0 < j) fun i j => .int (i % j)) gMod := of_gI2 (fun i j h => by simpa using h) fun _ _ _ _ => .int _
theorem of_pow : Of2 C (rI CPow fun i j => .int (i ^ j.toNat)) gPow := of_gI2 (fun i j h => by
  have h' : (0 ≤ j ∧ j ≤ 1000000) ∧ i.natAbs < 2 ^ 64 := by simpa [powOk] using h
  exact ⟨h'.1.1, h'.1.2, h'.2⟩) fun _ _ _ _ => .int _
theorem of_lt : Of2 C (rI0 fun i j => .bl (decide (i < j))) gLt := of_gI0 fun _ _ _ => .bl _
theorem of_le : Of2 C (rI0 fun i j => .bl (decide (i ≤ j))) gLe := of_gI0 fun _ _ _ => .bl _
theorem of_gt : Of2 C (rI0 fun i j => .bl (decide (j < i))) gGt := of_gI0 fun _ _ _ => .bl _
theorem of_ge : Of2 C (rI0 fun i j => .bl (decide (j ≤ i))) gGe := of_gI0 fun _ _ _ => .bl _
end
end DL

/-! DL2: expressions of the syntax, over data. -/
namespace DL
open PySem PySem.Spec PyProof.Rows L2

section
variable {X : Cx} {W : WX} {a b c : Expr} {oa ob oc : Opd} {fa fb fc : DM D} {pos : Pos}

/-! ### names and constants -/
def eVar (i : Nat) : DM D := fun s =>
  match s.env[i]? with
  | some (.v d) => .ok d s
  | some (.ol ds) => .ok (.list ds) { s with env := s.env.set i (.v (.list ds)) }
  | some (.od kvs) => .ok (.dict kvs) { s with env := s.env.set i (.v (.dict kvs)) }
  | _ => .bad
def eC (d : D) : DM D := pureM d

theorem rD_var {C : Ct} {i : Nat} {σ : St} {H : Hp} {Q : VK} (h : rD C W (eVar i) σ H Q) : tVar i σ H Q := by
  obtain ⟨B, Z, as, s, I, h⟩ := h
  unfold eVar at h
  cases e : s.env[i]? with
  | none => rw [e] at h; exact h.elim
  | some sl =>
    rw [e] at h
    obtain ⟨o, h1, h2⟩ := paired_get I.env e
    cases sl with
    | un => exact h.elim
    | cell g => exact h.elim
    | v d =>
      cases o with
      | none => exact h2.elim
      | some v => exact ⟨v, h1, h _ _ _ I .refl (List.prefix_refl _) v h2⟩
    | ol ds =>
      cases o with
      | none => exact h2.elim
      | some v =>
        cases v with
        | ref p =>
          obtain ⟨nz, xs, h3, h4⟩ := h2
          have hd : Rep C (upd Z p (.lst xs)) (.ref p) (.list ds) := .lst (.inl (.inl upd_same)) (h4.mono fun b x e => by rw [upd_ne (ne_of_none e nz)]; exact e)
          obtain ⟨I2, E2⟩ := I.freezeSlot h1 e rfl h3 hd
          exact ⟨_, h1, h _ _ _ I2 E2 (List.prefix_refl _) _ hd⟩
        | _ => exact h2.elim
    | od kvs =>
      cases o with
      | none => exact h2.elim
      | some v =>
        cases v with
        | ref p =>
          obtain ⟨nz, n, ⟨o, es, ep, h3, h4, h5, h6⟩, nd⟩ := h2
          have hd : Rep C (upd Z p (dictHO p o)) (.ref p) (.dict kvs) := .dic upd_same n h4 h5 (h6.mono fun b x e => by rw [upd_ne (ne_of_none e nz)]; exact e) nd
          obtain ⟨I2, E2⟩ := I.freezeSlot h1 e rfl h3 hd
          exact ⟨_, h1, h _ _ _ I2 E2 (List.prefix_refl _) _ hd⟩
        | _ => exact h2.elim
theorem de_name (i : Nat) {x : Str} (hN : X.N[i]? = some x := by rfl) (hv : Vis X.env.scope x := by first | exact Or.inl rfl | exact Or.inr (Or.inl rfl) | exact Or.inr (Or.inr rfl)) (hd : (x == ("__debug__" : Str)) = false := by decide)
    (hcd : (x == ("__classdict__" : Str)) = false := by decide) : DE X W (.Name x pos) (eVar i) := pe_imp (pe_var hN hv hd hcd) fun _ _ _ h => rD_var h
theorem do_name (i : Nat) {x : Str} (hN : X.N[i]? = some x := by rfl) (hv : Vis X.env.scope x := by first | exact Or.inl rfl | exact Or.inr (Or.inl rfl) | exact Or.inr (Or.inr rfl)) (hd : (x == ("__debug__" : Str)) = false := by decide)
    (hcd : (x == ("__classdict__" : Str)) = false := by decide) : DO X W (.Name x pos) (.n i) := pe_var hN hv hd hcd
theorem do_of {f : DM D} (h : DE X W a f) : DO X W a (.g f) := h
theorem rD_pure {C : Ct} {d : D} {v : V} {σ : St} {H : Hp} {Q : VK} (hr : ∀ Z, Rep C Z v d) (h : rD C W (pureM d) σ H Q) : Q v H := by
  obtain ⟨B, Z, as, s, I, h⟩ := h
  exact After.pure h I v (hr Z)
theorem de_int {i : Int} {j} : DE X W (.Constant (.int i) j pos) (eC (.int i)) := pe_imp pe_int fun _ _ _ h => rD_pure (fun _ => .int i) h
theorem de_bool {b : Bool} {j} : DE X W (.Constant (.bool b) j pos) (eC (.bool b)) := pe_imp pe_bl fun _ _ _ h => rD_pure (fun _ => .bl b) h
theorem de_none {j} : DE X W (.Constant .none j pos) (eC .none) := pe_imp pe_non fun _ _ _ h => rD_pure (fun _ => .non) h
theorem de_str {x : Str} {j} : DE X W (.Constant (.str x) j pos) (eC (.str x)) := pe_imp pe_str fun _ _ _ h => rD_pure (fun _ => .str x) h
/-- a module's constant -/
theorem de_glob {x : Str} {v : V} {u : Value} {d : D} (hg : Gl X x) (hm : X.mg x = some u) (r : RelV v u) (hr : ∀ Z, Rep (ctOf X) Z v d) (hd : (x == ("__debug__" : Str)) = false := by decide) : DE X W (.Name x pos) (eC d) :=
  pe_imp (pe_glob hg hm r hd) fun _ _ _ h => rD_pure hr h

/-! ### operators -/
theorem de_bin {op : Operator} {r : R2} {g : D → D → Option D} (ho : OpR X (binaryOp op) r) (hf : Of2 (ctOf X) r g) (ha : DO X W a oa) (hb : DO X W b ob) : DE X W (.BinOp a op b pos) (e2 g oa ob) :=
  pe_imp (pe_op ho ha hb) fun _ _ _ h => rD_op hf h
theorem de_un {op : UnaryOp} {r : V → Hp → VK → Prop} {g : D → Option D} (ho : UnR X (unaryOp op) r) (hf : Of1 (ctOf X) r g) (ha : DO X W a oa) : DE X W (.UnaryOp op a pos) (e1 g oa) :=
  pe_imp (pe_un ho ha) fun _ _ _ h => rD_un hf h
theorem de_cmp {op : CmpOp} {r : R2} {g : D → D → Option D} (ho : OpR X (compareOp op) r) (hf : Of2 (ctOf X) r g) (ha : DO X W a oa) (hb : DO X W b ob) (hm : behindInMarks op b = false := by first | exact nomark _ | rfl | with_unfolding_all rfl) : DE X W (.Compare a [op] [b] pos) (e2 g oa ob) :=
  pe_imp (pe_cmpR ho ha hb hm) fun _ _ _ h => rD_op hf h
theorem dt_cmp {op : CmpOp} {r : R2} {g : D → D → Option D} (ho : OpR X (compareOp op) r) (hf : Of2 (ctOf X) r g) (ha : DO X W a oa) (hb : DO X W b ob) (hm : behindInMarks op b = false := by first | exact nomark _ | rfl | with_unfolding_all rfl) : DT X W (.Compare a [op] [b] pos) (tB1 (e2 g oa ob)) :=
  pt_imp (pt_cmpR ho ha hb hm) fun _ _ _ h => rB_test (fun _ _ _ h => rD_op hf h) h
/-- any expression that is True or False, as a test -/
theorem dt_val {e : Expr} {f : DM D} (h : DE X W e f) (he : ∀ whole, isTrue e X.env whole = (do let v ← whole; standAt e.pos; holding [v] (truthy v)) := by intro _; rfl) : DT X W e (tB1 f) :=
  pt_imp (pt_val h he) fun _ _ _ h => rB_test (fun _ _ _ h => h) h
/-- a op b op' c: b is reckoned once -/
def chain2 (g g' : D → D → Option D) (oa ob oc : Opd) : DM D := bindM (evO oa) fun x => bindM (evO ob) fun y => bindM (with2 g x y) fun d => fun s =>
  match asB d with
  | some b => if b then bindM (evO oc) (fun z => with2 g' y z) s else .ok (.bool false) s
  | none => .bad
theorem rD_chain {r r' : R2} {g g' : D → D → Option D} {σ : St} {H : Hp} {Q : VK} (hf : Of2 (ctOf X) r g) (hf' : Of2 (ctOf X) r' g') (h : rD (ctOf X) W (chain2 g g' oa ob oc) σ H Q) : tChain r r' (rO (ctOf X) W oa) (rO (ctOf X) W ob) (rO (ctOf X) W oc) σ H Q := by
  obtain ⟨B, Z, as, s, I, h⟩ := h
  refine rO_mono (rO_ev I (After.bind h)) fun v H1 ⟨Z1, as1, s1, x, I1, E1, P1, rx, h1⟩ => ?_
  refine rO_mono (rO_ev I1 (After.bind h1)) fun u H2 ⟨Z2, as2, s2, y, I2, E2, P2, ry, h2⟩ => ?_
  have h3 := After.bind h2
  unfold with2 at h3
  cases ex : res s2 x with
  | none => rw [ex] at h3; exact h3.elim
  | some dx =>
    cases ey : res s2 y with
    | none => rw [ex, ey] at h3; exact h3.elim
    | some dy =>
      rw [ex, ey] at h3
      obtain ⟨d, e, q⟩ := After.lift h3 I2
      refine hf Z2 H2 v u dx dy d _ (res_rep I2 (rx.mono E2.same P2) ex) (res_rep I2 ry ey) I2.zh e fun z rz => ?_
      cases d with
      | bool k =>
        cases rz
        refine ⟨k, rfl, ?_⟩
        cases k with
        | false => rw [if_neg Bool.false_ne_true]; exact q _ _ _ I2 .refl (List.prefix_refl _) _ (.bl false)
        | true =>
          rw [if_pos rfl]
          refine rO_mono (rO_ev I2 (After.bind q)) fun w' H3 ⟨Z3, as3, s3, z, I3, E3, P3, rz, h4⟩ => ?_
          cases ey2 : res s3 y with
          | none => rw [ey2] at h4; exact h4.elim
          | some dy2 =>
            cases ez : res s3 z with
            | none => rw [ey2, ez] at h4; exact h4.elim
            | some dz =>
              rw [ey2, ez] at h4
              obtain ⟨d2, e2, q2⟩ := After.lift h4 I3
              exact hf' Z3 H3 u w' dy2 dz d2 Q (res_rep I3 (ry.mono E3.same P3) ey2) (res_rep I3 rz ez) I3.zh e2 q2
      | _ => exact q.elim
theorem de_chain {op op' : CmpOp} {r r' : R2} {g g' : D → D → Option D} (ho : OpR X (compareOp op) r) (ho' : OpR X (compareOp op') r') (hf : Of2 (ctOf X) r g) (hf' : Of2 (ctOf X) r' g') (ha : DO X W a oa) (hb : DO X W b ob) (hc : DO X W c oc)
    (hm : lastMarks [op, op'] [b, c] = false := by with_unfolding_all rfl) : DE X W (.Compare a [op, op'] [b, c] pos) (chain2 g g' oa ob oc) :=
  pe_imp (pe_chain ho ho' ha hb hc hm) fun _ _ _ h => rD_chain hf hf' h
theorem dt_chain {op op' : CmpOp} {r r' : R2} {g g' : D → D → Option D} (ho : OpR X (compareOp op) r) (ho' : OpR X (compareOp op') r') (hf : Of2 (ctOf X) r g) (hf' : Of2 (ctOf X) r' g') (ha : DO X W a oa) (hb : DO X W b ob) (hc : DO X W c oc)
    (hm : lastMarks [op, op'] [b, c] = false := by with_unfolding_all rfl) : DT X W (.Compare a [op, op'] [b, c] pos) (tB1 (chain2 g g' oa ob oc)) :=
  pt_imp (pt_chain ho ho' ha hb hc hm) fun _ _ _ h => rB_test (fun _ _ _ h => rD_chain hf hf' h) h

/-! ### not, and, or, if -/
def bNot (f : DM Bool) : DM Bool := bindM f fun b => pureM (!b)
def bAnd (f g : DM Bool) : DM Bool := bindM f fun b => if b then g else pureM false
def bOr (f g : DM Bool) : DM Bool := bindM f fun b => if b then pureM true else g
variable {fA fB fC : DM Bool} {rest : List Expr}
theorem dt_not (ha : DT X W a fA) : DT X W (.UnaryOp .Not a pos) (bNot fA) := pt_imp (pt_not ha) fun σ H Q ⟨B, Z, as, s, I, h⟩ =>
  ⟨B, Z, as, s, I, (After.bind h).imp fun b s1 H1 Z1 as1 I1 _ _ h1 => After.pure h1 I1⟩
theorem dw_and1 (ha : DT X W a fA) : DW X W (.BoolOp .And [a] pos) fA := pw_and1 ha
theorem dw_or1 (ha : DT X W a fA) : DW X W (.BoolOp .Or [a] pos) fA := pw_or1 ha
theorem dw_and (ha : DT X W a fA) (hb : DW X W (.BoolOp .And (b :: rest) pos) fB) : DW X W (.BoolOp .And (a :: b :: rest) pos) (bAnd fA fB) := pw_imp (pw_and ha hb) fun σ H Q ⟨B, Z, as, s, I, h⟩ =>
  ⟨B, Z, as, s, I, (After.bind h).imp fun b s1 H1 Z1 as1 I1 _ _ h1 => by
    cases b with
    | true => rw [if_pos rfl]; exact ⟨B, Z1, as1, s1, I1, h1⟩
    | false => rw [if_neg Bool.false_ne_true]; exact After.pure h1 I1⟩
theorem dw_or (ha : DT X W a fA) (hb : DW X W (.BoolOp .Or (b :: rest) pos) fB) : DW X W (.BoolOp .Or (a :: b :: rest) pos) (bOr fA fB) := pw_imp (pw_or ha hb) fun σ H Q ⟨B, Z, as, s, I, h⟩ =>
  ⟨B, Z, as, s, I, (After.bind h).imp fun b s1 H1 Z1 as1 I1 _ _ h1 => by
    cases b with
    | false => rw [if_neg Bool.false_ne_true]; exact ⟨B, Z1, as1, s1, I1, h1⟩
    | true => rw [if_pos rfl]; exact After.pure h1 I1⟩
theorem dt_of (h : DW X W a fA) : DT X W a fA := h.pt
/-- .. as values -/
def vAnd (f g : DM D) : DM D := bindM f fun d => match asB d with
  | some b => if b then g else pureM (.bool false)
  | none => badM
def vOr (f g : DM D) : DM D := bindM f fun d => match asB d with
  | some b => if b then pureM (.bool true) else g
  | none => badM
def vNot (f : DM D) : DM D := bindM f fun d => match asB d with
  | some b => pureM (.bool !b)
  | none => badM
theorem de_one {op} (h : DE X W a fa) : DE X W (.BoolOp op [a] pos) fa := pe_one h
theorem de_and (ha : DE X W a fa) (hb : DE X W (.BoolOp .And (b :: rest) pos) fb) : DE X W (.BoolOp .And (a :: b :: rest) pos) (vAnd fa fb) := pe_imp (pe_and ha hb) fun σ H Q ⟨B, Z, as, s, I, h⟩ =>
  ⟨B, Z, as, s, I, (After.bind h).imp fun d s1 H1 Z1 as1 I1 _ _ h1 v rv => by
    cases d with
    | bool k =>
      cases rv
      refine ⟨k, rfl, ?_⟩
      cases k with
      | true => rw [if_pos rfl]; exact ⟨B, Z1, as1, s1, I1, h1⟩
      | false => rw [if_neg Bool.false_ne_true]; exact After.pure h1 I1 _ (.bl false)
    | _ => exact h1.elim⟩
theorem de_or (ha : DE X W a fa) (hb : DE X W (.BoolOp .Or (b :: rest) pos) fb) : DE X W (.BoolOp .Or (a :: b :: rest) pos) (vOr fa fb) := pe_imp (pe_or ha hb) fun σ H Q ⟨B, Z, as, s, I, h⟩ =>
  ⟨B, Z, as, s, I, (After.bind h).imp fun d s1 H1 Z1 as1 I1 _ _ h1 v rv => by
    cases d with
    | bool k =>
      cases rv
      refine ⟨k, rfl, ?_⟩
      cases k with
      | false => rw [if_neg Bool.false_ne_true]; exact ⟨B, Z1, as1, s1, I1, h1⟩
      | true => rw [if_pos rfl]; exact After.pure h1 I1 _ (.bl true)
    | _ => exact h1.elim⟩
theorem de_not (ha : DE X W a fa) : DE X W (.UnaryOp .Not a pos) (vNot fa) := pe_imp (pe_not ha) fun σ H Q ⟨B, Z, as, s, I, h⟩ =>
  ⟨B, Z, as, s, I, (After.bind h).imp fun d s1 H1 Z1 as1 I1 _ _ h1 v rv => by
    cases d with
    | bool k => cases rv; exact ⟨k, rfl, After.pure h1 I1 _ (.bl _)⟩
    | _ => exact h1.elim⟩
def eIf (t : DM Bool) (f g : DM D) : DM D := bindM t fun b => if b then f else g
theorem de_ifExp (hc : DT X W c fC) (ha : DE X W a fa) (hb : DE X W b fb) : DE X W (.IfExp c a b pos) (eIf fC fa fb) := pe_imp (pe_ifExp hc ha hb) fun σ H Q ⟨B, Z, as, s, I, h⟩ =>
  ⟨B, Z, as, s, I, (After.bind h).imp fun d s1 H1 Z1 as1 I1 _ _ h1 => by
    cases d with
    | true => rw [if_pos rfl]; exact ⟨B, Z1, as1, s1, I1, h1⟩
    | false => rw [if_neg Bool.false_ne_true]; exact ⟨B, Z1, as1, s1, I1, h1⟩⟩
end

/-! ### more operators by data -/
section
variable {X : Cx}
def g1I (g : Int → D) : D → Option D
  | .int i => some (g i)
  | _ => none
def gNeg := g1I fun i => .int (-i)
theorem of_neg {C : Ct} : Of1 C (rU fun i => .int (-i)) gNeg := by
  intro Z H x dx d Q rx zh e q
  cases dx with
  | int i => cases e; exact ⟨i, rx.int, q _ (.int _)⟩
  | _ => cases e
mutual
theorem Rep.dp {C : Ct} {H : Hp} : ∀ {v : V} {d : D}, Rep C H v d → d.canLay0 = true → Dp C.K H v d
  | _, _, .non, _ => .non
  | _, _, .bl b, _ => .bl b
  | _, _, .int i, _ => .int i
  | _, _, .str x, _ => .str x
  | _, _, .lst h r, e => .lst h (r.dp (by simpa only [PyData.canLay0] using e))
  | _, _, .tup h r, e => .tup h (r.dp (by simpa only [PyData.canLay0] using e))
  | _, _, .dic _ _ _ _ _ _, e => by simp only [PyData.canLay0] at e; cases e
theorem Reps.dp {C : Ct} {H : Hp} : ∀ {vs : List V} {ds : List D}, Reps C H vs ds → PyData.canLayAll0 ds = true → DpAll C.K H vs ds
  | _, _, .nil, _ => .nil
  | _, _, .cons r t, e => by
    rw [PyData.canLayAll0, Bool.and_eq_true] at e
    exact .cons (r.dp e.1) (t.dp e.2)
end
theorem shaped_lay {d : D} (h : SeqAt.shaped d = true) : d.canLay0 = true := by
  have h' : (d.canLay0 && decide (d.depth ≤ 64)) = true := h
  rw [Bool.and_eq_true] at h'; exact h'.1
/-- == of any two data -/
def gEq (x y : D) : Option D := if SeqAt.shaped x && SeqAt.shaped y then some (.bool (PyData.eqv x y)) else none
def gNe (x y : D) : Option D := if SeqAt.shaped x && SeqAt.shaped y then some (.bool (!PyData.eqv x y)) else none
theorem of_eq : Of2 (ctOf X) (rEqD X.K) gEq := by
  intro Z H x y dx dy d Q rx ry zh e q
  unfold gEq at e
  split at e
  · rename_i h
    rw [Bool.and_eq_true] at h
    cases e
    exact ⟨dx, dy, (rx.toH zh).dp (shaped_lay h.1), (ry.toH zh).dp (shaped_lay h.2), h.1, h.2, q _ (.bl _)⟩
  · cases e
theorem of_ne : Of2 (ctOf X) (rNeD X.K) gNe := by
  intro Z H x y dx dy d Q rx ry zh e q
  unfold gNe at e
  split at e
  · rename_i h
    rw [Bool.and_eq_true] at h
    cases e
    exact ⟨dx, dy, (rx.toH zh).dp (shaped_lay h.1), (ry.toH zh).dp (shaped_lay h.2), h.1, h.2, q _ (.bl _)⟩
  · cases e
/-- x in a list of any data -/
def gIn (x y : D) : Option D := match y with
  | .list ds => if SeqAt.shaped x && SeqAt.shaped (.list ds) then some (.bool (ds.any fun z => PyData.eqv z x)) else none
  | _ => none
def gNotIn (x y : D) : Option D := match y with
  | .list ds => if SeqAt.shaped x && SeqAt.shaped (.list ds) then some (.bool (!ds.any fun z => PyData.eqv z x)) else none
  | _ => none
theorem of_in : Of2 (ctOf X) (rInD X.K) gIn := by
  intro Z H x y dx dy d Q rx ry zh e q
  unfold gIn at e
  cases dy with
  | list ds =>
    dsimp only at e
    split at e
    · rename_i h
      rw [Bool.and_eq_true] at h
      cases e
      exact ⟨dx, ds, (rx.toH zh).dp (shaped_lay h.1), (ry.toH zh).dp (shaped_lay h.2), h.1, h.2, q _ (.bl _)⟩
    · cases e
  | _ => cases e
theorem of_notIn : Of2 (ctOf X) (rNotInD X.K) gNotIn := by
  intro Z H x y dx dy d Q rx ry zh e q
  unfold gNotIn at e
  cases dy with
  | list ds =>
    dsimp only at e
    split at e
    · rename_i h
      rw [Bool.and_eq_true] at h
      cases e
      exact ⟨dx, ds, (rx.toH zh).dp (shaped_lay h.1), (ry.toH zh).dp (shaped_lay h.2), h.1, h.2, q _ (.bl _)⟩
    · cases e
  | _ => cases e
/-- x in a tuple of flat data -/
def flatD : D → Bool
  | .none => true | .bool _ => true | .int _ => true | .str _ => true
  | _ => false
def gInT (x y : D) : Option D := match y with
  | .tuple ds => if flatD x && ds.all flatD then some (.bool (ds.any fun z => PyData.eqv z x)) else none
  | _ => none
def gNotInT (x y : D) : Option D := match y with
  | .tuple ds => if flatD x && ds.all flatD then some (.bool (!ds.any fun z => PyData.eqv z x)) else none
  | _ => none
theorem flat_of {C : Ct} {H : Hp} {v : V} {d : D} (r : Rep C H v d) (h : flatD d = true) : flatV v = true := by cases r <;> first | rfl | cases h
theorem flats_of {C : Ct} {H : Hp} : ∀ {vs : List V} {ds : List D}, Reps C H vs ds → ds.all flatD = true → vs.all flatV = true
  | _, _, .nil, _ => rfl
  | _, _, .cons r t, e => by
    rw [List.all_cons, Bool.and_eq_true] at e ⊢
    exact ⟨flat_of r e.1, flats_of t e.2⟩
theorem eqv_flat {C : Ct} {H : Hp} {v u : V} {d e : D} (r : Rep C H v d) (q : Rep C H u e) (h : flatD d = true) (h' : flatD e = true) : eqV v u = PyData.eqv d e := by
  cases r <;> cases q <;> first
    | (cases h; done)
    | (cases h'; done)
    | (simp only [PyData.eqv]; rfl)
    | (simp only [PyData.eqv]; unfold eqV; first | rfl | (rw [Bool.eq_iff_iff]; simp) | (rename_i b; cases b <;> rfl) | (rename_i b i; cases b <;> simp) | (rename_i i b; cases b <;> simp))
theorem any_flat {C : Ct} {H : Hp} {v : V} {d : D} (q : Rep C H v d) (h : flatD d = true) : ∀ {vs : List V} {ds : List D}, Reps C H vs ds → ds.all flatD = true → inV v vs = ds.any fun z => PyData.eqv z d
  | _, _, .nil, _ => rfl
  | _, _, .cons r t, e => by
    rw [List.all_cons, Bool.and_eq_true] at e
    unfold inV
    rw [List.any_cons, List.any_cons, eqv_flat r q e.1 h]
    exact congrArg _ (any_flat q h t e.2)
theorem of_inT : Of2 (ctOf X) (rIn X.K false) gInT := by
  intro Z H x y dx dy d Q rx ry zh e q
  unfold gInT at e
  cases dy with
  | tuple ds =>
    dsimp only at e
    split at e
    · rename_i h
      rw [Bool.and_eq_true] at h
      cases e
      obtain ⟨p, xs, rfl, h1, h2⟩ := ry.tuple zh
      refine ⟨p, xs, rfl, .inr h1, flat_of (rx.toH zh) h.1, flats_of h2 h.2, ?_⟩
      rw [if_neg Bool.false_ne_true, any_flat (rx.toH zh) h.1 (h2.mono zh) h.2]
      exact q _ (.bl _)
    · cases e
  | _ => cases e
theorem of_notInT : Of2 (ctOf X) (rIn X.K true) gNotInT := by
  intro Z H x y dx dy d Q rx ry zh e q
  unfold gNotInT at e
  cases dy with
  | tuple ds =>
    dsimp only at e
    split at e
    · rename_i h
      rw [Bool.and_eq_true] at h
      cases e
      obtain ⟨p, xs, rfl, h1, h2⟩ := ry.tuple zh
      refine ⟨p, xs, rfl, .inr h1, flat_of (rx.toH zh) h.1, flats_of h2 h.2, ?_⟩
      rw [if_pos rfl, any_flat (rx.toH zh) h.1 (h2.mono zh) h.2]
      exact q _ (.bl _)
    · cases e
  | _ => cases e
/-- is None, is not None; is True .. -/
def isN : D → Bool
  | .none => true
  | _ => false
def gIsN (x y : D) : Option D := if isN y then some (.bool (isN x)) else none
def gNotN (x y : D) : Option D := if isN y then some (.bool (!isN x)) else none
theorem isN_rep {C : Ct} {Z H : Hp} {v : V} {d : D} (r : BRep C Z H v d) : decide (v = .non) = isN d := by
  cases r with
  | f r => cases r <;> simp [isN]
  | l => simp [isN]
  | k => simp [isN]
theorem of_isN {C : Ct} : Of2 C (fun x y H Q => y = .non ∧ Q (.bl (decide (x = .non))) H) gIsN := by
  intro Z H x y dx dy d Q rx ry zh e q
  cases dy with
  | none => cases e; exact ⟨ry.none, by rw [isN_rep rx]; exact q _ (.bl _)⟩
  | _ => cases e
theorem of_notN {C : Ct} : Of2 C (fun x y H Q => y = .non ∧ Q (.bl (!decide (x = .non))) H) gNotN := by
  intro Z H x y dx dy d Q rx ry zh e q
  cases dy with
  | none => cases e; exact ⟨ry.none, by rw [isN_rep rx]; exact q _ (.bl _)⟩
  | _ => cases e
def gIsB (x y : D) : Option D := match x, y with
  | .bool a, .bool b => some (.bool (a == b))
  | _, _ => none
def gNotB (x y : D) : Option D := match x, y with
  | .bool a, .bool b => some (.bool (!(a == b)))
  | _, _ => none
theorem of_isB {C : Ct} : Of2 C rIsB gIsB := by
  intro Z H x y dx dy d Q rx ry zh e q
  cases dx with
  | bool a =>
    cases dy with
    | bool b => cases e; exact ⟨a, b, rx.bool, ry.bool, q _ (by rw [← Bool.beq_eq_decide_eq]; exact .bl _)⟩
    | _ => cases e
  | _ => cases e
theorem of_notB {C : Ct} : Of2 C rNotB gNotB := by
  intro Z H x y dx dy d Q rx ry zh e q
  cases dx with
  | bool a =>
    cases dy with
    | bool b => cases e; exact ⟨a, b, rx.bool, ry.bool, q _ (by rw [← Bool.beq_eq_decide_eq]; exact .bl _)⟩
    | _ => cases e
  | _ => cases e
/-- xs[i], t[i] -/
theorem ixN_lt {n : Nat} {i : Int} {j : Nat} (h : ixN n i = some j) : j < n := (ixN_seq h).2.1
theorem atI_reps {C : Ct} {Z : Hp} {vs : List V} {ds : List D} (r : Reps C Z vs ds) {i : Int} {d : D} (h : atI ds i = some d) : ∃ v, atI vs i = some v ∧ Rep C Z v d := by
  unfold atI at h ⊢
  rw [r.length]
  cases e : ixN ds.length i with
  | none => rw [e] at h; cases h
  | some j => rw [e] at h; exact r.get h
def gIx (x y : D) : Option D := match x, y with
  | .list ds, .int i => atI ds i
  | .tuple ds, .int i => atI ds i
  | _, _ => none
theorem of_ix : Of2 (ctOf X) (rIx X.K) gIx := by
  intro Z H x y dx dy d Q rx ry zh e q
  cases dx with
  | list ds =>
    cases dy with
    | int i =>
      obtain ⟨p, xs, rfl, h1, h2⟩ := rx.list zh
      obtain ⟨v, h3, h4⟩ := atI_reps h2 (show atI ds i = some d from e)
      exact .inl ⟨p, xs, i, v, rfl, ry.int, h1, h3, q v h4⟩
    | _ => cases e
  | tuple ds =>
    cases dy with
    | int i =>
      obtain ⟨p, xs, rfl, h1, h2⟩ := rx.tuple zh
      obtain ⟨v, h3, h4⟩ := atI_reps h2 (show atI ds i = some d from e)
      exact .inr (.inl ⟨p, xs, i, v, rfl, ry.int, h1, h3, q v h4⟩)
    | _ => cases e
  | _ => cases e
variable {W : WX} {a b c : Expr} {oa ob oc : Opd} {fa fb fc : DM D} {pos : Pos}
theorem de_ix (ha : DO X W a oa) (hb : DO X W b ob) (hs : PlainIx b := by exact fun _ _ => rfl) : DE X W (.Subscript a b pos) (e2 gIx oa ob) :=
  pe_imp (pe_ix ix_seq ha hb hs) fun _ _ _ h => rD_op of_ix h

/-! ### displays -/
def eNil : DM (List D) := pureM []
def eCons (f : DM D) (g : DM (List D)) : DM (List D) := bindM f fun d => bindM g fun ds => pureM (d :: ds)
theorem dl_nil : DL X W [] eNil := pa_imp pa_nil fun σ H Q ⟨B, Z, as, s, I, h⟩ => After.pure h I [] .nil
theorem dl_cons {e : Expr} {es : List Expr} {g : DM (List D)} (ha : DE X W e fa) (hr : DL X W es g) (hs : starEach (e :: es) X.env = (false, eval e X.env) :: starEach es X.env := by rfl) : DL X W (e :: es) (eCons fa g) :=
  pa_imp (pa_cons ha hr hs) fun σ H Q ⟨B, Z, as, s, I, h⟩ => ⟨B, Z, as, s, I, (After.bind h).imp fun x s1 H1 Z1 as1 I1 E1 P1 h1 v rv =>
    ⟨B, Z1, as1, s1, I1, (After.bind h1).imp fun xs s2 H2 Z2 as2 I2 E2 P2 h2 vs rvs => After.pure h2 I2 (v :: vs) (.cons (rv.mono E2.same) rvs)⟩⟩
def eTup (g : DM (List D)) : DM D := bindM g fun ds => if decide (ds.length ≤ 1000) then pureM (.tuple ds) else badM
theorem small_line {n : Nat} (h : n ≤ 1000) : n ≤ sizeLine := Nat.le_trans h (by decide)
theorem de_tup {es : List Expr} {g : DM (List D)} {k} (h : DL X W es g) : DE X W (.Tuple es k pos) (eTup g) :=
  pe_imp (pe_tup h) fun σ H Q ⟨B, Z, as, s, I, h⟩ => ⟨B, Z, as, s, I, (After.bind h).imp fun ds s1 H1 Z1 as1 I1 E1 P1 h1 vs rvs => by
    split at h1
    · rename_i hz
      refine ⟨small_line (by rw [rvs.length]; simpa using hz), fun p np => ?_⟩
      obtain ⟨I3, E3, z3⟩ := I1.alloc (o := .tup vs) np
      exact h1 _ _ _ I3 E3 (List.prefix_refl _) _ (.tup (.inl (.inl z3)) (rvs.mono E3.same))
    · exact h1.elim⟩
/-- a new list, nobody's yet -/
def RVR (C : Ct) (B Z : Hp) (σ : St) (H : Hp) (as : List Addr) (s : S) (v : V) : RV → Prop
  | .d x => Rep C Z v x
  | .fl ds => ∃ p xs, v = .ref p ∧ Z p = none ∧ B p = none ∧ Free σ as s p ∧ H p = some (.lst xs) ∧ Reps C Z xs ds
  | .fd kvs => ∃ p, v = .ref p ∧ Z p = none ∧ B p = none ∧ Free σ as s p ∧ DicR C Z H p kvs
  | .cell g => ∃ p, v = .ref p ∧ as[g]? = some p
def rF (C : Ct) (W : WX) (f : DM RV) : TE := fun σ H Q => ∃ B Z as s, SR C B Z σ H as s ∧ After C W B Z as σ (fun r s' H' Z' as' => ∀ v, RVR C B Z' σ H' as' s' v r → Q v H') (f s)
/-- e is worth f: data, or a new list, a new dict, a cell -/
abbrev DF (X : Cx) (W : WX) (e : Expr) (f : DM RV) : Prop := PE X e (rF (ctOf X) W f)
def asRV (f : DM D) : DM RV := bindM f fun d => pureM (.d d)
theorem df_of (h : DE X W a fa) : DF X W a (asRV fa) := pe_imp h fun σ H Q ⟨B, Z, as, s, I, h⟩ => ⟨B, Z, as, s, I, (After.bind h).imp fun d s1 H1 Z1 as1 I1 E1 P1 h1 v rv => After.pure h1 I1 v rv⟩
/-- what is new is frozen -/
def frz : RV → Option D
  | .d x => some x
  | .fl ds => some (.list ds)
  | .fd kvs => some (.dict kvs)
  | .cell _ => none
def asD (f : DM RV) : DM D := bindM f fun r => liftO (frz r)
theorem frz_rep {C : Ct} {B Z H : Hp} {σ : St} {as : List Addr} {s : S} {v : V} {r : RV} {d : D} (I : SR C B Z σ H as s) (h : RVR C B Z σ H as s v r) (e : frz r = some d) : ∃ Z', SR C B Z' σ H as s ∧ Ext B Z Z' ∧ Rep C Z' v d := by
  cases r with
  | d x => cases e; exact ⟨Z, I, .refl, h⟩
  | fl ds =>
    cases e
    obtain ⟨p, xs, rfl, nz, nb, hf, hp, hr⟩ := h
    obtain ⟨I2, E2⟩ := I.freeze hp nz nb hf
    exact ⟨_, I2, E2, .lst (.inl (.inl upd_same)) (hr.mono E2.same)⟩
  | fd kvs =>
    cases e
    obtain ⟨p, rfl, nz, nb, hf, n, ⟨o, es, ep, h3, h4, h5, h6⟩, nd⟩ := h
    obtain ⟨I2, E2⟩ := I.freeze h3 nz nb hf
    exact ⟨_, I2, E2, .dic upd_same n h4 h5 (h6.mono E2.same) nd⟩
  | cell g => cases e
theorem de_of {f : DM RV} (h : DF X W a f) : DE X W a (asD f) := pe_imp h fun σ H Q ⟨B, Z, as, s, I, h⟩ => ⟨B, Z, as, s, I, (After.bind h).imp fun r s1 H1 Z1 as1 I1 E1 P1 h1 v rv => by
  cases e : frz r with
  | none => rw [e] at h1; exact h1.elim
  | some d =>
    rw [e] at h1
    obtain ⟨Z2, I2, E2, r2⟩ := frz_rep I1 rv e
    exact h1 _ _ _ I2 E2 (List.prefix_refl _) v r2⟩
def eLst (g : DM (List D)) : DM RV := bindM g fun ds => if decide (ds.length ≤ 1000) then pureM (.fl ds) else badM
theorem df_lst {es : List Expr} {g : DM (List D)} (h : DL X W es g) : DF X W (.List es pos) (eLst g) :=
  pe_imp (pe_lst h) fun σ H Q ⟨B, Z, as, s, I, h⟩ => ⟨B, Z, as, s, I, (After.bind h).imp fun ds s1 H1 Z1 as1 I1 E1 P1 h1 vs rvs => by
    split at h1
    · rename_i hz
      refine ⟨small_line (by rw [rvs.length]; simpa using hz), fun p np => ?_⟩
      exact h1 _ _ _ (I1.fresh np) .refl (List.prefix_refl _) _ ⟨p, vs, rfl, I1.zh.free np, I1.bh.free np, I1.free_new np, upd_same, rvs⟩
    · exact h1.elim⟩
end
end DL

/-! DL3: what a def is worth (spP), calls. -/
namespace DL
open PySem PySem.Spec PyProof.Rows L2

inductive PR where
  | ok (r : RV)
  | exc (c : Str)
  | bad
/-- what a pure def hands back: data over a greater frozen part, or a new list or dict -/
def PRR (C : Ct) (B Z H : Hp) (v : V) : RV → Prop
  | .d x => Rep C Z v x
  | .fl ds => ∃ p xs, v = .ref p ∧ Z p = none ∧ B p = none ∧ H p = some (.lst xs) ∧ Reps C Z xs ds
  | .fd kvs => ∃ p, v = .ref p ∧ Z p = none ∧ B p = none ∧ DicR C Z H p kvs
  | .cell _ => False
def spP (C : Ct) (G : List D → PR) : Sp := fun vs H Q E => ∃ B Z ds, Same B H ∧ Same Z H ∧ Reps C Z vs ds ∧
  match G ds with
  | .ok r => ∀ v H' Z', Same B H' → Same Z' H' → Ext B Z Z' → PRR C B Z' H' v r → Q v H'
  | .exc c => ∀ Ca H', C.mg c = some (.ref Ca) → Same B H' → E (.ref Ca) none H'
  | .bad => False

/-- a context in which code runs: exceptions are taken as W says, level k -/
structure Bd (X : Cx) (W : WX) (k : Nat) : Prop where
  tk : Takes X W
  po : PassesOwn (model X.prog X.w) X.A X.env X.xe
  hr : Room k X.A
  calm : X.calm = true
/-- the module's def x is worth G, at level k -/
structure FnP (P : Program) (w : World) (K : PySem.W.Frag) (mg : Str → Option Value) (base : Heap) (x : Str) (k : Nat) (G : List D → PR) : Prop where
  ex : ∃ (f : Addr) (fd : FuncData) (ps : List Str), FnOk P w K mg base (L2.CX P w) k f fd ps (spP ⟨w, K, mg⟩ G) ∧ mg x = some (.ref f) ∧ PySem.W.keepIn K (.ref f) = true ∧ Binds K fd ps []

def callF (G : List D → PR) (g : DM (List D)) : DM RV := bindM g fun ds => fun s =>
  match G ds with
  | .ok r => .ok r s
  | .exc c => .exc c s
  | .bad => .bad

section
variable {C : Ct} {W : WX} {B Z Z' H H' : Hp} {σ : St} {as : List Addr} {s : S}
theorem PRR.rvr {v : V} {r : RV} (I : SR C B Z σ H as s) (h : PRR C H Z' H' v r) : RVR C B Z' σ H' as s v r := by
  cases r with
  | d x => exact h
  | fl ds =>
    obtain ⟨p, xs, rfl, h1, h2, h3, h4⟩ := h
    exact ⟨p, xs, rfl, h1, I.bh.free h2, I.free_new h2, h3, h4⟩
  | fd kvs =>
    obtain ⟨p, rfl, h1, h2, h3⟩ := h
    exact ⟨p, rfl, h1, I.bh.free h2, I.free_new h2, h3⟩
  | cell g => exact h.elim
/-- behind a pure call -/
theorem SR.behind (I : SR C B Z σ H as s) (hs : Same H H') (zh : Same Z' H') (e : Ext H Z Z') : SR C B Z' σ H' as s ∧ Ext B Z Z' := by
  refine ⟨I.grow e.same zh (fun b o q => hs b o (I.bh b o q)) (fun i p sl e1 e2 hw => ?_) (fun a ha => ?_), ⟨e.same, fun a o q => (e.new a o q).imp id fun q => I.bh.free q⟩⟩
  · obtain ⟨q1, o, q2⟩ := I.ownH e1 e2 hw
    refine ⟨?_, ?_⟩
    · cases q : Z' p with
      | none => rfl
      | some u =>
        rcases e.new p u q with z | z
        · rw [q1] at z; cases z
        · rw [q2] at z; cases z
    · rw [q2]; exact hs p o q2
  · obtain ⟨o, q2⟩ := I.cellH ha
    refine ⟨?_, ?_⟩
    · cases q : Z' a with
      | none => rfl
      | some u =>
        rcases e.new a u q with z | z
        · rw [(I.asb a ha).2] at z; cases z
        · rw [q2] at z; cases z
    · rw [q2]; exact hs a o q2
/-- a pure def is called with frozen data -/
theorem sp_call {G : List D → PR} {vs : List V} {ds : List D} {Q : VK} (I : SR C B Z σ H as s) (r : Reps C Z vs ds)
    (h : After C W B Z as σ (fun r s' H' Z' as' => ∀ v, RVR C B Z' σ H' as' s' v r → Q v H') ((match G ds with
      | .ok r => .ok r s
      | .exc c => .exc c s
      | .bad => .bad : R RV))) : spP C G vs H Q (WE W σ) := by
  refine ⟨H, Z, ds, Same.refl H, I.zh, r, ?_⟩
  cases e : G ds with
  | bad => rw [e] at h; exact h
  | exc c =>
    rw [e] at h
    intro Ca H' hc hs
    obtain ⟨I2, E2⟩ := I.behind hs (fun b o q => hs b o (I.zh b o q)) .refl
    exact h Ca H' Z as hc I2 E2 (List.prefix_refl _)
  | ok r =>
    rw [e] at h
    intro v H' Z' hs zh ee hr
    obtain ⟨I2, E2⟩ := I.behind hs zh ee
    exact h H' Z' as I2 E2 (List.prefix_refl _) v (hr.rvr I)
end

section
variable {X : Cx} {W : WX} {k k' : Nat} {G : List D → PR} {x : Str} {p pos : Pos} {e : Expr} {es : List Expr}
theorem pe_callS0 {CX : CXT} {f : Addr} {fd : FuncData} {ps : List Str} {sp : Sp} {E : St → XK} (F : FnOk X.prog X.w X.K X.mg X.base CX k f fd ps sp) (hr : Room k X.A) (hg : Gl X x) (hm : X.mg x = some (.ref f)) (hk : PySem.W.keepIn X.K (.ref f) = true) (hb : Binds X.K fd ps []) (hx : ∀ σ, PassesAt CX X σ (E σ))
    (hdb : (x == ("__debug__" : Str)) = false := by decide) : PE X (.Call (.Name x p) [] [] pos) (tCallS sp E tNil) := by
  refine ⟨fun pins s σ H Q I h => ?_⟩
  refine wpAny_Call_Name_kw (ld_glob I hg hm ?_ hdb)
  exact PySem.W.callWith_K0 I.kIn hk (run_fnS (us := []) F hr hb (hx σ) I .nil h)
/-- f(e, ..): the arguments are frozen -/
theorem df_call {g : DM (List D)} (b : Bd X W k) (F : FnP X.prog X.w X.K X.mg X.base x k' G) (ha : DL X W (e :: es) g) (hk : k' ≤ k := by decide) (hg : Gl X x := by rfl)
    (hdb : (x == ("__debug__" : Str)) = false := by decide) (he : starEach (e :: es) X.env = (false, eval e X.env) :: starEach es X.env := by rfl) (hpl : (backTo pos (starEach es X.env)).any (·.1) = false := by rfl) :
    DF X W (.Call (.Name x p) (e :: es) [] pos) (callF G g) := by
  obtain ⟨f, fd, ps, F1, F2, F3, F4⟩ := F.ex
  refine pe_imp (pe_callS F1 (b.hr.mono hk) hg F2 F3 F4 (fun σ => passAt b.tk σ) ha hdb he hpl) fun σ H Q ⟨B, Z, as, s, I, h⟩ => ?_
  exact ⟨B, Z, as, s, I, (After.bind h).imp fun ds s1 H1 Z1 as1 I1 E1 P1 h1 vs rvs => sp_call I1 rvs h1⟩
theorem df_call0 (b : Bd X W k) (F : FnP X.prog X.w X.K X.mg X.base x k' G) (hk : k' ≤ k := by decide) (hg : Gl X x := by rfl)
    (hdb : (x == ("__debug__" : Str)) = false := by decide) : DF X W (.Call (.Name x p) [] [] pos) (callF G eNil) := by
  obtain ⟨f, fd, ps, F1, F2, F3, F4⟩ := F.ex
  refine pe_imp (pe_callS0 F1 (b.hr.mono hk) hg F2 F3 F4 (fun σ => passAt b.tk σ) hdb) fun σ H Q ⟨B, Z, as, s, I, h⟩ => ?_
  exact sp_call I .nil (After.pure (After.bind h) I)
end

/-! ### a call that only looks at what is owned: the answer is plain -/
inductive Opds where
  | nil
  | cons (o : Opd) (r : Opds)
def evOs : Opds → DM (List Ov)
  | .nil => pureM []
  | .cons o r => bindM (evO o) fun x => bindM (evOs r) fun xs => pureM (x :: xs)
def ress (s : S) : List Ov → Option (List D)
  | [] => some []
  | x :: xs => (res s x).bind fun d => (ress s xs).bind fun ds => some (d :: ds)
def rOs (C : Ct) (W : WX) : Opds → TA
  | .nil => tNil
  | .cons o r => tCons (rO C W o) (rOs C W r)
abbrev DOs (X : Cx) (W : WX) (es : List Expr) (os : Opds) : Prop := PA X es (rOs (ctOf X) W os)
def plainR : RV → Bool
  | .d x => plain x
  | .fl ds => plains ds
  | _ => false
def callB (G : List D → PR) (os : Opds) : DM RV := bindM (evOs os) fun xs => fun s =>
  match ress s xs with
  | none => .bad
  | some ds =>
    match G ds with
    | .ok r => if plainR r then .ok r s else .bad
    | .exc c => .exc c s
    | .bad => .bad
section
variable {C : Ct} {W : WX} {B Z Z' H H' : Hp} {σ : St} {as : List Addr} {s : S}
def OvRs (C : Ct) (Z : Hp) (σ : St) (as : List Addr) : List V → List Ov → Prop := Paired fun v o => OvR C Z σ as v o
theorem OvRs.mono {as' : List Addr} (hz : Same Z Z') (hp : as <+: as') {vs : List V} {xs : List Ov} (h : OvRs C Z σ as vs xs) : OvRs C Z' σ as' vs xs := paired_imp h fun _ _ _ _ _ q => q.mono hz hp
theorem rOs_ev : ∀ {os : Opds} {Z : Hp} {H : Hp} {as : List Addr} {s : S} {good : List Ov → S → Hp → Hp → List Addr → Prop}, SR C B Z σ H as s → After C W B Z as σ good (evOs os s) →
    rOs C W os σ H fun vs H1 => ∃ Z1 as1 s1 xs, SR C B Z1 σ H1 as1 s1 ∧ Ext B Z Z1 ∧ as <+: as1 ∧ OvRs C Z1 σ as1 vs xs ∧ good xs s1 H1 Z1 as1
  | .nil, Z, H, as, s, good, I, h => ⟨Z, as, s, [], I, .refl, List.prefix_refl _, .nil, After.pure h I⟩
  | .cons o r, Z, H, as, s, good, I, h => by
    refine rO_mono (rO_ev I (After.bind h)) fun v H1 ⟨Z1, as1, s1, x, I1, E1, P1, rx, h1⟩ => ?_
    have q := rOs_ev (os := r) I1 (After.bind h1)
    refine (show ∀ {os : Opds} {H : Hp} {A A' : List V → Hp → Prop}, rOs C W os σ H A → (∀ vs H, A vs H → A' vs H) → rOs C W os σ H A' from ?_) q fun vs H2 ⟨Z2, as2, s2, xs, I2, E2, P2, rx2, h2⟩ => ?_
    · intro os
      induction os with
      | nil => exact fun h w => w _ _ h
      | cons o r ih => exact fun h w => rO_mono h fun v H h => ih h fun vs H h => w _ _ h
    · exact ⟨Z2, as2, s2, x :: xs, I2, E1.trans E2, P1.trans P2, .cons (rx.mono E2.same P2) rx2, After.pure h2 I2⟩
end
mutual
theorem rep_plain {C : Ct} {Z Z' : Hp} (ht : ∀ a xs, Rd Z a (.tup xs) → Rd Z' a (.tup xs)) : ∀ {v : V} {d : D}, Rep C Z v d → plain d = true → Rep C Z' v d
  | _, _, .non, _ => .non
  | _, _, .bl b, _ => .bl b
  | _, _, .int i, _ => .int i
  | _, _, .str x, _ => .str x
  | _, _, .lst _ _, e => by rw [plain] at e; cases e
  | _, _, .tup h r, e => by
    rw [plain] at e
    exact .tup (h.imp (ht _ _) id) (reps_plain ht r e)
  | _, _, .dic _ _ _ _ _ _, e => by rw [plain] at e; cases e
theorem reps_plain {C : Ct} {Z Z' : Hp} (ht : ∀ a xs, Rd Z a (.tup xs) → Rd Z' a (.tup xs)) : ∀ {vs : List V} {ds : List D}, Reps C Z vs ds → plains ds = true → Reps C Z' vs ds
  | _, _, .nil, _ => .nil
  | _, _, .cons r t, e => by
    rw [plains, Bool.and_eq_true] at e
    exact .cons (rep_plain ht r e.1) (reps_plain ht t e.2)
end
section
open Classical
variable {C : Ct} {W : WX} {B Z Z' H H' : Hp} {σ : St} {as : List Addr} {s : S}
/-- the whole objects that are looked at -/
def Lent (Z H : Hp) (a : Addr) : Prop := Z a = none ∧ ∃ o, H a = some o ∧ ∀ xs, o ≠ .tup xs ∧ ∀ ob : Obj, o ≠ .frz ob (.tup xs)
noncomputable def withLent (Z H : Hp) : Hp := fun a => if Lent Z H a then H a else Z a
theorem lent_same (zh : Same Z H) : Same Z (withLent Z H) ∧ Same (withLent Z H) H := by
  refine ⟨fun a o e => ?_, fun a o e => ?_⟩
  · unfold withLent
    rw [if_neg (fun h => by rw [h.1] at e; cases e)]; exact e
  · unfold withLent at e
    split at e
    · exact e
    · exact zh a o e
theorem bRep_lent (zh : Same Z H) {v : V} {d : D} (h : BRep C Z H v d) : Rep C (withLent Z H) v d := by
  obtain ⟨s1, s2⟩ := lent_same zh
  have key : ∀ {p : Addr} {o : HO}, H p = some o → (∀ xs, o ≠ .tup xs ∧ ∀ ob : Obj, o ≠ .frz ob (.tup xs)) → withLent Z H p = some o := fun {p o} hp hn => by
    unfold withLent
    split
    · exact hp
    · rename_i hl
      cases q : Z p with
      | none => exact absurd ⟨q, o, hp, hn⟩ hl
      | some u => rw [← hp]; exact (zh p u q).symm
  cases h with
  | f h => exact h.mono s1
  | l h r => exact .lst (.inl (.inl (key h fun xs => ⟨(by intro z; cases z), (by intro ob z; cases z)⟩))) (r.mono s1)
  | k h =>
    obtain ⟨n, ⟨o, es, ep, h1, h2, h3, h4⟩, nd⟩ := h
    exact .dic (key h1 fun xs => ⟨(by intro z; cases z), (by intro ob z; cases z)⟩) n h2 h3 (h4.mono s1) nd
/-- what was lent comes back -/
noncomputable def unLent (Z H Z' : Hp) : Hp := fun a => if Z a ≠ none ∨ H a = none then Z' a else none
theorem ovs_rep (I : SR C B Z σ H as s) : ∀ {vs : List V} {xs : List Ov} {ds : List D}, OvRs C Z σ as vs xs → ress s xs = some ds → Reps C (withLent Z H) vs ds
  | _, _, ds, .nil, e => by cases e; exact .nil
  | _, x :: xs, ds, .cons r t, e => by
    unfold ress at e
    cases e1 : res s x with
    | none => rw [e1] at e; cases e
    | some d =>
      rw [e1] at e
      cases e2 : ress s xs with
      | none => rw [e2] at e; cases e
      | some ds' =>
        rw [e2] at e
        cases e
        exact .cons (bRep_lent I.zh (res_rep I r e1)) (ovs_rep I t e2)
theorem sp_callB {G : List D → PR} {vs : List V} {xs : List Ov} {Q : VK} (I : SR C B Z σ H as s) (r : OvRs C Z σ as vs xs)
    (h : After C W B Z as σ (fun r s' H' Z' as' => ∀ v, RVR C B Z' σ H' as' s' v r → Q v H') ((match ress s xs with
      | none => .bad
      | some ds =>
        match G ds with
        | .ok r => if plainR r then .ok r s else .bad
        | .exc c => .exc c s
        | .bad => .bad : R RV))) : spP C G vs H Q (WE W σ) := by
  cases e0 : ress s xs with
  | none => rw [e0] at h; exact h.elim
  | some ds =>
    rw [e0] at h
    dsimp only at h
    obtain ⟨z1, z2⟩ := lent_same I.zh
    refine ⟨H, withLent Z H, ds, Same.refl H, z2, ovs_rep I r e0, ?_⟩
    cases e : G ds with
    | bad => rw [e] at h; exact h
    | exc c =>
      rw [e] at h
      intro Ca H' hc hs
      obtain ⟨I2, E2⟩ := I.behind hs (fun b o q => hs b o (I.zh b o q)) .refl
      exact h Ca H' Z as hc I2 E2 (List.prefix_refl _)
    | ok r =>
      rw [e] at h
      dsimp only at h
      split at h
      rotate_left
      · exact h.elim
      rename_i hp
      intro v H' Z' hs zh ee hr
      have sZ : Same Z (unLent Z H Z') := fun a o q => by
        unfold unLent
        rw [if_pos (.inl (by rw [q]; intro z; cases z))]
        exact ee.same a o (z1 a o q)
      have uZ : Same (unLent Z H Z') Z' := fun a o q => by
        unfold unLent at q
        split at q
        · exact q
        · cases q
      obtain ⟨I2, E2⟩ := I.behind (Z' := unLent Z H Z') hs (fun a o q => zh a o (uZ a o q)) ⟨sZ, fun a o q => by
        unfold unLent at q
        split at q
        · rename_i hc
          rcases hc with hc | hc
          · left
            cases q2 : Z a with
            | none => exact absurd q2 hc
            | some u => have q3 := ee.same a u (z1 a u q2); rw [q] at q3; exact q3.symm ▸ rfl
          · exact .inr hc
        · cases q⟩
      have ht : ∀ a xs, Rd Z' a (.tup xs) → Rd (unLent Z H Z') a (.tup xs) := by
        have key : ∀ a o, Z' a = some o → (∃ xs, o = .tup xs ∨ ∃ ob, o = .frz ob (.tup xs)) → unLent Z H Z' a = some o := fun a o q ho => by
          unfold unLent
          rw [if_pos ?_]
          · exact q
          · rcases ee.new a o q with z | z
            · unfold withLent at z
              split at z
              · rename_i hl
                obtain ⟨_, o', h1, h2⟩ := hl
                rw [z] at h1; cases h1
                obtain ⟨xs, ho | ⟨ob, ho⟩⟩ := ho
                · exact absurd ho (h2 xs).1
                · exact absurd ho ((h2 xs).2 ob)
              · exact .inl (by rw [z]; intro q; cases q)
            · exact .inr z
        intro a xs q
        rcases q with q | ⟨ob, q⟩
        · exact .inl (key a _ q ⟨xs, .inl rfl⟩)
        · exact .inr ⟨ob, key a _ q ⟨xs, .inr ⟨ob, rfl⟩⟩⟩
      refine h H' _ as I2 E2 (List.prefix_refl _) v ?_
      cases r with
      | d x => exact rep_plain ht hr hp
      | fl dd =>
        obtain ⟨p, xs, rfl, h1, h2, h3, h4⟩ := hr
        refine ⟨p, xs, rfl, ?_, I.bh.free h2, I.free_new h2, h3, reps_plain ht h4 hp⟩
        unfold unLent; split
        · exact h1
        · rfl
      | fd kvs => cases hp
      | cell g => cases hp
end
section
variable {X : Cx} {W : WX} {k k' : Nat} {G : List D → PR} {x : Str} {p pos : Pos} {e : Expr} {es : List Expr} {o : Opd} {os : Opds}
theorem dos_nil : DOs X W [] .nil := pa_nil
theorem dos_cons (ha : DO X W e o) (hr : DOs X W es os) (hs : starEach (e :: es) X.env = (false, eval e X.env) :: starEach es X.env := by rfl) : DOs X W (e :: es) (.cons o os) := pa_cons ha hr hs
theorem df_callB (b : Bd X W k) (F : FnP X.prog X.w X.K X.mg X.base x k' G) (ha : DOs X W (e :: es) os) (hk : k' ≤ k := by decide) (hg : Gl X x := by rfl)
    (hdb : (x == ("__debug__" : Str)) = false := by decide) (he : starEach (e :: es) X.env = (false, eval e X.env) :: starEach es X.env := by rfl) (hpl : (backTo pos (starEach es X.env)).any (·.1) = false := by rfl) :
    DF X W (.Call (.Name x p) (e :: es) [] pos) (callB G os) := by
  obtain ⟨f, fd, ps, F1, F2, F3, F4⟩ := F.ex
  refine pe_imp (pe_callS F1 (b.hr.mono hk) hg F2 F3 F4 (fun σ => passAt b.tk σ) ha hdb he hpl) fun σ H Q ⟨B, Z, as, s, I, h⟩ => ?_
  refine (show ∀ {os : Opds} {H : Hp} {A A' : List V → Hp → Prop}, rOs (ctOf X) W os σ H A → (∀ vs H, A vs H → A' vs H) → rOs (ctOf X) W os σ H A' from ?_) (rOs_ev I (After.bind h)) fun vs H1 ⟨Z1, as1, s1, xs, I1, E1, P1, rx, h1⟩ => sp_callB I1 rx h1
  intro os
  induction os with
  | nil => exact fun h w => w _ _ h
  | cons o r ih => exact fun h w => rO_mono h fun v H h => ih h fun vs H h => w _ _ h
end
end DL

/-! DL4: statements over data. -/
namespace DL
open PySem PySem.Spec PyProof.Rows L2

def AfterS (C : Ct) (W : WX) (B Z : Hp) (as : List Addr) (D : Ends) : R Fl → Prop
  | .ok .nx s' => ∀ σ' H' Z' as', SR C B Z' σ' H' as' s' → Ext B Z Z' → as <+: as' → D.nx σ' H'
  | .ok .bk s' => ∀ σ' H' Z' as', SR C B Z' σ' H' as' s' → Ext B Z Z' → as <+: as' → D.bk σ' H'
  | .ok .ct s' => ∀ σ' H' Z' as', SR C B Z' σ' H' as' s' → Ext B Z Z' → as <+: as' → D.ct σ' H'
  | .ok (.rt r) s' => ∀ v σ' H' Z' as', SR C B Z' σ' H' as' s' → Ext B Z Z' → as <+: as' → RVR C B Z' σ' H' as' s' v r → D.rt v H'
  | .exc c s' => ∀ Ca σ' H' Z' as', C.mg c = some (.ref Ca) → SR C B Z' σ' H' as' s' → Ext B Z Z' → as <+: as' → W (.ref Ca) none σ' H'
  | .bad => False
def rS (C : Ct) (W : WX) (f : DM Fl) : TS := fun D σ H => ∃ B Z as s, SR C B Z σ H as s ∧ AfterS C W B Z as D (f s)
abbrev DS (X : Cx) (W : WX) (st : Stmt) (f : DM Fl) : Prop := PS X st (rS (ctOf X) W f)
abbrev DSs (X : Cx) (W : WX) (st : List Stmt) (f : DM Fl) : Prop := PSs X st (rS (ctOf X) W f)

theorem ps_imp {X : Cx} {e : Stmt} {t t' : TS} (h : PS X e t) (w : ∀ D σ H, t' D σ H → t D σ H) : PS X e t' := ⟨fun pins s σ H D I q => h.run pins s σ H D I (w D σ H q)⟩
theorem pss_imp {X : Cx} {e : List Stmt} {t t' : TS} (h : PSs X e t) (w : ∀ D σ H, t' D σ H → t D σ H) : PSs X e t' := ⟨fun pins s σ H D I q => h.run pins s σ H D I (w D σ H q)⟩
theorem pg_imp {X : Cx} {e : Expr} {t t' : TG} (h : PG X e t) (w : ∀ v σ H Q, t' v σ H Q → t v σ H Q) : PG X e t' := ⟨fun pins s σ H v u Q I r q => h.run pins s σ H v u Q I r (w v σ H Q q)⟩

def seqM (f g : DM Fl) : DM Fl := fun s =>
  match f s with
  | .ok .nx s' => g s'
  | r => r
section
variable {C : Ct} {W : WX} {B Z Z1 : Hp} {as as1 : List Addr} {D : Ends} {σ : St} {H : Hp}
theorem AfterS.later {r : R Fl} (h : AfterS C W B Z as D r) (E1 : Ext B Z Z1) (P1 : as <+: as1) : AfterS C W B Z1 as1 D r := by
  cases r with
  | bad => exact h
  | exc c s => exact fun Ca σ' H' Z' as' hc I E P => h Ca σ' H' Z' as' hc I (E1.trans E) (P1.trans P)
  | ok f s =>
    cases f with
    | nx => exact fun σ' H' Z' as' I E P => h σ' H' Z' as' I (E1.trans E) (P1.trans P)
    | bk => exact fun σ' H' Z' as' I E P => h σ' H' Z' as' I (E1.trans E) (P1.trans P)
    | ct => exact fun σ' H' Z' as' I E P => h σ' H' Z' as' I (E1.trans E) (P1.trans P)
    | rt r => exact fun v σ' H' Z' as' I E P => h v σ' H' Z' as' I (E1.trans E) (P1.trans P)
/-- an expression ahead of a statement's rest -/
theorem AfterS.bind {α : Type} {m : DM α} {k : α → DM Fl} {s : S} (h : AfterS C W B Z as D (bindM m k s)) :
    After C W B Z as σ (fun a s1 _ Z1 as1 => AfterS C W B Z1 as1 D (k a s1)) (m s) := by
  unfold bindM at h
  cases e : m s with
  | bad => rw [e] at h; exact h
  | exc c s' => rw [e] at h; exact fun Ca H' Z' as' hc I E P => h Ca σ H' Z' as' hc I E P
  | ok a s1 => rw [e] at h; exact fun H1 Z1 as1 I1 E1 P1 => AfterS.later h E1 P1
theorem AfterS.seq {f g : DM Fl} {s : S} (h : AfterS C W B Z as D (seqM f g s)) : AfterS C W B Z as { D with nx := rS C W g D } (f s) := by
  unfold seqM at h
  cases e : f s with
  | bad => rw [e] at h; exact h
  | exc c s' => rw [e] at h; exact h
  | ok fl s1 =>
    rw [e] at h
    cases fl with
    | nx => exact fun σ' H' Z' as' I E P => ⟨B, Z', as', s1, I, AfterS.later h E P⟩
    | bk => exact h
    | ct => exact h
    | rt r => exact h
end
section
variable {X : Cx} {W : WX} {st : Stmt} {rest : List Stmt} {f g : DM Fl} {e : Expr} {fe : DM RV} {pos : Pos} {k : Nat}
theorem dss_nil : DSs X W [] (pureM .nx) := pss_imp pss_nil fun D σ H ⟨B, Z, as, s, I, h⟩ => h σ H Z as I .refl (List.prefix_refl _)
theorem dss_one (h : DS X W st f) : DSs X W [st] f := pss_one h
theorem dss_cons (h1 : DS X W st f) (h2 : DSs X W rest g) : DSs X W (st :: rest) (seqM f g) := pss_imp (pss_cons h1 h2) fun D σ H ⟨B, Z, as, s, I, h⟩ => ⟨B, Z, as, s, I, AfterS.seq h⟩
theorem ds_pass : DS X W (.Pass pos) (pureM .nx) := ps_imp ps_pass fun D σ H ⟨B, Z, as, s, I, h⟩ => h σ H Z as I .refl (List.prefix_refl _)
theorem ds_break : DS X W (.Break pos) (pureM .bk) := ps_imp ps_break fun D σ H ⟨B, Z, as, s, I, h⟩ => h σ H Z as I .refl (List.prefix_refl _)
theorem ds_continue : DS X W (.Continue pos) (pureM .ct) := ps_imp ps_continue fun D σ H ⟨B, Z, as, s, I, h⟩ => h σ H Z as I .refl (List.prefix_refl _)
def sRet (f : DM RV) : DM Fl := bindM f fun r => pureM (.rt r)
theorem ds_ret (h : DF X W e fe) : DS X W (.Return (some e) pos) (sRet fe) := ps_imp (ps_ret h) fun D σ H ⟨B, Z, as, s, I, h⟩ =>
  ⟨B, Z, as, s, I, (AfterS.bind h).imp fun r s1 H1 Z1 as1 I1 E1 P1 h1 v rv => h1 v σ H1 Z1 as1 I1 .refl (List.prefix_refl _) rv⟩
theorem ds_retN : DS X W (.Return none pos) (pureM (.rt (.d .none))) := ps_imp ps_retN fun D σ H ⟨B, Z, as, s, I, h⟩ => h .non σ H Z as I .refl (List.prefix_refl _) .non
/-- a name handed on: what it owns goes along -/
def fVar (i : Nat) : DM RV := fun s =>
  match s.env[i]? with
  | some (.v d) => .ok (.d d) s
  | some (.ol ds) => .ok (.fl ds) { s with env := s.env.set i .un }
  | some (.od kvs) => .ok (.fd kvs) { s with env := s.env.set i .un }
  | some (.cell g) => .ok (.cell g) s
  | _ => .bad
theorem disown_free {C : Ct} {B Z H : Hp} {σ : St} {as : List Addr} {s : S} (I : SR C B Z σ H as s) {i : Nat} {p : Addr} {sl : Sl} (e1 : σ[i]? = some (some (.ref p))) (e2 : s.env[i]? = some sl) (hw : sl.own = true) : Free σ as { s with env := s.env.set i .un } p := by
  refine ⟨(I.own i p sl e1 e2 hw).2, fun j sl' f1 f2 => ?_⟩
  have hi : i < s.env.length := (List.getElem?_eq_some_iff.mp e2).1
  by_cases hj : i = j
  · subst hj
    dsimp only at f2
    rw [List.getElem?_set_self hi] at f2; cases f2; rfl
  · dsimp only at f2
    rw [List.getElem?_set_ne hj] at f2; exact I.dis i j p sl sl' hj e1 f1 e2 f2 hw
theorem df_name (i : Nat) {x : Str} (hN : X.N[i]? = some x := by rfl) (hv : Vis X.env.scope x := by first | exact Or.inl rfl | exact Or.inr (Or.inl rfl) | exact Or.inr (Or.inr rfl)) (hd : (x == ("__debug__" : Str)) = false := by decide)
    (hcd : (x == ("__classdict__" : Str)) = false := by decide) : DF X W (.Name x pos) (fVar i) := pe_imp (pe_var hN hv hd hcd) fun σ H Q ⟨B, Z, as, s, I, h⟩ => by
  unfold fVar at h
  cases e : s.env[i]? with
  | none => rw [e] at h; exact h.elim
  | some sl =>
    rw [e] at h
    obtain ⟨o, h1, h2⟩ := paired_get I.env e
    cases sl with
    | un => exact h.elim
    | v d =>
      cases o with
      | none => exact h2.elim
      | some v => exact ⟨v, h1, h _ _ _ I .refl (List.prefix_refl _) v h2⟩
    | cell g =>
      cases o with
      | none => exact h2.elim
      | some v =>
        cases v with
        | ref p => exact ⟨_, h1, h _ _ _ I .refl (List.prefix_refl _) _ ⟨p, rfl, h2⟩⟩
        | _ => exact h2.elim
    | ol ds =>
      cases o with
      | none => exact h2.elim
      | some v =>
        cases v with
        | ref p =>
          obtain ⟨nz, xs, h3, h4⟩ := h2
          have I1 := I.slot i .un (fun o _ => by cases o <;> trivial) rfl
          exact ⟨_, h1, h _ _ _ I1 .refl (List.prefix_refl _) _ ⟨p, xs, rfl, nz, (I.own i p _ h1 e rfl).1, disown_free I h1 e rfl, h3, h4⟩⟩
        | _ => exact h2.elim
    | od kvs =>
      cases o with
      | none => exact h2.elim
      | some v =>
        cases v with
        | ref p =>
          obtain ⟨nz, h3⟩ := h2
          have I1 := I.slot i .un (fun o _ => by cases o <;> trivial) rfl
          exact ⟨_, h1, h _ _ _ I1 .refl (List.prefix_refl _) _ ⟨p, rfl, nz, (I.own i p _ h1 e rfl).1, disown_free I h1 e rfl, h3⟩⟩
        | _ => exact h2.elim
/-- a result is stored -/
def slOf : RV → Sl
  | .d x => .v x
  | .fl ds => .ol ds
  | .fd kvs => .od kvs
  | .cell g => .cell g
def setSl (i : Nat) (sl : Sl) (s : S) : S := { s with env := s.env.set i sl }
theorem rvr_sl {C : Ct} {B Z H : Hp} {σ : St} {as : List Addr} {s : S} {v : V} {r : RV} (h : RVR C B Z σ H as s v r) : SlR C Z H as (some v) (slOf r) ∧ ((slOf r).own = true → ∃ p, v = .ref p ∧ B p = none ∧ Free σ as s p) := by
  cases r with
  | d x => exact ⟨h, fun z => nomatch z⟩
  | fl ds => obtain ⟨p, xs, rfl, h1, h2, h3, h4, h5⟩ := h; exact ⟨⟨h1, xs, h4, h5⟩, fun _ => ⟨p, rfl, h2, h3⟩⟩
  | fd kvs => obtain ⟨p, rfl, h1, h2, h3, h4⟩ := h; exact ⟨⟨h1, h4⟩, fun _ => ⟨p, rfl, h2, h3⟩⟩
  | cell g => obtain ⟨p, rfl, h1⟩ := h; exact ⟨h1, fun z => nomatch z⟩
def sSet (i : Nat) (f : DM RV) : DM Fl := bindM f fun r => fun s => .ok .nx (setSl i (slOf r) s)
theorem ds_set (i : Nat) {x : Str} {pos' : Pos} (hN : X.N.Nodup) (he : DF X W e fe) (hi : X.N[i]? = some x := by rfl) (hx : Loc X.env.scope x := by first | exact Or.inl rfl | exact Or.inr rfl) (hs : swapsWith e (some (.Name x pos')) pos.line X.env = pure false := by rfl) (hf : X.fn x = true ∨ X.env.scope.names.lookup x = some .local := by first | exact .inl rfl | exact .inr rfl) :
    DS X W (.Assign [.Name x pos'] e pos) (sSet i fe) := ps_imp (ps_set hN hi hx he hs hf) fun D σ H ⟨B, Z, as, s, I, h⟩ =>
  ⟨B, Z, as, s, I, (AfterS.bind h).imp fun r s1 H1 Z1 as1 I1 E1 P1 h1 v rv => by
    obtain ⟨q1, q2⟩ := rvr_sl rv
    exact h1 _ _ _ _ (I1.store q1 q2) .refl (List.prefix_refl _)⟩
/-- an expression whose value is dropped -/
def sDrop (f : DM RV) : DM Fl := bindM f fun _ => pureM .nx
theorem ds_expr (he : DF X W e fe) (hs : swapsWith e none pos.line X.env = pure false := by rfl) : DS X W (.Expr e pos) (sDrop fe) := ps_imp (ps_expr he hs) fun D σ H ⟨B, Z, as, s, I, h⟩ =>
  ⟨B, Z, as, s, I, (AfterS.bind h).imp fun r s1 H1 Z1 as1 I1 E1 P1 h1 v rv => h1 σ H1 Z1 as1 I1 .refl (List.prefix_refl _)⟩
def sIf (c : DM Bool) (f g : DM Fl) : DM Fl := bindM c fun b => if b then f else g
theorem ds_if {c : Expr} {a b : List Stmt} {fc : DM Bool} (hc : DT X W c fc) (ha : DSs X W a f) (hb : DSs X W b g) : DS X W (.If c a b pos) (sIf fc f g) := ps_imp (ps_if hc ha hb) fun D σ H ⟨B, Z, as, s, I, h⟩ =>
  ⟨B, Z, as, s, I, (AfterS.bind h).imp fun b s1 H1 Z1 as1 I1 E1 P1 h1 => by
    cases b with
    | true => rw [if_pos rfl]; exact ⟨B, Z1, as1, s1, I1, h1⟩
    | false => rw [if_neg Bool.false_ne_true]; exact ⟨B, Z1, as1, s1, I1, h1⟩⟩

/-! ### loops -/
def killS (ks : List Nat) (s : S) : S := { s with env := ks.foldl (fun l i => l.set i .un) s.env }
theorem SR.kill {C : Ct} {B Z H : Hp} {σ : St} {as : List Addr} {s : S} (I : SR C B Z σ H as s) : ∀ ks : List Nat, SR C B Z σ H as (killS ks s) := by
  intro ks
  induction ks generalizing s with
  | nil => exact I
  | cons i ks ih => exact ih (I.slot i .un (fun o _ => by cases o <;> trivial) rfl)
def whileL (c : DM Bool) (b : DM Fl) (ks : List Nat) : Nat → DM Fl
  | 0 => badM
  | n + 1 => bindM c fun t => if t then fun s => match b s with
      | .ok .nx s' => whileL c b ks n (killS ks s')
      | .ok .ct s' => whileL c b ks n (killS ks s')
      | .ok .bk s' => .ok .nx (killS ks s')
      | r => r
    else pureM .nx
def sWhile (ks : List Nat) (fuel : Nat) (c : DM Bool) (b : DM Fl) : DM Fl := fun s => whileL c b ks fuel (killS ks s)
theorem ds_while (ks : List Nat) (fuel : Nat) {c : Expr} {body : List Stmt} {fc : DM Bool} {fb : DM Fl} (bd : Bd X W k) (hc : DT X W c fc) (hb : DSs X W body fb) : DS X W (.While c body [] pos) (sWhile ks fuel fc fb) :=
  ps_imp (ps_while bd.po hc hb) fun D σ H ⟨B, Z, as, s, I, h⟩ => by
  refine ⟨fun m σ H => ∃ Z as s, SR (ctOf X) B Z σ H as s ∧ AfterS (ctOf X) W B Z as D (whileL fc fb ks m s), ⟨fuel, Z, as, killS ks s, I.kill ks, h⟩, fun m σ H ⟨Z, as, s, I, h⟩ => ?_⟩
  cases m with
  | zero => exact h.elim
  | succ m =>
    refine ⟨B, Z, as, s, I, (AfterS.bind h).imp fun t s1 H1 Z1 as1 I1 E1 P1 h1 => ?_⟩
    cases t with
    | false => rw [if_neg Bool.false_ne_true]; exact h1 σ H1 Z1 as1 I1 .refl (List.prefix_refl _)
    | true =>
      rw [if_pos rfl]
      refine ⟨fun σ' H' => ∃ Z as s, SR (ctOf X) B Z σ' H' as s ∧ AfterS (ctOf X) W B Z as D (whileL fc fb ks m s), fun σ' H' q => ⟨m, Nat.lt_succ_self m, q⟩, B, Z1, as1, s1, I1, ?_⟩
      rw [if_pos rfl] at h1
      cases e : fb s1 with
      | bad => rw [e] at h1; exact h1
      | exc c s' => rw [e] at h1; exact h1
      | ok fl s' =>
        rw [e] at h1
        cases fl with
        | nx => exact fun σ' H' Z' as' I E P => ⟨Z', as', _, I.kill ks, AfterS.later h1 E P⟩
        | ct => exact fun σ' H' Z' as' I E P => ⟨Z', as', _, I.kill ks, AfterS.later h1 E P⟩
        | bk => exact fun σ' H' Z' as' I E P => h1 σ' H' Z' as' (I.kill ks) E P
        | rt r => exact h1
/-- what a for walks: the items are known ahead -/
def Feeds (C : Ct) (J : It) (Z0 : Hp) (ds : List D) : Prop := ∀ (i : Nat) (H : Hp), Same Z0 H →
  (∀ d, ds[i]? = some d → J.go i H ∧ ∀ (x : V) (H' B Z : Hp) (σ : St) (as : List Addr) (s : S), J.yld i H x H' → SR C B Z σ H as s → Same Z0 Z → ∃ Z', SR C B Z' σ H' as s ∧ Ext B Z Z' ∧ Rep C Z' x d) ∧
  (ds.length ≤ i → J.stop i H)
def rIt (C : Ct) (W : WX) (f : DM (List D)) : TI := fun σ H R => ∃ B Z as s, SR C B Z σ H as s ∧ After C W B Z as σ (fun ds _ H' Z' _ => ∀ J, Feeds C J Z' ds → ds.length ≤ sizeLine → R J H') (f s)
abbrev DI (X : Cx) (W : WX) (tg e : Expr) (f : DM (List D)) : Prop := PI X tg e (rIt (ctOf X) W f)
theorem pi_imp {X : Cx} {tg e : Expr} {t t' : TI} (h : PI X tg e t) (w : ∀ σ H R, t' σ H R → t σ H R) : PI X tg e t' := ⟨fun pins s σ H R I q => h.run pins s σ H R I (w σ H R q)⟩
/-- a target: it stores at the slots vs alone -/
def Upto (vs : List Nat) (σ σ' : St) : Prop := σ'.length = σ.length ∧ ∀ j, j ∉ vs → σ'[j]? = σ[j]?
def AfterU (C : Ct) (B Z : Hp) (as : List Addr) (Q : St → Hp → Prop) : Option S → Prop
  | some s' => ∀ σ' H' Z' as', SR C B Z' σ' H' as' s' → Ext B Z Z' → as <+: as' → Q σ' H'
  | none => False
def rG (C : Ct) (vs : List Nat) (t : D → S → Option S) : TG := fun v σ H Q => ∃ B Z as s d, SR C B Z σ H as s ∧ Rep C Z v d ∧ AfterU C B Z as (fun σ' H' => Upto vs σ σ' → Q σ' H') (t d s)
abbrev DG (X : Cx) (vs : List Nat) (e : Expr) (t : D → S → Option S) : Prop := PG X e (rG (ctOf X) vs t)
def tName (i : Nat) (d : D) (s : S) : Option S := some (setSl i (.v d) s)
theorem dg_name (i : Nat) {x : Str} (hN : X.N.Nodup) (hi : X.N[i]? = some x := by rfl) (hx : Loc X.env.scope x := by first | exact Or.inl rfl | exact Or.inr rfl) (hf : X.fn x = true ∨ X.env.scope.names.lookup x = some .local := by first | exact .inl rfl | exact .inr rfl) : DG X [i] (.Name x pos) (tName i) :=
  pg_imp (pg_name hN hi hx hf) fun v σ H Q ⟨B, Z, as, s, d, I, r, h⟩ => h _ _ _ _ (I.store (sl := .v d) r fun z => nomatch z) .refl (List.prefix_refl _) ⟨List.length_set, fun j hj => by
    rw [List.getElem?_set_ne (fun e => hj (by rw [← e]; exact List.mem_singleton_self _))]⟩
def rGs (C : Ct) (vs : List Nat) (t : List D → S → Option S) : TGs := fun xs σ H Q => ∃ B Z as s ds, SR C B Z σ H as s ∧ Reps C Z xs ds ∧ AfterU C B Z as (fun σ' H' => Upto vs σ σ' → Q σ' H') (t ds s)
abbrev DGs (X : Cx) (vs : List Nat) (es : List Expr) (t : List D → S → Option S) : Prop := PGs X es (rGs (ctOf X) vs t)
theorem pgs_imp {X : Cx} {e : List Expr} {t t' : TGs} (h : PGs X e t) (w : ∀ v σ H Q, t' v σ H Q → t v σ H Q) : PGs X e t' := ⟨fun pins s σ H v u Q I r q => h.run pins s σ H v u Q I r (w v σ H Q q)⟩
def tNilG : List D → S → Option S
  | [], s => some s
  | _, _ => none
def tConsG (t : D → S → Option S) (u : List D → S → Option S) : List D → S → Option S
  | d :: ds, s => (t d s).bind (u ds)
  | _, _ => none
theorem dgs_nil : DGs X [] [] tNilG := pgs_imp pgs_nil fun vs σ H Q ⟨B, Z, as, s, ds, I, r, h⟩ => by
  cases r with
  | nil => exact ⟨rfl, h _ _ _ _ I .refl (List.prefix_refl _) ⟨rfl, fun _ _ => rfl⟩⟩
  | cons _ _ => exact h.elim
theorem dgs_cons {is js : List Nat} {es : List Expr} {t : D → S → Option S} {u : List D → S → Option S} (h1 : DG X is e t) (h2 : DGs X js es u) (hs : (assignEach (e :: es) X.env).map (·.2) = assign e X.env :: (assignEach es X.env).map (·.2) := by rfl) : DGs X (is ++ js) (e :: es) (tConsG t u) :=
  pgs_imp (pgs_cons h1 h2 hs) fun vs σ H Q ⟨B, Z, as, s, ds, I, r, h⟩ => by
  cases r with
  | nil => exact h.elim
  | @cons v vs d ds r t' =>
    have h' : AfterU (ctOf X) B Z as (fun σ' H' => Upto (is ++ js) σ σ' → Q σ' H') ((t d s).bind (u ds)) := h
    refine ⟨v, vs, rfl, B, Z, as, s, d, I, r, ?_⟩
    cases e : t d s with
    | none => rw [e] at h'; exact h'
    | some s1 =>
      rw [e] at h'
      refine fun σ' H' Z' as' I' E' P' up => ⟨B, Z', as', s1, ds, I', t'.mono E'.same, ?_⟩
      have h2 : AfterU (ctOf X) B Z as (fun σ' H' => Upto (is ++ js) σ σ' → Q σ' H') (u ds s1) := h'
      cases e2 : u ds s1 with
      | none => rw [e2] at h2; exact h2
      | some s2 =>
        rw [e2] at h2
        exact fun σ2 H2 Z2 as2 I2 E2 P2 up2 => h2 σ2 H2 Z2 as2 I2 (E'.trans E2) (P'.trans P2) ⟨up2.1.trans up.1, fun j hj =>
          (up2.2 j fun q => hj (List.mem_append_right _ q)).trans (up.2 j fun q => hj (List.mem_append_left _ q))⟩
/-- (a, b, ..) = a tuple -/
def tTupG (n : Nat) (t : List D → S → Option S) : D → S → Option S
  | .tuple ds, s => if ds.length == n then t ds s else none
  | _, _ => none
theorem dg_tup {is : List Nat} {es : List Expr} {kk : Nat} {n : Nat} {t : List D → S → Option S} (bd : Bd X W k) (h : DGs X is es t) (hn : (assignEach es X.env).length = n := by rfl) (hst : (assignEach es X.env).findIdx? (·.1) = none := by rfl) : DG X is (.Tuple es kk pos) (tTupG n t) :=
  pg_imp (pg_tup bd.calm h hn hst) fun v σ H Q ⟨B, Z, as, s, d, I, r, h⟩ => by
  cases r with
  | @tup a xs ds hq hr =>
    have h' : AfterU (ctOf X) B Z as (fun σ' H' => Upto is σ σ' → Q σ' H') (if ds.length == n then t ds s else none) := h
    split at h'
    · rename_i hz
      exact ⟨a, xs, rfl, sqT_mono I.zh hq, by rw [hr.length]; simpa using hz, B, Z, as, s, ds, I, hr, h'⟩
    · exact h'.elim
  | _ => exact h.elim
def forL (t : D → S → Option S) (b : DM Fl) (ks : List Nat) : List D → DM Fl
  | [] => pureM .nx
  | d :: ds => fun s => match t d s with
    | none => .bad
    | some s1 => match b s1 with
      | .ok .nx s' => forL t b ks ds (killS ks s')
      | .ok .ct s' => forL t b ks ds (killS ks s')
      | .ok .bk s' => .ok .nx (killS ks s')
      | r => r
def sFor (ks : List Nat) (f : DM (List D)) (t : D → S → Option S) (b : DM Fl) : DM Fl := bindM f fun ds => fun s => forL t b ks ds (killS ks s)
theorem ds_for (ks : List Nat) {tg it : Expr} {body : List Stmt} {f : DM (List D)} {t : D → S → Option S} {fb : DM Fl} {is : List Nat} (bd : Bd X W k) (hi : DI X W tg it f) (hg : DG X is tg t) (hb : DSs X W body fb)
    (hs : ∀ x, foldedSetIterable it X.env x = pure x := by intro _; rfl) : DS X W (.For tg it body [] pos) (sFor ks f t fb) :=
  ps_imp (ps_for bd.po bd.calm hi hg hb hs) fun D σ H ⟨B, Z, as, s, I, h⟩ => by
  refine ⟨B, Z, as, s, I, (AfterS.bind h).imp fun ds s1 H1 Z1 as1 I1 E1 P1 h1 J hJ _ => ?_⟩
  refine ⟨fun i m σ H => ∃ Z as s, SR (ctOf X) B Z σ H as s ∧ Same Z1 Z ∧ m = ds.length - i ∧ i ≤ ds.length ∧ AfterS (ctOf X) W B Z as D (forL t fb ks (ds.drop i) s), ⟨ds.length, Z1, as1, killS ks s1, I1.kill ks, Same.refl _, rfl, Nat.zero_le _, h1⟩, fun i m σ H ⟨Z, as, s, I, hz, hm, hi, h⟩ => ?_⟩
  obtain ⟨q1, q2⟩ := hJ i H (hz.trans I.zh)
  by_cases hlt : i < ds.length
  · have hd : ds[i]? = some ds[i] := List.getElem?_eq_getElem hlt
    have hdr : ds.drop i = ds[i] :: ds.drop (i + 1) := List.drop_eq_getElem_cons hlt
    rw [hdr] at h
    obtain ⟨go, yl⟩ := q1 _ hd
    refine .inr ⟨go, fun σ' H' => ∃ Z as s, SR (ctOf X) B Z σ' H' as s ∧ Same Z1 Z ∧ AfterS (ctOf X) W B Z as D (forL t fb ks (ds.drop (i + 1)) s), fun σ' H' ⟨Z', as', s', I', hz', h'⟩ => ⟨ds.length - (i + 1), by omega, Z', as', s', I', hz', rfl, hlt, h'⟩, fun x H' hy => ?_⟩
    obtain ⟨Z2, I2, E2, r2⟩ := yl x H' B Z σ as s hy I hz
    refine ⟨B, Z2, as, s, ds[i], I2, r2, ?_⟩
    unfold forL at h
    cases e : t ds[i] s with
    | none => rw [e] at h; exact h
    | some s3 =>
      rw [e] at h
      refine fun σ3 H3 Z3 as3 I3 E3 P3 _ => ⟨B, Z3, as3, s3, I3, ?_⟩
      have E4 : Ext B Z Z3 := E2.trans E3
      dsimp only at h
      cases e2 : fb s3 with
      | bad => rw [e2] at h; exact h
      | exc c s' => rw [e2] at h; exact fun Ca σ' H' Z' as' hc I E P => h Ca σ' H' Z' as' hc I (E4.trans E) (P3.trans P)
      | ok fl s' =>
        rw [e2] at h
        cases fl with
        | nx => exact fun σ' H' Z' as' I E P => ⟨Z', as', _, I.kill ks, hz.trans (E4.trans E).same, AfterS.later h (E4.trans E) (P3.trans P)⟩
        | ct => exact fun σ' H' Z' as' I E P => ⟨Z', as', _, I.kill ks, hz.trans (E4.trans E).same, AfterS.later h (E4.trans E) (P3.trans P)⟩
        | bk => exact fun σ' H' Z' as' I E P => h σ' H' Z' as' (I.kill ks) (E4.trans E) (P3.trans P)
        | rt r => exact fun v σ' H' Z' as' I E P => h v σ' H' Z' as' I (E4.trans E) (P3.trans P)
  · have ei : i = ds.length := by omega
    refine .inl ⟨q2 (by omega), ?_⟩
    rw [ei, List.drop_length] at h
    exact h σ H Z as I .refl (List.prefix_refl _)
end
end DL

/-! DL5: what is walked, comprehensions, raise, parallel assignment, in-place operations, a def from its body. -/
namespace DL
open PySem PySem.Spec PyProof.Rows L2

section
variable {X : Cx} {W : WX} {k : Nat} {tg e l : Expr} {pos p : Pos}
/-! ### sources -/
theorem pi_seq {tl : TE} (hl : PE X l tl) : PI X tg l (fun σ H R => tl σ H fun x H1 => ∃ a, x = .ref a ∧ ((∃ xs, SqL X.K H1 a xs ∧ (xs.length ≤ sizeLine → R (Itl X.K a) H1)) ∨ (∃ xs, SqT X.K H1 a xs ∧ (xs.length ≤ sizeLine → R (Itt X.K a) H1)))) := by
  refine ⟨fun pins s σ H R I h => ?_⟩
  refine thn (hl.run pins s σ H _ I h) fun v s1 ⟨x, H1, I1, r1, q1⟩ => ?_
  obtain ⟨a, e, ⟨xs, hq, q⟩ | ⟨xs, hq, q⟩⟩ := q1
  · subst e; cases r1
    obtain ⟨its, rv, p, hz⟩ := I1.list hq
    refine wpAny_pyIter_list p.isList ?_
    refine ⟨s1.heap.objs.size, [s1.heap.objs.size], _, _, H1, rfl, I1.kept (t' := s1.toks) fun b o e => Heap.get?_push_of_some _ e, turn_list a _, ⟨_, Heap.get?_push_size _ rfl, rfl, rfl⟩, fun b hb => ?_, q hz⟩
    have e : b = s1.heap.objs.size := by simpa using hb
    subst e
    exact I1.fpOk (Nat.le_refl _) (I1.hok.fresh (Nat.le_refl _))
  · subst e; cases r1
    obtain ⟨its, rv, p, hz⟩ := I1.tuple hq
    refine wpAny_pyIter_tuple (show s1.heap.IsTuple a its.toArray from p) ?_
    refine ⟨s1.heap.objs.size, [s1.heap.objs.size], _, _, H1, rfl, I1.kept (t' := s1.toks) fun b o e => Heap.get?_push_of_some _ e, turn_tuple a _, ⟨_, Heap.get?_push_size _ rfl, rfl, rfl⟩, fun b hb => ?_, q hz⟩
    have e : b = s1.heap.objs.size := by simpa using hb
    subst e
    exact I1.fpOk (Nat.le_refl _) (I1.hok.fresh (Nat.le_refl _))
def asSeq : D → Option (List D)
  | .list ds => some ds
  | .tuple ds => some ds
  | _ => none
def iSeq (f : DM D) : DM (List D) := bindM f fun d => liftO (asSeq d)
theorem feeds_list {C : Ct} {Z0 : Hp} {a : Addr} {xs : List V} {ds : List D} (h : SqL C.K Z0 a xs) (r : Reps C Z0 xs ds) : Feeds C (Itl C.K a) Z0 ds := fun i H zh => by
  refine ⟨fun d hd => ?_, fun hi => ⟨xs, Same.seq zh h, by rw [r.length]; exact hi⟩⟩
  obtain ⟨v, hv, rv⟩ := r.get hd
  refine ⟨⟨xs, v, Same.seq zh h, hv⟩, fun x H' B Z σ as s hy I hz => ?_⟩
  obtain ⟨rfl, hx⟩ := hy
  have e := hx xs (Same.seq zh h)
  rw [hv] at e; cases e
  exact ⟨Z, I, .refl, rv.mono hz⟩
theorem feeds_tup {C : Ct} {Z0 : Hp} {a : Addr} {xs : List V} {ds : List D} (h : SqT C.K Z0 a xs) (r : Reps C Z0 xs ds) : Feeds C (Itt C.K a) Z0 ds := fun i H zh => by
  refine ⟨fun d hd => ?_, fun hi => ⟨xs, sqT_mono zh h, by rw [r.length]; exact hi⟩⟩
  obtain ⟨v, hv, rv⟩ := r.get hd
  refine ⟨⟨xs, v, sqT_mono zh h, hv⟩, fun x H' B Z σ as s hy I hz => ?_⟩
  obtain ⟨rfl, hx⟩ := hy
  have e := hx xs (sqT_mono zh h)
  rw [hv] at e; cases e
  exact ⟨Z, I, .refl, rv.mono hz⟩
theorem di_seq {f : DM D} (h : DE X W l f) : DI X W tg l (iSeq f) := pi_imp (pi_seq h) fun σ H R ⟨B, Z, as, s, I, h⟩ =>
  ⟨B, Z, as, s, I, (After.bind h).imp fun d s1 H1 Z1 as1 I1 E1 P1 h1 v rv => by
    obtain ⟨ds, e, q⟩ := After.lift h1 I1
    cases rv with
    | @lst a xs ds' hq hr =>
      cases e
      exact ⟨a, rfl, .inl ⟨xs, Same.seq I1.zh hq, fun hz => q _ (feeds_list hq hr) (by rw [← hr.length]; exact hz)⟩⟩
    | @tup a xs ds' hq hr =>
      cases e
      exact ⟨a, rfl, .inr ⟨xs, sqT_mono I1.zh hq, fun hz => q _ (feeds_tup hq hr) (by rw [← hr.length]; exact hz)⟩⟩
    | _ => cases e⟩
def rangeL (lo : Int) (n : Nat) : List D := (List.range n).map fun i : Nat => PyData.int (lo + (i : Int))
theorem rangeL_length (lo : Int) (n : Nat) : (rangeL lo n).length = n := by unfold rangeL; rw [List.length_map, List.length_range]
theorem feeds_range {C : Ct} {Z0 : Hp} {lo : Int} {n : Nat} : Feeds C (Itr lo n) Z0 (rangeL lo n) := fun i H zh => by
  refine ⟨fun d hd => ?_, fun hi => by rw [rangeL_length] at hi; exact hi⟩
  have hi : i < n := by
    have := (List.getElem?_eq_some_iff.mp hd).1
    rw [rangeL_length] at this; exact this
  refine ⟨hi, fun x H' B Z σ as s hy I hz => ?_⟩
  obtain ⟨rfl, rfl⟩ := hy
  unfold rangeL at hd
  rw [List.getElem?_map, List.getElem?_range hi] at hd
  cases hd
  exact ⟨Z, I, .refl, .int _⟩
def rangeOk (i j : Int) : Bool := decide (-1000000 ≤ i) && decide (i ≤ 1000000) && decide (-1000000 ≤ j) && decide (j ≤ 1000000)
def rangeOk_le {i j : Int} (h : rangeOk i j = true) : (-1000000 ≤ i ∧ i ≤ 1000000) ∧ -1000000 ≤ j ∧ j ≤ 1000000 := by
  unfold rangeOk at h
  simp only [Bool.and_eq_true, decide_eq_true_eq] at h
  exact ⟨⟨h.1.1.1, h.1.1.2⟩, h.1.2, h.2⟩
def iRange1 (ds : List D) : Option (List D) := match ds with
  | [.int j] => if rangeOk 0 j then some (rangeL 0 j.toNat) else none
  | _ => none
def iRange2 (ds : List D) : Option (List D) := match ds with
  | [.int i, .int j] => if rangeOk i j then some (rangeL i (j - i).toNat) else none
  | _ => none
theorem iRange1_some {ds es : List D} (h : iRange1 ds = some es) : ∃ j, ds = [.int j] ∧ rangeOk 0 j = true ∧ es = rangeL 0 j.toNat := by
  unfold iRange1 at h
  split at h
  · split at h
    · rename_i j ho; cases h; exact ⟨j, rfl, ho, rfl⟩
    · cases h
  · cases h
theorem iRange2_some {ds es : List D} (h : iRange2 ds = some es) : ∃ i j, ds = [.int i, .int j] ∧ rangeOk i j = true ∧ es = rangeL i (j - i).toNat := by
  unfold iRange2 at h
  split at h
  · split at h
    · rename_i i j ho; cases h; exact ⟨i, j, rfl, ho, rfl⟩
    · cases h
  · cases h
def iRng1 (g : DM (List D)) : DM (List D) := bindM g fun ds => liftO (iRange1 ds)
def iRng2 (g : DM (List D)) : DM (List D) := bindM g fun ds => liftO (iRange2 ds)
theorem range_line {n : Nat} (h : n ≤ 2000000) : n ≤ sizeLine := Nat.le_trans h (by decide)
theorem di_range1 {a : Expr} {g : DM (List D)} (hm : X.mg "range" = none) (ha : DL X W [a] g) (hg : Gl X "range" := by rfl) (hs : starEach [a] X.env = [(false, eval a X.env)] := by rfl) : DI X W tg (.Call (.Name "range" p) [a] [] pos) (iRng1 g) :=
  pi_imp (pi_range1 hg hm ha hs) fun σ H R ⟨B, Z, as, s, I, h⟩ =>
  ⟨B, Z, as, s, I, (After.bind h).imp fun ds s1 H1 Z1 as1 I1 E1 P1 h1 vs rvs => by
    obtain ⟨es, e, q⟩ := After.lift h1 I1
    obtain ⟨j, rfl, ho, rfl⟩ := iRange1_some e
    cases rvs with
    | cons r t =>
      cases t; cases r
      have hb := rangeOk_le ho
      exact ⟨j, rfl, by omega, by omega, q _ feeds_range (by rw [rangeL_length]; exact range_line (by omega))⟩⟩
theorem di_range2 {a b : Expr} {g : DM (List D)} (hm : X.mg "range" = none) (ha : DL X W [a, b] g) (hg : Gl X "range" := by rfl) (hs : starEach [a, b] X.env = [(false, eval a X.env), (false, eval b X.env)] := by rfl) (hs2 : starEach [b] X.env = [(false, eval b X.env)] := by rfl) : DI X W tg (.Call (.Name "range" p) [a, b] [] pos) (iRng2 g) :=
  pi_imp (pi_range2 hg hm ha hs hs2) fun σ H R ⟨B, Z, as, s, I, h⟩ =>
  ⟨B, Z, as, s, I, (After.bind h).imp fun ds s1 H1 Z1 as1 I1 E1 P1 h1 vs rvs => by
    obtain ⟨es, e, q⟩ := After.lift h1 I1
    obtain ⟨i, j, rfl, ho, rfl⟩ := iRange2_some e
    cases rvs with
    | cons r t =>
      cases t with
      | cons r2 t2 =>
        cases t2; cases r; cases r2
        have hb := rangeOk_le ho
        exact ⟨i, j, rfl, ⟨by omega, by omega, by omega, by omega⟩, q _ feeds_range (by rw [rangeL_length]; exact range_line (by omega))⟩⟩
end

/-! ### comprehensions -/
section
variable {C : Ct} {W : WX} {B Z Z' H H' : Hp} {σ σ' : St} {as : List Addr} {s : S}
/-- the slots ks are forgotten -/
def Gone (ks : List Nat) (s : S) : Prop := ∀ j ∈ ks, ∀ sl, s.env[j]? = some sl → sl = .un
theorem gone_kill (ks : List Nat) (s : S) : Gone ks (killS ks s) := by
  have key : ∀ (ks : List Nat) (l : List Sl) (j : Nat) (sl : Sl), (j ∈ ks ∨ l[j]? = some .un) → (ks.foldl (fun l i => l.set i .un) l)[j]? = some sl → sl = .un := by
    intro ks
    induction ks with
    | nil =>
      intro l j sl h e
      rcases h with h | h
      · cases h
      · rw [List.foldl_nil, h] at e; cases e; rfl
    | cons i ks ih =>
      intro l j sl h e
      rw [List.foldl_cons] at e
      by_cases hi : i = j
      · subst hi
        by_cases hl : i < l.length
        · exact ih _ i sl (.inr (by rw [List.getElem?_set_self hl])) e
        · have e2 : l.set i .un = l := List.set_eq_of_length_le (by omega)
          rw [e2] at e
          rcases h with h | h
          · by_cases hm : i ∈ ks
            · exact ih l i sl (.inl hm) e
            · exfalso
              have : ∀ (ks : List Nat) (l : List Sl), (ks.foldl (fun l i => l.set i .un) l).length = l.length := by
                intro ks
                induction ks with
                | nil => intro l; rfl
                | cons i ks ih => intro l; rw [List.foldl_cons, ih, List.length_set]
              have h2 := (List.getElem?_eq_some_iff.mp e).1
              rw [this] at h2
              omega
          · exact ih l i sl (.inr h) e
      · refine ih _ j sl ?_ e
        rcases h with h | h
        · rcases List.mem_cons.mp h with h | h
          · exact absurd h.symm hi
          · exact .inl h
        · exact .inr (by rw [List.getElem?_set_ne hi]; exact h)
  intro j hj sl e
  exact key ks s.env j sl (.inl hj) e
theorem SR.upto {ks : List Nat} (I : SR C B Z σ H as s) (g : Gone ks s) (u : Upto ks σ σ') : SR C B Z σ' H as s := by
  obtain ⟨hl, u⟩ := u
  have back : ∀ (i : Nat) (p : Addr) (sl : Sl), σ'[i]? = some (some (.ref p)) → s.env[i]? = some sl → sl.own = true → σ[i]? = some (some (.ref p)) := fun i p sl e1 e2 hw => by
    by_cases hi : i ∈ ks
    · rw [g i hi sl e2] at hw; cases hw
    · rw [← u i hi]; exact e1
  refine ⟨I.zh, I.bh, ?_, I.st, I.asn, I.asb, fun i p sl e1 e2 hw => I.own i p sl (back i p sl e1 e2 hw) e2 hw, fun i j p a b hij e1 e2 e3 e4 ha => ?_⟩
  · have hlen : σ'.length = s.env.length := hl.trans (paired_length I.env)
    have key : ∀ (l : List (Option V)) (m : List Sl), l.length = m.length → (∀ (i : Nat) o sl, l[i]? = some o → m[i]? = some sl → SlR C Z H as o sl) → Paired (SlR C Z H as) l m := by
      intro l
      induction l with
      | nil => intro m hm _; cases m with
        | nil => exact .nil
        | cons _ _ => cases hm
      | cons o l ih => intro m hm h; cases m with
        | nil => cases hm
        | cons sl m => exact .cons (h 0 _ _ rfl rfl) (ih m (by simpa using hm) fun i o' sl' e1 e2 => h (i + 1) o' sl' (by simpa using e1) (by simpa using e2))
    refine key _ _ hlen fun i o sl e1 e2 => ?_
    by_cases hi : i ∈ ks
    · rw [g i hi sl e2]; cases o <;> trivial
    · rw [u i hi] at e1
      obtain ⟨o', q1, q2⟩ := paired_get I.env e2
      rw [e1] at q1; cases q1; exact q2
  · cases hb : b.own with
    | false => rfl
    | true =>
      have := I.dis i j p a b hij (back i p a e1 e3 ha) (back j p b e2 e4 hb) e3 e4 ha
      rw [hb] at this; exact this
theorem upto_wipe (ks : List Nat) (σ : St) : Upto ks σ (wipe σ ks) := by
  refine ⟨wipe_length σ ks, ?_⟩
  induction ks with
  | nil => exact fun _ _ => rfl
  | cons i ks ih =>
    intro j hj
    unfold wipe
    rw [List.getElem?_set_ne (fun e => hj (by rw [e]; exact List.mem_cons_self))]
    exact ih j fun h => hj (List.mem_cons_of_mem _ h)
theorem wipe_upto {ks : List Nat} {σ1 σ2 : St} (u : Upto ks σ1 σ2) : wipe σ2 ks = wipe σ1 ks := by
  have hl := u.1
  refine List.ext_getElem? fun j => ?_
  by_cases hj : j ∈ ks
  · have key : ∀ (ks : List Nat) (σ : St), j ∈ ks → (wipe σ ks)[j]? = if j < σ.length then some none else none := by
      intro ks
      induction ks with
      | nil => intro σ h; cases h
      | cons i ks ih =>
        intro σ h
        unfold wipe
        by_cases hi : i = j
        · subst hi
          by_cases hlt : i < σ.length
          · rw [List.getElem?_set_self (by rw [wipe_length]; exact hlt), if_pos hlt]
          · rw [if_neg hlt]; exact List.getElem?_eq_none (by rw [List.length_set, wipe_length]; omega)
        · rw [List.getElem?_set_ne hi]
          rcases List.mem_cons.mp h with h | h
          · exact absurd h.symm hi
          · exact ih σ h
    rw [key ks σ2 hj, key ks σ1 hj, hl]
  · rw [(upto_wipe ks σ2).2 j hj, (upto_wipe ks σ1).2 j hj]; exact u.2 j hj
/-- an unowned new object is kept aside -/
theorem SR.hold (I : SR C B Z σ H as s) {p : Addr} {o : HO} (hp : H p = some o) (nz : Z p = none) (nb : B p = none) (hf : Free σ as s p) : SR C (upd B p o) Z σ H as s := by
  refine ⟨I.zh, fun b x e => ?_, I.env, I.st, I.asn, fun a ha => ⟨?_, (I.asb a ha).2⟩, fun i q sl e1 e2 hw => ⟨?_, (I.own i q sl e1 e2 hw).2⟩, I.dis⟩
  · by_cases h : b = p
    · subst h; rw [upd_same] at e; rw [← e]; exact hp
    · rw [upd_ne h] at e; exact I.bh b x e
  · rw [upd_ne (fun e => by subst e; exact hf.1 ha)]; exact (I.asb a ha).1
  · rw [upd_ne (fun e => by subst e; rw [hf.2 i sl e1 e2] at hw; cases hw)]; exact (I.own i q sl e1 e2 hw).1
theorem SR.unhold {p : Addr} {o : HO} (I : SR C (upd B p o) Z σ H as s) (nb : B p = none) : SR C B Z σ H as s ∧ H p = some o ∧ Free σ as s p := by
  have sb : Same B (upd B p o) := fun b x e => by rw [upd_ne (ne_of_none e nb)]; exact e
  refine ⟨⟨I.zh, fun b x e => I.bh b x (sb b x e), I.env, I.st, I.asn, fun a ha => ⟨sb.free (I.asb a ha).1, (I.asb a ha).2⟩, fun i q sl e1 e2 hw => ⟨sb.free (I.own i q sl e1 e2 hw).1, (I.own i q sl e1 e2 hw).2⟩, I.dis⟩, I.bh p o upd_same, fun ha => ?_, fun i sl e1 e2 => ?_⟩
  · have := (I.asb p ha).1
    rw [upd_same] at this; cases this
  · cases hw : sl.own with
    | false => rfl
    | true =>
      have := (I.own i p sl e1 e2 hw).1
      rw [upd_same] at this; cases this
theorem Ext.unhold {p : Addr} {o : HO} (E : Ext (upd B p o) Z Z') (nz : Z p = none) (nb : B p = none) : Ext B Z Z' ∧ Z' p = none := by
  have sb : Same B (upd B p o) := fun b x e => by rw [upd_ne (ne_of_none e nb)]; exact e
  refine ⟨⟨E.same, fun a u h => (E.new a u h).imp id fun h => sb.free h⟩, ?_⟩
  cases q : Z' p with
  | none => rfl
  | some u =>
    rcases E.new p u q with h | h
    · rw [nz] at h; cases h
    · rw [upd_same] at h; cases h
/-- an object kept aside is changed -/
theorem SR.poke (I : SR C B Z σ H as s) {p : Addr} {o : HO} (nz : Z p = none) (nb : B p = none) (hf : Free σ as s p) : SR C B Z σ (upd H p o) as s :=
  I.grow (Same.refl _) (fun b x e => by rw [upd_ne (ne_of_none e nz)]; exact I.zh b x e) (fun b x e => by rw [upd_ne (ne_of_none e nb)]; exact I.bh b x e)
    (fun i q sl e1 e2 hw => ⟨(I.ownH e1 e2 hw).1, upd_ne fun e => by subst e; rw [hf.2 i sl e1 e2] at hw; cases hw⟩) fun a ha => ⟨(I.asb a ha).2, upd_ne fun e => by subst e; exact hf.1 ha⟩
/-- .. while a part runs that knows nothing of it -/
theorem After.hold {α : Type} {good : α → S → Hp → Hp → List Addr → Prop} {p : Addr} {o : HO} {r : R α} (h : After C W B Z as σ good r) (nz : Z p = none) (nb : B p = none) :
    After C W (upd B p o) Z as σ (fun a s' H' Z' as' => good a s' H' Z' as' ∧ SR C B Z' σ H' as' s' ∧ Ext B Z Z' ∧ as <+: as' ∧ Z' p = none ∧ H' p = some o ∧ Free σ as' s' p) r := by
  cases r with
  | bad => exact h
  | exc c s' => exact fun Ca H' Z' as' hc I E P => h Ca H' Z' as' hc (I.unhold nb).1 (E.unhold nz nb).1 P
  | ok a s' =>
    intro H' Z' as' I E P
    obtain ⟨I1, h1, h2⟩ := I.unhold nb
    obtain ⟨E1, z1⟩ := E.unhold nz nb
    exact ⟨h H' Z' as' I1 E1 P, I1, E1, P, z1, h1, h2⟩
end
theorem After.later {α : Type} {C : Ct} {W : WX} {B Z Z1 : Hp} {σ : St} {as as1 : List Addr} {good : α → S → Hp → Hp → List Addr → Prop} {r : R α} (h : After C W B Z as σ good r) (E1 : Ext B Z Z1) (P1 : as <+: as1) : After C W B Z1 as1 σ good r := by
  cases r with
  | bad => exact h
  | exc c s => exact fun Ca H' Z' as' hc I E P => h Ca H' Z' as' hc I (E1.trans E) (P1.trans P)
  | ok a s => exact fun H' Z' as' I E P => h H' Z' as' I (E1.trans E) (P1.trans P)
theorem upto_trans {ks : List Nat} {a b c : St} (h : Upto ks a b) (g : Upto ks b c) : Upto ks a c := ⟨g.1.trans h.1, fun j hj => (g.2 j hj).trans (h.2 j hj)⟩
theorem upto_symm {ks : List Nat} {a b : St} (h : Upto ks a b) : Upto ks b a := ⟨h.1.symm, fun j hj => (h.2 j hj).symm⟩
/-- one turn after another: the items that pass, as the element has them; nothing may be raised there -/
def compL (t : D → S → Option S) (tst : DM Bool) (elt : DM D) (ks : List Nat) : List D → DM (List D)
  | [] => pureM []
  | d :: ds => fun s => match t d s with
    | none => .bad
    | some s1 => match tst s1 with
      | .ok b s2 => if b then match elt s2 with
          | .ok y s3 => bindM (compL t tst elt ks ds) (fun ys => pureM (y :: ys)) (killS ks s3)
          | _ => .bad
        else compL t tst elt ks ds (killS ks s2)
      | _ => .bad
def eLc (ks : List Nat) (src : DM (List D)) (t : D → S → Option S) (tst : DM Bool) (elt : DM D) : DM RV :=
  bindM src fun ds => fun s => bindM (compL t tst elt ks ds) (fun ys => pureM (.fl ys)) (killS ks s)
abbrev W0 : WX := fun _ _ _ _ => False
/-- a clause's tests -/
abbrev DTs (X : Cx) (W : WX) (ifs : List Expr) (f : DM Bool) : Prop := PTs X ifs (rB (ctOf X) W f)
theorem pts_imp {X : Cx} {ifs : List Expr} {t t' : TT} (h : PTs X ifs t) (w : ∀ σ H Q, t' σ H Q → t σ H Q) : PTs X ifs t' := ⟨fun pins s σ H Q I q => h.run pins s σ H Q I (w σ H Q q)⟩
theorem dts_nil {X : Cx} {W : WX} : DTs X W [] (pureM true) := pts_imp pts_nil fun σ H Q ⟨B, Z, as, s, I, h⟩ => After.pure h I
theorem dts_one {X : Cx} {W : WX} {c : Expr} {f : DM Bool} (h : DT X W c f) : DTs X W [c] f := pts_one h
section
variable {X : Cx} {W : WX} {k : Nat} {tg elt iter : Expr} {ifs : List Expr} {scope : Scope} {pos : Pos} {src : DM (List D)} {t : D → S → Option S} {tst : DM Bool} {felt : DM D} {is : List Nat}
theorem rF_lc {own : List (Str × Nat)} (hN : X.N.Nodup) (his : ∀ i ∈ is, i ∈ own.map (·.2)) {σ : St} {H : Hp} {Q : VK} (h : rF (ctOf X) W (eLc (own.map (·.2)) src t tst felt) σ H Q) :
    tLc (rIt (ctOf X) W src) (rG (ctOf X) is t) (rB (ctOf X) W0 tst) (rD (ctOf X) W0 felt) (own.map (·.2)) σ H Q := by
  obtain ⟨B, Z, as, s, I, h⟩ := h
  generalize own.map (·.2) = ks at his h ⊢
  refine ⟨B, Z, as, s, I, (After.bind h).imp fun ds s1 H1 Z1 as1 I1 E1 P1 h1 J hJ hlen D0 nD => ?_⟩
  let Inv (i m : Nat) (H : Hp) : Prop := ∃ Z as s acc dacc, SR (ctOf X) B Z σ H as s ∧ Same Z1 Z ∧ Gone ks s ∧ m = ds.length - i ∧ i ≤ ds.length ∧ H D0 = some (.lst acc) ∧ Reps (ctOf X) Z acc dacc ∧ Z D0 = none ∧ B D0 = none ∧ Free σ as s D0 ∧ dacc.length ≤ i ∧
    After (ctOf X) W B Z as σ (fun ys s' H' Z' as' => ∀ v, RVR (ctOf X) B Z' σ H' as' s' v (.fl (dacc ++ ys)) → Q v H') (compL t tst felt ks (ds.drop i) s)
  have I1k := I1.kill ks
  have nz : Z1 D0 = none := I1.zh.free nD
  have nb : B D0 = none := I1.bh.free nD
  refine ⟨Inv, ⟨ds.length, Z1, as1, killS ks s1, [], [], I1k.fresh nD, Same.refl _, gone_kill ks s1, rfl, Nat.zero_le _, upd_same, .nil, nz, nb, I1k.free_new nD, Nat.zero_le _, ?_⟩, fun i m H2 hw => ?_⟩
  · exact (After.bind h1).imp fun ys s2 H2 Z2 as2 I2 E2 P2 h2 v rv => h2 _ _ _ I2 .refl (List.prefix_refl _) v rv
  · obtain ⟨Z2, as2, s2, acc, dacc, I2, hz, hg, hm, hi, hD, hr, z2, b2, hf, hl, h2⟩ := hw
    obtain ⟨q1, q2⟩ := hJ i H2 (hz.trans I2.zh)
    by_cases hlt : i < ds.length
    · have hd : ds[i]? = some ds[i] := List.getElem?_eq_getElem hlt
      have hdr : ds.drop i = ds[i] :: ds.drop (i + 1) := List.drop_eq_getElem_cons hlt
      rw [hdr] at h2
      obtain ⟨go, yl⟩ := q1 _ hd
      refine .inr ⟨go, Inv (i + 1) (ds.length - (i + 1)), fun H' q => ⟨_, by omega, q⟩, fun x H' hy => ?_⟩
      -- the item
      obtain ⟨Z3, I3, E3, r3⟩ := yl x H' (upd B D0 (.lst acc)) Z2 σ as2 s2 hy (I2.hold hD z2 b2 hf) hz
      have uw := upto_wipe ks σ
      have I3w := I3.upto hg uw
      obtain ⟨gE, gz⟩ := E3.unhold z2 b2
      refine ⟨upd B D0 (.lst acc), Z3, as2, s2, ds[i], I3w, r3, ?_⟩
      unfold compL at h2
      cases e : t ds[i] s2 with
      | none => rw [e] at h2; exact h2
      | some s3 =>
        rw [e] at h2
        dsimp only at h2
        refine fun σ4 H4 Z4 as4 I4 E4 P4 up4 => ?_
        have up4' : Upto ks (wipe σ ks) σ4 := ⟨up4.1, fun j hj => up4.2 j fun q => hj (his j q)⟩
        have upA := upto_trans uw up4'
        refine ⟨wipe_upto upA, upd B D0 (.lst acc), Z4, as4, s3, I4, ?_⟩
        cases e1 : tst s3 with
        | bad => rw [e1] at h2; exact h2
        | exc c s' => rw [e1] at h2; exact h2.elim
        | ok b s4 =>
          rw [e1] at h2
          intro H5 Z5 as5 I5 E5 P5
          have fin : ∀ {H6 : Hp} {Z6 : Hp} {as6 : List Addr} {s6 : S}, SR (ctOf X) (upd B D0 (.lst acc)) Z6 σ4 H6 as6 s6 → Ext (upd B D0 (.lst acc)) Z3 Z6 → as2 <+: as6 → SR (ctOf X) B Z6 σ H6 as6 (killS ks s6) ∧ H6 D0 = some (.lst acc) ∧ Free σ as6 (killS ks s6) D0 ∧ Ext B Z2 Z6 ∧ Z6 D0 = none := fun {H6 Z6 as6 s6} I6 E6 P6 => by
            have J := (I6.kill ks).upto (gone_kill ks s6) (upto_symm upA)
            obtain ⟨J1, J2, J3⟩ := J.unhold b2
            obtain ⟨x1, x2⟩ := E6.unhold gz b2
            exact ⟨J1, J2, J3, gE.trans x1, x2⟩
          cases b with
          | false =>
            refine (if_neg Bool.false_ne_true).mpr ?_
            obtain ⟨J1, J2, J3, J4, J5⟩ := fin I5 (E4.trans E5) (P4.trans P5)
            exact ⟨Z5, as5, killS ks s4, acc, dacc, J1, hz.trans J4.same, gone_kill ks s4, rfl, hlt, J2, hr.mono J4.same, J5, b2, J3, by omega, After.later h2 J4 (P4.trans P5)⟩
          | true =>
            refine (if_pos rfl).mpr ?_
            dsimp only at h2
            refine ⟨upd B D0 (.lst acc), Z5, as5, s4, I5, ?_⟩
            cases e2 : felt s4 with
            | bad => rw [e2] at h2; exact h2
            | exc c s' => rw [e2] at h2; exact h2.elim
            | ok y s5 =>
              rw [e2] at h2
              intro H6 Z6 as6 I6 E6 P6 v rv
              obtain ⟨J1, J2, J3, J4, J5⟩ := fin I6 ((E4.trans E5).trans E6) ((P4.trans P5).trans P6)
              refine ⟨acc, J2, by have := hr.length; omega, Z6, as6, killS ks s5, acc ++ [v], dacc ++ [y], J1.poke J5 b2 J3, hz.trans J4.same, gone_kill ks s5, rfl, hlt, upd_same, (hr.mono J4.same).append (.one rv), J5, b2, J3, by rw [List.length_append]; show dacc.length + 1 ≤ _; omega, ?_⟩
              have h3 := After.later h2 J4 ((P4.trans P5).trans P6)
              exact (After.bind h3).imp fun ys s7 H7 Z7 as7 I7 E7 P7 h7 w rw' => h7 _ _ _ I7 .refl (List.prefix_refl _) w (by rw [List.append_assoc] at rw'; exact rw')
    · have ei : i = ds.length := by omega
      refine .inl ⟨q2 (by omega), ?_⟩
      rw [ei, List.drop_length] at h2
      refine h2 _ _ _ I2 .refl (List.prefix_refl _) _ ⟨D0, acc, rfl, z2, b2, hf, hD, ?_⟩
      rw [List.append_nil]; exact hr
theorem df_lc {own : List (Str × Nat)} (b : Bd X W k) (hN : X.N.Nodup) (hi : DI X W tg iter src) (ok : BlkOk X.N X.env.scope scope own) (his : ∀ i ∈ is, i ∈ own.map (·.2))
    (hg : ∀ (s : Shared) (H : Hp) (C : Addr) (cl : List (Str × Addr)) (fp : List Addr), Bd (X.blk s H scope (compEnvC scope cl C X.env) fp) W0 k → DG (X.blk s H scope (compEnvC scope cl C X.env) fp) is tg t)
    (ht : ∀ (s : Shared) (H : Hp) (C : Addr) (cl : List (Str × Addr)) (fp : List Addr), Bd (X.blk s H scope (compEnvC scope cl C X.env) fp) W0 k → DTs (X.blk s H scope (compEnvC scope cl C X.env) fp) W0 ifs tst)
    (he : ∀ (s : Shared) (H : Hp) (C : Addr) (cl : List (Str × Addr)) (fp : List Addr), Bd (X.blk s H scope (compEnvC scope cl C X.env) fp) W0 k → DE (X.blk s H scope (compEnvC scope cl C X.env) fp) W0 elt felt)
    (hs : ∀ x, foldedSetIterable iter X.env x = pure x := by intro _; rfl) :
    DF X W (.ListComp elt [⟨tg, iter, ifs, 0⟩] scope pos) (eLc (own.map (·.2)) src t tst felt) := by
  have bb : ∀ (s : Shared) (H : Hp) (C : Addr) (cl : List (Str × Addr)) (fp : List Addr), Bd (X.blk s H scope (compEnvC scope cl C X.env) fp) W0 k := fun s H C cl fp => ⟨takes0, PassesOwn.never, b.hr, b.calm⟩
  exact pe_imp (pe_lc (g := rG (ctOf X) is t) (tt := rB (ctOf X) W0 tst) (te := rD (ctOf X) W0 felt) b.calm hN hi ok (fun s H C cl fp => hg s H C cl fp (bb s H C cl fp)) (fun s H C cl fp => ht s H C cl fp (bb s H C cl fp)) (fun s H C cl fp => he s H C cl fp (bb s H C cl fp)) hs) fun σ H Q h => rF_lc hN his h
/-- name = [..] on one line -/
theorem ds_setLc {own : List (Str × Nat)} (i : Nat) {y : Str} {py spos : Pos} (b : Bd X W k) (hN : X.N.Nodup) (hi : DI X W tg iter src) (ok : BlkOk X.N X.env.scope scope own) (his : ∀ i ∈ is, i ∈ own.map (·.2))
    (hg : ∀ (s : Shared) (H : Hp) (C : Addr) (cl : List (Str × Addr)) (fp : List Addr), Bd (X.blk s H scope (compEnvC scope cl C X.env) fp) W0 k → DG (X.blk s H scope (compEnvC scope cl C X.env) fp) is tg t)
    (ht : ∀ (s : Shared) (H : Hp) (C : Addr) (cl : List (Str × Addr)) (fp : List Addr), Bd (X.blk s H scope (compEnvC scope cl C X.env) fp) W0 k → DTs (X.blk s H scope (compEnvC scope cl C X.env) fp) W0 ifs tst)
    (he : ∀ (s : Shared) (H : Hp) (C : Addr) (cl : List (Str × Addr)) (fp : List Addr), Bd (X.blk s H scope (compEnvC scope cl C X.env) fp) W0 k → DE (X.blk s H scope (compEnvC scope cl C X.env) fp) W0 elt felt)
    (hy : X.N[i]? = some y := by rfl) (hyl : X.env.scope.names.lookup y = some .local := by rfl)
    (hsw : swapsWith (.ListComp elt [⟨tg, iter, ifs, 0⟩] scope pos) (some (.Name y py)) spos.line X.env = pure true := by exact sw_true rfl rfl rfl (by decide +kernel))
    (hs : ∀ x, foldedSetIterable iter X.env x = pure x := by intro _; rfl) :
    DS X W (.Assign [.Name y py] (.ListComp elt [⟨tg, iter, ifs, 0⟩] scope pos) spos) (sSet i (eLc (own.map (·.2)) src t tst felt)) := by
  have bb : ∀ (s : Shared) (H : Hp) (C : Addr) (cl : List (Str × Addr)) (fp : List Addr), Bd (X.blk s H scope (compEnvC scope cl C X.env) fp) W0 k := fun s H C cl fp => ⟨takes0, PassesOwn.never, b.hr, b.calm⟩
  refine ps_imp (ps_setLc (g := rG (ctOf X) is t) (tt := rB (ctOf X) W0 tst) (te := rD (ctOf X) W0 felt) b.calm hN hy hyl hsw hi ok (fun s H C cl fp => hg s H C cl fp (bb s H C cl fp)) (fun s H C cl fp => ht s H C cl fp (bb s H C cl fp)) (fun s H C cl fp => he s H C cl fp (bb s H C cl fp)) hs) fun D σ H ⟨B, Z, as, s, I, h⟩ => ?_
  refine rF_lc (W := W) hN his ⟨B, Z, as, s, I, (AfterS.bind h).imp fun r s1 H1 Z1 as1 I1 E1 P1 h1 v rv => ?_⟩
  obtain ⟨q1, q2⟩ := rvr_sl rv
  exact h1 _ _ _ _ (I1.store q1 q2) .refl (List.prefix_refl _)
end

/-! ### raise -/
structure ExP (K : PySem.W.Frag) (mg : Str → Option Value) (x : Str) : Prop where
  ex : ∃ C, mg x = some (.ref C) ∧ PySem.W.excIn K C [.type "ValueError", .type "Exception", .type "BaseException", .type "object"] "ValueError.__new__" = true ∧ PySem.W.keepIn K (.ref C) = true ∧ PySem.W.subIn K (.ref C) (.type "BaseException") = some true ∧ PySem.W.typeIn K (.ref C) = some (.type "type")
section
variable {X : Cx} {W : WX} {k : Nat} {x : Str} {p pos : Pos} {e a b' : Expr}
theorem pmk_own0 {C : Addr} {bmB : List Value} {B newId initId : String} (F : ExcBaseFacts B newId initId bmB) (q : PySem.W.excIn X.K C bmB newId = true) (gC : X.mg x = some (.ref C)) (kC : PySem.W.keepIn X.K (.ref C) = true) (r : Raises X (.ref C)) (hg : Gl X x)
    (hdb : (x == ("__debug__" : Str)) = false := by decide) : PMk X (.Call (.Name x p) [] [] pos) (fun _ H Q => Q (.ref C) none H) := by
  intro pins s σ H Q I h
  refine wpAny_Call_Name_kw (ld_glob I hg gC ?_ hdb)
  refine PySem.W.callWith_K0 I.kIn kC ?_
  show wpAny _ _ (call (.ref C) []) _ _ _
  obtain ⟨bm, N, nm, qn, bs, hdct, sn, sub, ab, col, dd, k0, k1, k2, k3, k5, mN, hC, hN, hni, T⟩ := exc_obj I.kIn q
  refine wpAny_call_exc_subT F T hC hN hni (fun h' e hm => ?_) (Nat.zero_le _)
  exact mk_of I hm r h (I.hok.gone hm.new)
def sRaise (c : Str) : DM Fl := fun s => .exc c s
theorem ds_raise {pos2 : Pos} (b : Bd X W k) (E : ExP X.K X.mg x) (hg : Gl X x := by rfl) (hdb : (x == ("__debug__" : Str)) = false := by decide) : DS X W (.Raise (some (.Call (.Name x p) [] [] pos)) none pos2) (sRaise x) := by
  obtain ⟨C, g, q, kk, s1, t1⟩ := E.ex
  exact ps_imp (ps_raise b.calm b.tk (pmk_own0 PySem.F.excBase_ValueError q g kk (raises_own s1 t1) hg hdb)) fun D σ H ⟨B, Z, as, s, I, h⟩ => h C σ H Z as g I .refl (List.prefix_refl _)
end
end DL

/-! DL6: built-in functions, list methods, stores at several names, in-place operations; a def from its body. -/
namespace DL
open PySem PySem.Spec PyProof.Rows L2

section
variable {X : Cx} {W : WX} {k : Nat} {a b c e : Expr} {oa ob oc : Opd} {pos p : Pos} {x : Str} {id T : String}

/-! ### built-in functions of one, of two values -/
def OfC1 (C : Ct) (r : List V → Hp → VK → Prop) (g : D → Option D) : Prop := ∀ (Z H : Hp) (x : V) (dx d : D) (Q : VK), BRep C Z H x dx → Same Z H → g dx = some d → (∀ v, Rep C Z v d → Q v H) → r [x] H Q
def OfC2 (C : Ct) (r : List V → Hp → VK → Prop) (g : D → D → Option D) : Prop := ∀ (Z H : Hp) (x y : V) (dx dy d : D) (Q : VK), BRep C Z H x dx → BRep C Z H y dy → Same Z H → g dx dy = some d → (∀ v, Rep C Z v d → Q v H) → r [x, y] H Q
theorem rD_c1 {r : List V → Hp → VK → Prop} {g : D → Option D} (hf : OfC1 (ctOf X) r g) {σ : St} {H : Hp} {Q : VK} (h : rD (ctOf X) W (e1 g oa) σ H Q) : tCB r (tCons (rO (ctOf X) W oa) tNil) σ H Q := by
  obtain ⟨B, Z, as, s, I, h⟩ := h
  refine rO_mono (rO1 I h) fun v H1 ⟨Z1, as1, s1, dx, d, I1, E1, P1, rx, e, q⟩ => ?_
  exact hf Z1 H1 v dx d Q rx I1.zh e q
theorem rD_c2 {r : List V → Hp → VK → Prop} {g : D → D → Option D} (hf : OfC2 (ctOf X) r g) {σ : St} {H : Hp} {Q : VK} (h : rD (ctOf X) W (e2 g oa ob) σ H Q) : tCB r (tCons (rO (ctOf X) W oa) (tCons (rO (ctOf X) W ob) tNil)) σ H Q := by
  obtain ⟨B, Z, as, s, I, h⟩ := h
  refine rO_mono (rO2 I h) fun v H1 h1 => rO_mono h1 fun u H2 ⟨Z2, as2, s2, dx, dy, d, I2, E2, P2, rx, ry, e, q⟩ => ?_
  exact hf Z2 H2 v u dx dy d Q rx ry I2.zh e q
theorem de_b1 {r : List V → Hp → VK → Prop} {g : D → Option D} (hc : CallR X (.builtin id) r) (hf : OfC1 (ctOf X) r g) (hm : X.mg x = none) (hv : bootBuiltins x = some (.builtin id)) (ha : DO X W a oa) (hg : Gl X x := by rfl) (hn : x ≠ "__name__" := by decide) (hdb : (x == ("__debug__" : Str)) = false := by decide)
    (hs : starEach [a] X.env = (false, eval a X.env) :: starEach [] X.env := by rfl) (hpl : (backTo pos (starEach [] X.env)).any (·.1) = false := by rfl) : DE X W (.Call (.Name x p) [a] [] pos) (e1 g oa) :=
  pe_imp (pe_callB hc hg hm hv (pa_cons ha pa_nil hs) hn hdb hs hpl) fun _ _ _ h => rD_c1 hf h
theorem de_b2 {r : List V → Hp → VK → Prop} {g : D → D → Option D} (hc : CallR X (.builtin id) r) (hf : OfC2 (ctOf X) r g) (hm : X.mg x = none) (hv : bootBuiltins x = some (.builtin id)) (ha : DO X W a oa) (hb : DO X W b ob) (hg : Gl X x := by rfl) (hn : x ≠ "__name__" := by decide) (hdb : (x == ("__debug__" : Str)) = false := by decide)
    (hs : starEach [a, b] X.env = (false, eval a X.env) :: starEach [b] X.env := by rfl) (hs2 : starEach [b] X.env = (false, eval b X.env) :: starEach [] X.env := by rfl) (hpl : (backTo pos (starEach [b] X.env)).any (·.1) = false := by rfl) : DE X W (.Call (.Name x p) [a, b] [] pos) (e2 g oa ob) :=
  pe_imp (pe_callB hc hg hm hv (pa_cons ha (pa_cons hb pa_nil hs2) hs) hn hdb hs hpl) fun _ _ _ h => rD_c2 hf h
theorem de_t1 {r : List V → Hp → VK → Prop} {g : D → Option D} (hc : CallR X (.type T) r) (hf : OfC1 (ctOf X) r g) (hm : X.mg x = none) (hv : bootBuiltins x = some (.type T)) (ha : DO X W a oa) (hg : Gl X x := by rfl) (hn : x ≠ "__name__" := by decide) (hdb : (x == ("__debug__" : Str)) = false := by decide)
    (hs : starEach [a] X.env = (false, eval a X.env) :: starEach [] X.env := by rfl) (hpl : (backTo pos (starEach [] X.env)).any (·.1) = false := by rfl) : DE X W (.Call (.Name x p) [a] [] pos) (e1 g oa) :=
  pe_imp (pe_callTy hc hg hm hv (pa_cons ha pa_nil hs) hn hdb hs hpl) fun _ _ _ h => rD_c1 hf h
def gAbs := g1I fun i => .int (if i < 0 then -i else i)
theorem of_abs {C : Ct} : OfC1 C (fun xs H Q => ∃ i, xs = [.int i] ∧ Q (.int (if i < 0 then -i else i)) H) gAbs := by
  intro Z H x dx d Q rx zh e q
  cases dx with
  | int i => cases e; exact ⟨i, by rw [rx.int], q _ (.int _)⟩
  | _ => cases e
def gMax := gI0 fun i j => .int (if j > i then j else i)
def gMin := gI0 fun i j => .int (if j < i then j else i)
theorem of_max {C : Ct} : OfC2 C (fun xs H Q => ∃ i j, xs = [.int i, .int j] ∧ Q (.int (if j > i then j else i)) H) gMax := by
  intro Z H x y dx dy d Q rx ry zh e q
  cases dx with
  | int i =>
    cases dy with
    | int j => cases e; exact ⟨i, j, by rw [rx.int, ry.int], q _ (.int _)⟩
    | _ => cases e
  | _ => cases e
theorem of_min {C : Ct} : OfC2 C (fun xs H Q => ∃ i j, xs = [.int i, .int j] ∧ Q (.int (if j < i then j else i)) H) gMin := by
  intro Z H x y dx dy d Q rx ry zh e q
  cases dx with
  | int i =>
    cases dy with
    | int j => cases e; exact ⟨i, j, by rw [rx.int, ry.int], q _ (.int _)⟩
    | _ => cases e
  | _ => cases e
/-- len of a list, a tuple -/
def gLen : D → Option D
  | .list ds => some (.int ds.length)
  | .tuple ds => some (.int ds.length)
  | _ => none
theorem of_len : OfC1 (ctOf X) (fun xs H Q => ∃ p ys, xs = [.ref p] ∧ (SqL X.K H p ys ∨ SqT X.K H p ys) ∧ Q (.int ys.length) H) gLen := by
  intro Z H x dx d Q rx zh e q
  cases dx with
  | list ds =>
    cases e
    obtain ⟨p, xs, rfl, h1, h2⟩ := rx.list zh
    exact ⟨p, xs, rfl, .inl h1, by rw [h2.length]; exact q _ (.int _)⟩
  | tuple ds =>
    cases e
    obtain ⟨p, xs, rfl, h1, h2⟩ := rx.tuple zh
    exact ⟨p, xs, rfl, .inr h1, by rw [h2.length]; exact q _ (.int _)⟩
  | _ => cases e
/-- a list of ints, of truth values -/
def intsD : List D → Option (List Int)
  | [] => some []
  | .int i :: ds => (intsD ds).bind fun is => some (i :: is)
  | _ :: _ => none
def boolsD : List D → Option (List Bool)
  | [] => some []
  | .bool i :: ds => (boolsD ds).bind fun is => some (i :: is)
  | _ :: _ => none
theorem intsD_map (is : List Int) : intsD (is.map .int) = some is := by
  induction is with
  | nil => rfl
  | cons i is ih => show (intsD (is.map .int)).bind _ = _; rw [ih]; rfl
theorem boolsD_map (is : List Bool) : boolsD (is.map .bool) = some is := by
  induction is with
  | nil => rfl
  | cons i is ih => show (boolsD (is.map .bool)).bind _ = _; rw [ih]; rfl
theorem ints_rep {C : Ct} {Z : Hp} : ∀ {vs : List V} {ds : List D} {is : List Int}, Reps C Z vs ds → intsD ds = some is → vs = is.map V.int
  | _, _, _, .nil, e => by cases e; rfl
  | _, _, is, .cons r t, e => by
    cases r with
    | int i =>
      rename_i ds
      unfold intsD at e
      cases e2 : intsD ds with
      | none => rw [e2] at e; cases e
      | some js => rw [e2] at e; cases e; rw [ints_rep t e2]; rfl
    | _ => cases e
theorem bools_rep {C : Ct} {Z : Hp} : ∀ {vs : List V} {ds : List D} {is : List Bool}, Reps C Z vs ds → boolsD ds = some is → vs = is.map V.bl
  | _, _, _, .nil, e => by cases e; rfl
  | _, _, is, .cons r t, e => by
    cases r with
    | bl i =>
      rename_i ds
      unfold boolsD at e
      cases e2 : boolsD ds with
      | none => rw [e2] at e; cases e
      | some js => rw [e2] at e; cases e; rw [bools_rep t e2]; rfl
    | _ => cases e
def gSum : D → Option D
  | .list ds => (intsD ds).map fun is => .int is.sum
  | _ => none
theorem of_sum : OfC1 (ctOf X) (rSum X.K) gSum := by
  intro Z H x dx d Q rx zh e q
  cases dx with
  | list ds =>
    unfold gSum at e; dsimp only at e
    cases e2 : intsD ds with
    | none => rw [e2] at e; cases e
    | some is =>
      rw [e2] at e; cases e
      obtain ⟨p, xs, rfl, h1, h2⟩ := rx.list zh
      exact ⟨p, is, rfl, by rw [← ints_rep h2 e2]; exact h1, q _ (.int _)⟩
  | _ => cases e
def gAny : D → Option D
  | .list ds => (boolsD ds).map fun is => .bool (is.any _root_.id)
  | _ => none
def gAll : D → Option D
  | .list ds => (boolsD ds).map fun is => .bool (is.all _root_.id)
  | _ => none
theorem of_any : OfC1 (ctOf X) (rAny X.K) gAny := by
  intro Z H x dx d Q rx zh e q
  cases dx with
  | list ds =>
    unfold gAny at e; dsimp only at e
    cases e2 : boolsD ds with
    | none => rw [e2] at e; cases e
    | some is =>
      rw [e2] at e; cases e
      obtain ⟨p, xs, rfl, h1, h2⟩ := rx.list zh
      exact ⟨p, is, rfl, by rw [← bools_rep h2 e2]; exact h1, q _ (.bl _)⟩
  | _ => cases e
theorem of_all : OfC1 (ctOf X) (rAll X.K) gAll := by
  intro Z H x dx d Q rx zh e q
  cases dx with
  | list ds =>
    unfold gAll at e; dsimp only at e
    cases e2 : boolsD ds with
    | none => rw [e2] at e; cases e
    | some is =>
      rw [e2] at e; cases e
      obtain ⟨p, xs, rfl, h1, h2⟩ := rx.list zh
      exact ⟨p, is, rfl, by rw [← bools_rep h2 e2]; exact h1, q _ (.bl _)⟩
  | _ => cases e
/-- isinstance(x, T), T a built-in type -/
def tyD : D → String
  | .none => "NoneType" | .bool _ => "bool" | .int _ => "int" | .str _ => "str" | .list _ => "list" | .tuple _ => "tuple" | .dict _ => "dict"
def isiD (T : String) : D → Option Bool
  | .none => some false
  | .bool _ => some (T == "bool" || T == "int")
  | .int _ => some (T == "int")
  | .str _ => some (T == "str")
  | .list _ => some (T == "list")
  | .tuple _ => some (T == "tuple")
  | .dict _ => none
def KitOk (T : String) : Prop := kitB "NoneType" T = some false ∧ kitB "bool" T = some (T == "bool" || T == "int") ∧ kitB "int" T = some (T == "int") ∧ kitB "str" T = some (T == "str") ∧ kitB "list" T = some (T == "list") ∧ kitB "tuple" T = some (T == "tuple")
theorem kit_int : KitOk "int" := by refine ⟨?_, ?_, ?_, ?_, ?_, ?_⟩ <;> decide +kernel
theorem kit_bool : KitOk "bool" := by refine ⟨?_, ?_, ?_, ?_, ?_, ?_⟩ <;> decide +kernel
theorem kit_str : KitOk "str" := by refine ⟨?_, ?_, ?_, ?_, ?_, ?_⟩ <;> decide +kernel
theorem kit_list : KitOk "list" := by refine ⟨?_, ?_, ?_, ?_, ?_, ?_⟩ <;> decide +kernel
theorem kit_tuple : KitOk "tuple" := by refine ⟨?_, ?_, ?_, ?_, ?_, ?_⟩ <;> decide +kernel
theorem tyX_of {C : Ct} {Z H : Hp} {v : V} {d : D} {bb : Bool} (zh : Same Z H) (r : BRep C Z H v d) (h : isiD T d = some bb) : TyX C.K H v (.type (tyD d)) := by
  cases r with
  | f r =>
    cases r with
    | non => exact .base .non
    | bl b => exact .base (.bl b)
    | int b => exact .base (.int b)
    | str b => exact .base (.str b)
    | lst h1 _ =>
      rcases h1 with (h1 | ⟨o, h1⟩) | ⟨o, its, n, h1, h2, _⟩
      · exact .base (.lst (zh _ _ h1))
      · exact .base (.frz (zh _ _ h1))
      · exact .kList h1 h2
    | tup h1 _ =>
      rcases h1 with (h1 | ⟨o, h1⟩) | ⟨o, its, n, h1, h2, _⟩
      · exact .base (.tup (zh _ _ h1))
      · exact .fTuple (zh _ _ h1)
      · exact .kTuple h1 h2
    | dic => cases h
  | l h1 _ => exact .base (.lst h1)
  | k _ => cases h
theorem kit_d (hk : KitOk T) {d : D} {b : Bool} (h : isiD T d = some b) : kitB (tyD d) T = some b := by
  obtain ⟨h1, h2, h3, h4, h5, h6⟩ := hk
  cases d <;> first | (cases h; done) | (cases h; assumption)
def gIsi (T : String) (d : D) : Option D := (isiD T d).map .bool
theorem de_isi {y : Str} {p2 : Pos} (hk : KitOk T) (hm : X.mg "isinstance" = none) (hmT : X.mg y = none) (hvT : bootBuiltins y = some (.type T)) (ha : DO X W a oa) (hg : Gl X "isinstance" := by rfl) (hgT : Gl X y := by rfl)
    (hnT : y ≠ "__name__" := by decide) (hdT : (y == ("__debug__" : Str)) = false := by decide)
    (hs : starEach [a, .Name y p2] X.env = (false, eval a X.env) :: starEach [.Name y p2] X.env := by rfl) (hs2 : starEach [.Name y p2] X.env = (false, eval (.Name y p2) X.env) :: starEach [] X.env := by rfl) (hpl : (backTo pos (starEach [.Name y p2] X.env)).any (·.1) = false := by rfl) :
    DE X W (.Call (.Name "isinstance" p) [a, .Name y p2] [] pos) (e1 (gIsi T) oa) := by
  refine pe_imp (pe_callB call_isi hg hm (by decide +kernel) (pa_cons ha (pa_cons (pe_bltn hgT hmT hvT (v := .ty T) rfl hnT hdT) pa_nil hs2) hs) (by decide) (by decide) hs hpl) fun σ H Q ⟨B, Z, as, s, I, h⟩ => ?_
  refine rO_mono (rO1 I h) fun v H1 ⟨Z1, as1, s1, dx, d, I1, E1, P1, rx, e, q⟩ => ?_
  unfold gIsi at e
  cases e2 : isiD T dx with
  | none => rw [e2] at e; cases e
  | some bb =>
    rw [e2] at e; cases e
    exact ⟨v, .ty T, .type (tyD dx), .type T, bb, rfl, .ty T, tyX_of I1.zh rx e2, kit_ty (kit_d hk e2), q _ (.bl _)⟩
end

/-! ### methods of an owned list -/
section
variable {X : Cx} {W : WX} {k : Nat} {e : Expr} {fe : DM D} {fv : DM RV} {pos apos : Pos}
/-- the slot i holds an owned list, or a cell that is a list -/
def listAt (i : Nat) (s : S) : Option (List D) := match s.env[i]? with
  | some (.ol ds) => some ds
  | some (.cell g) => match s.st[g]? with
    | some (.lst ds) => some ds
    | _ => none
  | _ => none
def putList (i : Nat) (ds : List D) (s : S) : S := match s.env[i]? with
  | some (.cell g) => { s with st := s.st.set g (.lst ds) }
  | _ => { s with env := s.env.set i (.ol ds) }
theorem listAt_rep {C : Ct} {B Z H : Hp} {σ : St} {as : List Addr} {s : S} (I : SR C B Z σ H as s) {i : Nat} {ds : List D} (h : listAt i s = some ds) :
    ∃ p xs, σ[i]? = some (some (.ref p)) ∧ H p = some (.lst xs) ∧ Reps C Z xs ds ∧ Z p = none ∧ B p = none ∧
      ∀ (ys : List V) (es : List D), Reps C Z ys es → SR C B Z σ (upd H p (.lst ys)) as (putList i es s) := by
  unfold listAt at h
  cases e : s.env[i]? with
  | none => rw [e] at h; cases h
  | some sl =>
    rw [e] at h
    obtain ⟨o, h1, h2⟩ := paired_get I.env e
    cases sl with
    | un => cases h
    | v d => cases h
    | od kvs => cases h
    | ol ds' =>
      cases h
      cases o with
      | none => exact h2.elim
      | some v =>
        cases v with
        | ref p =>
          obtain ⟨nz, xs, h3, h4⟩ := h2
          obtain ⟨nb, na⟩ := I.own i p _ h1 e rfl
          refine ⟨p, xs, h1, h3, h4, nz, nb, fun ys es r => ?_⟩
          have hi : i < s.env.length := (List.getElem?_eq_some_iff.mp e).1
          have I0 := I.slot i .un (fun o _ => by cases o <;> trivial) rfl
          have hf := disown_free I h1 e rfl
          have I1 := I0.poke (o := .lst ys) nz nb hf
          have hσ : σ.set i (some (.ref p)) = σ := by
            refine List.ext_getElem? fun j => ?_
            by_cases hj : i = j
            · subst hj; rw [List.getElem?_set_self (List.getElem?_eq_some_iff.mp h1).1, h1]
            · rw [List.getElem?_set_ne hj]
          have I2 := I1.store (i := i) (v := .ref p) (sl := .ol es) ⟨nz, ys, upd_same, r⟩ fun _ => ⟨p, rfl, nb, hf⟩
          rw [hσ] at I2
          dsimp only at I2
          rw [List.set_set] at I2
          have : putList i es s = { s with env := s.env.set i (.ol es) } := by unfold putList; rw [e]
          rw [this]; exact I2
        | _ => exact h2.elim
    | cell g =>
      cases o with
      | none => exact h2.elim
      | some v =>
        cases v with
        | ref p =>
          have h3 : as[g]? = some p := h2
          obtain ⟨c, h4, h5⟩ := paired_getL I.st h3
          dsimp only at h
          rw [h4] at h
          cases c with
          | dic kvs => cases h
          | ins c fs => cases h
          | lst ds' =>
            cases h
            obtain ⟨xs, h6, h7⟩ := h5
            have hp : p ∈ as := List.mem_of_getElem? h3
            obtain ⟨nb, nz⟩ := I.asb p hp
            refine ⟨p, xs, h1, h6, h7, nz, nb, fun ys es r => ?_⟩
            have : putList i es s = { s with st := s.st.set g (.lst es) } := by unfold putList; rw [e]
            rw [this]
            refine ⟨fun b x q => by rw [upd_ne (ne_of_none q nz)]; exact I.zh b x q, fun b x q => by rw [upd_ne (ne_of_none q nb)]; exact I.bh b x q, ?_, ?_, I.asn, I.asb, I.own, I.dis⟩
            · exact paired_imp I.env fun j o sl q1 q2 q => q.keep (Same.refl _) (List.prefix_refl _) fun q' hq' hw => by
                subst hq'
                refine ⟨(I.ownH q1 q2 hw).1, upd_ne fun z => ?_⟩
                subst z
                exact (I.own j _ sl q1 q2 hw).2 hp
            · have hgl : g < s.st.length := (List.getElem?_eq_some_iff.mp h4).1
              have base : Paired (fun a c => a ≠ p → CellR C Z (upd H p (.lst ys)) as a c) as s.st := paired_imp I.st fun j a c q1 q2 q hne => q.keep (Same.refl _) (List.prefix_refl _) (upd_ne hne)
              have key : ∀ (l : List Addr) (m : List Cell), l.length = m.length → (∀ (j : Nat) a c, l[j]? = some a → m[j]? = some c → CellR C Z (upd H p (.lst ys)) as a c) → Paired (CellR C Z (upd H p (.lst ys)) as) l m := by
                intro l
                induction l with
                | nil => intro m hm _; cases m with
                  | nil => exact .nil
                  | cons _ _ => cases hm
                | cons a l ih => intro m hm hh; cases m with
                  | nil => cases hm
                  | cons c m => exact .cons (hh 0 _ _ rfl rfl) (ih m (by simpa using hm) fun j a' c' q1 q2 => hh (j + 1) a' c' (by simpa using q1) (by simpa using q2))
              refine key _ _ (by rw [List.length_set]; exact paired_length I.st) fun j a c q1 q2 => ?_
              by_cases hj : g = j
              · subst hj
                rw [List.getElem?_set_self hgl] at q2; cases q2
                rw [h3] at q1; cases q1
                exact ⟨ys, upd_same, r⟩
              · rw [List.getElem?_set_ne hj] at q2
                obtain ⟨c', q3, q4⟩ := paired_getL base q1
                rw [q2] at q3; cases q3
                refine q4 fun z => ?_
                subst z
                obtain ⟨l1, e1⟩ := List.getElem?_eq_some_iff.mp h3
                obtain ⟨l2, e2⟩ := List.getElem?_eq_some_iff.mp q1
                exact hj ((List.getElem_inj I.asn).mp (e1.trans e2.symm))
        | _ => exact h2.elim
def lenOk (n : Nat) : Bool := decide (n < 16000000)
theorem lenOk_line {n : Nat} (h : lenOk n = true) : n < sizeLine := Nat.lt_of_lt_of_le (of_decide_eq_true h) (by decide)
def fAppend (i : Nat) (f : DM D) : DM RV := fun s => match listAt i s with
  | none => .bad
  | some _ => bindM f (fun d s1 => match listAt i s1 with
    | some ds => if lenOk ds.length then .ok (.d .none) (putList i (ds ++ [d]) s1) else .bad
    | none => .bad) s
theorem df_append (i : Nat) {x : Str} {px : Pos} (he : DE X W e fe) (hN : X.N[i]? = some x := by rfl) (hv : Vis X.env.scope x := by first | exact Or.inl rfl | exact Or.inr (Or.inl rfl) | exact Or.inr (Or.inr rfl)) (hd : (x == ("__debug__" : Str)) = false := by decide)
    (hcd : (x == ("__classdict__" : Str)) = false := by decide)
    (hbase : attributeBase (.Name x px) "append" X.env (eval (.Name x px) X.env) = eval (.Name x px) X.env := by rfl)
    (hfew : ((backTo pos (starEach [e] X.env)).all (fun x => !x.1) && (backToKw pos (keywordEach [] X.env)).all (fun x => x.1.isSome)
      && decide ([e].length + ([] : List Keyword).length + (if ([] : List Keyword).isEmpty then 0 else 1) < 30)) = true := by rfl)
    (hline : (apos.endLine == pos.line) = true := by rfl) (hs : starEach [e] X.env = (false, eval e X.env) :: starEach [] X.env := by rfl) (hplain : (backTo pos (starEach [] X.env)).any (·.1) = false := by rfl) :
    DF X W (.Call (.Attribute (.Name x px) "append" apos) [e] [] pos) (fAppend i fe) := by
  refine pe_imp (pe_bm PySem.F.plainAttrs_list PySem.F.slot_list_append PySem.F.type_list_append mt_append (pe_var hN hv hd hcd) (pa_cons he pa_nil hs) hbase hfew hline hs hplain) fun σ H Q ⟨B, Z, as, s, I, h⟩ => ?_
  unfold fAppend at h
  cases e0 : listAt i s with
  | none => rw [e0] at h; exact h.elim
  | some ds0 =>
    rw [e0] at h
    dsimp only at h
    obtain ⟨p, xs, h1, h2, _⟩ := listAt_rep I e0
    refine ⟨.ref p, h1, .inl ⟨rfl, xs, .inl (.inl h2)⟩, B, Z, as, s, I, (After.bind h).imp fun d s1 H1 Z1 as1 I1 E1 P1 h3 v rv => ?_⟩
    cases e1 : listAt i s1 with
    | none => rw [e1] at h3; exact h3.elim
    | some ds =>
      rw [e1] at h3
      dsimp only at h3
      split at h3
      · rename_i hl
        obtain ⟨p', xs', q1, q2, q3, q4, q5, q6⟩ := listAt_rep I1 e1
        rw [h1] at q1; cases q1
        refine ⟨p, xs', v, rfl, rfl, q2, by rw [q3.length]; exact lenOk_line hl, ?_⟩
        exact h3 _ _ _ (q6 _ _ (q3.append (.one rv))) .refl (List.prefix_refl _) _ .non
      · exact h3.elim
end
end DL

/-! DL7: stores at several names, in-place operations, more list methods; a def from its body. -/
namespace DL
open PySem PySem.Spec PyProof.Rows L2

/-! ### several results, kept apart -/
def RV.new : RV → Bool
  | .fl _ => true
  | .fd _ => true
  | _ => false
inductive RVRs (C : Ct) (B Z : Hp) (σ : St) (H : Hp) (as : List Addr) (s : S) : List V → List RV → Prop
  | nil : RVRs C B Z σ H as s [] []
  | cons {v : V} {vs : List V} {r : RV} {rs : List RV} : RVR C B Z σ H as s v r → (r.new = true → ∀ (j : Nat) r', vs[j]? = some v → rs[j]? = some r' → r'.new = false) → RVRs C B Z σ H as s vs rs → RVRs C B Z σ H as s (v :: vs) (r :: rs)
def rFL (C : Ct) (W : WX) (f : DM (List RV)) : TA := fun σ H Q => ∃ B Z as s, SR C B Z σ H as s ∧ After C W B Z as σ (fun rs s' H' Z' as' => ∀ vs, RVRs C B Z' σ H' as' s' vs rs → Q vs H') (f s)
abbrev DFL (X : Cx) (W : WX) (es : List Expr) (f : DM (List RV)) : Prop := PA X es (rFL (ctOf X) W f)
def fNil : DM (List RV) := pureM []
def fCons (f : DM RV) (g : DM (List RV)) : DM (List RV) := bindM f fun r => bindM g fun rs => pureM (r :: rs)
section
variable {C : Ct} {W : WX} {B Z Z' H H' : Hp} {σ : St} {as as' : List Addr} {s s' : S}
theorem RVRs.unhold {p : Addr} {o : HO} (nb : B p = none) : ∀ {vs : List V} {rs : List RV}, RVRs C (upd B p o) Z σ H as s vs rs → RVRs C B Z σ H as s vs rs ∧ ∀ (j : Nat) r', vs[j]? = some (.ref p) → rs[j]? = some r' → r'.new = false
  | _, _, .nil => ⟨.nil, fun j r' e => by simp at e⟩
  | _, _, .cons (v := v) (r := r) h1 h2 h3 => by
    have sb : Same B (upd B p o) := fun b x e => by rw [upd_ne (ne_of_none e nb)]; exact e
    obtain ⟨h4, h5⟩ := h3.unhold nb
    have h6 : RVR C B Z σ H as s v r ∧ (v = .ref p → r.new = false) := by
      cases r with
      | d x => exact ⟨h1, fun _ => rfl⟩
      | cell g => exact ⟨h1, fun _ => rfl⟩
      | fl ds =>
        obtain ⟨q, xs, rfl, g1, g2, g3⟩ := h1
        refine ⟨⟨q, xs, rfl, g1, sb.free g2, g3⟩, fun e => ?_⟩
        cases e; rw [upd_same] at g2; cases g2
      | fd kvs =>
        obtain ⟨q, rfl, g1, g2, g3⟩ := h1
        refine ⟨⟨q, rfl, g1, sb.free g2, g3⟩, fun e => ?_⟩
        cases e; rw [upd_same] at g2; cases g2
    refine ⟨.cons h6.1 h2 h4, fun j r' e1 e2 => ?_⟩
    cases j with
    | zero => simp at e1 e2; subst e2; exact h6.2 e1
    | succ j => exact h5 j r' (by simpa using e1) (by simpa using e2)
theorem dfl_nil {X : Cx} : DFL X W [] fNil := pa_imp pa_nil fun σ H Q ⟨B, Z, as, s, I, h⟩ => After.pure h I [] .nil
theorem dfl_cons {X : Cx} {e : Expr} {es : List Expr} {f : DM RV} {g : DM (List RV)} (ha : DF X W e f) (hr : DFL X W es g) (hs : starEach (e :: es) X.env = (false, eval e X.env) :: starEach es X.env := by rfl) : DFL X W (e :: es) (fCons f g) :=
  pa_imp (pa_cons ha hr hs) fun σ H Q ⟨B, Z, as, s, I, h⟩ => ⟨B, Z, as, s, I, (After.bind h).imp fun r s1 H1 Z1 as1 I1 E1 P1 h1 v rv => by
    have old : ∀ (nv : r.new = false), rFL (ctOf X) W g σ H1 fun vs H2 => Q (v :: vs) H2 := fun nv => ⟨B, Z1, as1, s1, I1, (After.bind h1).imp fun rs s2 H2 Z2 as2 I2 E2 P2 h2 vs rvs => After.pure h2 I2 (v :: vs) (.cons (by
      cases r with
      | d x => exact Rep.mono E2.same rv
      | cell gg =>
        obtain ⟨p, rfl, hp⟩ := rv
        refine ⟨p, rfl, ?_⟩
        obtain ⟨t, rfl⟩ := P2
        rw [List.getElem?_append_left (List.getElem?_eq_some_iff.mp hp).1]; exact hp
      | _ => cases nv) (fun z => by rw [nv] at z; cases z) rvs)⟩
    cases r with
    | d x => exact old rfl
    | cell gg => exact old rfl
    | fl ds =>
      obtain ⟨p, xs, rfl, nz, nb, hf, hp, hr'⟩ := rv
      refine ⟨upd B p (.lst xs), Z1, as1, s1, I1.hold hp nz nb hf, (After.hold (After.bind h1) nz nb).imp fun rs s2 H2 Z2 as2 I2 E2 P2 ⟨h2, J1, J2, J3, J4, J5, J6⟩ vs rvs => ?_⟩
      obtain ⟨k1, k2⟩ := rvs.unhold nb
      exact After.pure h2 J1 _ (.cons ⟨p, xs, rfl, J4, nb, J6, J5, hr'.mono J2.same⟩ (fun _ => k2) k1)
    | fd kvs =>
      obtain ⟨p, rfl, nz, nb, hf, n, ⟨o, es', ep, d1, d2, d3, d4⟩, nd⟩ := rv
      refine ⟨upd B p (dictHO p o), Z1, as1, s1, I1.hold d1 nz nb hf, (After.hold (After.bind h1) nz nb).imp fun rs s2 H2 Z2 as2 I2 E2 P2 ⟨h2, J1, J2, J3, J4, J5, J6⟩ vs rvs => ?_⟩
      obtain ⟨k1, k2⟩ := rvs.unhold nb
      exact After.pure h2 J1 _ (.cons ⟨p, rfl, J4, nb, J6, n, ⟨o, es', ep, J5, d2, d3, d4.mono J2.same⟩, nd⟩ (fun _ => k2) k1)⟩
/-- what is kept apart stays so behind another store -/
theorem RVR.stored {v u : V} {r q : RV} {i : Nat} (h : RVR C B Z σ H as s v r) (hd : r.new = true → u = v → q.new = false) : RVR C B Z (σ.set i (some u)) H as (setSl i (slOf q) s) v r := by
  have free : ∀ p, v = .ref p → r.new = true → Free σ as s p → Free (σ.set i (some u)) as (setSl i (slOf q) s) p := fun p hv hn hf => by
    refine ⟨hf.1, fun j sl e1 e2 => ?_⟩
    have e2' : (s.env.set i (slOf q))[j]? = some sl := e2
    by_cases hj : i = j
    · subst hj
      obtain ⟨h1, h2⟩ := List.getElem?_eq_some_iff.mp e1
      obtain ⟨h3, h4⟩ := List.getElem?_eq_some_iff.mp e2'
      rw [List.getElem_set_self] at h2 h4
      subst h4
      cases h2
      have := hd hn hv.symm
      cases q <;> first | rfl | cases this
    · rw [List.getElem?_set_ne hj] at e1 e2'
      exact hf.2 j sl e1 e2'
  cases r with
  | d x => exact h
  | cell g => exact h
  | fl ds => obtain ⟨p, xs, rfl, h1, h2, h3, h4⟩ := h; exact ⟨p, xs, rfl, h1, h2, free p rfl rfl h3, h4⟩
  | fd kvs => obtain ⟨p, rfl, h1, h2, h3, h4⟩ := h; exact ⟨p, rfl, h1, h2, free p rfl rfl h3, h4⟩
theorem RVRs.stored {u : V} {q : RV} {i : Nat} : ∀ {vs : List V} {rs : List RV}, RVRs C B Z σ H as s vs rs → (q.new = true → ∀ (j : Nat) r', vs[j]? = some u → rs[j]? = some r' → r'.new = false) → RVRs C B Z (σ.set i (some u)) H as (setSl i (slOf q) s) vs rs
  | _, _, .nil, _ => .nil
  | _, _, .cons (v := v) (r := r) h1 h2 h3, hd => .cons (h1.stored fun hn e => by
      cases hq : q.new with
      | false => rfl
      | true => have := hd hq 0 r (by simp [e]) rfl; rw [hn] at this; cases this) h2 (h3.stored fun hn j r' e1 e2 => hd hn (j + 1) r' (by simpa using e1) (by simpa using e2))
def setAll : List Nat → List RV → S → Option S
  | [], [], s => some s
  | i :: is, r :: rs, s => setAll is rs (setSl i (slOf r) s)
  | _, _, _ => none
def setσ : List Nat → List V → St → St
  | i :: is, v :: vs, σ => setσ is vs (σ.set i (some v))
  | _, _, σ => σ
theorem SR.storeAll : ∀ {is : List Nat} {vs : List V} {rs : List RV} {σ : St} {s s2 : S}, SR C B Z σ H as s → RVRs C B Z σ H as s vs rs → setAll is rs s = some s2 → vs.length = is.length ∧ SR C B Z (setσ is vs σ) H as s2
  | [], _, _, σ, s, s2, I, .nil, e => by cases e; exact ⟨rfl, I⟩
  | i :: is, _, _, σ, s, s2, I, .cons (v := v) (vs := vs) (r := r) (rs := rs) h1 h2 h3, e => by
    obtain ⟨q1, q2⟩ := rvr_sl h1
    have I1 := I.store (i := i) q1 q2
    have h4 : RVRs C B Z (σ.set i (some v)) H as (setSl i (slOf r) s) vs rs := h3.stored h2
    obtain ⟨g1, g2⟩ := SR.storeAll (is := is) I1 h4 e
    exact ⟨congrArg (· + 1) g1, g2⟩
  | [], _, _, σ, s, s2, I, .cons _ _ _, e => by cases e
  | i :: is, _, _, σ, s, s2, I, .nil, e => by cases e
end
section
variable {X : Cx} {W : WX} {k : Nat} {a b c e : Expr} {pos p : Pos}
def sPar (is : List Nat) (g : DM (List RV)) : DM Fl := bindM g fun rs => fun s => match setAll is rs s with
  | some s' => .ok .nx s'
  | none => .bad
theorem ds_par2 (i j : Nat) {x y : Str} {g : DM (List RV)} {px py pt : Pos} {kt k2 pt2} (bd : Bd X W k) (hN : X.N.Nodup) (ha : DFL X W [a, b] g) (hi : X.N[i]? = some x := by rfl) (hj : X.N[j]? = some y := by rfl) (hij : i ≠ j := by decide)
    (hx : X.env.scope.names.lookup x = some .local := by rfl) (hy : X.env.scope.names.lookup y = some .local := by rfl)
    (hw : swappedStores [.Tuple [.Name x px, .Name y py] kt pt] (.Tuple [a, b] k2 pt2) X.env = pure (some [x, y]) := by rfl)
    (hs : swapsWithSole [.Tuple [.Name x px, .Name y py] kt pt] (.Tuple [a, b] k2 pt2) pos.line X.env = pure false := by rfl) :
    DS X W (.Assign [.Tuple [.Name x px, .Name y py] kt pt] (.Tuple [a, b] k2 pt2) pos) (sPar [i, j] g) :=
  ps_imp (ps_par bd.calm hN hi hj hij hx hy ha hw hs) fun D σ H ⟨B, Z, as, s, I, h⟩ =>
  ⟨B, Z, as, s, I, (AfterS.bind h).imp fun rs s1 H1 Z1 as1 I1 E1 P1 h1 vs rvs => by
    cases e : setAll [i, j] rs s1 with
    | none => rw [e] at h1; exact h1.elim
    | some s2 =>
      rw [e] at h1
      obtain ⟨hl, I2⟩ := I1.storeAll rvs e
      match vs, hl with
      | [v, w], _ => exact ⟨v, w, rfl, h1 _ _ _ _ I2 .refl (List.prefix_refl _)⟩⟩
theorem ds_par3 (i j l : Nat) {x y z : Str} {g : DM (List RV)} {px py pz pt : Pos} {kt k2 pt2} (bd : Bd X W k) (hN : X.N.Nodup) (ha : DFL X W [a, b, c] g) (hi : X.N[i]? = some x := by rfl) (hj : X.N[j]? = some y := by rfl) (hl : X.N[l]? = some z := by rfl) (hij : i ≠ j := by decide) (hil : i ≠ l := by decide) (hjl : j ≠ l := by decide)
    (hx : X.env.scope.names.lookup x = some .local := by rfl) (hy : X.env.scope.names.lookup y = some .local := by rfl) (hz : X.env.scope.names.lookup z = some .local := by rfl)
    (hw : swappedStores [.Tuple [.Name x px, .Name y py, .Name z pz] kt pt] (.Tuple [a, b, c] k2 pt2) X.env = pure (some [x, y, z]) := by rfl)
    (hs : swapsWithSole [.Tuple [.Name x px, .Name y py, .Name z pz] kt pt] (.Tuple [a, b, c] k2 pt2) pos.line X.env = pure false := by rfl) :
    DS X W (.Assign [.Tuple [.Name x px, .Name y py, .Name z pz] kt pt] (.Tuple [a, b, c] k2 pt2) pos) (sPar [i, j, l] g) :=
  ps_imp (ps_par3 bd.calm hN hi hj hl hij hil hjl hx hy hz ha hw hs) fun D σ H ⟨B, Z, as, s, I, h⟩ =>
  ⟨B, Z, as, s, I, (AfterS.bind h).imp fun rs s1 H1 Z1 as1 I1 E1 P1 h1 vs rvs => by
    cases e : setAll [i, j, l] rs s1 with
    | none => rw [e] at h1; exact h1.elim
    | some s2 =>
      rw [e] at h1
      obtain ⟨hl, I2⟩ := I1.storeAll rvs e
      match vs, hl with
      | [u, v, w], _ => exact ⟨u, v, w, rfl, h1 _ _ _ _ I2 .refl (List.prefix_refl _)⟩⟩
/-- a, b = e -/
def sUnp (f : DM D) (t : D → S → Option S) : DM Fl := bindM f fun d => fun s => match t d s with
  | some s' => .ok .nx s'
  | none => .bad
theorem ds_unp {is : List Nat} {tg : Expr} {f : DM D} {t : D → S → Option S} (he : DE X W e f) (hg : DG X is tg t) (hs : swapsWithSole [tg] e pos.line X.env = pure false := by rfl) (hw : swappedStores [tg] e X.env = pure none := by rfl)
    (h1 : (assignEach [tg] X.env).map (·.2) = [assign tg X.env] := by rfl) : DS X W (.Assign [tg] e pos) (sUnp f t) :=
  ps_imp (ps_asg he hg hs hw h1) fun D σ H ⟨B, Z, as, s, I, h⟩ => ⟨B, Z, as, s, I, (AfterS.bind h).imp fun d s1 H1 Z1 as1 I1 E1 P1 h1 v rv => by
    refine ⟨B, Z1, as1, s1, d, I1, rv, ?_⟩
    cases e2 : t d s1 with
    | none => rw [e2] at h1; exact h1
    | some s2 => rw [e2] at h1; exact fun σ' H' Z' as' I' E' P' _ => h1 σ' H' Z' as' I' E' P'⟩
/-- x op= e -/
def sAug (i : Nat) (g : D → D → Option D) (f : DM D) : DM Fl := fun s => match s.env[i]? with
  | some (.v dx) => bindM f (fun dy => fun s1 => match g dx dy with
    | some d => .ok .nx (setSl i (.v d) s1)
    | none => .bad) s
  | _ => .bad
theorem ds_aug (i : Nat) {x : Str} {op : Operator} {r : R2} {g : D → D → Option D} {f : DM D} {pos' : Pos} (hN : X.N.Nodup) (ho : OpR X (inplaceOp op) r) (hf : Of2 (ctOf X) r g) (he : DE X W e f) (hi : X.N[i]? = some x := by rfl) (hx : Loc X.env.scope x := by first | exact Or.inl rfl | exact Or.inr rfl) (hff : X.fn x = true ∨ X.env.scope.names.lookup x = some .local := by first | exact .inl rfl | exact .inr rfl) :
    DS X W (.AugAssign (.Name x pos') op e pos) (sAug i g f) := ps_imp (ps_aug hN hi hx he (ti := r) ho hff) fun D σ H ⟨B, Z, as, s, I, h⟩ => by
  unfold sAug at h
  cases e0 : s.env[i]? with
  | none => rw [e0] at h; exact h.elim
  | some sl =>
    rw [e0] at h
    cases sl with
    | v dx =>
      obtain ⟨o, h1, h2⟩ := paired_get I.env e0
      cases o with
      | none => exact h2.elim
      | some v =>
        have h2' : Rep (ctOf X) Z v dx := h2
        refine ⟨v, h1, B, Z, as, s, I, (AfterS.bind h).imp fun dy s1 H1 Z1 as1 I1 E1 P1 h3 u ru => ?_⟩
        cases e1 : g dx dy with
        | none => rw [e1] at h3; exact h3.elim
        | some d =>
          rw [e1] at h3
          exact hf Z1 H1 v u dx dy d _ (.f (h2'.mono E1.same)) (.f ru) I1.zh e1 fun w rw' => h3 _ _ _ _ (I1.store (sl := .v d) rw' fun z => nomatch z) .refl (List.prefix_refl _)
    | _ => exact h.elim
/-- xs.pop(), xs.pop(0) -/
def fPop (i : Nat) : DM RV := fun s => match listAt i s with
  | some ds => match ds.getLast? with
    | some d => .ok (.d d) (putList i ds.dropLast s)
    | none => .bad
  | none => .bad
theorem Reps.dropLast {C : Ct} {Z : Hp} {vs : List V} {ds : List D} (r : Reps C Z vs ds) : Reps C Z vs.dropLast ds.dropLast := by
  rw [List.dropLast_eq_take, List.dropLast_eq_take, r.length]; exact r.take _
theorem df_pop (i : Nat) {x : Str} {px apos : Pos} (hN : X.N[i]? = some x := by rfl) (hv : Vis X.env.scope x := by first | exact Or.inl rfl | exact Or.inr (Or.inl rfl) | exact Or.inr (Or.inr rfl)) (hd : (x == ("__debug__" : Str)) = false := by decide)
    (hcd : (x == ("__classdict__" : Str)) = false := by decide)
    (hbase : attributeBase (.Name x px) "pop" X.env (eval (.Name x px) X.env) = eval (.Name x px) X.env := by rfl) (hline : (apos.endLine == pos.line) = true := by rfl) :
    DF X W (.Call (.Attribute (.Name x px) "pop" apos) [] [] pos) (fPop i) := by
  refine pe_imp (pe_bm0 PySem.F.plainAttrs_list PySem.F.slot_list_pop PySem.F.type_list_pop mt_pop (pe_var hN hv hd hcd) hbase hline) fun σ H Q ⟨B, Z, as, s, I, h⟩ => ?_
  unfold fPop at h
  cases e0 : listAt i s with
  | none => rw [e0] at h; exact h.elim
  | some ds =>
    rw [e0] at h
    dsimp only at h
    obtain ⟨p, xs, h1, h2, h3, h4, h5, h6⟩ := listAt_rep I e0
    cases e1 : ds.getLast? with
    | none => rw [e1] at h; exact h.elim
    | some d =>
      rw [e1] at h
      have e2 : ds[ds.length - 1]? = some d := by rw [← List.getLast?_eq_getElem?]; exact e1
      obtain ⟨v, hv2, rv⟩ := h3.get e2
      refine ⟨.ref p, h1, .inl ⟨rfl, xs, .inl (.inl h2)⟩, p, xs, v, rfl, rfl, h2, by rw [h3.length]; exact hv2, ?_⟩
      exact h _ _ _ (h6 _ _ h3.dropLast) .refl (List.prefix_refl _) v rv
end

/-! ### a def from its body -/
def envOf (n : Nat) (ds : List D) : S := ⟨ds.map Sl.v ++ List.replicate (n - ds.length) .un, []⟩
def runF (fb : DM Fl) (n : Nat) (ds : List D) : PR := match fb (envOf n ds) with
  | .ok (.rt (.cell _)) _ => .bad
  | .ok (.rt r) _ => .ok r
  | .ok .nx _ => .ok (.d .none)
  | .exc c _ => .exc c
  | _ => .bad
theorem rvr_prr {C : Ct} {B Z H : Hp} {σ : St} {as : List Addr} {s : S} {v : V} {r : RV} (h : RVR C B Z σ H as s v r) (hc : ∀ g, r ≠ .cell g) : PRR C B Z H v r := by
  cases r with
  | d x => exact h
  | cell g => exact absurd rfl (hc g)
  | fl ds => obtain ⟨p, xs, rfl, h1, h2, h3, h4⟩ := h; exact ⟨p, xs, rfl, h1, h2, h4⟩
  | fd kvs => obtain ⟨p, rfl, h1, h2, h3, h4⟩ := h; exact ⟨p, rfl, h1, h2, h4⟩
theorem uns_pair {C : Ct} {Z H : Hp} : ∀ n : Nat, Paired (SlR C Z H []) (List.replicate n none) (List.replicate n .un)
  | 0 => .nil
  | n + 1 => .cons trivial (uns_pair n)
theorem start_pair {C : Ct} {Z H : Hp} (n : Nat) : ∀ {vs : List V} {ds : List D}, Reps C Z vs ds → Paired (SlR C Z H []) (vs.map some ++ List.replicate n none) (ds.map Sl.v ++ List.replicate n .un)
  | _, _, .nil => uns_pair n
  | _, _, .cons r t => .cons r (start_pair n t)
theorem sr_start {C : Ct} {B Z H : Hp} {N : List Str} {vs : List V} {ds : List D} (hb : Same B H) (hz : Same Z H) (r : Reps C Z vs ds) : SR C B Z (start N vs) H [] (envOf N.length ds) := by
  have noOwn : ∀ (i : Nat) sl, (envOf N.length ds).env[i]? = some sl → sl.own = false := fun i sl e => by
    have hm := List.mem_of_getElem? e
    rcases List.mem_append.mp hm with h | h
    · obtain ⟨d, _, rfl⟩ := List.mem_map.mp h; rfl
    · rw [List.mem_replicate] at h; rw [h.2]; rfl
  refine ⟨hz, hb, ?_, .nil, List.nodup_nil, fun a h => absurd h (by simp), (fun i p sl _ e h => by rw [noOwn i sl e] at h; cases h), (fun i j p a b _ _ _ e _ h => by rw [noOwn i a e] at h; cases h)⟩
  unfold L2.start envOf
  dsimp only
  rw [r.length]
  exact start_pair _ r
section
variable {P : Program} {w : World} {K : PySem.W.Frag} {mg : Str → Option Value} {base : Heap}
theorem fnP_of {x : Str} {k : Nat} {st : Stmt} {f : Addr} {fd : FuncData} {N ps : List Str} {G : List D → PR} (fb : DM Fl) (F : Fun K x x st f fd) (S : FnScope N ps (defScope st)) (gm : mg x = some (.ref f)) (bn : Binds K fd ps [])
    (hl : ∀ ds, G ds ≠ .bad → ds.length = ps.length)
    (body : ∀ (cdv : Value) (A : Around) (outer : List Env) (s : Shared) (H : Hp) (E : XK), Bd (cxOf (L2.CX P w) P w K mg base N x (defScope st) f cdv A outer s H E) (fun cls d _ H => E cls d H) k → DSs (cxOf (L2.CX P w) P w K mg base N x (defScope st) f cdv A outer s H E) (fun cls d _ H => E cls d H) (defBody st) fb)
    (run : ∀ ds, G ds ≠ .bad → runF fb N.length ds = G ds) : FnP P w K mg base x (k + 1) G := by
  refine ⟨f, fd, ps, F.okX S (fun vs H Q E h => ?_) (fun cdv A outer s H vs Q E hr h => ?_), gm, F.kp, bn⟩
  · obtain ⟨B, Z, ds, _, _, r, h⟩ := h
    rw [r.length]
    refine hl ds fun z => ?_
    rw [z] at h; exact h
  · refine ⟨_, body cdv A outer s H E ⟨takes_of rfl rfl rfl rfl, passes_of rfl, hr, rfl⟩, ?_⟩
    obtain ⟨B, Z, ds, hb, hz, r, h⟩ := h
    have I := sr_start (N := N) hb hz r
    refine ⟨B, Z, [], _, I, ?_⟩
    have hne : G ds ≠ .bad := fun z => by rw [z] at h; exact h
    have e := run ds hne
    rw [← e] at h hne
    unfold runF at h hne
    cases e1 : fb (envOf N.length ds) with
    | bad => rw [e1] at hne; exact absurd rfl hne
    | exc c s' =>
      rw [e1] at h
      exact fun Ca σ' H' Z' as' hc I' E' P' => h Ca H' hc I'.bh
    | ok fl s' =>
      rw [e1] at h hne
      cases fl with
      | nx => exact fun σ' H' Z' as' I' E' P' => h .non H' Z' I'.bh I'.zh E' .non
      | bk => exact absurd rfl hne
      | ct => exact absurd rfl hne
      | rt rr =>
        cases rr with
        | cell g => exact absurd rfl hne
        | d x => exact fun v σ' H' Z' as' I' E' P' rv => h v H' Z' I'.bh I'.zh E' (rvr_prr rv fun g z => nomatch z)
        | fl x => exact fun v σ' H' Z' as' I' E' P' rv => h v H' Z' I'.bh I'.zh E' (rvr_prr rv fun g z => nomatch z)
        | fd x => exact fun v σ' H' Z' as' I' E' P' rv => h v H' Z' I'.bh I'.zh E' (rvr_prr rv fun g z => nomatch z)
end
end DL

/-! DL8: cells (objects that callees change), defs that are handed cells, stores by index. -/
namespace DL
open PySem PySem.Spec PyProof.Rows L2

inductive FR where
  | ok (r : RV) (st : List Cell)
  | exc (c : Str) (st : List Cell)
  | bad
def Sl.plain : Sl → Bool
  | .v _ => true
  | .cell _ => true
  | _ => false
def spM (C : Ct) (G : List Sl → List Cell → FR) : Sp := fun vs H Q E => ∃ B Z as args st, SR C B Z (vs.map some) H as ⟨args, st⟩ ∧ (∀ sl ∈ args, sl.own = false) ∧
  match G args st with
  | .ok r st' => ∀ v H' Z' as', SR C B Z' [] H' as' ⟨[], st'⟩ → Ext B Z Z' → as <+: as' → RVR C B Z' [] H' as' ⟨[], st'⟩ v r → Q v H'
  | .exc c st' => ∀ Ca H' Z' as', C.mg c = some (.ref Ca) → SR C B Z' [] H' as' ⟨[], st'⟩ → Ext B Z Z' → as <+: as' → E (.ref Ca) none H'
  | .bad => False
structure FnM (P : Program) (w : World) (K : PySem.W.Frag) (mg : Str → Option Value) (base : Heap) (x : Str) (k : Nat) (G : List Sl → List Cell → FR) : Prop where
  ex : ∃ (f : Addr) (fd : FuncData) (ps : List Str), FnOk P w K mg base (L2.CX P w) k f fd ps (spM ⟨w, K, mg⟩ G) ∧ mg x = some (.ref f) ∧ PySem.W.keepIn K (.ref f) = true ∧ Binds K fd ps []

section
variable {C : Ct} {W : WX} {B Z Z' H H' : Hp} {σ : St} {as as' : List Addr} {s : S} {st : List Cell}
theorem SR.noEnv (I : SR C B Z σ H as s) : SR C B Z [] H as ⟨[], s.st⟩ :=
  ⟨I.zh, I.bh, .nil, I.st, I.asn, I.asb, fun i p sl e => by simp at e, fun i j p a b _ e => by simp at e⟩
/-- what the callee must leave as it is -/
def rim (H : Hp) (as : List Addr) : Hp := fun a => if a ∈ as then none else H a
theorem rim_none {a : Addr} (h : a ∈ as) : rim H as a = none := by unfold rim; rw [if_pos h]
theorem rim_some {a : Addr} (h : a ∉ as) : rim H as a = H a := by unfold rim; rw [if_neg h]
theorem SR.lend (I : SR C B Z σ H as s) {vs : List V} {args : List Sl} (r : Paired (SlR C Z H as) (vs.map some) args) (ha : ∀ sl ∈ args, sl.own = false) : SR C (rim H as) Z (vs.map some) H as ⟨args, s.st⟩ := by
  have no : ∀ (i : Nat) (sl : Sl), args[i]? = some sl → sl.own = true → False := fun i sl e hw => by rw [ha sl (List.mem_of_getElem? e)] at hw; cases hw
  refine ⟨I.zh, fun b o e => ?_, r, I.st, I.asn, fun a h => ⟨rim_none h, (I.asb a h).2⟩, fun i p sl e1 e2 hw => (no i sl e2 hw).elim, fun i j p a b _ _ _ e _ hw => (no i a e hw).elim⟩
  unfold rim at e
  split at e
  · cases e
  · exact e
theorem SR.lent (I : SR C B Z σ H as s) (J : SR C (rim H as) Z' [] H' as' ⟨[], st⟩) (E : Ext (rim H as) Z Z') (P : as <+: as') : SR C B Z' σ H' as' { s with st := st } ∧ Ext B Z Z' := by
  have keepB : ∀ b o, B b = some o → rim H as b = some o := fun b o e => by
    rw [rim_some (fun h => by rw [(I.asb b h).1] at e; cases e)]; exact I.bh b o e
  have keepO : ∀ {i : Nat} {p : Addr} {sl : Sl}, σ[i]? = some (some (.ref p)) → s.env[i]? = some sl → sl.own = true → Z' p = none ∧ H' p = H p ∧ p ∉ as' := fun {i p sl} e1 e2 hw => by
    obtain ⟨z, o, ho⟩ := I.ownH e1 e2 hw
    have hr : rim H as p = some o := by rw [rim_some (I.own i p sl e1 e2 hw).2]; exact ho
    refine ⟨?_, by rw [ho]; exact J.bh p o hr, fun h => by rw [(J.asb p h).1] at hr; cases hr⟩
    cases q : Z' p with
    | none => rfl
    | some u =>
      rcases E.new p u q with h | h
      · rw [z] at h; cases h
      · rw [hr] at h; cases h
  refine ⟨⟨J.zh, fun b o e => J.bh b o (keepB b o e), ?_, J.st, J.asn, fun a h => ⟨?_, (J.asb a h).2⟩, fun i p sl e1 e2 hw => ⟨(I.own i p sl e1 e2 hw).1, (keepO e1 e2 hw).2.2⟩, I.dis⟩, ⟨E.same, fun a o h => (E.new a o h).imp id fun h => ?_⟩⟩
  · exact paired_imp I.env fun i o sl e1 e2 q => q.keep E.same P fun p hp hw => by
      subst hp
      obtain ⟨h1, h2, _⟩ := keepO e1 e2 hw
      exact ⟨h1, h2⟩
  · cases q : B a with
    | none => rfl
    | some o => have := keepB a o q; rw [(J.asb a h).1] at this; cases this
  · cases q : B a with
    | none => rfl
    | some o => have := keepB a o q; rw [h] at this; cases this
end

/-! ### arguments: data, or cells -/
def rAr (C : Ct) (W : WX) (f : DM (List Sl)) : TA := fun σ H Q => ∃ B Z as s, SR C B Z σ H as s ∧ After C W B Z as σ (fun sls _ H' Z' as' => ∀ vs, Paired (SlR C Z' H' as') (vs.map some) sls → (∀ sl ∈ sls, sl.own = false) → Q vs H') (f s)
abbrev DA (X : Cx) (W : WX) (es : List Expr) (f : DM (List Sl)) : Prop := PA X es (rAr (ctOf X) W f)
def rA1 (C : Ct) (W : WX) (f : DM Sl) : TE := fun σ H Q => ∃ B Z as s, SR C B Z σ H as s ∧ After C W B Z as σ (fun sl _ H' Z' as' => ∀ v, SlR C Z' H' as' (some v) sl → sl.own = false → Q v H') (f s)
def aVar (i : Nat) : DM Sl := fun s => match s.env[i]? with
  | some (.cell g) => .ok (.cell g) s
  | _ => bindM (eVar i) (fun d => pureM (.v d)) s
def aOf (f : DM D) : DM Sl := bindM f fun d => pureM (.v d)
def aNil : DM (List Sl) := pureM []
def aCons (f : DM Sl) (g : DM (List Sl)) : DM (List Sl) := bindM f fun x => bindM g fun xs => pureM (x :: xs)
def callM (G : List Sl → List Cell → FR) (g : DM (List Sl)) : DM RV := bindM g fun args => fun s => match G args s.st with
  | .ok r st => .ok r { s with st := st }
  | .exc c st => .exc c { s with st := st }
  | .bad => .bad
section
variable {X : Cx} {W : WX} {k k' : Nat} {x : Str} {p pos : Pos} {e : Expr} {es : List Expr}
theorem da_name (i : Nat) {x : Str} (hN : X.N[i]? = some x := by rfl) (hv : Vis X.env.scope x := by first | exact Or.inl rfl | exact Or.inr (Or.inl rfl) | exact Or.inr (Or.inr rfl)) (hd : (x == ("__debug__" : Str)) = false := by decide)
    (hcd : (x == ("__classdict__" : Str)) = false := by decide) : PE X (.Name x pos) (rA1 (ctOf X) W (aVar i)) := pe_imp (pe_var hN hv hd hcd) fun σ H Q ⟨B, Z, as, s, I, h⟩ => by
  have other : After (ctOf X) W B Z as σ (fun sl _ H' Z' as' => ∀ v, SlR (ctOf X) Z' H' as' (some v) sl → sl.own = false → Q v H') (bindM (eVar i) (fun d => pureM (.v d)) s) → tVar i σ H Q := fun h =>
    rD_var (C := ctOf X) (W := W) ⟨B, Z, as, s, I, (After.bind h).imp fun d s1 H1 Z1 as1 I1 E1 P1 h1 v rv => After.pure h1 I1 v rv rfl⟩
  unfold aVar at h
  cases e : s.env[i]? with
  | none => rw [e] at h; exact other h
  | some sl =>
    rw [e] at h
    cases sl with
    | cell g =>
      obtain ⟨o, h1, h2⟩ := paired_get I.env e
      cases o with
      | none => exact h2.elim
      | some v => exact ⟨v, h1, h _ _ _ I .refl (List.prefix_refl _) v h2 rfl⟩
    | un => exact other h
    | v d => exact other h
    | ol d => exact other h
    | od d => exact other h
theorem da_of {f : DM D} (h : DE X W e f) : PE X e (rA1 (ctOf X) W (aOf f)) := pe_imp h fun σ H Q ⟨B, Z, as, s, I, h⟩ => ⟨B, Z, as, s, I, (After.bind h).imp fun d s1 H1 Z1 as1 I1 E1 P1 h1 v rv => After.pure h1 I1 v rv rfl⟩
theorem da_nil : DA X W [] aNil := pa_imp pa_nil fun σ H Q ⟨B, Z, as, s, I, h⟩ => After.pure h I [] .nil fun _ z => nomatch z
theorem da_cons {f : DM Sl} {g : DM (List Sl)} (ha : PE X e (rA1 (ctOf X) W f)) (hr : DA X W es g) (hs : starEach (e :: es) X.env = (false, eval e X.env) :: starEach es X.env := by rfl) : DA X W (e :: es) (aCons f g) :=
  pa_imp (pa_cons ha hr hs) fun σ H Q ⟨B, Z, as, s, I, h⟩ => ⟨B, Z, as, s, I, (After.bind h).imp fun sl s1 H1 Z1 as1 I1 E1 P1 h1 v rv hw =>
    ⟨B, Z1, as1, s1, I1, (After.bind h1).imp fun sls s2 H2 Z2 as2 I2 E2 P2 h2 vs rvs hws => After.pure h2 I2 (v :: vs) (.cons (rv.keep E2.same P2 fun p _ hw' => by rw [hw] at hw'; cases hw') rvs) fun sl' hm => by
      rcases List.mem_cons.mp hm with h | h
      · rw [h]; exact hw
      · exact hws sl' h⟩⟩
theorem df_callM {G : List Sl → List Cell → FR} {g : DM (List Sl)} (b : Bd X W k) (F : FnM X.prog X.w X.K X.mg X.base x k' G) (ha : DA X W (e :: es) g) (hk : k' ≤ k := by decide) (hg : Gl X x := by rfl)
    (hdb : (x == ("__debug__" : Str)) = false := by decide) (he : starEach (e :: es) X.env = (false, eval e X.env) :: starEach es X.env := by rfl) (hpl : (backTo pos (starEach es X.env)).any (·.1) = false := by rfl) :
    DF X W (.Call (.Name x p) (e :: es) [] pos) (callM G g) := by
  obtain ⟨f, fd, ps, F1, F2, F3, F4⟩ := F.ex
  refine pe_imp (pe_callS F1 (b.hr.mono hk) hg F2 F3 F4 (fun σ => passAt b.tk σ) ha hdb he hpl) fun σ H Q ⟨B, Z, as, s, I, h⟩ => ?_
  refine ⟨B, Z, as, s, I, (After.bind h).imp fun args s1 H1 Z1 as1 I1 E1 P1 h1 vs rvs hw => ?_⟩
  refine ⟨rim H1 as1, Z1, as1, args, s1.st, I1.lend rvs hw, hw, ?_⟩
  cases e : G args s1.st with
  | bad => rw [e] at h1; exact h1
  | exc c st =>
    rw [e] at h1
    intro Ca H' Z' as' hc J E P
    obtain ⟨I2, E2⟩ := I1.lent J E P
    exact h1 Ca H' Z' as' hc I2 E2 P
  | ok r st =>
    rw [e] at h1
    intro v H' Z' as' J E P rv
    obtain ⟨I2, E2⟩ := I1.lent J E P
    refine h1 H' Z' as' I2 E2 P v ?_
    cases r with
    | d x => exact rv
    | cell g => exact rv
    | fl ds =>
      obtain ⟨q, xs, rfl, z1, b1, f1, h3, h4⟩ := rv
      exact ⟨q, xs, rfl, z1, (by
        have hn : B q = none := by
          cases qb : B q with
          | none => rfl
          | some o => have := I1.bh q o qb; rw [← rim_some (H := H1) (as := as1) (a := q) (fun hm => by rw [(I1.asb q hm).1] at qb; cases qb), b1] at this; cases this
        exact hn), ⟨f1.1, fun i sl e1 e2 => by
          cases hw' : sl.own with
          | false => rfl
          | true =>
            obtain ⟨_, o, ho⟩ := I1.ownH e1 e2 hw'
            rw [← rim_some (H := H1) (as := as1) (a := q) (I1.own i q sl e1 e2 hw').2, b1] at ho; cases ho⟩, h3, h4⟩
    | fd kvs =>
      obtain ⟨q, rfl, z1, b1, f1, h3⟩ := rv
      exact ⟨q, rfl, z1, (by
        have hn : B q = none := by
          cases qb : B q with
          | none => rfl
          | some o => have := I1.bh q o qb; rw [← rim_some (H := H1) (as := as1) (a := q) (fun hm => by rw [(I1.asb q hm).1] at qb; cases qb), b1] at this; cases this
        exact hn), ⟨f1.1, fun i sl e1 e2 => by
          cases hw' : sl.own with
          | false => rfl
          | true =>
            obtain ⟨_, o, ho⟩ := I1.ownH e1 e2 hw'
            rw [← rim_some (H := H1) (as := as1) (a := q) (I1.own i q sl e1 e2 hw').2, b1] at ho; cases ho⟩, h3⟩
/-- name = [..], a cell from now on -/
def sCell (i : Nat) (f : DM RV) : DM Fl := bindM f fun r => fun s => match r with
  | .fl ds => .ok .nx ⟨s.env.set i (.cell s.st.length), s.st ++ [.lst ds]⟩
  | .fd kvs => .ok .nx ⟨s.env.set i (.cell s.st.length), s.st ++ [.dic kvs]⟩
  | _ => .bad
theorem SR.newCell {C : Ct} {B Z H : Hp} {σ : St} {as : List Addr} {s : S} (I : SR C B Z σ H as s) {p : Addr} {c : Cell} (nz : Z p = none) (nb : B p = none) (hf : Free σ as s p) (hc : CellR C Z H as p c) (hl : ∀ n fs, c ≠ .ins n fs) : SR C B Z σ H (as ++ [p]) { s with st := s.st ++ [c] } := by
  have hp : as <+: as ++ [p] := List.prefix_append _ _
  refine ⟨I.zh, I.bh, paired_imp I.env fun i o sl e1 e2 q => q.keep (Same.refl _) hp fun q' hq hw => ?_, ?_, ?_, fun a ha => ?_, fun i q sl e1 e2 hw => ⟨(I.own i q sl e1 e2 hw).1, fun hm => ?_⟩, I.dis⟩
  · subst hq; exact ⟨(I.ownH e1 e2 hw).1, rfl⟩
  · have h1 : Paired (CellR C Z H (as ++ [p])) as s.st := paired_imp I.st fun i a c' _ _ q => q.keep (Same.refl _) hp rfl
    exact h1.snoc (hc.keep (Same.refl _) hp rfl)
  · rw [List.nodup_append]
    refine ⟨I.asn, by simp, fun a ha b hb e => ?_⟩
    have hb' : b = p := by simpa using hb
    exact hf.1 (by rw [← hb', ← e]; exact ha)
  · rcases List.mem_append.mp ha with h | h
    · exact I.asb a h
    · have e : a = p := by simpa using h
      subst e; exact ⟨nb, nz⟩
  · rcases List.mem_append.mp hm with h | h
    · exact (I.own i q sl e1 e2 hw).2 h
    · have e : q = p := by simpa using h
      subst e
      rw [hf.2 i sl e1 e2] at hw; cases hw
theorem ds_cell (i : Nat) {fe : DM RV} {x : Str} {pos' : Pos} (hN : X.N.Nodup) (he : DF X W e fe) (hi : X.N[i]? = some x := by rfl) (hx : Loc X.env.scope x := by first | exact Or.inl rfl | exact Or.inr rfl) (hs : swapsWith e (some (.Name x pos')) pos.line X.env = pure false := by rfl) (hf : X.fn x = true ∨ X.env.scope.names.lookup x = some .local := by first | exact .inl rfl | exact .inr rfl) :
    DS X W (.Assign [.Name x pos'] e pos) (sCell i fe) := ps_imp (ps_set hN hi hx he hs hf) fun D σ H ⟨B, Z, as, s, I, h⟩ =>
  ⟨B, Z, as, s, I, (AfterS.bind h).imp fun r s1 H1 Z1 as1 I1 E1 P1 h1 v rv => by
    have hlen : as1.length = s1.st.length := paired_length I1.st
    cases r with
    | fl ds =>
      obtain ⟨p, xs, rfl, nz, nb, hf, hp, hr⟩ := rv
      have J := I1.newCell nz nb hf (c := .lst ds) ⟨xs, hp, hr⟩ (fun _ _ z => nomatch z)
      have J2 := J.store (i := i) (v := .ref p) (sl := .cell s1.st.length) (show (as1 ++ [p])[s1.st.length]? = some p by rw [← hlen, List.getElem?_append_right (Nat.le_refl _), Nat.sub_self]; rfl) fun z => nomatch z
      exact h1 _ _ _ _ J2 .refl (List.prefix_append _ _)
    | fd kvs =>
      obtain ⟨p, rfl, nz, nb, hf, hd⟩ := rv
      have J := I1.newCell nz nb hf (c := .dic kvs) hd (fun _ _ z => nomatch z)
      have J2 := J.store (i := i) (v := .ref p) (sl := .cell s1.st.length) (show (as1 ++ [p])[s1.st.length]? = some p by rw [← hlen, List.getElem?_append_right (Nat.le_refl _), Nat.sub_self]; rfl) fun z => nomatch z
      exact h1 _ _ _ _ J2 .refl (List.prefix_append _ _)
    | _ => exact h1.elim⟩

/-! ### xs[i] = e, xs[i] += e -/
def sSetIx (i : Nat) (fi fe : DM D) : DM Fl := bindM fe fun d => fun s => match listAt i s with
  | none => .bad
  | some _ => bindM fi (fun di s1 => match listAt i s1, di with
    | some ds, .int n => match ixN ds.length n with
      | some j => .ok .nx (putList i (ds.set j d) s1)
      | none => .bad
    | _, _ => .bad) s
theorem ds_setIx (i : Nat) {x : Str} {px tpos : Pos} {ix : Expr} {fi fe : DM D} (he : DE X W e fe) (hix : DE X W ix fi) (hN : X.N[i]? = some x := by rfl) (hv : Vis X.env.scope x := by first | exact Or.inl rfl | exact Or.inr (Or.inl rfl) | exact Or.inr (Or.inr rfl)) (hd : (x == ("__debug__" : Str)) = false := by decide)
    (hcd : (x == ("__classdict__" : Str)) = false := by decide)
    (ha : ∀ v, assign (.Subscript (.Name x px) ix tpos) X.env v = (do
      let ov ← holding [v] (eval (.Name x px) X.env)
      let iv ← holding [v, ov] (eval ix X.env)
      standAt tpos
      holding [v, ov, iv] (setItem ov iv v)
      release [v, ov, iv] []) := by intro _; rfl)
    (hs : swapsWithSole [.Subscript (.Name x px) ix tpos] e pos.line X.env = pure false := by rfl) (hw : swappedStores [.Subscript (.Name x px) ix tpos] e X.env = pure none := by rfl)
    (h1 : (assignEach [.Subscript (.Name x px) ix tpos] X.env).map (·.2) = [assign (.Subscript (.Name x px) ix tpos) X.env] := by rfl) : DS X W (.Assign [.Subscript (.Name x px) ix tpos] e pos) (sSetIx i fi fe) :=
  ps_imp (ps_asg he (pg_sub (pe_var hN hv hd hcd) hix set_list ha) hs hw h1) fun D σ H ⟨B, Z, as, s, I, h⟩ => ⟨B, Z, as, s, I, (AfterS.bind (σ := σ) h).imp fun d s1 H1 Z1 as1 I1 E1 P1 h1 v rv => by
    cases e0 : listAt i s1 with
    | none => rw [e0] at h1; exact h1.elim
    | some ds0 =>
      rw [e0] at h1
      dsimp only at h1
      obtain ⟨p, xs, g1, g2, _⟩ := listAt_rep I1 e0
      refine ⟨.ref p, g1, B, Z1, as1, s1, I1, (AfterS.bind h1).imp fun di s2 H2 Z2 as2 I2 E2 P2 h2 u ru => ?_⟩
      cases e1 : listAt i s2 with
      | none => rw [e1] at h2; exact h2.elim
      | some ds =>
        cases di with
        | int n =>
          rw [e1] at h2
          dsimp only at h2
          cases e2 : ixN ds.length n with
          | none => rw [e2] at h2; exact h2.elim
          | some j =>
            rw [e2] at h2
            cases ru
            obtain ⟨p', xs', q1, q2, q3, q4, q5, q6⟩ := listAt_rep I2 e1
            rw [g1] at q1; cases q1
            refine ⟨p, xs', n, j, rfl, rfl, q2, by rw [q3.length]; exact e2, ?_⟩
            exact h2 _ _ _ _ (q6 _ _ (q3.set (rv.mono E2.same) j)) .refl (List.prefix_refl _)
        | _ => rw [e1] at h2; exact h2.elim⟩
def rGetL (K : PySem.W.Frag) : V → V → Hp → VK → Prop := fun x y H Q => ∃ p xs i v, x = .ref p ∧ y = .int i ∧ 0 ≤ i ∧ SqL K H p xs ∧ xs[i.toNat]? = some v ∧ Q v H
theorem get_list : PGet X (rGetL X.K) := by
  intro pins s σ H o i ov iv Q I ro ri h
  obtain ⟨p, xs, n, v, rfl, rfl, h0, hq, hv, q⟩ := h
  cases ro
  obtain ⟨t, rfl⟩ := ri
  obtain ⟨its, r, pl, hz⟩ := I.list hq
  obtain ⟨u, hu, ru⟩ := r.get hv
  have hl := r.length
  have hn := line63
  have hlt := (List.getElem?_eq_some_iff.mp hv).1
  exact wpAny_getItem_list pl.isList h0 (by omega) (by simpa using hu) ⟨v, H, I, ru, q⟩
/-- xs[i] op= e, the index and e ints that are reckoned once -/
def sAugIx (i : Nat) (n : Nat) (g : D → D → Option D) (d2 : D) : DM Fl := fun s => match listAt i s with
  | none => .bad
  | some ds => match ds[n]? with
    | none => .bad
    | some d => match g d d2 with
      | none => .bad
      | some z => .ok .nx (putList i (ds.set n z) s)
theorem ds_augIx (i : Nat) {x : Str} {op : Operator} {r : R2} {g : D → D → Option D} {n : Nat} {m : Int} {j1 j2} {p1 p2 px tpos : Pos} (ho : OpR X (inplaceOp op) r) (hf : Of2 (ctOf X) r g) (hN : X.N[i]? = some x := by rfl) (hv : Vis X.env.scope x := by first | exact Or.inl rfl | exact Or.inr (Or.inl rfl) | exact Or.inr (Or.inr rfl)) (hd : (x == ("__debug__" : Str)) = false := by decide)
    (hcd : (x == ("__classdict__" : Str)) = false := by decide)
    (ha : ∀ ov iv new, augStore (.Constant (.int (n : Int)) j1 p1) ov iv new = (do holding [new, ov, iv] (setItem ov iv new); release [new, ov, iv] []; pure .next) := by intros; rfl) :
    DS X W (.AugAssign (.Subscript (.Name x px) (.Constant (.int (n : Int)) j1 p1) tpos) op (.Constant (.int m) j2 p2) pos) (sAugIx i n g (.int m)) :=
  ps_imp (ps_augS (pe_var hN hv hd hcd) pe_int get_list pe_int (ho : PIp X op r) set_list ha) fun D σ H ⟨B, Z, as, s, I, h⟩ => by
  unfold sAugIx at h
  cases e0 : listAt i s with
  | none => rw [e0] at h; exact h.elim
  | some ds =>
    rw [e0] at h
    dsimp only at h
    cases e1 : ds[n]? with
    | none => rw [e1] at h; exact h.elim
    | some d =>
      rw [e1] at h
      dsimp only at h
      cases e2 : g d (.int m) with
      | none => rw [e2] at h; exact h.elim
      | some z =>
        rw [e2] at h
        obtain ⟨p, xs, g1, g2, g3, g4, g5, g6⟩ := listAt_rep I e0
        obtain ⟨v, hv, rv⟩ := g3.get e1
        refine ⟨.ref p, g1, p, xs, n, v, rfl, rfl, Int.natCast_nonneg n, .inl (.inl g2), by simpa using hv, ?_⟩
        refine hf Z H v (.int m) d (.int m) z _ (.f rv) (.f (.int m)) I.zh e2 fun w rw' => ?_
        have hlt := (List.getElem?_eq_some_iff.mp hv).1
        refine ⟨p, xs, n, n, rfl, rfl, g2, ?_, ?_⟩
        · unfold ixN; rw [if_pos (Int.natCast_nonneg n), if_pos (by omega)]; simp
        · exact h _ _ _ _ (g6 _ _ (g3.set rw' n)) .refl (List.prefix_refl _)
end

/-! ### a def with cells from its body -/
def envM (n : Nat) (args : List Sl) (st : List Cell) : S := ⟨args ++ List.replicate (n - args.length) .un, st⟩
def runM (fb : DM Fl) (n : Nat) (args : List Sl) (st : List Cell) : FR := match fb (envM n args st) with
  | .ok (.rt r) s => .ok r s.st
  | .ok .nx s => .ok (.d .none) s.st
  | .exc c s => .exc c s.st
  | _ => .bad
theorem sr_startM {C : Ct} {B Z H : Hp} {N : List Str} {vs : List V} {as : List Addr} {args : List Sl} {st : List Cell} (I : SR C B Z (vs.map some) H as ⟨args, st⟩) (hw : ∀ sl ∈ args, sl.own = false) : SR C B Z (L2.start N vs) H as (envM N.length args st) := by
  have noOwn : ∀ (i : Nat) sl, (envM N.length args st).env[i]? = some sl → sl.own = false := fun i sl e => by
    have hm := List.mem_of_getElem? e
    rcases List.mem_append.mp hm with h | h
    · exact hw sl h
    · rw [List.mem_replicate] at h; rw [h.2]; rfl
  refine ⟨I.zh, I.bh, ?_, I.st, I.asn, I.asb, (fun i p sl _ e h => by rw [noOwn i sl e] at h; cases h), (fun i j p a b _ _ _ e _ h => by rw [noOwn i a e] at h; cases h)⟩
  have hl : vs.length = args.length := by have := paired_length I.env; rw [List.length_map] at this; exact this
  unfold L2.start envM
  dsimp only
  rw [hl]
  generalize N.length - args.length = n
  have un : ∀ n : Nat, Paired (SlR C Z H as) (List.replicate n none) (List.replicate n .un) := fun n => by
    induction n with
    | zero => exact .nil
    | succ n ih => exact .cons trivial ih
  have app : ∀ {l : List (Option V)} {m : List Sl}, Paired (SlR C Z H as) l m → Paired (SlR C Z H as) (l ++ List.replicate n none) (m ++ List.replicate n .un) := fun {l m} h => by
    induction h with
    | nil => exact un n
    | cons r _ ih => exact .cons r ih
  exact app I.env
section
variable {P : Program} {w : World} {K : PySem.W.Frag} {mg : Str → Option Value} {base : Heap}
theorem fnM_ok {x : Str} {k : Nat} {st : Stmt} {f : Addr} {fd : FuncData} {N ps : List Str} {G : List Sl → List Cell → FR} (fb : DM Fl) (F : Fun K x x st f fd) (S : FnScope N ps (defScope st))
    (hl : ∀ args st, G args st ≠ .bad → args.length = ps.length)
    (body : ∀ (cdv : Value) (A : Around) (outer : List Env) (s : Shared) (H : Hp) (E : XK), Bd (cxOf (L2.CX P w) P w K mg base N x (defScope st) f cdv A outer s H E) (fun cls d _ H => E cls d H) k → DSs (cxOf (L2.CX P w) P w K mg base N x (defScope st) f cdv A outer s H E) (fun cls d _ H => E cls d H) (defBody st) fb)
    (run : ∀ args st, G args st ≠ .bad → runM fb N.length args st = G args st) : FnOk P w K mg base (L2.CX P w) (k + 1) f fd ps (spM ⟨w, K, mg⟩ G) := by
  refine F.okX S (fun vs H Q E h => ?_) (fun cdv A outer s H vs Q E hr h => ?_)
  · obtain ⟨B, Z, as, args, st, I, _, h⟩ := h
    have hl1 : vs.length = args.length := by have := paired_length I.env; rw [List.length_map] at this; exact this
    rw [hl1]
    refine hl args st fun z => ?_
    rw [z] at h; exact h
  · refine ⟨_, body cdv A outer s H E ⟨takes_of rfl rfl rfl rfl, passes_of rfl, hr, rfl⟩, ?_⟩
    obtain ⟨B, Z, as, args, st, I0, hw, h⟩ := h
    have I := sr_startM (N := N) I0 hw
    refine ⟨B, Z, as, _, I, ?_⟩
    have hne : G args st ≠ .bad := fun z => by rw [z] at h; exact h
    have e := run args st hne
    rw [← e] at h hne
    unfold runM at h hne
    cases e1 : fb (envM N.length args st) with
    | bad => rw [e1] at hne; exact absurd rfl hne
    | exc c s' =>
      rw [e1] at h
      exact fun Ca σ' H' Z' as' hc I' E' P' => h Ca H' Z' as' hc I'.noEnv E' P'
    | ok fl s' =>
      rw [e1] at h hne
      cases fl with
      | nx => exact fun σ' H' Z' as' I' E' P' => h .non H' Z' as' I'.noEnv E' P' .non
      | bk => exact absurd rfl hne
      | ct => exact absurd rfl hne
      | rt rr =>
        exact fun v σ' H' Z' as' I' E' P' rv => h v H' Z' as' I'.noEnv E' P' (by
          cases rr with
          | d x => exact rv
          | cell g => exact rv
          | fl ds => obtain ⟨q, xs, h0, h1, h2, h3, h4⟩ := rv; exact ⟨q, xs, h0, h1, h2, ⟨h3.1, fun i sl e => by simp at e⟩, h4⟩
          | fd ds => obtain ⟨q, h0, h1, h2, h3, h4⟩ := rv; exact ⟨q, h0, h1, h2, ⟨h3.1, fun i sl e => by simp at e⟩, h4⟩)
theorem fnM_of {x : Str} {k : Nat} {st : Stmt} {f : Addr} {fd : FuncData} {N ps : List Str} {G : List Sl → List Cell → FR} (fb : DM Fl) (F : Fun K x x st f fd) (S : FnScope N ps (defScope st)) (gm : mg x = some (.ref f)) (bn : Binds K fd ps [])
    (hl : ∀ args st, G args st ≠ .bad → args.length = ps.length)
    (body : ∀ (cdv : Value) (A : Around) (outer : List Env) (s : Shared) (H : Hp) (E : XK), Bd (cxOf (L2.CX P w) P w K mg base N x (defScope st) f cdv A outer s H E) (fun cls d _ H => E cls d H) k → DSs (cxOf (L2.CX P w) P w K mg base N x (defScope st) f cdv A outer s H E) (fun cls d _ H => E cls d H) (defBody st) fb)
    (run : ∀ args st, G args st ≠ .bad → runM fb N.length args st = G args st) : FnM P w K mg base x (k + 1) G := ⟨f, fd, ps, fnM_ok fb F S hl body run, gm, F.kp, bn⟩
end
end DL

/-! DL9: module constants, great ints, small words. -/
namespace DL
open PySem PySem.Spec PyProof.Rows L2
/-- a module's constant -/
structure GlP (w : World) (K : PySem.W.Frag) (mg : Str → Option Value) (x : Str) (d : D) : Prop where
  ex : ∃ u v, mg x = some u ∧ RelV v u ∧ ∀ Z, Rep ⟨w, K, mg⟩ Z v d
section
variable {X : Cx} {W : WX} {k : Nat} {x : Str} {d : D} {pos : Pos}
theorem de_gl (h : GlP X.w X.K X.mg x d) (hg : Gl X x := by rfl) (hd : (x == ("__debug__" : Str)) = false := by decide) : DE X W (.Name x pos) (eC d) := by
  obtain ⟨u, v, h1, h2, h3⟩ := h.ex
  exact de_glob hg h1 h2 h3 hd
theorem hu65 {A : Around} (hr : Room k A) : A.units + 65 < cLine := by have := hr.un; omega
theorem boot_int_ : bootBuiltins "int" = some (.type "int") := by decide +kernel
theorem boot_bool_ : bootBuiltins "bool" = some (.type "bool") := by decide +kernel
theorem boot_str_ : bootBuiltins "str" = some (.type "str") := by decide +kernel
theorem boot_list_ : bootBuiltins "list" = some (.type "list") := by decide +kernel
theorem boot_tuple_ : bootBuiltins "tuple" = some (.type "tuple") := by decide +kernel
def gMulW := gI2 (fun i j => decide (i.natAbs.log2 + j.natAbs.log2 < 1000000)) fun i j => .int (i * j)
theorem of_mulW {C : Ct} : Of2 C (rI CMulW fun i j => .int (i * j)) gMulW := of_gI2 (fun i j h => by
  have h' := of_decide_eq_true h
  exact h') fun _ _ _ _ => .int _
end
end DL
namespace DL
theorem lenG {α β : Type} [DecidableEq Nat] {ds : List α} {n : Nat} {x y : β} (h : (if ds.length == n then x else y) ≠ y) : ds.length = n := by
  by_cases e : ds.length == n
  · simpa using e
  · rw [if_neg e] at h; exact absurd rfl h
theorem runG {α β : Type} {ds : List α} {n : Nat} {x y : β} (h : (if ds.length == n then x else y) ≠ y) : x = (if ds.length == n then x else y) := by
  by_cases e : ds.length == n
  · rw [if_pos e]
  · rw [if_neg e] at h; exact absurd rfl h
end DL

/-! DL10: the head's facts, the law's end. -/
namespace DL
open PySem PySem.Spec PyProof.Rows L2
/-- tuples of texts that the top has written -/
abbrev TuD : Type := List (Str × List Str)
def tuOk (K : PySem.W.Frag) (q : Str × List Str) : Bool := (He.Fa.glo q.1).ok K && He.tupB K q.1 (q.2.map He.Dv.str)
def obsX (fa : List He.Fa) (tu : TuD) (fn : List He.DefD) (K : PySem.W.Frag) : He.AlD := (((fa.all fun f => f.ok K) && tu.all (tuOk K)) && fn.all fun d => d.ok K, fn.map fun d => He.fnW K d.at_)
def SaysX (fa : List He.Fa) (tu : TuD) (fn : List He.DefD) (K : PySem.W.Frag) : Prop := obsX fa tu fn K = He.valD fn
def obsXG (n : Nat) (fa : List He.Fa) (tu : TuD) (fn : List He.DefD) (g : Addr → Option Obj) : He.AlD := obsX fa tu fn (He.frG g (He.asD g n))
def hookX (n : Nat) (fa : List He.Fa) (tu : TuD) (fn : List He.DefD) : PySem.W.Hook where
  α := He.AlD
  obs := fun s => obsXG n fa tu fn s.heap.get?
  val := fun _ => He.valD fn
  says := fun _ h => ∃ K : PySem.W.Frag, K.In h ∧ SaysX fa tu fn K
  of := fun _ _ e => ⟨_, He.frG_in, e⟩
  keeps := fun _ _ _ ⟨K, hK, c⟩ k => ⟨K, PySem.W.Frag.In.keeps hK k, c⟩
theorem obsXG_eq {n : Nat} {fa : List He.Fa} {tu : TuD} {fn : List He.DefD} {g : Addr → Option Obj} {s : Shared} (h : ∀ a, g a = s.heap.get? a) : obsXG n fa tu fn g = (hookX n fa tu fn).obs s := by
  have e : g = s.heap.get? := funext h
  rw [e] <;> rfl
section
variable {fa : List He.Fa} {tu : TuD} {fn : List He.DefD} {K : PySem.W.Frag} {h : Heap} {mg : Str → Option Value} {w : World}
theorem SaysX.both (c : SaysX fa tu fn K) : ((fa.all fun f => f.ok K) = true ∧ tu.all (tuOk K) = true) ∧ (fn.all fun d => d.ok K) = true := by
  have c1 : (((fa.all fun f => f.ok K) && tu.all (tuOk K)) && fn.all fun d => d.ok K) = true := congrArg (fun z : He.AlD => z.1) c
  obtain ⟨c2, c3⟩ := He.ba c1
  exact ⟨He.ba c2, c3⟩
theorem SaysX.fact (c : SaysX fa tu fn K) (i : Nat) {f : He.Fa} (h : fa[i]? = some f := by rfl) : f.ok K = true := List.all_eq_true.mp c.both.1.1 f (List.mem_of_getElem? h)
theorem SaysX.tup (c : SaysX fa tu fn K) (i : Nat) {q : Str × List Str} (h : tu[i]? = some q := by rfl) : tuOk K q = true := List.all_eq_true.mp c.both.1.2 q (List.mem_of_getElem? h)
theorem SaysX.def_ (c : SaysX fa tu fn K) (i : Nat) {d : He.DefD} (h : fn[i]? = some d := by rfl) : ∃ fd, FunD K d.name d.qual d.params d.body d.scope (d.dvs K) (d.kws K) (He.fAd K d.at_) fd := by
  have e : fn.map (fun d => He.fnW K d.at_) = fn.map He.DefD.val := congrArg (fun z : He.AlD => z.2) c
  have e2 : (fn.map fun d => He.fnW K d.at_)[i]? = (fn.map He.DefD.val)[i]? := by rw [e]
  rw [List.getElem?_map, List.getElem?_map, h] at e2
  exact He.DefD.funD (Option.some.inj e2) (List.all_eq_true.mp c.both.2 d (List.mem_of_getElem? h))
/-- a def of no defaults -/
def dOf (x : Str) (st : Stmt) : He.DefD := ⟨(x, none), x, x, defArgs st, defBody st, defScope st, [], []⟩
theorem fun_of {x : Str} {st : Stmt} {f : Addr} {fd : FuncData} (F : FunD K x x (defArgs st) (defBody st) (defScope st) [] [] f fd) : L2.Fun K x x st f fd := by
  obtain ⟨oc, od, dV, kV, doc, pm, an, cdv, ct, osl, h1, h2, h3, h4, h5⟩ := F.ex
  refine ⟨⟨oc, od, kV, doc, pm, an, cdv, ct, osl, ?_, h2, h3⟩, F.kp⟩
  rcases h4 with ⟨_, h4⟩ | ⟨h4, _⟩
  · rw [h1, h4]
  · exact absurd rfl h4
/-- the i-th def: where it stands, its function object -/
theorem SaysX.fn_ (c : SaysX fa tu fn K) (X : K.In h) (G : h.Ns mainGlobals mg) (i j : Nat) {x : Str} {st : Stmt} (hd : fn[i]? = some (dOf x st)) (hf : fa[j]? = some (.glo x)) : ∃ fd, L2.Fun K x x st (He.ga K x) fd ∧ mg x = some (.ref (He.ga K x)) := by
  obtain ⟨fd, F⟩ := c.def_ i hd
  exact ⟨fd, fun_of F, He.glo_ok X G (c.fact j hf)⟩
theorem exP_of (X : K.In h) (G : h.Ns mainGlobals mg) {x : Str} (c1 : (He.Fa.glo x).ok K = true) (c2 : (He.Fa.exc x).ok K = true) : ExP K mg x := by
  obtain ⟨h1, h2, h3, h4⟩ := He.exc_ok c2
  exact ⟨_, He.glo_ok X G c1, h1, h2, h3, h4⟩
theorem reps_strs {C : Ct} {Z : Hp} : ∀ xs : List Str, Reps C Z (xs.map V.str) (xs.map PyData.str)
  | [] => .nil
  | x :: xs => .cons (.str x) (reps_strs xs)
theorem glP_tup (X : K.In h) (G : h.Ns mainGlobals mg) {x : Str} {xs : List Str} (c : tuOk K (x, xs) = true) : GlP w K mg x (.tuple (xs.map .str)) := by
  obtain ⟨c1, c2⟩ := He.ba c
  refine ⟨.ref (He.ga K x), .ref (He.ga K x), He.glo_ok X G c1, rfl, fun Z => .tup ?_ (reps_strs xs)⟩
  have := He.tupB_ok c2 Z
  rw [List.map_map] at this
  exact this
theorem glP_int (X : K.In h) (G : h.Ns mainGlobals mg) {x : Str} {i : Int} (c : (He.Fa.int x i).ok K = true) : GlP w K mg x (.int i) := by
  obtain ⟨t, e⟩ := He.int_ok X G c
  exact ⟨_, .int i, e, ⟨t, rfl⟩, fun Z => .int i⟩
end
/-- the law's promise: for every script the answer is True -/
theorem reps_ints {C : Ct} {Z : Hp} : ∀ xs : List Int, Reps C Z (xs.map V.int) (xs.map PyData.int)
  | [] => .nil
  | x :: xs => .cons (.int x) (reps_ints xs)
theorem law_sp {C : Ct} {G : List Sl → List Cell → FR} {n : Nat} (h : ∀ ns : List Int, ns.length ≤ n → ∃ st, G [.v (.list (ns.map .int))] [] = .ok (.d (.bool true)) st) :
    ∀ (H : Hp) (a : Addr) (ns : List Int), ns.length ≤ n → Only H → SqL C.K H a (ns.map V.int) → spM C G [.ref a] H (fun v _ => v = .bl true) fun _ _ _ => False := fun H a ns hl _ hS => by
  refine ⟨fun _ => none, H, [], [.v (.list (ns.map .int))], [], ⟨Same.refl H, fun b o e => by simp at e, .cons (Rep.lst hS (reps_ints ns)) .nil, .nil, List.nodup_nil, fun a h => absurd h (by simp), fun i p sl _ e hw => ?_, fun i j p a b _ _ _ e _ hw => ?_⟩, fun sl hm => ?_, ?_⟩
  · have hm := List.mem_of_getElem? e
    have : sl = .v (.list (ns.map .int)) := by simpa using hm
    rw [this] at hw; cases hw
  · have hm := List.mem_of_getElem? e
    have : a = .v (.list (ns.map .int)) := by simpa using hm
    rw [this] at hw; cases hw
  · have : sl = .v (.list (ns.map .int)) := by simpa using hm
    rw [this]; rfl
  · obtain ⟨st, e⟩ := h ns hl
    rw [e]
    intro v H' Z' as' _ _ _ rv
    cases rv
    rfl
theorem cx_none {P : Program} {w : World} {H : Hp} {s : Shared} {e : Value} {s' : Shared} (h : L2.CX P w [] H s (fun _ _ _ => False) e s') : False := by
  obtain ⟨_, _, _, _, _, _, _, _, _, _, _, _, z⟩ := h
  exact z
theorem walk_ofX {l : PySem.W.OpenLaw} {n k : Nat} {q : Program} {loose : List Str} {XP : (Str → Option Value) → Heap → Prop} {YP : World → Heap → Prop} {d : DefRec} {CX : World → CXT} {x : Str}
    (hn : l.most = some n) (hn2 : n ≤ sizeLine) (hdf : d.params.defaults = []) (hr : Room k callerA)
    (F : ∀ (w : World) (mg : Str → Option Value) (fa : Addr) (h : Heap), YP w h → h.Ns mainGlobals mg → mg d.name = some (.ref fa) →
      ∃ (K : PySem.W.Frag) (fd : FuncData) (sp : Sp), K.In h ∧ (∀ (s : Shared) (u : Value), BindsTo s fd ⟨[u], []⟩ [(x, u)]) ∧
        (∀ (H : Hp) (a : Addr) (ns : List Int), ns.length ≤ n → Only H → SqL K H a (ns.map V.int) → sp [.ref a] H (fun v _ => v = .bl true) fun _ _ _ => False) ∧
        ∀ base : Heap, K.In base → base.Ns mainGlobals mg → FnOk l.prog w K mg base (CX w) k fa fd [x] sp)
    (hCX : ∀ (w : World) (H : Hp) (s : Shared) (e : Value) (s' : Shared), CX w [] H s (fun _ _ _ => False) e s' → False) :
    PySem.W.WalkO q loose XP YP l.row.toRowW d [] (fun f vs => PySem.call f vs) := by
  refine Att.attach_call hn hdf fun w s₀ s₁ mg mb fa o pm cd doc a vs ns G Y ho hd hcd hmg hobj hints hlen hg => ?_
  obtain ⟨K, fd, sp, KX, hb, hsp, hF⟩ := F w mg fa _ Y G.T.g hmg
  exact law_call KX G.T.g G.T.b G.T.builtins G.T.nolimit hg hobj hints (Nat.le_trans hlen hn2) hr hF hb (fun H hO hS => hsp H a ns hlen hO hS) fun H e s' => hCX w H s₁ e s'
end DL

/-! DL10X: what the head asks where exceptions are caught. -/
namespace DL
open PySem PySem.Spec PyProof.Rows L2
def dB (p : Prop) [Decidable p] : Bool := decide p
/-- the classes kn, a class c of them -/
def xcB (K : PySem.W.Frag) (kn : List Str) (c : Str) : Bool :=
  ((He.Fa.glo c).ok K && (He.Fa.glo "SumError").ok K) &&
  (kn.all fun y => (He.Fa.glo y).ok K && decide (PySem.W.kitOne K (.ref (He.ga K c)) (.ref (He.ga K y)) = some (c == y))) &&
  (decide (PySem.W.kitOne K (.ref (He.ga K c)) (.type "ValueError") = some true) && decide (PySem.W.exmOne K (.ref (He.ga K c)) (.ref (He.ga K "SumError")) = some true)) &&
  ((He.eqO (PySem.W.findIn K (.ref (He.ga K c)) "__getattribute__") (some (some (.builtin "BaseException.__getattribute__"))) && He.eqO (PySem.W.findIn K (.ref (He.ga K c)) "__getattr__") (some none)) &&
   (decide (PySem.W.subIn K (.ref (He.ga K c)) (.type "BaseException") = some true) && PySem.W.hasDictIn K (He.ga K c)) &&
   (He.eqO (PySem.W.findIn K (.ref (He.ga K c)) "__class__") (some (some (.builtin "object.__class__"))) && He.eqO (PySem.W.specialIn K (.builtin "object.__class__") "__get__") (some (some (.builtin "getset_descriptor.__get__")))) &&
   (decide (PySem.W.takesIn K (.builtin "object.__class__") = some true) && decide (PySem.W.mroIn K (He.ga K c) (.type "object") = some true)))
/-- what the head asks: facts, tuples of texts, the classes (all known ones; those that are raised), defs -/
structure AskD where
  fa : List He.Fa
  tu : TuD
  kn : List Str
  xc : List Str
  fn : List He.DefD
def AskD.one (a : AskD) (K : PySem.W.Frag) : Bool := ((a.fa.all fun f => f.ok K) && a.tu.all (tuOk K)) && (a.xc.all (xcB K a.kn) && a.fn.all fun d => d.ok K)
def obsY (a : AskD) (K : PySem.W.Frag) : He.AlD := (a.one K, a.fn.map fun d => He.fnW K d.at_)
def SaysY (a : AskD) (K : PySem.W.Frag) : Prop := obsY a K = He.valD a.fn
def obsYG (n : Nat) (a : AskD) (g : Addr → Option Obj) : He.AlD := obsY a (He.frG g (He.asD g n))
def hookY (n : Nat) (a : AskD) : PySem.W.Hook where
  α := He.AlD
  obs := fun s => obsYG n a s.heap.get?
  val := fun _ => He.valD a.fn
  says := fun _ h => ∃ K : PySem.W.Frag, K.In h ∧ SaysY a K
  of := fun _ _ e => ⟨_, He.frG_in, e⟩
  keeps := fun _ _ _ ⟨K, hK, c⟩ k => ⟨K, PySem.W.Frag.In.keeps hK k, c⟩
theorem obsYG_eq {n : Nat} {a : AskD} {g : Addr → Option Obj} {s : Shared} (h : ∀ a, g a = s.heap.get? a) : obsYG n a g = (hookY n a).obs s := by
  have e : g = s.heap.get? := funext h
  rw [e] <;> rfl
/-- the same at a list of addresses that is given -/
def obsZG (as : List Addr) (a : AskD) (g : Addr → Option Obj) : He.AlD := obsY a (He.frG g as)
def hookZ (as : List Addr) (a : AskD) : PySem.W.Hook where
  α := He.AlD
  obs := fun s => obsZG as a s.heap.get?
  val := fun _ => He.valD a.fn
  says := fun _ h => ∃ K : PySem.W.Frag, K.In h ∧ SaysY a K
  of := fun _ _ e => ⟨_, He.frG_in, e⟩
  keeps := fun _ _ _ ⟨K, hK, c⟩ k => ⟨K, PySem.W.Frag.In.keeps hK k, c⟩
theorem obsZG_eq {as : List Addr} {a : AskD} {g : Addr → Option Obj} {s : Shared} (h : ∀ a, g a = s.heap.get? a) : obsZG as a g = (hookZ as a).obs s := by
  have e : g = s.heap.get? := funext h
  rw [e] <;> rfl
/-- a method of no defaults -/
def dOfQ (c m q : Str) (st : Stmt) : He.DefD := ⟨(c, some m), m, q, defArgs st, defBody st, defScope st, [], []⟩
end DL

namespace DL
open PySem PySem.Spec PyProof.Rows L2
def mthS_of (s : Stmt) (j : Nat) : Stmt := match s with
  | .ClassDef _ _ _ b _ _ _ _ _ _ _ => b.getD j (.Pass ⟨0, 0, 0, 0⟩)
  | s => s
def topS (i : Nat) : Stmt := PySem.Challenge.pw_driftsums_k41_whole_stuck.main.body.getD i (.Pass ⟨0, 0, 0, 0⟩)
def mthS (i j : Nat) : Stmt := mthS_of (topS i) j
abbrev s_l_draw : Stmt := topS 62
abbrev s_l_pick : Stmt := topS 63
abbrev s_l_mode : Stmt := topS 71
abbrev s_l_top : Stmt := topS 66
abbrev s_is_int : Stmt := topS 9
abbrev s_is_format : Stmt := topS 10
abbrev s_need_few : Stmt := topS 55
abbrev s_need_format : Stmt := topS 11
abbrev s_is_machine : Stmt := topS 23
abbrev s_need_machine : Stmt := topS 24
abbrev s_doubled : Stmt := topS 12
abbrev s_greatest_of : Stmt := topS 13
abbrev s_distance : Stmt := topS 14
abbrev s_fits : Stmt := topS 15
abbrev s_is_number_of : Stmt := topS 16
abbrev s_is_lot_of : Stmt := topS 39
abbrev s_need_lot : Stmt := topS 40
abbrev s_need_summed : Stmt := topS 41
abbrev s_need_endless : Stmt := topS 56
abbrev s_with_rings : Stmt := topS 50
abbrev s_Rests___init__ : Stmt := mthS 47 0
abbrev s_begun : Stmt := topS 25
abbrev s_sides : Stmt := topS 17
abbrev s_chosen : Stmt := topS 18
abbrev s_round_to : Stmt := topS 19
abbrev s_plus : Stmt := topS 27
abbrev s_less : Stmt := topS 28
abbrev s_kept_step : Stmt := topS 29
abbrev s_beside_step : Stmt := topS 30
abbrev s_wider : Stmt := topS 26
abbrev s_total_told : Stmt := topS 31
abbrev s_step : Stmt := topS 32
abbrev s_first_rows : Stmt := topS 42
abbrev s_gain : Stmt := topS 46
abbrev s_Rests_steps : Stmt := mthS 47 1
abbrev s_graph_of : Stmt := topS 57
abbrev s_sums_of : Stmt := topS 51
abbrev s_lowest : Stmt := topS 49
abbrev s_mean_of : Stmt := topS 52
abbrev s_drifts : Stmt := topS 58
abbrev s_spoiling_row : Stmt := topS 44
abbrev s_places : Stmt := topS 43
abbrev s_greatest_sum : Stmt := topS 53
abbrev s_least_ever : Stmt := topS 60
abbrev s_is_row_of : Stmt := topS 33
abbrev s_need_row : Stmt := topS 36
abbrev s_run : Stmt := topS 34
abbrev s_totals_of : Stmt := topS 35
abbrev s_totals : Stmt := topS 37
abbrev s_greatest_ever : Stmt := topS 59
abbrev s_l_law : Stmt := topS 72
def fnL : List He.DefD := [dOf "_law_draw" s_l_draw, dOf "_law_pick" s_l_pick, dOf "_law_mode" s_l_mode, dOf "_law_top" s_l_top, dOf "is_int" s_is_int, dOf "is_format" s_is_format, dOf "need_few" s_need_few, dOf "need_format" s_need_format, dOf "is_machine" s_is_machine, dOf "need_machine" s_need_machine, dOf "doubled" s_doubled, dOf "greatest_of" s_greatest_of, dOf "distance" s_distance, dOf "fits" s_fits, dOf "is_number_of" s_is_number_of, dOf "is_lot_of" s_is_lot_of, dOf "need_lot" s_need_lot, dOf "need_summed" s_need_summed, dOf "need_endless" s_need_endless, dOf "with_rings" s_with_rings, dOfQ "Rests" "__init__" "Rests.__init__" s_Rests___init__, dOf "begun" s_begun, dOf "sides" s_sides, dOf "chosen" s_chosen, dOf "round_to" s_round_to, dOf "plus" s_plus, dOf "less" s_less, dOf "kept_step" s_kept_step, dOf "beside_step" s_beside_step, dOf "wider" s_wider, dOf "total_told" s_total_told, dOf "step" s_step, dOf "first_rows" s_first_rows, dOf "gain" s_gain, dOfQ "Rests" "steps" "Rests.steps" s_Rests_steps, dOf "graph_of" s_graph_of, dOf "sums_of" s_sums_of, dOf "lowest" s_lowest, dOf "mean_of" s_mean_of, dOf "drifts" s_drifts, dOf "spoiling_row" s_spoiling_row, dOf "places" s_places, dOf "greatest_sum" s_greatest_sum, dOf "least_ever" s_least_ever, dOf "is_row_of" s_is_row_of, dOf "need_row" s_need_row, dOf "run" s_run, dOf "totals_of" s_totals_of, dOf "totals" s_totals, dOf "greatest_ever" s_greatest_ever, dOf "law" s_l_law]
def faL : List He.Fa := [.glo "_law_draw", .glo "_law_pick", .glo "_law_mode", .glo "_law_top", .glo "is_int", .glo "is_format", .glo "need_few", .glo "need_format", .glo "is_machine", .glo "need_machine", .glo "doubled", .glo "greatest_of", .glo "distance", .glo "fits", .glo "is_number_of", .glo "is_lot_of", .glo "need_lot", .glo "need_summed", .glo "need_endless", .glo "with_rings", .glo "begun", .glo "sides", .glo "chosen", .glo "round_to", .glo "plus", .glo "less", .glo "kept_step", .glo "beside_step", .glo "wider", .glo "total_told", .glo "step", .glo "first_rows", .glo "gain", .glo "graph_of", .glo "sums_of", .glo "lowest", .glo "mean_of", .glo "drifts", .glo "spoiling_row", .glo "places", .glo "greatest_sum", .glo "least_ever", .glo "is_row_of", .glo "need_row", .glo "run", .glo "totals_of", .glo "totals", .glo "greatest_ever", .glo "law", .glo "Rests", .cls "Rests", .mkr "Rests", .noat "Rests" "form", .noat "Rests" "machine", .noat "Rests" "lot", .noat "Rests" "known", .meth "Rests" "steps", .free "len", .free "range", .free "isinstance", .free "int", .free "bool", .free "tuple", .free "all", .free "str", .free "abs", .free "zip", .free "sorted", .free "list", .free "max", .glo "InvalidFormat", .exc "InvalidFormat", .glo "InvalidMachine", .exc "InvalidMachine", .glo "InvalidLot", .exc "InvalidLot", .glo "InvalidRow", .exc "InvalidRow", .int "LONGEST" 40]
def tuL : TuD := [("WAYS", ["beside", "kept", "plain", "signs", "wide1", "wide2"]), ("ROUNDINGS", ["away", "down", "even", "up", "zero"])]
abbrev rowR : PySem.W.OpenRow := PySem.W.OpenLaw.row PySem.Challenge.rw_driftsums_k41_whole_stuck
abbrev hkL : PySem.W.Hook := hookX 6 faL tuL fnL
def obL (s : PySem.W.SharedT) : He.AlD := obsXG 6 faL tuL fnL (HandSHeadRun.getT s)
theorem obL_eq (s : PySem.W.SharedT) : obL s = hkL.obs s.abs := obsXG_eq (HandSHeadRun.getT_eq s)
def looseL : List Str := (["_wall", "SumError", "InvalidFormat", "InvalidMachine", "InvalidRow", "InvalidLot", "ROUNDINGS", "is_int", "is_format", "need_format", "doubled", "greatest_of", "distance", "fits", "is_number_of", "sides", "chosen", "round_to", "WAYS", "LONGEST", "is_machine", "need_machine", "begun", "wider", "plus", "less", "kept_step", "beside_step", "total_told", "step"] : List Str) ++ (["is_row_of", "run", "totals_of", "need_row", "totals", "is_lot_of", "need_lot", "need_summed", "first_rows", "places", "spoiling_row", "gain", "Rests", "lowest", "with_rings", "sums_of", "mean_of", "greatest_sum", "need_few", "need_endless", "graph_of", "drifts", "greatest_ever", "least_ever", "_law_draw", "_law_pick", "_law_form", "_law_broad", "_law_top", "_law_in"] : List Str) ++ (["_law_sides", "_law_round", "_law_number", "_law_mode"] : List Str)
theorem runL (w : World) : HandSHeadRun.RunEq rowR (PySem.W.view rowR.prog [72]) hkL obL 8400 looseL w := by
  intro os
  kernel_rfl
end DL

/-! DLS: the data functions step by step, without binders: what simp needs. -/
namespace DL
open PySem PySem.Spec PyProof.Rows L2
section
variable {α β γ : Type}
def thenR (r : R α) (k : α → S → R β) : R β := match r with
  | .ok a s => k a s
  | .exc c s => .exc c s
  | .bad => .bad
theorem v_ok {a : α} {s : S} {k : α → S → R β} : thenR (.ok a s) k = k a s := rfl
theorem v_exc {c : Str} {s : S} {k : α → S → R β} : thenR (.exc c s) k = .exc c s := rfl
theorem v_bad {k : α → S → R β} : thenR (.bad : R α) k = .bad := rfl
theorem v_ite {c : Prop} [Decidable c] {a b : R α} {k : α → S → R β} : thenR (if c then a else b) k = if c then thenR a k else thenR b k := by split <;> rfl
def optR (o : Option α) (s : S) : R α := match o with
  | some a => .ok a s
  | none => .bad
theorem v_some {a : α} {s : S} : optR (some a) s = .ok a s := rfl
theorem v_none {s : S} : optR (none : Option α) s = .bad := rfl
theorem v_optIte {c : Prop} [Decidable c] {a b : Option α} {s : S} : optR (if c then a else b) s = if c then optR a s else optR b s := by split <;> rfl
theorem lift_opt {o : Option α} {s : S} : liftO o s = optR o s := by cases o <;> rfl

/-! ### slots -/
theorem v_peek {i : Nat} {e : List Sl} {st : List Cell} : peek i ⟨e, st⟩ = match e[i]? with
  | some (.v d) => some d
  | some (.ol ds) => some (.list ds)
  | some (.od kvs) => some (.dict kvs)
  | some (.cell g) => match st[g]? with
    | some (.lst ds) => some (.list ds)
    | some (.dic kvs) => some (.dict kvs)
    | _ => none
  | _ => none := rfl
theorem v_peek0 {d : D} {e : List Sl} {st : List Cell} : peek 0 ⟨.v d :: e, st⟩ = some d := rfl
theorem v_peek0l {ds : List D} {e : List Sl} {st : List Cell} : peek 0 ⟨.ol ds :: e, st⟩ = some (.list ds) := rfl
theorem v_peek0k {ds : List (D × D)} {e : List Sl} {st : List Cell} : peek 0 ⟨.od ds :: e, st⟩ = some (.dict ds) := rfl
theorem v_peek0c {ds : List D} {g : Nat} {e : List Sl} {st : List Cell} (h : st[g]? = some (.lst ds)) : peek 0 ⟨.cell g :: e, st⟩ = some (.list ds) := by rw [v_peek]; simp [h]
theorem v_peekS {i : Nat} {sl : Sl} {e : List Sl} {st : List Cell} : peek (i + 1) ⟨sl :: e, st⟩ = peek i ⟨e, st⟩ := rfl
def evOk (i : Nat) (o : Option D) (s : S) : R Ov := match o with
  | some _ => .ok (.n i) s
  | none => .bad
theorem v_evOn {i : Nat} {s : S} : evO (.n i) s = evOk i (peek i s) s := rfl
theorem v_evOk {i : Nat} {d : D} {s : S} : evOk i (some d) s = .ok (.n i) s := rfl
def evOg (d : D) (s : S) : R Ov := .ok (.d d) s
theorem v_evOg {f : DM D} {s : S} : evO (.g f) s = thenR (f s) evOg := rfl
theorem v_evOgk {d : D} {s : S} : evOg d s = .ok (.d d) s := rfl
theorem v_resd {s : S} {x : D} : res s (.d x) = some x := rfl
theorem v_resn {s : S} {i : Nat} : res s (.n i) = peek i s := rfl
def w2 (g : D → D → Option α) (s : S) (x y : Option D) : R α := match x, y with
  | some dx, some dy => optR (g dx dy) s
  | _, _ => .bad
theorem v_with2 {g : D → D → Option α} {x y : Ov} {s : S} : with2 g x y s = w2 g s (res s x) (res s y) := by
  unfold with2 w2
  cases res s x <;> cases res s y <;> first | rfl | exact lift_opt
theorem v_w2 {g : D → D → Option α} {s : S} {dx dy : D} : w2 g s (some dx) (some dy) = optR (g dx dy) s := rfl
def w1 (g : D → Option α) (s : S) (x : Option D) : R α := match x with
  | some dx => optR (g dx) s
  | _ => .bad
theorem v_with1 {g : D → Option α} {x : Ov} {s : S} : with1 g x s = w1 g s (res s x) := by
  unfold with1 w1
  cases res s x <;> first | rfl | exact lift_opt
theorem v_w1 {g : D → Option α} {s : S} {dx : D} : w1 g s (some dx) = optR (g dx) s := rfl
def e2b (g : D → D → Option α) (x y : Ov) (s : S) : R α := with2 g x y s
def e2a (g : D → D → Option α) (ob : Opd) (x : Ov) (s : S) : R α := thenR (evO ob s) (e2b g x)
theorem v_e2 {g : D → D → Option α} {oa ob : Opd} {s : S} : e2 g oa ob s = thenR (evO oa s) (e2a g ob) := rfl
theorem v_e2a {g : D → D → Option α} {ob : Opd} {x : Ov} {s : S} : e2a g ob x s = thenR (evO ob s) (e2b g x) := rfl
theorem v_e2b {g : D → D → Option α} {x y : Ov} {s : S} : e2b g x y s = w2 g s (res s x) (res s y) := v_with2
def e1a (g : D → Option α) (x : Ov) (s : S) : R α := with1 g x s
theorem v_e1 {g : D → Option α} {oa : Opd} {s : S} : e1 g oa s = thenR (evO oa s) (e1a g) := rfl
theorem v_e1a {g : D → Option α} {x : Ov} {s : S} : e1a g x s = w1 g s (res s x) := v_with1
theorem v_eC {d : D} {s : S} : eC d s = .ok d s := rfl
theorem v_pure {a : α} {s : S} : pureM a s = .ok a s := rfl
theorem v_badM {s : S} : (badM : DM α) s = .bad := rfl
/-! eVar, fVar, aVar -/
def sl? (e : List Sl) (i : Nat) : Option Sl := e[i]?
theorem v_sl0 {x : Sl} {e : List Sl} : sl? (x :: e) 0 = some x := rfl
theorem v_slS {x : Sl} {e : List Sl} {i : Nat} : sl? (x :: e) (i + 1) = sl? e i := rfl
def eVark (i : Nat) (e : List Sl) (st : List Cell) (o : Option Sl) : R D := match o with
  | some (.v d) => .ok d ⟨e, st⟩
  | some (.ol ds) => .ok (.list ds) ⟨e.set i (.v (.list ds)), st⟩
  | some (.od kvs) => .ok (.dict kvs) ⟨e.set i (.v (.dict kvs)), st⟩
  | _ => .bad
theorem v_eVar {i : Nat} {e : List Sl} {st : List Cell} : eVar i ⟨e, st⟩ = eVark i e st (sl? e i) := rfl
theorem v_eVarv {i : Nat} {e : List Sl} {st : List Cell} {d : D} : eVark i e st (some (.v d)) = .ok d ⟨e, st⟩ := rfl
theorem v_eVarl {i : Nat} {e : List Sl} {st : List Cell} {ds : List D} : eVark i e st (some (.ol ds)) = .ok (.list ds) ⟨e.set i (.v (.list ds)), st⟩ := rfl
theorem v_eVark {i : Nat} {e : List Sl} {st : List Cell} {kvs : List (D × D)} : eVark i e st (some (.od kvs)) = .ok (.dict kvs) ⟨e.set i (.v (.dict kvs)), st⟩ := rfl
def fVark (i : Nat) (e : List Sl) (st : List Cell) (o : Option Sl) : R RV := match o with
  | some (.v d) => .ok (.d d) ⟨e, st⟩
  | some (.ol ds) => .ok (.fl ds) ⟨e.set i .un, st⟩
  | some (.od kvs) => .ok (.fd kvs) ⟨e.set i .un, st⟩
  | some (.cell g) => .ok (.cell g) ⟨e, st⟩
  | _ => .bad
theorem v_fVar {i : Nat} {e : List Sl} {st : List Cell} : fVar i ⟨e, st⟩ = fVark i e st (sl? e i) := by
  unfold fVar fVark sl?
  first
    | rfl
    | (dsimp only
       cases e[i]? with
       | none => rfl
       | some x => cases x <;> rfl)
theorem v_fVarv {i : Nat} {e : List Sl} {st : List Cell} {d : D} : fVark i e st (some (.v d)) = .ok (.d d) ⟨e, st⟩ := rfl
theorem v_fVarl {i : Nat} {e : List Sl} {st : List Cell} {ds : List D} : fVark i e st (some (.ol ds)) = .ok (.fl ds) ⟨e.set i .un, st⟩ := rfl
theorem v_fVark {i : Nat} {e : List Sl} {st : List Cell} {kvs : List (D × D)} : fVark i e st (some (.od kvs)) = .ok (.fd kvs) ⟨e.set i .un, st⟩ := rfl
theorem v_fVarc {i : Nat} {e : List Sl} {st : List Cell} {g : Nat} : fVark i e st (some (.cell g)) = .ok (.cell g) ⟨e, st⟩ := rfl
def aVark (i : Nat) (e : List Sl) (st : List Cell) (o : Option Sl) : R Sl := match o with
  | some (.v d) => .ok (.v d) ⟨e, st⟩
  | some (.ol ds) => .ok (.v (.list ds)) ⟨e.set i (.v (.list ds)), st⟩
  | some (.od kvs) => .ok (.v (.dict kvs)) ⟨e.set i (.v (.dict kvs)), st⟩
  | some (.cell g) => .ok (.cell g) ⟨e, st⟩
  | _ => .bad
theorem v_aVar {i : Nat} {e : List Sl} {st : List Cell} : aVar i ⟨e, st⟩ = aVark i e st (sl? e i) := by
  unfold aVar bindM eVar aVark sl?
  dsimp only
  cases e[i]? with
  | none => rfl
  | some x => cases x <;> rfl
theorem v_aVarv {i : Nat} {e : List Sl} {st : List Cell} {d : D} : aVark i e st (some (.v d)) = .ok (.v d) ⟨e, st⟩ := rfl
theorem v_aVarl {i : Nat} {e : List Sl} {st : List Cell} {ds : List D} : aVark i e st (some (.ol ds)) = .ok (.v (.list ds)) ⟨e.set i (.v (.list ds)), st⟩ := rfl
theorem v_aVarc {i : Nat} {e : List Sl} {st : List Cell} {g : Nat} : aVark i e st (some (.cell g)) = .ok (.cell g) ⟨e, st⟩ := rfl
/-! results -/
def asRVk (d : D) (s : S) : R RV := .ok (.d d) s
theorem v_asRV {f : DM D} {s : S} : asRV f s = thenR (f s) asRVk := rfl
theorem v_asRVk {d : D} {s : S} : asRVk d s = .ok (.d d) s := rfl
def asDk (r : RV) (s : S) : R D := optR (frz r) s
theorem v_asD {f : DM RV} {s : S} : asD f s = thenR (f s) asDk := by
  unfold asD bindM thenR
  cases f s <;> first | rfl | exact lift_opt
theorem v_asDd {d : D} {s : S} : asDk (.d d) s = .ok d s := rfl
theorem v_asDl {ds : List D} {s : S} : asDk (.fl ds) s = .ok (.list ds) s := rfl
theorem v_asDk {ds : List (D × D)} {s : S} : asDk (.fd ds) s = .ok (.dict ds) s := rfl
theorem v_asDite {c : Prop} [Decidable c] {a b : RV} {s : S} : asDk (if c then a else b) s = if c then asDk a s else asDk b s := by split <;> rfl
def tB1k (d : D) (s : S) : R Bool := optR (asB d) s
theorem v_tB1 {f : DM D} {s : S} : tB1 f s = thenR (f s) tB1k := by
  unfold tB1 bindM thenR
  cases f s <;> first | rfl | exact lift_opt
theorem v_tB1k {b : Bool} {s : S} : tB1k (.bool b) s = .ok b s := rfl
def bNotk (b : Bool) (s : S) : R Bool := .ok (!b) s
theorem v_bNot {f : DM Bool} {s : S} : bNot f s = thenR (f s) bNotk := rfl
theorem v_bNotk {b : Bool} {s : S} : bNotk b s = .ok (!b) s := rfl
def bAndk (g : DM Bool) (b : Bool) (s : S) : R Bool := if b = true then g s else .ok false s
theorem v_bAnd {f g : DM Bool} {s : S} : bAnd f g s = thenR (f s) (bAndk g) := by
  unfold bAnd bindM thenR bAndk
  cases f s with
  | ok b s' => cases b <;> rfl
  | _ => rfl
theorem v_bAndk {g : DM Bool} {b : Bool} {s : S} : bAndk g b s = if b = true then g s else .ok false s := rfl
def bOrk (g : DM Bool) (b : Bool) (s : S) : R Bool := if b = true then .ok true s else g s
theorem v_bOr {f g : DM Bool} {s : S} : bOr f g s = thenR (f s) (bOrk g) := by
  unfold bOr bindM thenR bOrk
  cases f s with
  | ok b s' => cases b <;> rfl
  | _ => rfl
theorem v_bOrk {g : DM Bool} {b : Bool} {s : S} : bOrk g b s = if b = true then .ok true s else g s := rfl
def vAndk (g : DM D) (d : D) (s : S) : R D := match asB d with
  | some b => if b = true then g s else .ok (.bool false) s
  | none => .bad
theorem v_vAnd {f g : DM D} {s : S} : vAnd f g s = thenR (f s) (vAndk g) := by
  unfold vAnd bindM thenR vAndk
  cases f s with
  | ok d s' =>
    dsimp only
    cases asB d with
    | none => rfl
    | some b => cases b <;> rfl
  | _ => rfl
theorem v_vAndk {g : DM D} {b : Bool} {s : S} : vAndk g (.bool b) s = if b = true then g s else .ok (.bool false) s := rfl
def vOrk (g : DM D) (d : D) (s : S) : R D := match asB d with
  | some b => if b = true then .ok (.bool true) s else g s
  | none => .bad
theorem v_vOr {f g : DM D} {s : S} : vOr f g s = thenR (f s) (vOrk g) := by
  unfold vOr bindM thenR vOrk
  cases f s with
  | ok d s' =>
    dsimp only
    cases asB d with
    | none => rfl
    | some b => cases b <;> rfl
  | _ => rfl
theorem v_vOrk {g : DM D} {b : Bool} {s : S} : vOrk g (.bool b) s = if b = true then .ok (.bool true) s else g s := rfl
def vNotk (d : D) (s : S) : R D := match asB d with
  | some b => .ok (.bool !b) s
  | none => .bad
theorem v_vNot {f : DM D} {s : S} : vNot f s = thenR (f s) vNotk := by
  unfold vNot bindM thenR vNotk
  cases f s with
  | ok d s' =>
    dsimp only
    cases asB d with
    | none => rfl
    | some b => rfl
  | _ => rfl
theorem v_vNotk {b : Bool} {s : S} : vNotk (.bool b) s = .ok (.bool !b) s := rfl
def eIfk (f g : DM D) (b : Bool) (s : S) : R D := if b = true then f s else g s
theorem v_eIf {t : DM Bool} {f g : DM D} {s : S} : eIf t f g s = thenR (t s) (eIfk f g) := by
  unfold eIf bindM thenR eIfk
  cases t s with
  | ok b s' => cases b <;> rfl
  | _ => rfl
theorem v_eIfk {f g : DM D} {b : Bool} {s : S} : eIfk f g b s = if b = true then f s else g s := rfl
def chc (g' : D → D → Option D) (y z : Ov) (s : S) : R D := with2 g' y z s
def chk (g' : D → D → Option D) (oc : Opd) (y : Ov) (d : D) (s : S) : R D := match asB d with
  | some b => if b = true then thenR (evO oc s) (chc g' y) else .ok (.bool false) s
  | none => .bad
def chb (g g' : D → D → Option D) (oc : Opd) (x y : Ov) (s : S) : R D := thenR (with2 g x y s) (chk g' oc y)
def cha (g g' : D → D → Option D) (ob oc : Opd) (x : Ov) (s : S) : R D := thenR (evO ob s) (chb g g' oc x)
theorem v_chain {g g' : D → D → Option D} {oa ob oc : Opd} {s : S} : chain2 g g' oa ob oc s = thenR (evO oa s) (cha g g' ob oc) := rfl
theorem v_cha {g g' : D → D → Option D} {ob oc : Opd} {x : Ov} {s : S} : cha g g' ob oc x s = thenR (evO ob s) (chb g g' oc x) := rfl
theorem v_chb {g g' : D → D → Option D} {oc : Opd} {x y : Ov} {s : S} : chb g g' oc x y s = thenR (w2 g s (res s x) (res s y)) (chk g' oc y) := by unfold chb; rw [v_with2]
theorem v_chk {g' : D → D → Option D} {oc : Opd} {y : Ov} {b : Bool} {s : S} : chk g' oc y (.bool b) s = if b = true then thenR (evO oc s) (chc g' y) else .ok (.bool false) s := rfl
theorem v_chc {g' : D → D → Option D} {y z : Ov} {s : S} : chc g' y z s = w2 g' s (res s y) (res s z) := v_with2
/-! displays -/
theorem v_eNil {s : S} : eNil s = .ok [] s := rfl
def eConsb (d : D) (ds : List D) (s : S) : R (List D) := .ok (d :: ds) s
def eConsk (g : DM (List D)) (d : D) (s : S) : R (List D) := thenR (g s) (eConsb d)
theorem v_eCons {f : DM D} {g : DM (List D)} {s : S} : eCons f g s = thenR (f s) (eConsk g) := rfl
theorem v_eConsk {g : DM (List D)} {d : D} {s : S} : eConsk g d s = thenR (g s) (eConsb d) := rfl
theorem v_eConsb {d : D} {ds : List D} {s : S} : eConsb d ds s = .ok (d :: ds) s := rfl
def eTupk (ds : List D) (s : S) : R D := if ds.length ≤ 1000 then .ok (.tuple ds) s else .bad
theorem v_eTup {g : DM (List D)} {s : S} : eTup g s = thenR (g s) eTupk := by
  unfold eTup bindM thenR eTupk
  cases g s with
  | ok ds s' => dsimp only; by_cases h : ds.length ≤ 1000 <;> simp [h, pureM, badM]
  | _ => rfl
theorem v_eTupk {ds : List D} {s : S} : eTupk ds s = if ds.length ≤ 1000 then .ok (.tuple ds) s else .bad := rfl
def eLstk (ds : List D) (s : S) : R RV := if ds.length ≤ 1000 then .ok (.fl ds) s else .bad
theorem v_eLst {g : DM (List D)} {s : S} : eLst g s = thenR (g s) eLstk := by
  unfold eLst bindM thenR eLstk
  cases g s with
  | ok ds s' => dsimp only; by_cases h : ds.length ≤ 1000 <;> simp [h, pureM, badM]
  | _ => rfl
theorem v_eLstk {ds : List D} {s : S} : eLstk ds s = if ds.length ≤ 1000 then .ok (.fl ds) s else .bad := rfl
theorem v_fNil {s : S} : fNil s = .ok [] s := rfl
def fConsb (d : RV) (ds : List RV) (s : S) : R (List RV) := .ok (d :: ds) s
def fConsk (g : DM (List RV)) (d : RV) (s : S) : R (List RV) := thenR (g s) (fConsb d)
theorem v_fCons {f : DM RV} {g : DM (List RV)} {s : S} : fCons f g s = thenR (f s) (fConsk g) := rfl
theorem v_fConsk {g : DM (List RV)} {d : RV} {s : S} : fConsk g d s = thenR (g s) (fConsb d) := rfl
theorem v_fConsb {d : RV} {ds : List RV} {s : S} : fConsb d ds s = .ok (d :: ds) s := rfl
theorem v_aNil {s : S} : aNil s = .ok [] s := rfl
def aConsb (d : Sl) (ds : List Sl) (s : S) : R (List Sl) := .ok (d :: ds) s
def aConsk (g : DM (List Sl)) (d : Sl) (s : S) : R (List Sl) := thenR (g s) (aConsb d)
theorem v_aCons {f : DM Sl} {g : DM (List Sl)} {s : S} : aCons f g s = thenR (f s) (aConsk g) := rfl
theorem v_aConsk {g : DM (List Sl)} {d : Sl} {s : S} : aConsk g d s = thenR (g s) (aConsb d) := rfl
theorem v_aConsb {d : Sl} {ds : List Sl} {s : S} : aConsb d ds s = .ok (d :: ds) s := rfl
def aOfk (d : D) (s : S) : R Sl := .ok (.v d) s
theorem v_aOf {f : DM D} {s : S} : aOf f s = thenR (f s) aOfk := rfl
theorem v_aOfk {d : D} {s : S} : aOfk d s = .ok (.v d) s := rfl
/-! calls -/
def prR (r : PR) (s : S) : R RV := match r with
  | .ok r => .ok r s
  | .exc c => .exc c s
  | .bad => .bad
theorem v_prok {r : RV} {s : S} : prR (.ok r) s = .ok r s := rfl
theorem v_prexc {c : Str} {s : S} : prR (.exc c) s = .exc c s := rfl
theorem v_prite {c : Prop} [Decidable c] {a b : PR} {s : S} : prR (if c then a else b) s = if c then prR a s else prR b s := by split <;> rfl
def callFk (G : List D → PR) (ds : List D) (s : S) : R RV := prR (G ds) s
theorem v_callF {G : List D → PR} {g : DM (List D)} {s : S} : callF G g s = thenR (g s) (callFk G) := rfl
theorem v_callFk {G : List D → PR} {ds : List D} {s : S} : callFk G ds s = prR (G ds) s := rfl
def prB (r : PR) (s : S) : R RV := match r with
  | .ok r => if plainR r then .ok r s else .bad
  | .exc c => .exc c s
  | .bad => .bad
def optB (G : List D → PR) (o : Option (List D)) (s : S) : R RV := match o with
  | some ds => prB (G ds) s
  | none => .bad
def callBk (G : List D → PR) (xs : List Ov) (s : S) : R RV := optB G (ress s xs) s
theorem v_callB {G : List D → PR} {os : Opds} {s : S} : callB G os s = thenR (evOs os s) (callBk G) := by
  unfold callB bindM thenR callBk optB
  cases evOs os s with
  | ok xs s' =>
    dsimp only
    cases ress s' xs with
    | none => rfl
    | some ds => rfl
  | _ => rfl
theorem v_callBk {G : List D → PR} {xs : List Ov} {s : S} : callBk G xs s = optB G (ress s xs) s := rfl
theorem v_optB {G : List D → PR} {ds : List D} {s : S} : optB G (some ds) s = prB (G ds) s := rfl
theorem v_prBok {r : RV} {s : S} : prB (.ok r) s = if plainR r = true then .ok r s else .bad := rfl
theorem v_prBexc {c : Str} {s : S} : prB (.exc c) s = .exc c s := rfl
theorem v_prBite {c : Prop} [Decidable c] {a b : PR} {s : S} : prB (if c then a else b) s = if c then prB a s else prB b s := by split <;> rfl
theorem v_evOsn {s : S} : evOs .nil s = .ok [] s := rfl
def evOsb (x : Ov) (xs : List Ov) (s : S) : R (List Ov) := .ok (x :: xs) s
def evOsk (r : Opds) (x : Ov) (s : S) : R (List Ov) := thenR (evOs r s) (evOsb x)
theorem v_evOsc {o : Opd} {r : Opds} {s : S} : evOs (.cons o r) s = thenR (evO o s) (evOsk r) := rfl
theorem v_evOsk {r : Opds} {x : Ov} {s : S} : evOsk r x s = thenR (evOs r s) (evOsb x) := rfl
theorem v_evOsb {x : Ov} {xs : List Ov} {s : S} : evOsb x xs s = .ok (x :: xs) s := rfl
def consO (o : Option D) (l : Option (List D)) : Option (List D) := o.bind fun d => l.bind fun ds => some (d :: ds)
theorem v_ress0 {s : S} : ress s [] = some [] := rfl
theorem v_ress1 {s : S} {x : Ov} {xs : List Ov} : ress s (x :: xs) = consO (res s x) (ress s xs) := rfl
theorem v_consO {d : D} {ds : List D} : consO (some d) (some ds) = some (d :: ds) := rfl
def frR (r : FR) (e : List Sl) : R RV := match r with
  | .ok r st => .ok r ⟨e, st⟩
  | .exc c st => .exc c ⟨e, st⟩
  | .bad => .bad
theorem v_frok {r : RV} {st : List Cell} {e : List Sl} : frR (.ok r st) e = .ok r ⟨e, st⟩ := rfl
theorem v_frexc {c : Str} {st : List Cell} {e : List Sl} : frR (.exc c st) e = .exc c ⟨e, st⟩ := rfl
def callMk (G : List Sl → List Cell → FR) (args : List Sl) (s : S) : R RV := frR (G args s.st) s.env
theorem v_callM {G : List Sl → List Cell → FR} {g : DM (List Sl)} {s : S} : callM G g s = thenR (g s) (callMk G) := rfl
theorem v_callMk {G : List Sl → List Cell → FR} {args : List Sl} {e : List Sl} {st : List Cell} : callMk G args ⟨e, st⟩ = frR (G args st) e := rfl
/-! statements -/
def thenS (r : R Fl) (g : DM Fl) : R Fl := match r with
  | .ok .nx s => g s
  | r => r
theorem v_seq {f g : DM Fl} {s : S} : seqM f g s = thenS (f s) g := rfl
theorem v_nx {s : S} {g : DM Fl} : thenS (.ok .nx s) g = g s := rfl
theorem v_rt {s : S} {g : DM Fl} {r : RV} : thenS (.ok (.rt r) s) g = .ok (.rt r) s := rfl
theorem v_ct {s : S} {g : DM Fl} : thenS (.ok .ct s) g = .ok .ct s := rfl
theorem v_bk {s : S} {g : DM Fl} : thenS (.ok .bk s) g = .ok .bk s := rfl
theorem v_sexc {s : S} {g : DM Fl} {c : Str} : thenS (.exc c s) g = .exc c s := rfl
theorem v_sbad {g : DM Fl} : thenS .bad g = .bad := rfl
theorem v_site {c : Prop} [Decidable c] {a b : R Fl} {g : DM Fl} : thenS (if c then a else b) g = if c then thenS a g else thenS b g := by split <;> rfl
def sRetk (r : RV) (s : S) : R Fl := .ok (.rt r) s
theorem v_sRet {f : DM RV} {s : S} : sRet f s = thenR (f s) sRetk := rfl
theorem v_sRetk {r : RV} {s : S} : sRetk r s = .ok (.rt r) s := rfl
def sSetk (i : Nat) (r : RV) (s : S) : R Fl := .ok .nx (setSl i (slOf r) s)
theorem v_sSet {i : Nat} {f : DM RV} {s : S} : sSet i f s = thenR (f s) (sSetk i) := rfl
theorem v_sSetk {i : Nat} {r : RV} {s : S} : sSetk i r s = .ok .nx (setSl i (slOf r) s) := rfl
theorem v_setSl {i : Nat} {sl : Sl} {e : List Sl} {st : List Cell} : setSl i sl ⟨e, st⟩ = ⟨e.set i sl, st⟩ := rfl
theorem v_slOfd {d : D} : slOf (.d d) = .v d := rfl
theorem v_slOfl {d : List D} : slOf (.fl d) = .ol d := rfl
theorem v_slOfk {d : List (D × D)} : slOf (.fd d) = .od d := rfl
theorem v_slOfc {g : Nat} : slOf (.cell g) = .cell g := rfl
def sDropk (_ : RV) (s : S) : R Fl := .ok .nx s
theorem v_sDrop {f : DM RV} {s : S} : sDrop f s = thenR (f s) sDropk := rfl
theorem v_sDropk {r : RV} {s : S} : sDropk r s = .ok .nx s := rfl
def sIfk (f g : DM Fl) (b : Bool) (s : S) : R Fl := if b = true then f s else g s
theorem v_sIf {c : DM Bool} {f g : DM Fl} {s : S} : sIf c f g s = thenR (c s) (sIfk f g) := by
  unfold sIf bindM thenR sIfk
  cases c s with
  | ok b s' => cases b <;> rfl
  | _ => rfl
theorem v_sIfk {f g : DM Fl} {b : Bool} {s : S} : sIfk f g b s = if b = true then f s else g s := rfl
theorem v_sRaise {c : Str} {s : S} : sRaise c s = .exc c s := rfl
def stR (o : Option S) : R Fl := match o with
  | some s => .ok .nx s
  | none => .bad
theorem v_stR {s : S} : stR (some s) = .ok .nx s := rfl
def sPark (is : List Nat) (rs : List RV) (s : S) : R Fl := stR (setAll is rs s)
theorem v_sPar {is : List Nat} {g : DM (List RV)} {s : S} : sPar is g s = thenR (g s) (sPark is) := by
  unfold sPar bindM thenR sPark stR
  cases g s with
  | ok rs s' => rfl
  | _ => rfl
theorem v_sPark {is : List Nat} {rs : List RV} {s : S} : sPark is rs s = stR (setAll is rs s) := rfl
theorem v_setAll0 {s : S} : setAll [] [] s = some s := rfl
theorem v_setAll1 {i : Nat} {is : List Nat} {r : RV} {rs : List RV} {s : S} : setAll (i :: is) (r :: rs) s = setAll is rs (setSl i (slOf r) s) := rfl
def sUnpk (t : D → S → Option S) (d : D) (s : S) : R Fl := stR (t d s)
theorem v_sUnp {f : DM D} {t : D → S → Option S} {s : S} : sUnp f t s = thenR (f s) (sUnpk t) := by
  unfold sUnp bindM thenR sUnpk stR
  cases f s with
  | ok d s' => rfl
  | _ => rfl
theorem v_sUnpk {t : D → S → Option S} {d : D} {s : S} : sUnpk t d s = stR (t d s) := rfl
theorem v_tName {i : Nat} {d : D} {s : S} : tName i d s = some (setSl i (.v d) s) := rfl
theorem v_tTup {n : Nat} {t : List D → S → Option S} {ds : List D} {s : S} : tTupG n t (.tuple ds) s = if ds.length == n then t ds s else none := rfl
def tbind (o : Option S) (u : List D → S → Option S) (ds : List D) : Option S := o.bind (u ds)
theorem v_tCons {t : D → S → Option S} {u : List D → S → Option S} {d : D} {ds : List D} {s : S} : tConsG t u (d :: ds) s = tbind (t d s) u ds := rfl
theorem v_tNil {s : S} : tNilG [] s = some s := rfl
theorem v_tbind {s : S} {u : List D → S → Option S} {ds : List D} : tbind (some s) u ds = u ds s := rfl
def sAugb (i : Nat) (g : D → D → Option D) (dx : D) (dy : D) (s : S) : R Fl := thenR (optR (g dx dy) s) (fun d s => .ok .nx (setSl i (.v d) s))
def sAugk (i : Nat) (g : D → D → Option D) (f : DM D) (s : S) (o : Option Sl) : R Fl := match o with
  | some (.v dx) => thenR (f s) (sAugb i g dx)
  | _ => .bad
theorem v_sAug {i : Nat} {g : D → D → Option D} {f : DM D} {e : List Sl} {st : List Cell} : sAug i g f ⟨e, st⟩ = sAugk i g f ⟨e, st⟩ (sl? e i) := by
  unfold sAug sAugk sl?
  dsimp only
  cases e[i]? with
  | none => rfl
  | some x =>
    cases x with
    | v dx =>
      unfold bindM thenR
      cases f ⟨e, st⟩ with
      | ok dy s' => unfold sAugb; dsimp only; cases g dx dy <;> rfl
      | _ => rfl
    | _ => rfl
theorem v_sAugk {i : Nat} {g : D → D → Option D} {f : DM D} {s : S} {dx : D} : sAugk i g f s (some (.v dx)) = thenR (f s) (sAugb i g dx) := rfl
def sAugo (i : Nat) (o : Option D) (s : S) : R Fl := match o with
  | some d => .ok .nx (setSl i (.v d) s)
  | none => .bad
theorem v_sAugb {i : Nat} {g : D → D → Option D} {dx dy : D} {s : S} : sAugb i g dx dy s = sAugo i (g dx dy) s := by unfold sAugb sAugo; cases g dx dy <;> rfl
theorem v_sAugo {i : Nat} {d : D} {s : S} : sAugo i (some d) s = .ok .nx (setSl i (.v d) s) := rfl
theorem v_sAugi {i : Nat} {c : Prop} [Decidable c] {a b : Option D} {s : S} : sAugo i (if c then a else b) s = if c then sAugo i a s else sAugo i b s := by split <;> rfl
theorem v_sAugn {i : Nat} {s : S} : sAugo i none s = .bad := rfl
/-! loops -/
theorem v_kill0 {s : S} : killS [] s = s := rfl
theorem v_killS {i : Nat} {ks : List Nat} {e : List Sl} {st : List Cell} : killS (i :: ks) ⟨e, st⟩ = killS ks ⟨e.set i .un, st⟩ := rfl
def forB (t : D → S → Option S) (b : DM Fl) (ks : List Nat) (ds : List D) (r : R Fl) : R Fl := match r with
  | .ok .nx s' => forL t b ks ds (killS ks s')
  | .ok .ct s' => forL t b ks ds (killS ks s')
  | .ok .bk s' => .ok .nx (killS ks s')
  | r => r
def forT (t : D → S → Option S) (b : DM Fl) (ks : List Nat) (ds : List D) (o : Option S) : R Fl := match o with
  | some s1 => forB t b ks ds (b s1)
  | none => .bad
theorem v_for0 {t : D → S → Option S} {b : DM Fl} {ks : List Nat} {s : S} : forL t b ks [] s = .ok .nx s := rfl
theorem v_for1 {t : D → S → Option S} {b : DM Fl} {ks : List Nat} {d : D} {ds : List D} {s : S} : forL t b ks (d :: ds) s = forT t b ks ds (t d s) := by
  unfold forL forT
  cases t d s with
  | none => rfl
  | some s1 =>
    dsimp only
    unfold forB
    cases b s1 with
    | ok f s' => cases f <;> rfl
    | _ => rfl
theorem v_forT {t : D → S → Option S} {b : DM Fl} {ks : List Nat} {ds : List D} {s : S} : forT t b ks ds (some s) = forB t b ks ds (b s) := rfl
theorem v_forBn {t : D → S → Option S} {b : DM Fl} {ks : List Nat} {ds : List D} {s : S} : forB t b ks ds (.ok .nx s) = forL t b ks ds (killS ks s) := rfl
theorem v_forBc {t : D → S → Option S} {b : DM Fl} {ks : List Nat} {ds : List D} {s : S} : forB t b ks ds (.ok .ct s) = forL t b ks ds (killS ks s) := rfl
theorem v_forBb {t : D → S → Option S} {b : DM Fl} {ks : List Nat} {ds : List D} {s : S} : forB t b ks ds (.ok .bk s) = .ok .nx (killS ks s) := rfl
theorem v_forBr {t : D → S → Option S} {b : DM Fl} {ks : List Nat} {ds : List D} {s : S} {r : RV} : forB t b ks ds (.ok (.rt r) s) = .ok (.rt r) s := rfl
theorem v_forBe {t : D → S → Option S} {b : DM Fl} {ks : List Nat} {ds : List D} {s : S} {c : Str} : forB t b ks ds (.exc c s) = .exc c s := rfl
theorem v_forBi {t : D → S → Option S} {b : DM Fl} {ks : List Nat} {ds : List D} {c : Prop} [Decidable c] {x y : R Fl} : forB t b ks ds (if c then x else y) = if c then forB t b ks ds x else forB t b ks ds y := by split <;> rfl
def sFork (ks : List Nat) (t : D → S → Option S) (b : DM Fl) (ds : List D) (s : S) : R Fl := forL t b ks ds (killS ks s)
theorem v_sFor {ks : List Nat} {f : DM (List D)} {t : D → S → Option S} {b : DM Fl} {s : S} : sFor ks f t b s = thenR (f s) (sFork ks t b) := rfl
theorem v_sFork {ks : List Nat} {t : D → S → Option S} {b : DM Fl} {ds : List D} {s : S} : sFork ks t b ds s = forL t b ks ds (killS ks s) := rfl
def iRng1k (ds : List D) (s : S) : R (List D) := optR (iRange1 ds) s
theorem v_iRng1 {g : DM (List D)} {s : S} : iRng1 g s = thenR (g s) iRng1k := by
  unfold iRng1 bindM thenR
  cases g s <;> first | rfl | exact lift_opt
theorem v_iRng1k {j : Int} {s : S} : iRng1k [.int j] s = if rangeOk 0 j = true then .ok (rangeL 0 j.toNat) s else .bad := by
  unfold iRng1k iRange1; dsimp only; split <;> rfl
def iRng2k (ds : List D) (s : S) : R (List D) := optR (iRange2 ds) s
theorem v_iRng2 {g : DM (List D)} {s : S} : iRng2 g s = thenR (g s) iRng2k := by
  unfold iRng2 bindM thenR
  cases g s <;> first | rfl | exact lift_opt
theorem v_iRng2k {i j : Int} {s : S} : iRng2k [.int i, .int j] s = if rangeOk i j = true then .ok (rangeL i (j - i).toNat) s else .bad := by
  unfold iRng2k iRange2; dsimp only; split <;> rfl
def iSeqk (d : D) (s : S) : R (List D) := optR (asSeq d) s
theorem v_iSeq {f : DM D} {s : S} : iSeq f s = thenR (f s) iSeqk := by
  unfold iSeq bindM thenR
  cases f s <;> first | rfl | exact lift_opt
theorem v_iSeql {ds : List D} {s : S} : iSeqk (.list ds) s = .ok ds s := rfl
theorem v_iSeqt {ds : List D} {s : S} : iSeqk (.tuple ds) s = .ok ds s := rfl
def whileB (c : DM Bool) (b : DM Fl) (ks : List Nat) (n : Nat) (r : R Fl) : R Fl := match r with
  | .ok .nx s' => whileL c b ks n (killS ks s')
  | .ok .ct s' => whileL c b ks n (killS ks s')
  | .ok .bk s' => .ok .nx (killS ks s')
  | r => r
def whileC (c : DM Bool) (b : DM Fl) (ks : List Nat) (n : Nat) (t : Bool) (s : S) : R Fl := if t = true then whileB c b ks n (b s) else .ok .nx s
theorem w_step {c : DM Bool} {b : DM Fl} {ks : List Nat} {n : Nat} {s : S} : whileL c b ks (n + 1) s = thenR (c s) (whileC c b ks n) := by
  unfold whileL bindM thenR whileC
  cases c s with
  | ok t s' =>
    cases t with
    | false => rfl
    | true =>
      dsimp only
      simp only [if_true]
      unfold whileB
      cases b s' with
      | ok f s'' => cases f <;> rfl
      | _ => rfl
  | _ => rfl
theorem w_c {c : DM Bool} {b : DM Fl} {ks : List Nat} {n : Nat} {t : Bool} {s : S} : whileC c b ks n t s = if t = true then whileB c b ks n (b s) else .ok .nx s := rfl
theorem v_whBn {c : DM Bool} {b : DM Fl} {ks : List Nat} {n : Nat} {s : S} : whileB c b ks n (.ok .nx s) = whileL c b ks n (killS ks s) := rfl
theorem v_sWhile {ks : List Nat} {n : Nat} {c : DM Bool} {b : DM Fl} {s : S} : sWhile ks n c b s = whileL c b ks n (killS ks s) := rfl
/-! comprehensions -/
def compM (d : D) (l : R (List D)) : R (List D) := thenR l fun ys s => .ok (d :: ys) s
theorem v_compM {d : D} {ds : List D} {s : S} : compM d (.ok ds s) = .ok (d :: ds) s := rfl
def compE (t : D → S → Option S) (tst : DM Bool) (elt : DM D) (ks : List Nat) (ds : List D) (r : R D) : R (List D) := match r with
  | .ok y s => compM y (compL t tst elt ks ds (killS ks s))
  | _ => .bad
def compT (t : D → S → Option S) (tst : DM Bool) (elt : DM D) (ks : List Nat) (ds : List D) (r : R Bool) : R (List D) := match r with
  | .ok b s => if b = true then compE t tst elt ks ds (elt s) else compL t tst elt ks ds (killS ks s)
  | _ => .bad
def compO (t : D → S → Option S) (tst : DM Bool) (elt : DM D) (ks : List Nat) (ds : List D) (o : Option S) : R (List D) := match o with
  | some s => compT t tst elt ks ds (tst s)
  | none => .bad
theorem v_comp0 {t : D → S → Option S} {tst : DM Bool} {elt : DM D} {ks : List Nat} {s : S} : compL t tst elt ks [] s = .ok [] s := rfl
theorem v_comp1 {t : D → S → Option S} {tst : DM Bool} {elt : DM D} {ks : List Nat} {d : D} {ds : List D} {s : S} : compL t tst elt ks (d :: ds) s = compO t tst elt ks ds (t d s) := by
  unfold compL compO
  cases t d s with
  | none => rfl
  | some s1 =>
    dsimp only
    unfold compT
    cases tst s1 with
    | ok b s2 =>
      dsimp only
      cases b with
      | false => rfl
      | true =>
        simp only [if_true]
        unfold compE
        cases elt s2 with
        | ok y s3 =>
          dsimp only
          unfold bindM compM thenR
          cases compL t tst elt ks ds (killS ks s3) <;> rfl
        | _ => rfl
    | _ => rfl
theorem v_compO {t : D → S → Option S} {tst : DM Bool} {elt : DM D} {ks : List Nat} {ds : List D} {s : S} : compO t tst elt ks ds (some s) = compT t tst elt ks ds (tst s) := rfl
theorem v_compT {t : D → S → Option S} {tst : DM Bool} {elt : DM D} {ks : List Nat} {ds : List D} {b : Bool} {s : S} : compT t tst elt ks ds (.ok b s) = if b = true then compE t tst elt ks ds (elt s) else compL t tst elt ks ds (killS ks s) := rfl
theorem v_compE {t : D → S → Option S} {tst : DM Bool} {elt : DM D} {ks : List Nat} {ds : List D} {y : D} {s : S} : compE t tst elt ks ds (.ok y s) = compM y (compL t tst elt ks ds (killS ks s)) := rfl
def eLcb (ys : List D) (s : S) : R RV := .ok (.fl ys) s
theorem v_eLcb {ys : List D} {s : S} : eLcb ys s = .ok (.fl ys) s := rfl
def eLck (ks : List Nat) (t : D → S → Option S) (tst : DM Bool) (elt : DM D) (ds : List D) (s : S) : R RV := thenR (compL t tst elt ks ds (killS ks s)) eLcb
theorem v_eLc {ks : List Nat} {src : DM (List D)} {t : D → S → Option S} {tst : DM Bool} {elt : DM D} {s : S} : eLc ks src t tst elt s = thenR (src s) (eLck ks t tst elt) := rfl
theorem v_eLck {ks : List Nat} {t : D → S → Option S} {tst : DM Bool} {elt : DM D} {ds : List D} {s : S} : eLck ks t tst elt ds s = thenR (compL t tst elt ks ds (killS ks s)) eLcb := rfl
/-! lists -/
def appO (i : Nat) (d : D) (o : Option (List D)) (s : S) : R RV := match o with
  | some ds => if lenOk ds.length then .ok (.d .none) (putList i (ds ++ [d]) s) else .bad
  | none => .bad
def appK (i : Nat) (d : D) (s : S) : R RV := appO i d (listAt i s) s
def appA (i : Nat) (f : DM D) (o : Option (List D)) (s : S) : R RV := match o with
  | some _ => thenR (f s) (appK i)
  | none => .bad
theorem v_append {i : Nat} {f : DM D} {s : S} : fAppend i f s = appA i f (listAt i s) s := by
  unfold fAppend appA
  cases listAt i s with
  | none => rfl
  | some ds =>
    unfold bindM thenR appK appO
    cases f s with
    | ok d s' =>
      first
        | rfl
        | (dsimp only
           cases listAt i s' <;> rfl)
    | _ => rfl
theorem v_appA {i : Nat} {f : DM D} {ds : List D} {s : S} : appA i f (some ds) s = thenR (f s) (appK i) := rfl
theorem v_appK {i : Nat} {d : D} {s : S} : appK i d s = appO i d (listAt i s) s := rfl
theorem v_appO {i : Nat} {d : D} {ds : List D} {s : S} : appO i d (some ds) s = if lenOk ds.length = true then .ok (.d .none) (putList i (ds ++ [d]) s) else .bad := rfl
def listK (st : List Cell) (o : Option Sl) : Option (List D) := match o with
  | some (.ol ds) => some ds
  | some (.cell g) => match st[g]? with
    | some (.lst ds) => some ds
    | _ => none
  | _ => none
theorem v_listAt {i : Nat} {e : List Sl} {st : List Cell} : listAt i ⟨e, st⟩ = listK st (sl? e i) := rfl
theorem v_listKo {st : List Cell} {ds : List D} : listK st (some (.ol ds)) = some ds := rfl
theorem v_listKc {st : List Cell} {ds : List D} {g : Nat} (h : st[g]? = some (.lst ds)) : listK st (some (.cell g)) = some ds := by unfold listK; dsimp only; rw [h]
def putK (i : Nat) (ds : List D) (e : List Sl) (st : List Cell) (o : Option Sl) : S := match o with
  | some (.cell g) => ⟨e, st.set g (.lst ds)⟩
  | _ => ⟨e.set i (.ol ds), st⟩
theorem v_putList {i : Nat} {ds : List D} {e : List Sl} {st : List Cell} : putList i ds ⟨e, st⟩ = putK i ds e st (sl? e i) := rfl
theorem v_putKo {i : Nat} {ds xs : List D} {e : List Sl} {st : List Cell} : putK i ds e st (some (.ol xs)) = ⟨e.set i (.ol ds), st⟩ := rfl
theorem v_putKc {i : Nat} {ds : List D} {e : List Sl} {st : List Cell} {g : Nat} : putK i ds e st (some (.cell g)) = ⟨e, st.set g (.lst ds)⟩ := rfl
def sCellk (i : Nat) (r : RV) (s : S) : R Fl := match r with
  | .fl ds => .ok .nx ⟨s.env.set i (.cell s.st.length), s.st ++ [.lst ds]⟩
  | .fd kvs => .ok .nx ⟨s.env.set i (.cell s.st.length), s.st ++ [.dic kvs]⟩
  | _ => .bad
theorem v_sCell {i : Nat} {f : DM RV} {s : S} : sCell i f s = thenR (f s) (sCellk i) := rfl
theorem v_sCellk {i : Nat} {ds : List D} {e : List Sl} {st : List Cell} : sCellk i (.fl ds) ⟨e, st⟩ = .ok .nx ⟨e.set i (.cell st.length), st ++ [.lst ds]⟩ := rfl
/-! cells -/
def cl? (st : List Cell) (g : Nat) : Option Cell := st[g]?
theorem v_cl0 {c : Cell} {st : List Cell} : cl? (c :: st) 0 = some c := rfl
theorem v_clS {c : Cell} {st : List Cell} {i : Nat} : cl? (c :: st) (i + 1) = cl? st i := rfl
def ckD (o : Option Cell) : Option D := match o with
  | some (.lst ds) => some (.list ds)
  | some (.dic kvs) => some (.dict kvs)
  | _ => none
theorem v_ckDl {ds : List D} : ckD (some (.lst ds)) = some (.list ds) := rfl
theorem v_ckDk {ds : List (D × D)} : ckD (some (.dic ds)) = some (.dict ds) := rfl
theorem v_peekc {g : Nat} {e : List Sl} {st : List Cell} : peek 0 ⟨.cell g :: e, st⟩ = ckD (cl? st g) := by
  rw [v_peek]
  show (match st[g]? with | some (Cell.lst ds) => some (PyData.list ds) | some (Cell.dic kvs) => some (PyData.dict kvs) | _ => none) = _
  unfold ckD cl?
  rfl
def ckL (o : Option Cell) : Option (List D) := match o with
  | some (.lst ds) => some ds
  | _ => none
theorem v_ckL {ds : List D} : ckL (some (.lst ds)) = some ds := rfl
theorem v_listKg {st : List Cell} {g : Nat} : listK st (some (.cell g)) = ckL (cl? st g) := rfl
def stIx (i : Nat) (j : Option Nat) (ds : List D) (d : D) (s : S) : R Fl := match j with
  | some j => .ok .nx (putList i (ds.set j d) s)
  | none => .bad
theorem v_stIx {i j : Nat} {ds : List D} {d : D} {s : S} : stIx i (some j) ds d s = .ok .nx (putList i (ds.set j d) s) := rfl
def stIn (i : Nat) (ds : List D) (d di : D) (s : S) : R Fl := match di with
  | .int n => stIx i (ixN ds.length n) ds d s
  | _ => .bad
theorem v_stIn {i : Nat} {n : Int} {ds : List D} {d : D} {s : S} : stIn i ds d (.int n) s = stIx i (ixN ds.length n) ds d s := rfl
def stL (i : Nat) (o : Option (List D)) (d di : D) (s : S) : R Fl := match o with
  | some ds => stIn i ds d di s
  | none => .bad
theorem v_stL {i : Nat} {ds : List D} {d di : D} {s : S} : stL i (some ds) d di s = stIn i ds d di s := rfl
def stI (i : Nat) (d di : D) (s : S) : R Fl := stL i (listAt i s) d di s
theorem v_stI {i : Nat} {d di : D} {s : S} : stI i d di s = stL i (listAt i s) d di s := rfl
def stO (i : Nat) (fi : DM D) (d : D) (s : S) (o : Option (List D)) : R Fl := match o with
  | some _ => thenR (fi s) (stI i d)
  | none => .bad
theorem v_stO {i : Nat} {fi : DM D} {d : D} {s : S} {ds : List D} : stO i fi d s (some ds) = thenR (fi s) (stI i d) := rfl
def stK (i : Nat) (fi : DM D) (d : D) (s : S) : R Fl := stO i fi d s (listAt i s)
theorem v_stK {i : Nat} {fi : DM D} {d : D} {s : S} : stK i fi d s = stO i fi d s (listAt i s) := rfl
theorem v_setIx {i : Nat} {fi fe : DM D} {s : S} : sSetIx i fi fe s = thenR (fe s) (stK i fi) := by
  unfold sSetIx bindM thenR stK stO
  cases fe s with
  | ok d s' =>
    dsimp only
    cases listAt i s' with
    | none => rfl
    | some ds =>
      dsimp only
      unfold thenR stI stL
      cases fi s' with
      | ok di s'' =>
        dsimp only
        cases listAt i s'' with
        | none => rfl
        | some ds =>
          dsimp only
          unfold stIn stIx
          cases di <;> first | rfl | (dsimp only; split <;> rfl)
      | _ => rfl
  | _ => rfl
theorem v_ixN0 {n : Nat} : ixN (n + 1) 0 = some 0 := by unfold ixN; simp
theorem v_ixN1 {n : Nat} : ixN (n + 2) 1 = some 1 := by
  unfold ixN
  have h : (1 : Int) < ((n + 2 : Nat) : Int) := by omega
  simp [h]
  try omega
def agZ (i n : Nat) (ds : List D) (o : Option D) (s : S) : R Fl := match o with
  | some z => .ok .nx (putList i (ds.set n z) s)
  | none => .bad
theorem v_agZ {i n : Nat} {ds : List D} {z : D} {s : S} : agZ i n ds (some z) s = .ok .nx (putList i (ds.set n z) s) := rfl
def agD (i n : Nat) (g : D → D → Option D) (d2 : D) (ds : List D) (o : Option D) (s : S) : R Fl := match o with
  | some d => agZ i n ds (g d d2) s
  | none => .bad
theorem v_agD {i n : Nat} {g : D → D → Option D} {d2 d : D} {ds : List D} {s : S} : agD i n g d2 ds (some d) s = agZ i n ds (g d d2) s := rfl
def nth? (ds : List D) (n : Nat) : Option D := ds[n]?
theorem v_nth0 {d : D} {ds : List D} : nth? (d :: ds) 0 = some d := rfl
theorem v_nthS {d : D} {ds : List D} {n : Nat} : nth? (d :: ds) (n + 1) = nth? ds n := rfl
def agL (i n : Nat) (g : D → D → Option D) (d2 : D) (o : Option (List D)) (s : S) : R Fl := match o with
  | some ds => agD i n g d2 ds (nth? ds n) s
  | none => .bad
theorem v_agL {i n : Nat} {g : D → D → Option D} {d2 : D} {ds : List D} {s : S} : agL i n g d2 (some ds) s = agD i n g d2 ds (nth? ds n) s := rfl
theorem v_augIx {i n : Nat} {g : D → D → Option D} {d2 : D} {s : S} : sAugIx i n g d2 s = agL i n g d2 (listAt i s) s := by
  unfold sAugIx agL
  cases listAt i s with
  | none => rfl
  | some ds =>
    dsimp only
    unfold agD nth?
    cases ds[n]? with
    | none => rfl
    | some d =>
      dsimp only
      unfold agZ
      cases g d d2 <;> rfl
/-! the data operations -/
theorem v_gAdd {i j : Int} : gAdd (.int i) (.int j) = some (.int (i + j)) := rfl
theorem v_gSub {i j : Int} : gSub (.int i) (.int j) = some (.int (i - j)) := rfl
theorem v_gMul {i j : Int} : gMul (.int i) (.int j) = if mulOk i j = true then some (.int (i * j)) else none := rfl
theorem v_gDiv {i j : Int} : gDiv (.int i) (.int j) = if divOk i j = true then some (.int (i / j)) else none := rfl
theorem v_gMod {i j : Int} : gMod (.int i) (.int j) = if 0 < j then some (.int (i % j)) else none := by unfold gMod gI2; simp
theorem v_gPow {i j : Int} : gPow (.int i) (.int j) = if powOk i j = true then some (.int (i ^ j.toNat)) else none := rfl
theorem v_gLt {i j : Int} : gLt (.int i) (.int j) = some (.bool (decide (i < j))) := rfl
theorem v_gLe {i j : Int} : gLe (.int i) (.int j) = some (.bool (decide (i ≤ j))) := rfl
theorem v_gGt {i j : Int} : gGt (.int i) (.int j) = some (.bool (decide (j < i))) := rfl
theorem v_gGe {i j : Int} : gGe (.int i) (.int j) = some (.bool (decide (j ≤ i))) := rfl
theorem v_gNeg {i : Int} : gNeg (.int i) = some (.int (-i)) := rfl
theorem v_gAbs {i : Int} : gAbs (.int i) = some (.int (i.natAbs : Int)) := by
  show some (PyData.int (if i < 0 then -i else i)) = _
  congr 2
  split <;> omega
theorem v_gMax {i j : Int} : gMax (.int i) (.int j) = some (.int (if j > i then j else i)) := rfl
theorem v_gMin {i j : Int} : gMin (.int i) (.int j) = some (.int (if j < i then j else i)) := rfl
theorem v_gLenl {ds : List D} : gLen (.list ds) = some (.int ds.length) := rfl
theorem v_gLent {ds : List D} : gLen (.tuple ds) = some (.int ds.length) := rfl
theorem v_gIxl {ds : List D} {i : Int} : gIx (.list ds) (.int i) = atI ds i := rfl
theorem v_gIxt {ds : List D} {i : Int} : gIx (.tuple ds) (.int i) = atI ds i := rfl
theorem v_gEq {x y : D} : gEq x y = if SeqAt.shaped x && SeqAt.shaped y then some (.bool (PyData.eqv x y)) else none := rfl
theorem v_gEqi {i j : Int} : gEq (.int i) (.int j) = some (.bool (decide (i = j))) := by
  show (if _ then some (PyData.bool (PyData.eqv (.int i) (.int j))) else none) = _
  have h1 : SeqAt.shaped (.int i) = true := rfl
  have h2 : SeqAt.shaped (.int j) = true := rfl
  rw [h1, h2]
  show some (PyData.bool (PyData.eqv (.int i) (.int j))) = _
  simp only [PyData.eqv, Bool.beq_eq_decide_eq]
theorem v_gNei {i j : Int} : gNe (.int i) (.int j) = some (.bool (!decide (i = j))) := by
  show (if _ then some (PyData.bool (!PyData.eqv (.int i) (.int j))) else none) = _
  have h1 : SeqAt.shaped (.int i) = true := rfl
  have h2 : SeqAt.shaped (.int j) = true := rfl
  rw [h1, h2]
  show some (PyData.bool (!PyData.eqv (.int i) (.int j))) = _
  simp only [PyData.eqv, Bool.beq_eq_decide_eq]
theorem strShaped {x : Str} (h : PyData.strOk x = true) : SeqAt.shaped (.str x) = true := by
  show (PyData.canLay0 (.str x) && decide (PyData.depth (.str x) ≤ 64)) = true
  simp only [PyData.canLay0, PyData.depth, h]; rfl
theorem v_gEqs {x y : Str} (hx : PyData.strOk x = true) (hy : PyData.strOk y = true) : gEq (.str x) (.str y) = some (.bool (decide (x = y))) := by
  rw [v_gEq, strShaped hx, strShaped hy]
  show some (PyData.bool (PyData.eqv (.str x) (.str y))) = _
  simp only [PyData.eqv, Bool.beq_eq_decide_eq]
theorem v_isN0 : isN .none = true := rfl
theorem v_isN1 {i : Int} : isN (.int i) = false := rfl
theorem v_isN2 {i : List D} : isN (.tuple i) = false := rfl
theorem v_isN3 {i : List D} : isN (.list i) = false := rfl
theorem v_isN4 {i : Str} : isN (.str i) = false := rfl
theorem v_isN5 {i : Bool} : isN (.bool i) = false := rfl
theorem v_gIsN {x : D} : gIsN x .none = some (.bool (isN x)) := rfl
theorem v_gNotN {x : D} : gNotN x .none = some (.bool (!isN x)) := rfl
theorem v_gIsB {x y : Bool} : gIsB (.bool x) (.bool y) = some (.bool (x == y)) := rfl
theorem v_gNotB {x y : Bool} : gNotB (.bool x) (.bool y) = some (.bool (!(x == y))) := rfl
theorem v_atI0 {α : Type} {x : α} {xs : List α} : atI (x :: xs) 0 = some x := by
  exact atI_nat (j := 0) rfl
theorem v_atI1 {α : Type} {x y : α} {xs : List α} : atI (x :: y :: xs) 1 = some y := by
  exact atI_nat (j := 1) rfl
theorem v_atIm {α : Type} {x : α} : atI [x] (-1) = some x := atI_last [] x
theorem v_isi {T : String} {d : D} : gIsi T d = (isiD T d).map .bool := rfl
theorem v_isii {T : String} {i : Int} : gIsi T (.int i) = some (.bool (T == "int")) := rfl
theorem v_isib {T : String} {i : Bool} : gIsi T (.bool i) = some (.bool (T == "bool" || T == "int")) := rfl
theorem v_isis {T : String} {i : Str} : gIsi T (.str i) = some (.bool (T == "str")) := rfl
theorem v_isit {T : String} {i : List D} : gIsi T (.tuple i) = some (.bool (T == "tuple")) := rfl
theorem v_isil {T : String} {i : List D} : gIsi T (.list i) = some (.bool (T == "list")) := rfl
theorem v_isin {T : String} : gIsi T .none = some (.bool false) := rfl
/-! a def's answer -/
def outP (r : R Fl) : PR := match r with
  | .ok (.rt (.cell _)) _ => .bad
  | .ok (.rt r) _ => .ok r
  | .ok .nx _ => .ok (.d .none)
  | .exc c _ => .exc c
  | _ => .bad
theorem v_runF {fb : DM Fl} {n : Nat} {ds : List D} : runF fb n ds = outP (fb (envOf n ds)) := by
  unfold runF outP
  cases fb (envOf n ds) with
  | ok f s =>
    cases f with
    | rt r => cases r <;> rfl
    | _ => rfl
  | _ => rfl
theorem v_outd {d : D} {s : S} : outP (.ok (.rt (.d d)) s) = .ok (.d d) := rfl
theorem v_outl {d : List D} {s : S} : outP (.ok (.rt (.fl d)) s) = .ok (.fl d) := rfl
theorem v_outk {d : List (D × D)} {s : S} : outP (.ok (.rt (.fd d)) s) = .ok (.fd d) := rfl
theorem v_outn {s : S} : outP (.ok .nx s) = .ok (.d .none) := rfl
theorem v_oute {c : Str} {s : S} : outP (.exc c s) = .exc c := rfl
theorem v_outi {c : Prop} [Decidable c] {a b : R Fl} : outP (if c then a else b) = if c then outP a else outP b := by split <;> rfl
def outM (r : R Fl) : FR := match r with
  | .ok (.rt r) s => .ok r s.st
  | .ok .nx s => .ok (.d .none) s.st
  | .exc c s => .exc c s.st
  | _ => .bad
theorem v_runM {fb : DM Fl} {n : Nat} {args : List Sl} {st : List Cell} : runM fb n args st = outM (fb (envM n args st)) := by
  unfold runM outM
  cases fb (envM n args st) with
  | ok f s => cases f <;> rfl
  | _ => rfl
theorem v_moutr {r : RV} {e : List Sl} {st : List Cell} : outM (.ok (.rt r) ⟨e, st⟩) = .ok r st := rfl
theorem v_moutn {e : List Sl} {st : List Cell} : outM (.ok .nx ⟨e, st⟩) = .ok (.d .none) st := rfl
theorem v_moute {c : Str} {e : List Sl} {st : List Cell} : outM (.exc c ⟨e, st⟩) = .exc c st := rfl
theorem v_mouti {c : Prop} [Decidable c] {a b : R Fl} : outM (if c then a else b) = if c then outM a else outM b := by split <;> rfl
theorem v_envOf {n : Nat} {ds : List D} : envOf n ds = ⟨ds.map Sl.v ++ List.replicate (n - ds.length) .un, []⟩ := rfl
theorem v_envM {n : Nat} {args : List Sl} {st : List Cell} : envM n args st = ⟨args ++ List.replicate (n - args.length) .un, st⟩ := rfl
theorem ite_of {α : Type} {c : Prop} [Decidable c] (h : c) {a b : α} : (if c then a else b) = a := if_pos h
/-! the guards -/
theorem mulOkR {i : Int} {n : Nat} (h : n < 18446744073709551616) : mulOk i (no_index (@OfNat.ofNat Int n instOfNat)) = true := by
  unfold mulOk
  have h1 : -(2 ^ 64) < ((n : Nat) : Int) := by omega
  have h2 : ((n : Nat) : Int) < 2 ^ 64 := by omega
  show (_ || (decide (-(2 ^ 64) < ((n : Nat) : Int)) && decide (((n : Nat) : Int) < 2 ^ 64))) = true
  simp
  omega
theorem mulOkL {j : Int} {n : Nat} (h : n < 18446744073709551616) : mulOk (no_index (@OfNat.ofNat Int n instOfNat)) j = true := by
  unfold mulOk
  have h1 : -(2 ^ 64) < ((n : Nat) : Int) := by omega
  have h2 : ((n : Nat) : Int) < 2 ^ 64 := by omega
  show ((decide (-(2 ^ 64) < ((n : Nat) : Int)) && decide (((n : Nat) : Int) < 2 ^ 64)) || _) = true
  simp
  omega
theorem mulOk_r {i j : Int} (h1 : -18446744073709551616 < j) (h2 : j < 18446744073709551616) : mulOk i j = true := by
  unfold mulOk
  have h1 : -(2 ^ 64) < j := by omega
  have h2 : j < 2 ^ 64 := by omega
  simp
  omega
theorem mulOk_l {i j : Int} (h1 : -18446744073709551616 < i) (h2 : i < 18446744073709551616) : mulOk i j = true := by
  unfold mulOk
  have h1 : -(2 ^ 64) < i := by omega
  have h2 : i < 2 ^ 64 := by omega
  simp
  omega
theorem divOkR {i : Int} {n : Nat} (h0 : 0 < n) (h : n < 1073741824) : divOk i (no_index (@OfNat.ofNat Int n instOfNat)) = true := by
  unfold divOk
  have h1 : 0 < ((n : Nat) : Int) := by omega
  have h2 : ((n : Nat) : Int) < 1073741824 := by omega
  show (decide (0 < ((n : Nat) : Int)) && decide (((n : Nat) : Int) < 1073741824)) = true
  simp
  omega
theorem divOk_r {i j : Int} (h0 : 0 < j) (h : j < 1073741824) : divOk i j = true := by unfold divOk; simp [h0, h]
theorem powOkL {m n : Nat} (h0 : m < 18446744073709551616) (h : n ≤ 1000000) : powOk (no_index (@OfNat.ofNat Int m instOfNat)) (no_index (@OfNat.ofNat Int n instOfNat)) = true := by
  unfold powOk
  have h1 : 0 ≤ ((n : Nat) : Int) := by omega
  have h2 : ((n : Nat) : Int) ≤ 1000000 := by omega
  have h3 : ((m : Nat) : Int).natAbs < 2 ^ 64 := by omega
  show (decide (0 ≤ ((n : Nat) : Int)) && decide (((n : Nat) : Int) ≤ 1000000) && decide (((m : Nat) : Int).natAbs < 2 ^ 64)) = true
  simp
  omega
theorem powOk_r {m : Nat} {j : Int} (h0 : m < 18446744073709551616) (h1 : 0 ≤ j) (h2 : j ≤ 1000000) : powOk (no_index (@OfNat.ofNat Int m instOfNat)) j = true := by
  unfold powOk
  have h3 : ((m : Nat) : Int).natAbs < 2 ^ 64 := by omega
  show (decide (0 ≤ j) && decide (j ≤ 1000000) && decide (((m : Nat) : Int).natAbs < 2 ^ 64)) = true
  simp
  omega
theorem rangeOkL {n m : Nat} (h0 : n ≤ 1000000) (h : m ≤ 1000000) : rangeOk (no_index (@OfNat.ofNat Int n instOfNat)) (no_index (@OfNat.ofNat Int m instOfNat)) = true := by
  unfold rangeOk
  have h1 : -1000000 ≤ ((n : Nat) : Int) := by omega
  have h2 : ((n : Nat) : Int) ≤ 1000000 := by omega
  have h3 : -1000000 ≤ ((m : Nat) : Int) := by omega
  have h4 : ((m : Nat) : Int) ≤ 1000000 := by omega
  show (decide (-1000000 ≤ ((n : Nat) : Int)) && decide (((n : Nat) : Int) ≤ 1000000) && decide (-1000000 ≤ ((m : Nat) : Int)) && decide (((m : Nat) : Int) ≤ 1000000)) = true
  simp
  omega
theorem rangeOk_r {i j : Int} (h1 : -1000000 ≤ i) (h2 : i ≤ 1000000) (h3 : -1000000 ≤ j) (h4 : j ≤ 1000000) : rangeOk i j = true := by
  unfold rangeOk; simp [h1, h2, h3, h4]
/-! loops by a row of states -/
theorem for_row {t : D → S → Option S} {b : DM Fl} {ks : List Nat} (st : Nat → S) : ∀ (n : Nat) (ds : List D) (k : Nat), ds.length = n → (∀ i d, ds[i]? = some d → ∃ s1 f s2, t d (st (k + i)) = some s1 ∧ b s1 = .ok f s2 ∧ (f = .nx ∨ f = .ct) ∧ killS ks s2 = st (k + i + 1)) → forL t b ks ds (st k) = .ok .nx (st (k + n))
  | 0, [], k, _, _ => rfl
  | n + 1, d :: ds, k, hl, h => by
    obtain ⟨s1, f, s2, h1, h2, h3, h4⟩ := h 0 d rfl
    rw [v_for1]
    rw [Nat.add_zero] at h1 h4
    rw [h1, v_forT, h2]
    have ih := for_row st n ds (k + 1) (by simpa using hl) (fun i d hd => by
      have := h (i + 1) d (by simpa using hd)
      rw [show k + (i + 1) = k + 1 + i by omega] at this
      exact this)
    rw [show k + 1 + n = k + (n + 1) by omega] at ih
    rcases h3 with rfl | rfl
    · rw [v_forBn, h4]; exact ih
    · rw [v_forBc, h4]; exact ih
theorem rangeL_get {lo : Int} {n i : Nat} {d : D} (h : (rangeL lo n)[i]? = some d) : d = .int (lo + (i : Int)) ∧ i < n := by
  unfold rangeL at h
  rw [List.getElem?_map] at h
  by_cases hi : i < n
  · rw [List.getElem?_range hi] at h
    simp at h
    exact ⟨h.symm, hi⟩
  · have : (List.range n)[i]? = none := by simp; omega
    rw [this] at h
    cases h
theorem range_row {t : D → S → Option S} {b : DM Fl} {ks : List Nat} {lo : Int} (st : Nat → S) (n : Nat) (h : ∀ i, i < n → ∃ s1 f s2, t (.int (lo + (i : Int))) (st i) = some s1 ∧ b s1 = .ok f s2 ∧ (f = .nx ∨ f = .ct) ∧ killS ks s2 = st (i + 1)) : forL t b ks (rangeL lo n) (st 0) = .ok .nx (st n) := by
  have := for_row (t := t) (b := b) (ks := ks) st n (rangeL lo n) 0 (rangeL_length lo n) (fun i d hd => by
    obtain ⟨e, hi⟩ := rangeL_get hd
    subst e
    obtain ⟨s1, f, s2, h1, h2, h3, h4⟩ := h i hi
    exact ⟨s1, f, s2, by rw [Nat.zero_add]; exact h1, h2, h3, by rw [Nat.zero_add]; exact h4⟩)
  rwa [Nat.zero_add] at this
theorem for_inv {t : D → S → Option S} {b : DM Fl} {ks : List Nat} (P : Nat → S → Prop) : ∀ (ds : List D) (k : Nat) (s : S), P k s → (∀ i d s, ds[i]? = some d → P (k + i) s → ∃ s1 f s2, t d s = some s1 ∧ b s1 = .ok f s2 ∧ (f = .nx ∨ f = .ct) ∧ P (k + i + 1) (killS ks s2)) → ∃ s', forL t b ks ds s = .ok .nx s' ∧ P (k + ds.length) s'
  | [], k, s, p, _ => ⟨s, rfl, p⟩
  | d :: ds, k, s, p, h => by
    obtain ⟨s1, f, s2, h1, h2, h3, h4⟩ := h 0 d s rfl p
    rw [v_for1, h1, v_forT, h2]
    rw [Nat.add_zero] at h4
    obtain ⟨s', e, p'⟩ := for_inv P ds (k + 1) (killS ks s2) h4 (fun i d s hd hp => by
      have := h (i + 1) d s (by simpa using hd)
      rw [show k + (i + 1) = k + 1 + i by omega] at this
      exact this hp)
    rw [show k + 1 + ds.length = k + (d :: ds).length by simp; omega] at p'
    rcases h3 with rfl | rfl
    · rw [v_forBn]; exact ⟨s', e, p'⟩
    · rw [v_forBc]; exact ⟨s', e, p'⟩
theorem range_inv {t : D → S → Option S} {b : DM Fl} {ks : List Nat} {lo : Int} (P : Nat → S → Prop) (n : Nat) {s : S} (p : P 0 s) (h : ∀ i s, i < n → P i s → ∃ s1 f s2, t (.int (lo + (i : Int))) s = some s1 ∧ b s1 = .ok f s2 ∧ (f = .nx ∨ f = .ct) ∧ P (i + 1) (killS ks s2)) : ∃ s', forL t b ks (rangeL lo n) s = .ok .nx s' ∧ P n s' := by
  obtain ⟨s', e, q⟩ := for_inv (t := t) (b := b) (ks := ks) P (rangeL lo n) 0 s p (fun i d s hd hp => by
    obtain ⟨e, hi⟩ := rangeL_get hd
    subst e
    rw [Nat.zero_add] at hp ⊢
    exact h i s hi hp)
  rw [rangeL_length, Nat.zero_add] at q
  exact ⟨s', e, q⟩
end
end DL

/-! DLV: equality of data, texts, membership: what simp needs. -/
namespace DL
open PySem PySem.Spec PyProof.Rows L2
def lit (s : String) : Str := Str.ofString s
theorem ofString_inj {a b : String} : (Str.ofString a = Str.ofString b) = (a = b) := by
  rw [Str.ofString_eq_toList, Str.ofString_eq_toList]
  apply propext
  constructor
  · intro h
    have h1 := congrArg (fun x : Str => x.cps.toList) h
    dsimp only at h1
    have h2 : a.toList = b.toList := by
      have inj : ∀ x y : List Char, x.map Char.toNat = y.map Char.toNat → x = y := by
        intro x
        induction x with
        | nil => intro y h; cases y with
          | nil => rfl
          | cons c t => cases h
        | cons c t ih => intro y h; cases y with
          | nil => cases h
          | cons c' t' =>
            rw [List.map_cons, List.map_cons] at h
            injection h with h1 h2
            rw [ih t' h2, Char.ext (UInt32.toNat_inj.mp h1)]
      exact inj _ _ h1
    exact String.ext h2
  · intro h; rw [h]
theorem strOk_lit (a : String) : PyData.strOk (Str.ofString a) = true := by
  unfold PyData.strOk
  rw [Str.ofString_eq_toList]
  simp only [List.all_toArray, List.all_eq_true, List.mem_map]
  rintro x ⟨c, _, rfl⟩
  have := c.valid
  apply decide_eq_true
  show c.val.toNat < 1114112
  rcases this with h | h
  · exact Nat.lt_trans h (by decide)
  · exact h.2
/-- data that can be held beside other data, to a depth -/
def sh (k : Nat) (d : D) : Prop := PyData.canLay0 d = true ∧ PyData.depth d ≤ k
theorem shaped_sh {d : D} (h : sh 64 d) : SeqAt.shaped d = true := by
  unfold SeqAt.shaped; rw [h.1, decide_eq_true h.2]; rfl
theorem sh_int {k : Nat} {i : Int} : sh k (.int i) := ⟨by simp only [PyData.canLay0], by simp only [PyData.depth]; omega⟩
theorem sh_none {k : Nat} : sh k .none := ⟨by simp only [PyData.canLay0], by simp only [PyData.depth]; omega⟩
theorem sh_bool {k : Nat} {i : Bool} : sh k (.bool i) := ⟨by simp only [PyData.canLay0], by simp only [PyData.depth]; omega⟩
theorem sh_str {k : Nat} {x : Str} (h : PyData.strOk x = true) : sh k (.str x) := ⟨by simp only [PyData.canLay0]; exact h, by simp only [PyData.depth]; omega⟩
theorem sh_lit {k : Nat} {x : String} : sh k (.str (Str.ofString x)) := sh_str (strOk_lit x)
theorem canAll {ds : List D} (h : ∀ d, d ∈ ds → PyData.canLay0 d = true) : PyData.canLayAll0 ds = true := by
  induction ds with
  | nil => simp only [PyData.canLayAll0]
  | cons d ds ih => simp only [PyData.canLayAll0, h d List.mem_cons_self, ih (fun x hx => h x (List.mem_cons_of_mem _ hx)), Bool.and_self]
theorem depAll {ds : List D} {k : Nat} (h : ∀ d, d ∈ ds → PyData.depth d ≤ k) : PyData.depthAll ds ≤ k := by
  induction ds with
  | nil => simp only [PyData.depthAll]; omega
  | cons d ds ih =>
    simp only [PyData.depthAll]
    have h1 := h d List.mem_cons_self
    have h2 := ih (fun x hx => h x (List.mem_cons_of_mem _ hx))
    omega
theorem sh_list {k : Nat} {ds : List D} (h : ∀ d, d ∈ ds → sh k d) : sh (k + 1) (.list ds) :=
  ⟨by simp only [PyData.canLay0]; exact canAll fun d hd => (h d hd).1, by simp only [PyData.depth]; exact Nat.add_le_add_right (depAll fun d hd => (h d hd).2) 1⟩
theorem sh_tuple {k : Nat} {ds : List D} (h : ∀ d, d ∈ ds → sh k d) : sh (k + 1) (.tuple ds) :=
  ⟨by simp only [PyData.canLay0]; exact canAll fun d hd => (h d hd).1, by simp only [PyData.depth]; exact Nat.add_le_add_right (depAll fun d hd => (h d hd).2) 1⟩
theorem sh_nil {k : Nat} : ∀ d : D, d ∈ ([] : List D) → sh k d := fun d h => by cases h
theorem sh_cons {k : Nat} {x : D} {ds : List D} (hx : sh k x) (h : ∀ d, d ∈ ds → sh k d) : ∀ d, d ∈ x :: ds → sh k d := fun d hd => by
  rcases List.mem_cons.mp hd with rfl | hd
  · exact hx
  · exact h d hd
theorem sh_map {k : Nat} {α : Type} {f : α → D} {xs : List α} (h : ∀ x, sh k (f x)) : ∀ d, d ∈ xs.map f → sh k d := fun d hd => by
  obtain ⟨x, _, rfl⟩ := List.mem_map.mp hd
  exact h x
theorem sh_mono {k m : Nat} {d : D} (h : sh k d) (hkm : k ≤ m) : sh m d := ⟨h.1, Nat.le_trans h.2 hkm⟩
theorem gEq_of {x y : D} (hx : sh 64 x) (hy : sh 64 y) : gEq x y = some (.bool (PyData.eqv x y)) := by
  rw [v_gEq, shaped_sh hx, shaped_sh hy]; rfl
theorem gNe_of {x y : D} (hx : sh 64 x) (hy : sh 64 y) : gNe x y = some (.bool (!PyData.eqv x y)) := by
  show (if _ then some (PyData.bool (!PyData.eqv x y)) else none) = _
  rw [shaped_sh hx, shaped_sh hy]; rfl
theorem v_eqvii {i j : Int} : PyData.eqv (.int i) (.int j) = decide (i = j) := by simp only [PyData.eqv, Bool.beq_eq_decide_eq]
theorem v_eqvbb {i j : Bool} : PyData.eqv (.bool i) (.bool j) = decide (i = j) := by simp only [PyData.eqv, Bool.beq_eq_decide_eq]
theorem v_eqvss {i j : Str} : PyData.eqv (.str i) (.str j) = decide (i = j) := by simp only [PyData.eqv, Bool.beq_eq_decide_eq]
theorem v_eqvnn : PyData.eqv .none .none = true := by simp only [PyData.eqv]
theorem v_eqvni {i : Int} : PyData.eqv .none (.int i) = false := by simp only [PyData.eqv]
theorem v_eqvin {i : Int} : PyData.eqv (.int i) .none = false := by simp only [PyData.eqv]
theorem v_eqvns {i : Str} : PyData.eqv .none (.str i) = false := by simp only [PyData.eqv]
theorem v_eqvsn {i : Str} : PyData.eqv (.str i) .none = false := by simp only [PyData.eqv]
theorem v_eqvnt {i : List D} : PyData.eqv .none (.tuple i) = false := by simp only [PyData.eqv]
theorem v_eqvtn {i : List D} : PyData.eqv (.tuple i) .none = false := by simp only [PyData.eqv]
theorem v_eqvnl {i : List D} : PyData.eqv .none (.list i) = false := by simp only [PyData.eqv]
theorem v_eqvln {i : List D} : PyData.eqv (.list i) .none = false := by simp only [PyData.eqv]
theorem v_eqvis {i : Int} {j : Str} : PyData.eqv (.int i) (.str j) = false := by simp only [PyData.eqv]
theorem v_eqvsi {i : Int} {j : Str} : PyData.eqv (.str j) (.int i) = false := by simp only [PyData.eqv]
theorem v_eqvtt {xs ys : List D} : PyData.eqv (.tuple xs) (.tuple ys) = PyData.eqvAll xs ys := by simp only [PyData.eqv]
theorem v_eqvll {xs ys : List D} : PyData.eqv (.list xs) (.list ys) = PyData.eqvAll xs ys := by simp only [PyData.eqv]
theorem v_eqvA0 : PyData.eqvAll [] [] = true := by simp only [PyData.eqvAll]
theorem v_eqvA1 {x y : D} {xs ys : List D} : PyData.eqvAll (x :: xs) (y :: ys) = (PyData.eqv x y && PyData.eqvAll xs ys) := by simp only [PyData.eqvAll]
theorem v_eqvA2 {x : D} {xs : List D} : PyData.eqvAll (x :: xs) [] = false := by simp only [PyData.eqvAll]
theorem v_eqvA3 {x : D} {xs : List D} : PyData.eqvAll [] (x :: xs) = false := by simp only [PyData.eqvAll]
theorem v_gEqnone {x : Int} : gEq (.int x) .none = some (.bool false) := by rw [gEq_of sh_int sh_none, v_eqvin]
theorem v_gEqsl {x y : String} : gEq (.str (Str.ofString x)) (.str (Str.ofString y)) = some (.bool (decide (x = y))) := by
  rw [gEq_of sh_lit sh_lit, v_eqvss]; simp only [ofString_inj]
theorem v_gNesl {x y : String} : gNe (.str (Str.ofString x)) (.str (Str.ofString y)) = some (.bool (!decide (x = y))) := by
  rw [gNe_of sh_lit sh_lit, v_eqvss]; simp only [ofString_inj]
theorem v_gEqt2 {a b c d : Int} : gEq (.tuple [.int a, .int b]) (.tuple [.int c, .int d]) = some (.bool (decide (a = c) && decide (b = d))) := by
  rw [gEq_of (sh_tuple (k := 63) (sh_cons sh_int (sh_cons sh_int sh_nil))) (sh_tuple (k := 63) (sh_cons sh_int (sh_cons sh_int sh_nil)))]
  simp only [v_eqvtt, v_eqvA1, v_eqvA0, v_eqvii, Bool.and_true]
theorem v_gNet2 {a b c d : Int} : gNe (.tuple [.int a, .int b]) (.tuple [.int c, .int d]) = some (.bool (!(decide (a = c) && decide (b = d)))) := by
  rw [gNe_of (sh_tuple (k := 63) (sh_cons sh_int (sh_cons sh_int sh_nil))) (sh_tuple (k := 63) (sh_cons sh_int (sh_cons sh_int sh_nil)))]
  simp only [v_eqvtt, v_eqvA1, v_eqvA0, v_eqvii, Bool.and_true]
theorem eqvAll_ints {xs ys : List Int} : PyData.eqvAll (xs.map .int) (ys.map .int) = decide (xs = ys) := by
  induction xs generalizing ys with
  | nil => cases ys with
    | nil => simp only [List.map_nil, v_eqvA0, decide_true]
    | cons y ys => simp only [List.map_nil, List.map_cons, v_eqvA3]; simp
  | cons x xs ih => cases ys with
    | nil => simp only [List.map_nil, List.map_cons, v_eqvA2]; simp
    | cons y ys => simp only [List.map_cons, v_eqvA1, v_eqvii, ih]; rw [Bool.eq_iff_iff]; simp
theorem sh_ints {k : Nat} {xs : List Int} : sh (k + 1) (.list (xs.map .int)) := sh_list (sh_map fun _ => sh_int)
/-- an int or none -/
def oD (o : Option Int) : D := match o with
  | some i => .int i
  | none => .none
theorem sh_oD {k : Nat} {o : Option Int} : sh k (oD o) := by cases o <;> first | exact sh_int | exact sh_none
theorem eqv_oD {x y : Option Int} : PyData.eqv (oD x) (oD y) = decide (x = y) := by
  cases x <;> cases y <;> simp [oD, v_eqvnn, v_eqvni, v_eqvin, v_eqvii]
theorem v_gEqo {x y : Option Int} : gEq (oD x) (oD y) = some (.bool (decide (x = y))) := by rw [gEq_of sh_oD sh_oD, eqv_oD]
theorem v_gNeo {x y : Option Int} : gNe (oD x) (oD y) = some (.bool (!decide (x = y))) := by rw [gNe_of sh_oD sh_oD, eqv_oD]
theorem v_gEqoi {x : Option Int} {i : Int} : gEq (oD x) (.int i) = some (.bool (decide (x = some i))) := v_gEqo (y := some i)
theorem v_gNeoi {x : Option Int} {i : Int} : gNe (oD x) (.int i) = some (.bool (!decide (x = some i))) := v_gNeo (y := some i)
theorem v_isNo {x : Option Int} : isN (oD x) = x.isNone := by cases x <;> rfl
theorem v_oDs {i : Int} : oD (some i) = .int i := rfl
theorem v_oDn : oD none = .none := rfl
theorem v_oDi {c : Prop} [Decidable c] {a b : Option Int} : oD (if c then a else b) = if c then oD a else oD b := by split <;> rfl
/-! in -/
theorem v_flI {i : Int} : flatD (.int i) = true := rfl
theorem v_flS {i : Str} : flatD (.str i) = true := rfl
theorem v_flN : flatD .none = true := rfl
theorem v_flO {x : Option Int} : flatD (oD x) = true := by cases x <;> rfl
theorem v_eqvon {x : Option Int} : PyData.eqv (oD x) .none = x.isNone := by cases x <;> simp [oD, v_eqvnn, v_eqvin]
theorem v_gInT {x : D} {ds : List D} : gInT x (.tuple ds) = if (flatD x && ds.all flatD) = true then some (.bool (ds.any fun z => PyData.eqv z x)) else none := rfl
theorem v_gNotInT {x : D} {ds : List D} : gNotInT x (.tuple ds) = if (flatD x && ds.all flatD) = true then some (.bool (!ds.any fun z => PyData.eqv z x)) else none := rfl
theorem eq_nil_ints {xs : List Int} : gEq (.list (xs.map .int)) (.list []) = some (.bool (decide (xs = []))) := by
  have := eqvAll_ints (xs := xs) (ys := [])
  rw [List.map_nil] at this
  rw [gEq_of (sh_ints (k := 63)) (sh_list (k := 63) sh_nil), v_eqvll, this]
end DL

/-! DLW: loops, by a condition that each round keeps. -/
namespace DL
open PySem PySem.Spec PyProof.Rows L2
def okT (o : Option S) (Q : S → Prop) : Prop := match o with
  | some s => Q s
  | none => False
theorem v_okTs {s : S} {Q : S → Prop} : okT (some s) Q = Q s := rfl
/-- a statement goes on, or answers -/
def okF (r : R Fl) (Q : S → Prop) (A : RV → S → Prop) : Prop := match r with
  | .ok .nx s => Q s
  | .ok .ct s => Q s
  | .ok (.rt r) s => A r s
  | _ => False
theorem v_okFn {s : S} {Q : S → Prop} {A : RV → S → Prop} : okF (.ok .nx s) Q A = Q s := rfl
theorem v_okFc {s : S} {Q : S → Prop} {A : RV → S → Prop} : okF (.ok .ct s) Q A = Q s := rfl
theorem v_okFr {s : S} {r : RV} {Q : S → Prop} {A : RV → S → Prop} : okF (.ok (.rt r) s) Q A = A r s := rfl
theorem v_okFi {c : Prop} [Decidable c] {x y : R Fl} {Q : S → Prop} {A : RV → S → Prop} : okF (if c then x else y) Q A = if c then okF x Q A else okF y Q A := by split <;> rfl
def noA : RV → S → Prop := fun _ _ => False
theorem v_noA {r : RV} {s : S} : noA r s = False := rfl
/-- the state after the loop, or the answer -/
def outX (X : R Fl) (Q : S → Prop) (A : RV → S → Prop) : Prop := (∃ s, X = .ok .nx s ∧ Q s) ∨ ∃ r s, X = .ok (.rt r) s ∧ A r s
theorem for_gen {t : D → S → Option S} {b : DM Fl} {ks : List Nat} (P : Nat → S → Prop) (A : RV → S → Prop) : ∀ (ds : List D) (k : Nat) (s : S), P k s → (∀ i d s, ds[i]? = some d → P (k + i) s → okT (t d s) fun s1 => okF (b s1) (fun s2 => P (k + i + 1) (killS ks s2)) A) → outX (forL t b ks ds s) (P (k + ds.length)) A
  | [], k, s, p, _ => .inl ⟨s, rfl, p⟩
  | d :: ds, k, s, p, h => by
    have h0 := h 0 d s rfl p
    rw [v_for1]
    cases e1 : t d s with
    | none => rw [e1] at h0; exact h0.elim
    | some s1 =>
      rw [e1, v_okTs] at h0
      rw [v_forT]
      have nxt : ∀ s2, P (k + 0 + 1) (killS ks s2) → outX (forL t b ks ds (killS ks s2)) (P (k + (d :: ds).length)) A := fun s2 h4 => by
        have := for_gen P A ds (k + 1) (killS ks s2) h4 (fun i d s hd hp => by
          have := h (i + 1) d s (by simpa using hd)
          rw [show k + (i + 1) = k + 1 + i by omega] at this
          exact this hp)
        rw [show k + 1 + ds.length = k + (d :: ds).length by simp; omega] at this
        exact this
      cases e2 : b s1 with
      | ok f s2 =>
        rw [e2] at h0
        cases f with
        | nx => exact nxt s2 h0
        | ct => exact nxt s2 h0
        | rt r => exact .inr ⟨r, s2, rfl, h0⟩
        | bk => exact h0.elim
      | exc c s2 => rw [e2] at h0; exact h0.elim
      | bad => rw [e2] at h0; exact h0.elim
theorem range_out {t : D → S → Option S} {b : DM Fl} {ks : List Nat} {lo : Int} {n : Nat} {s : S} {X : R Fl} (hX : forL t b ks (rangeL lo n) s = X) (P : Nat → S → Prop) (A : RV → S → Prop) (p : P 0 s) (h : ∀ i s, i < n → P i s → okT (t (.int (lo + (i : Int))) s) fun s1 => okF (b s1) (fun s2 => P (i + 1) (killS ks s2)) A) : outX X (P n) A := by
  have := for_gen (t := t) (b := b) (ks := ks) P A (rangeL lo n) 0 s p (fun i d s hd hp => by
    obtain ⟨e, hi⟩ := rangeL_get hd
    subst e
    rw [Nat.zero_add] at hp ⊢
    exact h i s hi hp)
  rw [rangeL_length, Nat.zero_add, hX] at this
  exact this
theorem outX_no {X : R Fl} {Q : S → Prop} (h : outX X Q noA) : ∃ s, X = .ok .nx s ∧ Q s := by
  rcases h with h | ⟨_, _, _, h⟩
  · exact h
  · exact h.elim
theorem range_gen {t : D → S → Option S} {b : DM Fl} {ks : List Nat} {lo : Int} {n : Nat} {s : S} {X : R Fl} (hX : forL t b ks (rangeL lo n) s = X) (P : Nat → S → Prop) (p : P 0 s) (h : ∀ i s, i < n → P i s → okT (t (.int (lo + (i : Int))) s) fun s1 => okF (b s1) (fun s2 => P (i + 1) (killS ks s2)) noA) : ∃ s', X = .ok .nx s' ∧ P n s' :=
  outX_no (range_out hX P noA p h)
theorem list_out {t : D → S → Option S} {b : DM Fl} {ks : List Nat} {ds : List D} {s : S} {X : R Fl} (hX : forL t b ks ds s = X) (P : Nat → S → Prop) (A : RV → S → Prop) (p : P 0 s) (h : ∀ i d s, ds[i]? = some d → P i s → okT (t d s) fun s1 => okF (b s1) (fun s2 => P (i + 1) (killS ks s2)) A) : outX X (P ds.length) A := by
  have := for_gen (t := t) (b := b) (ks := ks) P A ds 0 s p (fun i d s hd hp => by
    rw [Nat.zero_add] at hp ⊢
    exact h i d s hd hp)
  rw [Nat.zero_add, hX] at this
  exact this
theorem list_gen {t : D → S → Option S} {b : DM Fl} {ks : List Nat} {ds : List D} {s : S} {X : R Fl} (hX : forL t b ks ds s = X) (P : Nat → S → Prop) (p : P 0 s) (h : ∀ i d s, ds[i]? = some d → P i s → okT (t d s) fun s1 => okF (b s1) (fun s2 => P (i + 1) (killS ks s2)) noA) : ∃ s', X = .ok .nx s' ∧ P ds.length s' :=
  outX_no (list_out hX P noA p h)
/-! while, by a measure -/
def okB (r : R Bool) (Qt Qf : S → Prop) : Prop := match r with
  | .ok true s => Qt s
  | .ok false s => Qf s
  | _ => False
theorem v_okB {b : Bool} {s : S} {Qt Qf : S → Prop} : okB (.ok b s) Qt Qf = if b = true then Qt s else Qf s := by cases b <;> simp [okB]
theorem v_okBi {c : Prop} [Decidable c] {x y : R Bool} {Qt Qf : S → Prop} : okB (if c then x else y) Qt Qf = if c then okB x Qt Qf else okB y Qt Qf := by split <;> rfl
theorem wh_out {c : DM Bool} {b : DM Fl} {ks : List Nat} (I : Nat → S → Prop) (Q : S → Prop) (A : RV → S → Prop) (h : ∀ n s, I n s → okB (c s) (fun s1 => okF (b s1) (fun s2 => ∃ m, m < n ∧ I m (killS ks s2)) A) Q) : ∀ (m n : Nat) (s : S), I n s → n < m → outX (whileL c b ks m s) Q A
  | 0, n, s, p, hm => by omega
  | m + 1, n, s, p, hm => by
    have h0 := h n s p
    rw [w_step]
    cases e1 : c s with
    | ok t s1 =>
      rw [e1] at h0
      rw [v_ok, w_c]
      cases t with
      | false => exact .inl ⟨s1, by simp, h0⟩
      | true =>
        rw [if_pos rfl]
        have h0 : okF (b s1) (fun s2 => ∃ m, m < n ∧ I m (killS ks s2)) A := h0
        cases e2 : b s1 with
        | ok f s2 =>
          rw [e2] at h0
          cases f with
          | nx => obtain ⟨k, hk, q⟩ := h0; exact wh_out I Q A h m k _ q (by omega)
          | ct => obtain ⟨k, hk, q⟩ := h0; exact wh_out I Q A h m k _ q (by omega)
          | rt r => exact .inr ⟨r, s2, rfl, h0⟩
          | bk => exact h0.elim
        | exc c s2 => rw [e2] at h0; exact h0.elim
        | bad => rw [e2] at h0; exact h0.elim
    | exc c s1 => rw [e1] at h0; exact h0.elim
    | bad => rw [e1] at h0; exact h0.elim
theorem wh_gen {c : DM Bool} {b : DM Fl} {ks : List Nat} {m : Nat} {s : S} {X : R Fl} (hX : whileL c b ks m s = X) (I : Nat → S → Prop) (Q : S → Prop) (n : Nat) (p : I n s) (hn : n < m) (h : ∀ n s, I n s → okB (c s) (fun s1 => okF (b s1) (fun s2 => ∃ m, m < n ∧ I m (killS ks s2)) noA) Q) : ∃ s', X = .ok .nx s' ∧ Q s' := by
  have := wh_out I Q noA h m n s p hn
  rw [hX] at this
  exact outX_no this
/-! comprehensions whose state changes -/
theorem comp_gen {t : D → S → Option S} {elt : DM D} {ks : List Nat} (P : S → Prop) (Q : D → Prop) : ∀ (ds : List D) (s : S), P s → (∀ d s, d ∈ ds → P s → ∃ s1 y s2, t d s = some s1 ∧ elt s1 = .ok y s2 ∧ Q y ∧ P (killS ks s2)) → ∃ ys s', compL t (pureM true) elt ks ds s = .ok ys s' ∧ P s' ∧ ys.length = ds.length ∧ ∀ y, y ∈ ys → Q y
  | [], s, p, _ => ⟨[], s, rfl, p, rfl, fun y h => by cases h⟩
  | d :: ds, s, p, h => by
    obtain ⟨s1, y, s2, h1, h2, h3, h4⟩ := h d s List.mem_cons_self p
    obtain ⟨ys, s', e, p', l, q⟩ := comp_gen P Q ds _ h4 fun d s hd hp => h d s (List.mem_cons_of_mem _ hd) hp
    refine ⟨y :: ys, s', ?_, p', by simp [l], fun z hz => ?_⟩
    · rw [v_comp1, h1, v_compO, v_pure, v_compT, if_pos rfl, h2, v_compE, e, v_compM]
    · rcases List.mem_cons.mp hz with rfl | hz
      · exact h3
      · exact q z hz
theorem comp_genX {t : D → S → Option S} {elt : DM D} {ks : List Nat} {ds : List D} {s : S} {X : R (List D)} (hX : compL t (pureM true) elt ks ds s = X) (P : S → Prop) (Q : D → Prop) (p : P s) (h : ∀ d s, d ∈ ds → P s → ∃ s1 y s2, t d s = some s1 ∧ elt s1 = .ok y s2 ∧ Q y ∧ P (killS ks s2)) : ∃ ys s', X = .ok ys s' ∧ P s' ∧ ys.length = ds.length ∧ ∀ y, y ∈ ys → Q y := by
  rw [← hX]; exact comp_gen P Q ds s p h
theorem ints_of {P : Int → Prop} {ys : List D} (h : ∀ y, y ∈ ys → ∃ x, y = .int x ∧ P x) : ∃ xs : List Int, ys = xs.map .int ∧ ∀ x, x ∈ xs → P x := by
  induction ys with
  | nil => exact ⟨[], rfl, fun x h => by cases h⟩
  | cons y ys ih =>
    obtain ⟨x, rfl, hx⟩ := h y List.mem_cons_self
    obtain ⟨xs, rfl, hxs⟩ := ih fun z hz => h z (List.mem_cons_of_mem _ hz)
    refine ⟨x :: xs, rfl, fun z hz => ?_⟩
    rcases List.mem_cons.mp hz with rfl | hz
    · exact hx
    · exact hxs z hz
end DL

/-! DLX: calls that make lists and tuples, slices, extend, texts of ints. -/
namespace DL
open PySem PySem.Spec PyProof.Rows L2
section
variable {X : Cx} {W : WX} {k : Nat} {a b c e lo hi : Expr} {oa ob oc : Opd} {pos p p2 : Pos} {x : Str} {id T : String}
/-! ### a new list, a new tuple by a call -/
def OfL1 (C : Ct) (r : List V → Hp → VK → Prop) (g : D → Option (List D)) : Prop := ∀ (Z H : Hp) (x : V) (dx : D) (ds : List D) (Q : VK), BRep C Z H x dx → Same Z H → g dx = some ds → (∀ p vs, H p = none → Reps C Z vs ds → Q (.ref p) (upd H p (.lst vs))) → r [x] H Q
def OfT1 (C : Ct) (r : List V → Hp → VK → Prop) (g : D → Option (List D)) : Prop := ∀ (Z H : Hp) (x : V) (dx : D) (ds : List D) (Q : VK), BRep C Z H x dx → Same Z H → g dx = some ds → (∀ p vs, H p = none → Reps C Z vs ds → Q (.ref p) (upd H p (.tup vs))) → (∀ v, Rep C Z v (.tuple ds) → Q v H) → r [x] H Q
def fNew (f : DM (List D)) : DM RV := bindM f fun ds => pureM (.fl ds)
def eNewT (f : DM (List D)) : DM D := bindM f fun ds => pureM (.tuple ds)
theorem df_newL {r : List V → Hp → VK → Prop} {g : D → Option (List D)} (hf : OfL1 (ctOf X) r g) {σ : St} {H : Hp} {Q : VK} (h : rF (ctOf X) W (fNew (e1 g oa)) σ H Q) : tCB r (tCons (rO (ctOf X) W oa) tNil) σ H Q := by
  obtain ⟨B, Z, as, s, I, h⟩ := h
  refine rO_mono (rO1 I (After.bind h)) fun v H1 ⟨Z1, as1, s1, dx, ds, I1, E1, P1, rx, e, q⟩ => ?_
  exact hf Z1 H1 v dx ds Q rx I1.zh e fun p vs np rv => q _ _ _ (I1.fresh np) .refl (List.prefix_refl _) _ ⟨p, vs, rfl, I1.zh.free np, I1.bh.free np, I1.free_new np, upd_same, rv⟩
theorem de_newT {r : List V → Hp → VK → Prop} {g : D → Option (List D)} (hf : OfT1 (ctOf X) r g) {σ : St} {H : Hp} {Q : VK} (h : rD (ctOf X) W (eNewT (e1 g oa)) σ H Q) : tCB r (tCons (rO (ctOf X) W oa) tNil) σ H Q := by
  obtain ⟨B, Z, as, s, I, h⟩ := h
  refine rO_mono (rO1 I (After.bind h)) fun v H1 ⟨Z1, as1, s1, dx, ds, I1, E1, P1, rx, e, q⟩ => ?_
  refine hf Z1 H1 v dx ds Q rx I1.zh e (fun p vs np rv => ?_) fun v rv => q _ _ _ I1 .refl (List.prefix_refl _) _ rv
  obtain ⟨I3, E3, z3⟩ := I1.alloc (o := .tup vs) np
  exact q _ _ _ I3 E3 (List.prefix_refl _) _ (.tup (.inl (.inl z3)) (rv.mono E3.same))
theorem df_tl1 {r : List V → Hp → VK → Prop} {g : D → Option (List D)} (hc : CallR X (.type T) r) (hf : OfL1 (ctOf X) r g) (hm : X.mg x = none) (hv : bootBuiltins x = some (.type T)) (ha : DO X W a oa) (hg : Gl X x := by rfl) (hn : x ≠ "__name__" := by decide) (hdb : (x == ("__debug__" : Str)) = false := by decide)
    (hs : starEach [a] X.env = (false, eval a X.env) :: starEach [] X.env := by rfl) (hpl : (backTo pos (starEach [] X.env)).any (·.1) = false := by rfl) : DF X W (.Call (.Name x p) [a] [] pos) (fNew (e1 g oa)) :=
  pe_imp (pe_callTy hc hg hm hv (pa_cons ha pa_nil hs) hn hdb hs hpl) fun _ _ _ h => df_newL hf h
theorem df_bl1 {r : List V → Hp → VK → Prop} {g : D → Option (List D)} (hc : CallR X (.builtin id) r) (hf : OfL1 (ctOf X) r g) (hm : X.mg x = none) (hv : bootBuiltins x = some (.builtin id)) (ha : DO X W a oa) (hg : Gl X x := by rfl) (hn : x ≠ "__name__" := by decide) (hdb : (x == ("__debug__" : Str)) = false := by decide)
    (hs : starEach [a] X.env = (false, eval a X.env) :: starEach [] X.env := by rfl) (hpl : (backTo pos (starEach [] X.env)).any (·.1) = false := by rfl) : DF X W (.Call (.Name x p) [a] [] pos) (fNew (e1 g oa)) :=
  pe_imp (pe_callB hc hg hm hv (pa_cons ha pa_nil hs) hn hdb hs hpl) fun _ _ _ h => df_newL hf h
theorem de_tt1 {r : List V → Hp → VK → Prop} {g : D → Option (List D)} (hc : CallR X (.type T) r) (hf : OfT1 (ctOf X) r g) (hm : X.mg x = none) (hv : bootBuiltins x = some (.type T)) (ha : DO X W a oa) (hg : Gl X x := by rfl) (hn : x ≠ "__name__" := by decide) (hdb : (x == ("__debug__" : Str)) = false := by decide)
    (hs : starEach [a] X.env = (false, eval a X.env) :: starEach [] X.env := by rfl) (hpl : (backTo pos (starEach [] X.env)).any (·.1) = false := by rfl) : DE X W (.Call (.Name x p) [a] [] pos) (eNewT (e1 g oa)) :=
  pe_imp (pe_callTy hc hg hm hv (pa_cons ha pa_nil hs) hn hdb hs hpl) fun _ _ _ h => de_newT hf h
theorem of_listOf : OfL1 (ctOf X) (fun xs H Q => ∃ p ys, xs = [.ref p] ∧ (SqL X.K H p ys ∨ SqT X.K H p ys) ∧ ∀ l, H l = none → Q (.ref l) (upd H l (.lst ys))) asSeq := by
  intro Z H x dx ds Q rx zh e q
  cases dx with
  | list ds' =>
    cases e
    obtain ⟨p, xs, rfl, h1, h2⟩ := rx.list zh
    exact ⟨p, xs, rfl, .inl h1, fun l hl => q l xs hl h2⟩
  | tuple ds' =>
    cases e
    obtain ⟨p, xs, rfl, h1, h2⟩ := rx.tuple zh
    exact ⟨p, xs, rfl, .inr h1, fun l hl => q l xs hl h2⟩
  | _ => cases e
theorem of_tupleOf : OfT1 (ctOf X) (fun xs H Q => ∃ p ys, xs = [.ref p] ∧ ((SqL X.K H p ys ∧ ∀ l, H l = none → Q (.ref l) (upd H l (.tup ys))) ∨ (SqT X.K H p ys ∧ Q (.ref p) H))) asSeq := by
  intro Z H x dx ds Q rx zh e q q'
  cases dx with
  | list ds' =>
    cases e
    obtain ⟨p, xs, rfl, h1, h2⟩ := rx.list zh
    exact ⟨p, xs, rfl, .inl ⟨h1, fun l hl => q l xs hl h2⟩⟩
  | tuple ds' =>
    cases e
    cases rx with
    | f rx =>
      obtain ⟨p, xs, hp, h1, h2⟩ := (BRep.f (H := H) rx).tuple zh
      subst hp
      exact ⟨p, xs, rfl, .inr ⟨h1, q' _ rx⟩⟩
  | _ => cases e
/-- the text of an int -/
def gStrI : D → Option D
  | .int i => if decide (i.natAbs.log2 < 1920) then some (.str (toString i)) else none
  | _ => none
theorem of_strI : OfC1 (ctOf X) (fun xs H Q => ∃ i, xs = [.int i] ∧ i.natAbs.log2 < 1920 ∧ Q (.str (toString i)) H) gStrI := by
  intro Z H x dx d Q rx zh e q
  cases dx with
  | int i =>
    unfold gStrI at e
    dsimp only at e
    split at e
    · rename_i h
      cases e
      exact ⟨i, by rw [rx.int], by simpa using h, q _ (.str _)⟩
    · cases e
  | _ => cases e
/-! ### slices -/
def cutD (ds : List D) (l u : Option Int) : List D := (ds.drop (HT.sIx ds.length 0 l)).take (HT.sIx ds.length ds.length u - HT.sIx ds.length 0 l)
theorem Reps.cut {C : Ct} {Z : Hp} {vs : List V} {ds : List D} (h : Reps C Z vs ds) (l u : Option Int) : Reps C Z (cutV vs l u) (cutD ds l u) := by
  unfold cutV cutD
  rw [h.length]
  have hd : ∀ (n : Nat) {vs : List V} {ds : List D}, Reps C Z vs ds → Reps C Z (vs.drop n) (ds.drop n) := by
    intro n
    induction n with
    | zero => intro vs ds h; exact h
    | succ n ih => intro vs ds h; cases h with
      | nil => exact .nil
      | cons r t => exact ih t
  have ht : ∀ (n : Nat) {vs : List V} {ds : List D}, Reps C Z vs ds → Reps C Z (vs.take n) (ds.take n) := by
    intro n
    induction n with
    | zero => intro vs ds h; exact .nil
    | succ n ih => intro vs ds h; cases h with
      | nil => exact .nil
      | cons r t => exact .cons r (ih t)
  exact ht _ (hd _ h)
def gCutU : D → D → Option (List D)
  | .list ds, .int j => some (cutD ds none (some j))
  | _, _ => none
def gCutL : D → D → Option (List D)
  | .list ds, .int j => some (cutD ds (some j) none)
  | _, _ => none
def gCutUT : D → D → Option (List D)
  | .tuple ds, .int j => some (cutD ds none (some j))
  | _, _ => none
def gCutLT : D → D → Option (List D)
  | .tuple ds, .int j => some (cutD ds (some j) none)
  | _, _ => none
def cutOk (z : Str) : Bool := decide (z.length ≤ 1000000)
def gCutUS : D → D → Option D
  | .str z, .int j => if cutOk z then some (.str (cutS z none (some j))) else none
  | _, _ => none
def gCutLS : D → D → Option D
  | .str z, .int j => if cutOk z then some (.str (cutS z (some j) none)) else none
  | _, _ => none
theorem df_cutU (ha : DO X W a oa) (hb : DO X W b ob) : DF X W (.Subscript a (.Slice none (some b) none p2) pos) (fNew (e2 gCutU oa ob)) := by
  refine pe_imp (pe_slice sl_list ha po_none (po_some hb)) fun σ H Q ⟨B, Z, as, s, I, h⟩ => ?_
  refine rO_mono (rO2 I (After.bind h)) fun v H1 h1 => rO_mono h1 fun u H2 ⟨Z2, as2, s2, dx, dy, ds, I2, E2, P2, rx, ry, e, q⟩ => ?_
  cases dx with
  | list xs =>
    cases dy with
    | int j =>
      cases e
      obtain ⟨p, vs, rfl, h1, h2⟩ := rx.list I2.zh
      exact ⟨j, by rw [ry.int], p, vs, rfl, h1, fun l np => q _ _ _ (I2.fresh np) .refl (List.prefix_refl _) _ ⟨l, _, rfl, I2.zh.free np, I2.bh.free np, I2.free_new np, upd_same, h2.cut _ _⟩⟩
    | _ => cases e
  | _ => cases e
theorem df_cutL (ha : DO X W a oa) (hb : DO X W b ob) : DF X W (.Subscript a (.Slice (some b) none none p2) pos) (fNew (e2 gCutL oa ob)) := by
  refine pe_imp (pe_slice sl_list ha (po_some hb) po_none) fun σ H Q ⟨B, Z, as, s, I, h⟩ => ?_
  refine rO_mono (rO2 I (After.bind h)) fun v H1 h1 => rO_mono h1 fun u H2 ⟨Z2, as2, s2, dx, dy, ds, I2, E2, P2, rx, ry, e, q⟩ => ?_
  cases dx with
  | list xs =>
    cases dy with
    | int j =>
      cases e
      obtain ⟨p, vs, rfl, h1, h2⟩ := rx.list I2.zh
      exact ⟨j, by rw [ry.int], p, vs, rfl, h1, fun l np => q _ _ _ (I2.fresh np) .refl (List.prefix_refl _) _ ⟨l, _, rfl, I2.zh.free np, I2.bh.free np, I2.free_new np, upd_same, h2.cut _ _⟩⟩
    | _ => cases e
  | _ => cases e
theorem de_cutUS (ha : DO X W a oa) (hb : DO X W b ob) : DE X W (.Subscript a (.Slice none (some b) none p2) pos) (e2 gCutUS oa ob) := by
  refine pe_imp (pe_slice sl_str ha po_none (po_some hb)) fun σ H Q ⟨B, Z, as, s, I, h⟩ => ?_
  refine rO_mono (rO2 I h) fun v H1 h1 => rO_mono h1 fun u H2 ⟨Z2, as2, s2, dx, dy, d, I2, E2, P2, rx, ry, e, q⟩ => ?_
  cases dx with
  | str z =>
    cases dy with
    | int j =>
      unfold gCutUS at e
      dsimp only at e
      split at e
      · rename_i hz
        cases e
        exact ⟨j, by rw [ry.int], z, by rw [rx.str], Nat.le_trans (of_decide_eq_true hz) (by decide), q _ (.str _)⟩
      · cases e
    | _ => cases e
  | _ => cases e
theorem de_cutLS (ha : DO X W a oa) (hb : DO X W b ob) : DE X W (.Subscript a (.Slice (some b) none none p2) pos) (e2 gCutLS oa ob) := by
  refine pe_imp (pe_slice sl_str ha (po_some hb) po_none) fun σ H Q ⟨B, Z, as, s, I, h⟩ => ?_
  refine rO_mono (rO2 I h) fun v H1 h1 => rO_mono h1 fun u H2 ⟨Z2, as2, s2, dx, dy, d, I2, E2, P2, rx, ry, e, q⟩ => ?_
  cases dx with
  | str z =>
    cases dy with
    | int j =>
      unfold gCutLS at e
      dsimp only at e
      split at e
      · rename_i hz
        cases e
        exact ⟨j, by rw [ry.int], z, by rw [rx.str], Nat.le_trans (of_decide_eq_true hz) (by decide), q _ (.str _)⟩
      · cases e
    | _ => cases e
  | _ => cases e
/-! ### sorted, of ints -/
def gSortI : D → Option (List D)
  | .list ds => (intsD ds).map fun is => (is.mergeSort fun x y => decide (x ≤ y)).map .int
  | _ => none
theorem repsI {C : Ct} {Z : Hp} (is : List Int) : Reps C Z (is.map V.int) (is.map PyData.int) := by
  induction is with
  | nil => exact .nil
  | cons i is ih => exact .cons (.int i) ih
theorem sorted_one {a b : List Int} (h : a.Perm b) (ha : a.Pairwise (· ≤ ·)) (hb : b.Pairwise (· ≤ ·)) : a = b := by
  induction a generalizing b with
  | nil => exact (List.nil_perm.mp h).symm
  | cons x a ih =>
    cases b with
    | nil => exact absurd h.length_eq (by simp)
    | cons y b =>
      have hx : x ∈ y :: b := h.mem_iff.mp List.mem_cons_self
      have hy : y ∈ x :: a := h.mem_iff.mpr List.mem_cons_self
      have exy : x = y := by
        have h1 : y ≤ x := by
          rcases List.mem_cons.mp hx with e | e
          · omega
          · exact (List.pairwise_cons.mp hb).1 x e
        have h2 : x ≤ y := by
          rcases List.mem_cons.mp hy with e | e
          · omega
          · exact (List.pairwise_cons.mp ha).1 y e
        omega
      subst exy
      rw [ih (List.perm_cons x |>.mp h) (List.pairwise_cons.mp ha).2 (List.pairwise_cons.mp hb).2]
theorem of_sortI : OfL1 (ctOf X) (rSortedI X.K) gSortI := by
  intro Z H x dx ds Q rx zh e q
  cases dx with
  | list xs =>
    unfold gSortI at e
    dsimp only at e
    cases e2 : intsD xs with
    | none => rw [e2] at e; cases e
    | some is =>
      rw [e2] at e; cases e
      obtain ⟨p, vs, rfl, h1, h2⟩ := rx.list zh
      refine ⟨p, is, rfl, by rw [← ints_rep h2 e2]; exact h1, fun ns' l hp hs np => ?_⟩
      have hm : ns' = is.mergeSort fun x y => decide (x ≤ y) := by
        refine sorted_one (hp.trans (List.mergeSort_perm _ _).symm) hs ?_
        have := List.pairwise_mergeSort (le := fun x y : Int => decide (x ≤ y)) (by intro a b c; simp; omega) (by intro a b; simp; omega) is
        exact this.imp fun h => of_decide_eq_true h
      rw [hm]
      exact q l _ np (repsI _)
  | _ => cases e
end
section
variable {X : Cx} {W : WX} {e : Expr} {fv : DM RV} {pos apos : Pos}
def fExtend (i : Nat) (f : DM RV) : DM RV := fun s => match listAt i s with
  | none => .bad
  | some _ => bindM f (fun r s1 => match listAt i s1, r with
    | some ds, .fl es => if lenOk (ds.length + es.length) then .ok (.d .none) (putList i (ds ++ es) s1) else .bad
    | _, _ => .bad) s
theorem Reps.app {C : Ct} {Z : Hp} {xs ys : List V} {ds es : List D} (h : Reps C Z xs ds) (h' : Reps C Z ys es) : Reps C Z (xs ++ ys) (ds ++ es) := by
  induction xs generalizing ds with
  | nil => cases h; exact h'
  | cons x xs ih => cases h with
    | cons r t => exact .cons r (ih t)
theorem df_extend (i : Nat) {x : Str} {px : Pos} (he : DF X W e fv) (hN : X.N[i]? = some x := by rfl) (hv : Vis X.env.scope x := by first | exact Or.inl rfl | exact Or.inr (Or.inl rfl) | exact Or.inr (Or.inr rfl)) (hd : (x == ("__debug__" : Str)) = false := by decide)
    (hcd : (x == ("__classdict__" : Str)) = false := by decide)
    (hbase : attributeBase (.Name x px) "extend" X.env (eval (.Name x px) X.env) = eval (.Name x px) X.env := by rfl)
    (hfew : ((backTo pos (starEach [e] X.env)).all (fun x => !x.1) && (backToKw pos (keywordEach [] X.env)).all (fun x => x.1.isSome)
      && decide ([e].length + ([] : List Keyword).length + (if ([] : List Keyword).isEmpty then 0 else 1) < 30)) = true := by rfl)
    (hline : (apos.endLine == pos.line) = true := by rfl) (hs : starEach [e] X.env = (false, eval e X.env) :: starEach [] X.env := by rfl) (hplain : (backTo pos (starEach [] X.env)).any (·.1) = false := by rfl) :
    DF X W (.Call (.Attribute (.Name x px) "extend" apos) [e] [] pos) (fExtend i fv) := by
  refine pe_imp (pe_bm PySem.F.plainAttrs_list PySem.F.slot_list_extend PySem.F.type_list_extend mt_extend (pe_var hN hv hd hcd) (pa_cons he pa_nil hs) hbase hfew hline hs hplain) fun σ H Q ⟨B, Z, as, s, I, h⟩ => ?_
  unfold fExtend at h
  cases e0 : listAt i s with
  | none => rw [e0] at h; exact h.elim
  | some ds0 =>
    rw [e0] at h
    dsimp only at h
    obtain ⟨p, xs, h1, h2, _⟩ := listAt_rep I e0
    refine ⟨.ref p, h1, .inl ⟨rfl, xs, .inl (.inl h2)⟩, B, Z, as, s, I, (After.bind h).imp fun r s1 H1 Z1 as1 I1 E1 P1 h3 v rv => ?_⟩
    cases e1 : listAt i s1 with
    | none => rw [e1] at h3; cases r <;> exact h3.elim
    | some ds =>
      rw [e1] at h3
      cases r with
      | fl es =>
        dsimp only at h3
        split at h3
        · rename_i hl
          obtain ⟨p', xs', q1, q2, q3, q4, q5, q6⟩ := listAt_rep I1 e1
          rw [h1] at q1; cases q1
          obtain ⟨b, zs, rfl, z1, z2, z3, z4, z5⟩ := rv
          refine ⟨p, b, xs', zs, rfl, rfl, q2, z4, by rw [q3.length, z5.length]; exact Nat.le_of_lt (lenOk_line hl), ?_⟩
          exact h3 _ _ _ (q6 _ _ (Reps.app q3 z5)) .refl (List.prefix_refl _) _ .non
        · exact h3.elim
      | _ => exact h3.elim
end
/-! ### list + list -/
section
variable {X : Cx} {W : WX} {a b : Expr} {oa ob : Opd} {pos : Pos}
def rCatQ (K : PySem.W.Frag) : R2 := fun x y H Q => ∃ l b xs zs, x = .ref l ∧ y = .ref b ∧ SqL K H l xs ∧ SqL K H b zs ∧ xs.length + zs.length ≤ sizeLine ∧ ∀ p, H p = none → Q (.ref p) (upd H p (.lst (xs ++ zs)))
theorem op_catQ : OpR X (binaryOp .Add) (rCatQ X.K) := by
  intro pins s σ H x y v u Q I rx ry h
  obtain ⟨l, b, xs, zs, rfl, rfl, hH, hB, hz, q⟩ := h
  cases rx
  cases ry
  obtain ⟨its, r, pl, _⟩ := I.list hH
  obtain ⟨its2, r2, pl2, _⟩ := I.list hB
  obtain ⟨⟨cls, dd, data, sl⟩, ho, hc, n, hd⟩ := pl.isList
  obtain ⟨⟨cls2, dd2, data2, sl2⟩, ho2, hc2, n2, hd2⟩ := pl2.isList
  simp only at hc hd hc2 hd2
  subst hc hd hc2 hd2
  have e : its.toArray ++ its2.toArray = (its ++ its2).toArray := by simp
  have l1 := r.length
  have l2 := r2.length
  refine concat_meets ⟨_, ho, rfl⟩ ⟨_, ho2, rfl⟩ noFill_list_add seq_list_add PySem.F.slot_list_add PySem.F.entry_list_add (PySem.F.args_list_add_2 _ _) (list_addW l b its.toArray its2.toArray n n2 dd dd2 sl sl2 (by simp; omega)) ⟨ho, ho2, ?_⟩
  rw [e]
  exact ⟨.ref _, _, I.lnew (t' := s.toks) (r.append r2) (by rw [List.length_append]; omega), rfl, q _ I.fresh⟩
def gCat : D → D → Option (List D)
  | .list ds, .list es => if lenOk (ds.length + es.length) then some (ds ++ es) else none
  | _, _ => none
theorem df_cat (ha : DO X W a oa) (hb : DO X W b ob) : DF X W (.BinOp a .Add b pos) (fNew (e2 gCat oa ob)) := by
  refine pe_imp (pe_op op_catQ ha hb) fun σ H Q ⟨B, Z, as, s, I, h⟩ => ?_
  refine rO_mono (rO2 I (After.bind h)) fun v H1 h1 => rO_mono h1 fun u H2 ⟨Z2, as2, s2, dx, dy, ds, I2, E2, P2, rx, ry, e, q⟩ => ?_
  cases dx with
  | list xs =>
    cases dy with
    | list ys =>
      unfold gCat at e
      dsimp only at e
      split at e
      · rename_i hl
        cases e
        obtain ⟨p, vs, rfl, h1, h2⟩ := rx.list I2.zh
        obtain ⟨p', ws, rfl, h3, h4⟩ := ry.list I2.zh
        exact ⟨p, p', vs, ws, rfl, rfl, h1, h3, by rw [h2.length, h4.length]; exact Nat.le_of_lt (lenOk_line hl), fun l np => q _ _ _ (I2.fresh np) .refl (List.prefix_refl _) _ ⟨l, _, rfl, I2.zh.free np, I2.bh.free np, I2.free_new np, upd_same, Reps.app h2 h4⟩⟩
      · cases e
    | _ => cases e
  | _ => cases e
end
/-! ### text + text, a choice of new things, zip, enumerate -/
section
variable {X : Cx} {W : WX} {a b c e l : Expr} {oa ob : Opd} {pos p tpos : Pos} {fa fb : DM RV} {fC : DM Bool} {elts : List Expr} {kk : Nat}
def gAddS : D → D → Option D
  | .str x, .str y => if lenOk (x.length + y.length) then some (.str (x ++ y)) else none
  | _, _ => none
theorem of_addS {C : Ct} : Of2 C (fun x y H Q => ∃ i j, x = .str i ∧ y = .str j ∧ i.length + j.length ≤ sizeLine ∧ Q (.str (i ++ j)) H) gAddS := by
  intro Z H x y dx dy d Q rx ry zh e q
  cases dx with
  | str i =>
    cases dy with
    | str j =>
      unfold gAddS at e
      dsimp only at e
      split at e
      · rename_i h
        cases e
        exact ⟨i, j, by rw [rx.str], by rw [ry.str], Nat.le_of_lt (lenOk_line h), q _ (.str _)⟩
      · cases e
    | _ => cases e
  | _ => cases e
def fIf (t : DM Bool) (f g : DM RV) : DM RV := bindM t fun b => if b then f else g
theorem df_ifExp (hc : DT X W c fC) (ha : DF X W a fa) (hb : DF X W b fb) : DF X W (.IfExp c a b pos) (fIf fC fa fb) := pe_imp (pe_ifExp hc ha hb) fun σ H Q ⟨B, Z, as, s, I, h⟩ => by
  refine ⟨B, Z, as, s, I, (After.bind h).imp fun bb s1 H1 Z1 as1 I1 E1 P1 h1 => ?_⟩
  cases bb
  · exact ⟨B, Z1, as1, s1, I1, h1⟩
  · exact ⟨B, Z1, as1, s1, I1, h1⟩
def zipD : List D → Option (List D)
  | [.list xs, .list ys] => if lenOk xs.length then some (List.zipWith (fun x y => .tuple [x, y]) xs ys) else none
  | [.tuple xs, .tuple ys] => if lenOk xs.length then some (List.zipWith (fun x y => .tuple [x, y]) xs ys) else none
  | _ => none
def dZip (g : DM (List D)) : DM (List D) := bindM g fun ds => liftO (zipD ds)
def enumD : List D → Option (List D)
  | [.list xs] => if lenOk xs.length then some (xs.mapIdx fun i x => .tuple [.int (i : Nat), x]) else none
  | _ => none
def dEnumerate (g : DM (List D)) : DM (List D) := bindM g fun ds => liftO (enumD ds)
theorem feeds_zip {C : Ct} {Z0 : Hp} {a b : Addr} {xs ys : List V} {ds es : List D} (h : SqL C.K Z0 a xs) (r : Reps C Z0 xs ds) (h' : SqL C.K Z0 b ys) (r' : Reps C Z0 ys es) : Feeds C (Itz C.K a b) Z0 (List.zipWith (fun x y => .tuple [x, y]) ds es) := fun i H zh => by
  refine ⟨fun d hd => ?_, fun hi => ⟨xs, ys, Same.seq zh h, Same.seq zh h', by rw [r.length, r'.length]; rw [List.length_zipWith] at hi; omega⟩⟩
  rw [List.getElem?_zipWith] at hd
  cases e1 : ds[i]? with
  | none => rw [e1] at hd; cases hd
  | some dx =>
    cases e2 : es[i]? with
    | none => rw [e1, e2] at hd; cases hd
    | some dy =>
      rw [e1, e2] at hd
      cases hd
      obtain ⟨v, hv, rv⟩ := r.get e1
      obtain ⟨u, hu, ru⟩ := r'.get e2
      refine ⟨⟨xs, ys, v, u, Same.seq zh h, Same.seq zh h', hv, hu⟩, fun x H' B Z σ as s hy I hz => ?_⟩
      obtain ⟨T, x', y', rfl, np, rfl, hx, hy⟩ := hy
      have q1 := hx xs (Same.seq zh h)
      rw [hv] at q1; cases q1
      have q2 := hy ys (Same.seq zh h')
      rw [hu] at q2; cases q2
      obtain ⟨I3, E3, z3⟩ := I.alloc (o := .tup [v, u]) np
      exact ⟨_, I3, E3, .tup (.inl (.inl z3)) (.cons ((rv.mono hz).mono E3.same) (.cons ((ru.mono hz).mono E3.same) .nil))⟩
theorem feeds_zipT {C : Ct} {Z0 : Hp} {a b : Addr} {xs ys : List V} {ds es : List D} (h : SqT C.K Z0 a xs) (r : Reps C Z0 xs ds) (h' : SqT C.K Z0 b ys) (r' : Reps C Z0 ys es) : Feeds C (RZ.ItzT C.K a b) Z0 (List.zipWith (fun x y => .tuple [x, y]) ds es) := fun i H zh => by
  refine ⟨fun d hd => ?_, fun hi => ⟨xs, ys, sqT_mono zh h, sqT_mono zh h', by rw [r.length, r'.length]; rw [List.length_zipWith] at hi; omega⟩⟩
  rw [List.getElem?_zipWith] at hd
  cases e1 : ds[i]? with
  | none => rw [e1] at hd; cases hd
  | some dx =>
    cases e2 : es[i]? with
    | none => rw [e1, e2] at hd; cases hd
    | some dy =>
      rw [e1, e2] at hd
      cases hd
      obtain ⟨v, hv, rv⟩ := r.get e1
      obtain ⟨u, hu, ru⟩ := r'.get e2
      refine ⟨⟨xs, ys, v, u, sqT_mono zh h, sqT_mono zh h', hv, hu⟩, fun x H' B Z σ as s hy I hz => ?_⟩
      obtain ⟨T, x', y', rfl, np, rfl, hx, hy⟩ := hy
      have q1 := hx xs (sqT_mono zh h)
      rw [hv] at q1; cases q1
      have q2 := hy ys (sqT_mono zh h')
      rw [hu] at q2; cases q2
      obtain ⟨I3, E3, z3⟩ := I.alloc (o := .tup [v, u]) np
      exact ⟨_, I3, E3, .tup (.inl (.inl z3)) (.cons ((rv.mono hz).mono E3.same) (.cons ((ru.mono hz).mono E3.same) .nil))⟩
theorem feeds_enum {C : Ct} {Z0 : Hp} {a : Addr} {xs : List V} {ds : List D} (h : SqL C.K Z0 a xs) (r : Reps C Z0 xs ds) : Feeds C (Ite C.K a) Z0 (ds.mapIdx fun i x => .tuple [.int (i : Nat), x]) := fun i H zh => by
  refine ⟨fun d hd => ?_, fun hi => ⟨xs, Same.seq zh h, by rw [r.length]; rwa [List.length_mapIdx] at hi⟩⟩
  rw [List.getElem?_mapIdx] at hd
  cases e1 : ds[i]? with
  | none => rw [e1] at hd; cases hd
  | some dx =>
    rw [e1] at hd
    cases hd
    obtain ⟨v, hv, rv⟩ := r.get e1
    refine ⟨⟨xs, v, Same.seq zh h, hv⟩, fun x H' B Z σ as s hy I hz => ?_⟩
    obtain ⟨T, x', rfl, np, rfl, hx⟩ := hy
    have q1 := hx xs (Same.seq zh h)
    rw [hv] at q1; cases q1
    obtain ⟨I3, E3, z3⟩ := I.alloc (o := .tup [.int (i : Nat), v]) np
    exact ⟨_, I3, E3, .tup (.inl (.inl z3)) (.cons (.int _) (.cons ((rv.mono hz).mono E3.same) .nil))⟩
theorem Reps.short {C : Ct} {Z : Hp} {vs : List V} {ds : List D} (h : Reps C Z vs ds) (hz : vs.length ≤ sizeLine) : ds.length ≤ sizeLine := by rw [← h.length]; exact hz
theorem di_zip {g : DM (List D)} (hm : X.mg "zip" = none) (ha : DL X W [a, b] g) (hg : Gl X "zip" := by rfl)
    (hs : starEach [a, b] X.env = (false, eval a X.env) :: starEach [b] X.env := by rfl) (hpl : (backTo pos (starEach [b] X.env)).any (·.1) = false := by rfl) : DI X W (.Tuple elts kk tpos) (.Call (.Name "zip" p) [a, b] [] pos) (dZip g) :=
  pi_imp (RZ.pi_zipA hg hm ha hs hpl) fun σ H R ⟨B, Z, as, s, I, h⟩ =>
  ⟨B, Z, as, s, I, (After.bind h).imp fun ds s1 H1 Z1 as1 I1 E1 P1 h1 vs rvs => by
    obtain ⟨es, e, q⟩ := After.lift h1 I1
    cases rvs with
    | nil => cases e
    | cons r t =>
      cases t with
      | nil => cases r <;> cases e
      | cons r2 t2 =>
        cases t2 with
        | cons r3 t3 => cases r <;> cases r2 <;> cases e
        | nil =>
          cases r with
          | lst hx rx =>
            cases r2 with
            | lst hy ry =>
              unfold zipD at e
              dsimp only at e
              split at e
              · rename_i hl
                cases e
                refine ⟨_, _, _, _, rfl, .inl ⟨Same.seq I1.zh hx, Same.seq I1.zh hy, q _ (feeds_zip hx rx hy ry) ?_⟩⟩
                rw [List.length_zipWith]
                have := lenOk_line hl
                omega
              · cases e
            | _ => cases e
          | tup hx rx =>
            cases r2 with
            | tup hy ry =>
              unfold zipD at e
              dsimp only at e
              split at e
              · rename_i hl
                cases e
                refine ⟨_, _, _, _, rfl, .inr ⟨sqT_mono I1.zh hx, sqT_mono I1.zh hy, q _ (feeds_zipT hx rx hy ry) ?_⟩⟩
                rw [List.length_zipWith]
                have := lenOk_line hl
                omega
              · cases e
            | _ => cases e
          | _ => cases e⟩
theorem di_enumerate {g : DM (List D)} (hm : X.mg "enumerate" = none) (ha : DL X W [a] g) (hg : Gl X "enumerate" := by rfl)
    (hs : starEach [a] X.env = [(false, eval a X.env)] := by rfl) : DI X W (.Tuple elts kk tpos) (.Call (.Name "enumerate" p) [a] [] pos) (dEnumerate g) :=
  pi_imp (pi_enum hg hm ha hs) fun σ H R ⟨B, Z, as, s, I, h⟩ =>
  ⟨B, Z, as, s, I, (After.bind h).imp fun ds s1 H1 Z1 as1 I1 E1 P1 h1 vs rvs => by
    obtain ⟨es, e, q⟩ := After.lift h1 I1
    cases rvs with
    | nil => cases e
    | cons r t =>
      cases t with
      | cons r2 t2 => cases r <;> cases e
      | nil =>
        cases r with
        | lst hx rx =>
          unfold enumD at e
          dsimp only at e
          split at e
          · rename_i hl
            cases e
            refine ⟨_, _, rfl, Same.seq I1.zh hx, q _ (feeds_enum hx rx) ?_⟩
            rw [List.length_mapIdx]
            exact Nat.le_of_lt (lenOk_line hl)
          · cases e
        | _ => cases e⟩
/-! step lemmas of this text -/
def fIfk (f g : DM RV) (b : Bool) (s : S) : R RV := if b = true then f s else g s
theorem v_fIf {t : DM Bool} {f g : DM RV} {s : S} : fIf t f g s = thenR (t s) (fIfk f g) := by
  unfold fIf bindM thenR fIfk
  cases t s with
  | ok b s' => cases b <;> rfl
  | _ => rfl
theorem v_fIfk {f g : DM RV} {b : Bool} {s : S} : fIfk f g b s = if b = true then f s else g s := rfl
def fNewk (ds : List D) (s : S) : R RV := .ok (.fl ds) s
theorem v_fNew {f : DM (List D)} {s : S} : fNew f s = thenR (f s) fNewk := rfl
theorem v_fNewk {ds : List D} {s : S} : fNewk ds s = .ok (.fl ds) s := rfl
def eNewTk (ds : List D) (s : S) : R D := .ok (.tuple ds) s
theorem v_eNewT {f : DM (List D)} {s : S} : eNewT f s = thenR (f s) eNewTk := rfl
theorem v_eNewTk {ds : List D} {s : S} : eNewTk ds s = .ok (.tuple ds) s := rfl
def dZipk (ds : List D) (s : S) : R (List D) := optR (zipD ds) s
theorem v_dZip {g : DM (List D)} {s : S} : dZip g s = thenR (g s) dZipk := by
  unfold dZip bindM thenR dZipk
  cases g s <;> first | rfl | exact lift_opt
theorem v_dZipk {xs ys : List D} {s : S} : dZipk [.list xs, .list ys] s = if lenOk xs.length = true then .ok (List.zipWith (fun x y => .tuple [x, y]) xs ys) s else .bad := by
  unfold dZipk zipD
  dsimp only
  split <;> rfl
theorem v_asSeql {ds : List D} : asSeq (.list ds) = some ds := rfl
theorem v_asSeqt {ds : List D} : asSeq (.tuple ds) = some ds := rfl
theorem v_gStrI {i : Int} : gStrI (.int i) = if decide (i.natAbs.log2 < 1920) = true then some (.str (toString i)) else none := rfl
theorem v_gAddS {x y : Str} : gAddS (.str x) (.str y) = if lenOk (x.length + y.length) = true then some (.str (x ++ y)) else none := rfl
end
end DL

/-! DLY: sets of ints and what is sorted of them. -/
namespace L2
open PySem PySem.Spec PyProof.Rows
section
variable {P : Program} {w : World} {A : Around} {E : Value → Shared → Prop} {s : Shared}
set_option maxRecDepth 100000 in
set_option maxHeartbeats 3200000 in
/-- set(xs), a list of ints -/
theorem call_set_lstI {l : Addr} {items : Array Value} (ns : List Int) {Q : Value → Shared → Prop} (hh : A.handled = none) (hl : s.heap.IsList l items) (hit : IntsAre items.toList ns) (hb : ns.length + 1 < scanBound)
    (h : ∀ (h' : Heap) (tk c : Nat), SetR w h' s.heap.objs.size (fun j => decide (j ∈ ns)) c → c ≤ ns.length → (∀ b o, s.heap.get? b = some o → h'.get? b = some o) → Q (.ref s.heap.objs.size) { s with heap := h', toks := tk }) :
    wpAny (model P w) A (call (.type "set") [.ref l]) Q E s := by
  have hisz : items.size = ns.length := by
    have q := IntsAre.length hit
    rw [Array.length_toList] at q
    exact q
  obtain ⟨c, tl, hmro⟩ := F.called_set.mro
  have hmade := F.called_set.made
  have hsub := F.called_set.sub
  refine wpAny_call (codeAny_of_tree ?_)
  show wpAny _ _ (callAny (.type "set") _) _ _ _
  refine wpAny_pure ⟨Code.quiet_builtin _ (by decide +kernel), codeAny_builtin F.entry_type_call ?_⟩
  rw [Around.under_plain (weight_type_call_type "set" [.ref l] []) rfl]
  have h1 := F.called_set.notType
  have h2 := F.called_set.canCreate
  have hct := F.typeCall_set_1 (.ref l)
  repeat (any_goals (first | assumption | wp_step))
  refine codeAny_mono (code_set_led1 (.ref l) (E := E) (Q₁ := fun obj s₁ => obj = .ref s.heap.objs.size ∧ s₁ = { s with heap := s.heap.push { cls := .type "set", dict := none, data := .set #[] 0 (.fresh 0 0 (!w.params.followText "set-order")) } }) ⟨rfl, rfl⟩) fun r s₁ hr => ?_
  cases r with
  | error e => exact hr
  | ok fl =>
    cases fl with
    | ret obj =>
      obtain ⟨rfl, rfl⟩ := hr
      have hS : (s.heap.push { cls := .type "set", dict := none, data := .set #[] 0 (.fresh 0 0 (!w.params.followText "set-order")) }).get? s.heap.objs.size = some { cls := .type "set", dict := none, data := .set #[] 0 (.fresh 0 0 (!w.params.followText "set-order")) } := Heap.get?_push_size _ rfl
      have hT : Shared.TypeIs { s with heap := s.heap.push { cls := .type "set", dict := none, data := .set #[] 0 (.fresh 0 0 (!w.params.followText "set-order")) } } (.ref s.heap.objs.size) "set" := ⟨_, hS, rfl⟩
      have hli := F.called_set.init.lookup
      have hbi := F.called_set.init.bind (.ref s.heap.objs.size)
      repeat (any_goals (first | assumption | wp_step))
      refine codeAny_mono (codeAny_call_builtin (R := wants (fun r s₂ => r = .none ∧ ∃ h' tk c, s₂ = { s with heap := h', toks := tk } ∧ SetR w h' s.heap.objs.size (fun j => decide (j ∈ ns)) c ∧ c ≤ ns.length ∧
          (∀ b o, s.heap.get? b = some o → h'.get? b = some o)) E) F.called_set.init.plain F.entry_set_init (check_set_init_1 hT ?_)) fun r₂ s₂ hr₂ => ?_
      · obtain ⟨ol, hol, hcl, nl, hdl⟩ := hl
        obtain ⟨ocls, odict, odata, oslots⟩ := ol
        simp only at hcl hdl
        subst hcl; subst hdl
        have hol' : (s.heap.push { cls := .type "set", dict := none, data := .set #[] 0 (.fresh 0 0 (!w.params.followText "set-order")) }).get? l = some { cls := .type "list", dict := odict, data := .seq items nl, slots := oslots } := Heap.get?_push_of_some _ hol
        have hsls := F.sub_list_set
        have hslf := F.sub_list_frozenset
        have hne : (Value.type "list" == Value.type "dict") = false := by decide
        have hl1 : (s.heap.push { cls := .type "set", dict := none, data := .set #[] 0 (.fresh 0 0 (!w.params.followText "set-order")) }).IsList l items := ⟨_, hol', rfl, nl, rfl⟩
        unfold Builtin.«set.__init__» noKeywords Builtin.Frozenset.updateFrom
        generalize hPI : pyIter = PI
        wp_walk
        subst hPI
        refine wpAny_pyIter_list hl1 ?_
        refine wpAny_bind (wpAny_runValue ?_)
        have hlS : l < s.heap.objs.size := Heap.lt_size hol
        have hh3 : A.in1.in1.in1.handled = none := by simp [hh]
        have hneI : l ≠ (s.heap.push { cls := .type "set", dict := none, data := .set #[] 0 (.fresh 0 0 (!w.params.followText "set-order")) }).objs.size := by
          rw [Heap.size_push]; exact Nat.ne_of_lt (Nat.lt_succ_of_lt hlS)
        have hSf : s.heap.objs.size ∉ [(s.heap.push { cls := .type "set", dict := none, data := .set #[] 0 (.fresh 0 0 (!w.params.followText "set-order")) }).objs.size, l] := by
          rw [Heap.size_push]; simp only [List.mem_cons, List.mem_singleton, List.not_mem_nil, or_false, not_or]
          exact ⟨Nat.ne_of_lt (Nat.lt_succ_self _), Nat.ne_of_gt hlS⟩
        have hval : ∀ (i : Nat) (v : Value), items[i]? = some v → ∃ k t, ns[i]? = some k ∧ v = .int k t := fun i v hv => by
          have hi : i < ns.length := by rw [← hisz]; exact (Array.getElem?_eq_some_iff.mp hv).1
          obtain ⟨t, e⟩ := PyProof.Rows.IntsAre.int_at hit i v (by rw [Array.getElem?_toList]; exact hv)
          refine ⟨ns[i], t, List.getElem?_eq_getElem hi, ?_⟩
          rw [e, List.getD_eq_getElem?_getD, List.getElem?_eq_getElem hi] <;> rfl
        refine set_update_ints ((Walks.list hh3 _ l hneI items).toS) s.heap.objs.size
          hSf ns hisz hb hval (items.size - 0) 0 _ (by omega) (Nat.zero_le _)
          ⟨⟨_, Heap.get?_push_size _ rfl, rfl, rfl⟩, (hl1.push _)⟩ ?hS0 ?hR
        case hS0 =>
          have hget : ((s.heap.push { cls := .type "set", dict := none, data := .set #[] 0 (.fresh 0 0 (!w.params.followText "set-order")) }).push { cls := .type "list_iterator", data := .fields #[.ref l, .int 0 0] }).get? s.heap.objs.size
              = some { cls := .type "set", dict := none, data := .set #[] 0 (.fresh 0 0 (!w.params.followText "set-order")) } := Heap.get?_push_of_some _ hS
          exact ⟨0, Nat.le_refl 0, setR_new_at hget⟩
        case hR =>
          intro s' c' hm hc' hS'
          obtain ⟨h', g2, d', tk', os'⟩ := s'
          have eg : g2 = s.gens := hm.gens
          have ed : d' = s.drawn := hm.drawn
          have eo : os' = s.os := hm.os
          subst eg; subst ed; subst eo
          show wpAny _ _ _ _ _ _
          refine wpAny_pure ?_
          show wpAny _ _ (ret Value.none) _ _ _
          rw [hisz] at hc'
          refine wpAny_pure ⟨rfl, h', tk', c', rfl, hS', hc', fun b o e => ?_⟩
          have hb0 : b < s.heap.objs.size := Heap.lt_size e
          have hb1 : b ≠ s.heap.objs.size := Nat.ne_of_lt hb0
          have hb2 : b ≠ (s.heap.push { cls := .type "set", dict := none, data := .set #[] 0 (.fresh 0 0 (!w.params.followText "set-order")) }).objs.size := by
            rw [Heap.size_push]; exact Nat.ne_of_lt (Nat.lt_succ_of_lt hb0)
          exact hm.heap b o (by simp only [List.mem_cons, List.mem_singleton, List.not_mem_nil, or_false, not_or]; exact ⟨hb1, hb2⟩) (Heap.get?_push_of_some _ (Heap.get?_push_of_some _ e))
      · cases r₂ with
        | error e => exact hr₂
        | ok fl₂ =>
          cases fl₂ with
          | ret r =>
            obtain ⟨rfl, h', tk, c', rfl, hS', hc', hk'⟩ := hr₂
            repeat (any_goals (first | assumption | wp_step))
            exact h _ _ _ hS' hc' hk'
          | _ => exact hr₂.elim
    | _ => exact hr.elim
/-- sorted(s), a set of ints, any number of them -/
theorem sorted_setI {a : Addr} {S : Int → Bool} {n : Nat} {Q : Value → Shared → Prop} (R : SetR w s.heap a S n) (hh : A.handled = none)
    (hQ : ∀ s' p (out : Array Value) (c : Nat) (ns : List Int), (∀ b o, s.heap.get? b = some o → s'.heap.get? b = some o) → s'.gens = s.gens → s'.os = s.os → s.heap.objs.size ≤ p →
      s'.heap.get? p = some (seqObj "list" out c) → IntsAre out.toList ns → ns.Pairwise (· < ·) → (∀ k, k ∈ ns ↔ S k = true) → ns.length = n → Q (.ref p) s') :
    wpAny (model P w) A (call (.builtin "sorted") [.ref a]) Q E s := by
  obtain ⟨o, es, ep, t, ho, hex, hd, g, nd, hm, hb, hf, hn, hr, hl⟩ := R
  refine Calls.call_function_entry kind_sorted plain_sorted entry_sorted (args_sorted1 _) ?_
  unfold Builtin.«sorted»
  refine wpAny_bind (m := checkCount "sorted" 1 1 _) (wpAny_pure ?_)
  refine wpAny_bind (collect_set (A := A.in1) hh ⟨o, ho, hex.1, hd⟩ hf hb hr hl fun s1 vs k1 hz g1 o1 pm => ?_)
  have hvl : vs.length = n := by rw [pm.length_eq, List.length_map, Array.length_toList]; exact hn
  have hsb : n < scanBound := by rw [← hn]; exact hb
  have hzl : vs.length ≤ sizeLine := by rw [hvl]; exact Nat.le_of_lt (Nat.lt_of_lt_of_le hsb (by decide))
  have hI : IntsAre vs (vs.map SrtO.iv) := SrtO.ints_iv fun v hv => by
    obtain ⟨e, he, q⟩ := List.mem_map.mp (pm.mem_iff.mp hv)
    obtain ⟨k, tk, h1, _⟩ := g e he
    exact ⟨k, tk, by rw [← q]; exact h1⟩
  have kv : ∀ e : Int × Value, keyOf e = SrtO.iv e.2 := fun e => by
    unfold keyOf SrtO.iv
    cases e.2 <;> rfl
  have pk : (vs.map SrtO.iv).Perm (es.toList.map keyOf) := by
    have q := pm.map SrtO.iv
    rw [List.map_map] at q
    rw [show keyOf = SrtO.iv ∘ (·.2) from funext kv]
    exact q
  refine wpAny_bind (wpAny_newList ?_ hzl)
  have hoL : (s1.heap.push (seqObj "list" vs.toArray 0)).get? s1.heap.objs.size = some (seqObj "list" vs.toArray 0) := Heap.get?_push_size _ rfl
  refine wpAny_bind (wpAny_holding (wpAny_call_entry slot_list_sort ⟨_, hoL, rfl⟩ entry_list_sort
    (SrtO.list_sort_ord SrtO.swo_int hoL hzl (fun h2 => SrtO.ints_sortable hI h2) fun out h1 h2 => ⟨.none, rfl, ?_⟩) (args_list_sort _)))
  obtain ⟨c, hc⟩ := sortedHeap_at (vs := vs) (out := out.toArray) hoL
  obtain ⟨q1, q2, q3⟩ := SrtO.ints_out hI h1 h2
  have pn : (out.map SrtO.iv).Perm (es.toList.map keyOf) := q2.trans pk
  refine wpAny_pure ⟨_, rfl, hQ _ s1.heap.objs.size out.toArray c (out.map SrtO.iv) (fun b u e => ?_) g1 o1 hz hc q1 (lt_of_le_nodup _ q3 (pn.nodup_iff.mpr nd)) (fun k => by rw [pn.mem_iff, ← hm k]) ?_⟩
  · have q := k1 b u e
    have hlt := Heap.lt_size q
    show (sortedHeap (s1.heap.push (seqObj "list" vs.toArray 0)) s1.heap.objs.size vs out.toArray).get? b = some u
    rw [sortedHeap_old (Nat.ne_of_lt hlt) (by rw [size_push']; exact Nat.lt_succ_of_lt hlt)]
    exact Heap.get?_push_of_some _ q
  · rw [pn.length_eq, List.length_map, Array.length_toList]; exact hn
end
section
variable {X : Cx}
def rSetI (K : PySem.W.Frag) (w : World) : List V → Hp → VK → Prop := fun xs H Q => ∃ (l : Addr) (ns : List Int), xs = [V.ref l] ∧ (SqL K H l (ns.map V.int) ∨ SqT K H l (ns.map V.int)) ∧ ns.length ≤ 3000 ∧
  ∀ p c, H p = none → Q (.ref p) (upd H p (SetO w p (fun j => decide (j ∈ ns)) c))
theorem cr_setI (hc : X.calm = true) : CallR X (.type "set") (rSetI X.K X.w) := by
  intro pins s σ H xs us Q I r h
  obtain ⟨l, ns, rfl, hs, hn, q⟩ := h
  rw [Vals.ref1 r]
  have hn' : ns.length + 1 < scanBound := Nat.lt_of_le_of_lt (Nat.succ_le_succ hn) (by decide)
  rcases hs with hs | hs
  · obtain ⟨its, rv, hl, _⟩ := I.list hs
    refine call_set_lstI ns (I.ok.hd hc) hl.isList (by simpa using rv.ints) hn' fun h' tk c R _ k => ?_
    exact ⟨.ref _, upd H s.heap.objs.size (SetO X.w s.heap.objs.size (fun j => decide (j ∈ ns)) c), I.laid (t' := tk) k (Nat.le_refl _) (setO_new R), rfl, q _ c (I.hok.fresh (Nat.le_refl _))⟩
  · obtain ⟨its, rv, hl, _⟩ := I.tuple hs
    refine call_set_tupI ns (I.ok.hd hc) hl (by simpa using rv.ints) hn' fun h' tk c R _ k => ?_
    exact ⟨.ref _, upd H s.heap.objs.size (SetO X.w s.heap.objs.size (fun j => decide (j ∈ ns)) c), I.laid (t' := tk) k (Nat.le_refl _) (setO_new R), rfl, q _ c (I.hok.fresh (Nat.le_refl _))⟩
def rSortedSetI (w : World) : List V → Hp → VK → Prop := fun vs H Q => ∃ (a : Addr) (S : Int → Bool) (n : Nat), vs = [V.ref a] ∧ H a = some (SetO w a S n) ∧
  ∀ (ns : List Int) (p : Addr), ns.Pairwise (· < ·) → (∀ k, k ∈ ns ↔ S k = true) → H p = none → Q (.ref p) (upd H p (.lst (ns.map V.int)))
theorem cr_sortedSetI (hc : X.calm = true) : CallR X (.builtin "sorted") (rSortedSetI X.w) := by
  intro pins s σ H vs us Q I r h
  obtain ⟨a, S, n, rfl, ha, q⟩ := h
  have R := setO_get I ha
  rw [Vals.ref1 r]
  have hnb : n < scanBound := by
    obtain ⟨o, es, ep, t, ho, hex, hd, g, nd, hm, hb, hf, hn, hr, hl⟩ := R
    rw [← hn]; exact hb
  refine sorted_setI R (I.ok.hd hc) fun s' p out c ns k g o hp hg hi hs hm hl => ?_
  have hlen : (ns.map V.int).length ≤ sizeLine := by rw [List.length_map, hl]; exact Nat.le_of_lt (Nat.lt_of_lt_of_le hnb (by decide))
  have hn : H p = none := I.hok.fresh hp
  have J : Inv X pins σ (upd H p (.lst (ns.map V.int))) { s with heap := s'.heap, gens := s'.gens, drawn := s'.drawn, toks := s'.toks } :=
    I.call (ch := []) (Un.laid k hp hn) (I.hok.laid k hp ⟨hlen, out.toList, c, vals_of_ints hi, hg⟩) (by rw [g]; exact I.bare) (fun _ z => nomatch z)
  have e : s' = { s with heap := s'.heap, gens := s'.gens, drawn := s'.drawn, toks := s'.toks } := by
    cases s'
    cases s
    cases o
    rfl
  rw [e]
  exact ⟨.ref p, _, J, rfl, q ns p hs hm hn⟩
end
end L2
namespace DL
open PySem PySem.Spec PyProof.Rows L2
section
variable {X : Cx} {W : WX} {k : Nat} {a b c e lo hi : Expr} {oa ob oc : Opd} {pos pos' p p2 : Pos} {x : Str} {id T : String}
/-- the ints of a list, each once, ascending -/
def once : List Int → List Int
  | [] => []
  | x :: xs => if decide (x ∈ xs) then once xs else x :: once xs
theorem once_mem {k : Int} : ∀ {xs : List Int}, k ∈ once xs ↔ k ∈ xs
  | [] => Iff.rfl
  | x :: xs => by
    unfold once
    have ih := @once_mem k xs
    split
    · rename_i h
      have h := of_decide_eq_true h
      rw [ih, List.mem_cons]
      exact ⟨.inr, fun q => q.elim (fun e => e ▸ h) id⟩
    · rw [List.mem_cons, List.mem_cons, ih]
theorem once_nodup : ∀ xs : List Int, (once xs).Nodup
  | [] => List.nodup_nil
  | x :: xs => by
    unfold once
    split
    · exact once_nodup xs
    · rename_i h
      refine List.nodup_cons.mpr ⟨fun q => h (decide_eq_true (once_mem.mp q)), once_nodup xs⟩
def usort (is : List Int) : List Int := (once is).mergeSort fun x y => decide (x ≤ y)
theorem usort_perm (is : List Int) : (usort is).Perm (once is) := List.mergeSort_perm _ _
theorem usort_mem {is : List Int} {k : Int} : k ∈ usort is ↔ k ∈ is := by
  rw [(usort_perm is).mem_iff, once_mem]
theorem usort_lt (is : List Int) : (usort is).Pairwise (· < ·) := by
  have h : (usort is).Pairwise fun x y => decide (x ≤ y) = true := List.pairwise_mergeSort (by intro a b c; simp; omega) (by intro a b; simp; omega) _
  have n : (usort is).Nodup := (usort_perm is).nodup_iff.mpr (once_nodup is)
  refine List.Pairwise.imp₂ ?_ h n
  intro a b h1 h2
  have := of_decide_eq_true h1
  omega
theorem lt_one : ∀ {a b : List Int}, a.Pairwise (· < ·) → b.Pairwise (· < ·) → (∀ k, k ∈ a ↔ k ∈ b) → a = b := by
  intro a b ha hb h
  refine sorted_one ((List.perm_ext_iff_of_nodup (ha.imp fun h => Int.ne_of_lt h) (hb.imp fun h => Int.ne_of_lt h)).mpr h) (ha.imp fun h => Int.le_of_lt h) (hb.imp fun h => Int.le_of_lt h)
def gUsort (d : D) : Option (List D) := match asSeq d with
  | some ds => match intsD ds with
    | some is => if decide (is.length ≤ 3000) then some ((usort is).map .int) else none
    | none => none
  | none => none
theorem gUsort_some {d : D} {es : List D} (h : gUsort d = some es) : ∃ ds is, asSeq d = some ds ∧ intsD ds = some is ∧ is.length ≤ 3000 ∧ es = (usort is).map .int := by
  unfold gUsort at h
  split at h
  · rename_i ds h1
    split at h
    · rename_i is h2
      split at h
      · rename_i h3
        cases h
        exact ⟨ds, is, h1, h2, of_decide_eq_true h3, rfl⟩
      · cases h
    · cases h
  · cases h
/-- sorted(set(xs)), ints -/
theorem df_usort {py : Pos} (hc : X.calm = true) (ms : X.mg "sorted" = none) (mt : X.mg "set" = none) (ha : DO X W a oa) (hgs : Gl X "sorted" := by rfl) (hgt : Gl X "set" := by rfl)
    (hs : starEach [a] X.env = (false, eval a X.env) :: starEach [] X.env := by rfl) (hpl : (backTo pos' (starEach [] X.env)).any (·.1) = false := by rfl)
    (hs' : starEach [Expr.Call (.Name "set" py) [a] [] pos'] X.env = (false, eval (Expr.Call (.Name "set" py) [a] [] pos') X.env) :: starEach [] X.env := by rfl) (hpl' : (backTo pos (starEach [] X.env)).any (·.1) = false := by rfl) :
    DF X W (.Call (.Name "sorted" p) [.Call (.Name "set" py) [a] [] pos'] [] pos) (fNew (e1 gUsort oa)) := by
  have inner : PE X (.Call (.Name "set" py) [a] [] pos') (tCB (rSetI X.K X.w) (tCons (rO (ctOf X) W oa) tNil)) := pe_callTy (cr_setI hc) hgt mt (by decide +kernel) (pa_cons ha pa_nil hs) (by decide) (by decide) hs hpl
  refine pe_imp (pe_callB (id := "sorted") (cr_sortedSetI hc) hgs ms (by decide +kernel) (pa_cons inner pa_nil hs') (by decide) (by decide) hs' hpl') fun σ H Q ⟨B, Z, as, s, I, h⟩ => ?_
  refine rO_mono (rO1 I (After.bind h)) fun v H1 ⟨Z1, as1, s1, dx, es, I1, E1, P1, rx, e, q⟩ => ?_
  obtain ⟨ds, is, e1, e2, e3, rfl⟩ := gUsort_some e
  obtain ⟨p1, vs, rfl, h1, h2⟩ : ∃ p vs, v = .ref p ∧ (SqL X.K H1 p vs ∨ SqT X.K H1 p vs) ∧ Reps (ctOf X) Z1 vs ds := by
    cases dx with
    | list ds' => cases e1; obtain ⟨p, xs, rfl, h1, h2⟩ := rx.list I1.zh; exact ⟨p, xs, rfl, .inl h1, h2⟩
    | tuple ds' => cases e1; obtain ⟨p, xs, rfl, h1, h2⟩ := rx.tuple I1.zh; exact ⟨p, xs, rfl, .inr h1, h2⟩
    | _ => cases e1
  refine ⟨p1, is, rfl, by rw [← ints_rep h2 e2]; exact h1, e3, fun p2 c np => ?_⟩
  have hz := fun (o : HO) => I1.fresh (p := p2) (o := o) np
  refine ⟨p2, _, c, rfl, upd_same, fun ns p3 hp hm np3 => ?_⟩
  have hns : ns = usort is := lt_one hp (usort_lt is) fun k => by rw [hm, usort_mem]; simp
  rw [hns]
  have I2 := hz (SetO X.w p2 (fun j => decide (j ∈ is)) c)
  have I3 := I2.fresh (p := p3) (o := .lst ((usort is).map V.int)) np3
  exact q _ _ _ I3 .refl (List.prefix_refl _) _ ⟨p3, _, rfl, I2.zh.free np3, I2.bh.free np3, I2.free_new np3, upd_same, repsI _⟩
end
end DL

/-! DLZ: lists repeated, signs of a text, int(text), max and min of a list, list(range), a written dict that is asked at once. -/
namespace DL
open PySem PySem.Spec PyProof.Rows L2
section
variable {X : Cx} {W : WX} {k : Nat} {a b c e lo hi : Expr} {oa ob oc : Opd} {fa fb : DM D} {pos pos' p p2 : Pos} {x : Str} {id T : String}
/-! ### [..] * n -/
def repK (g : DM D) (r : RV) : DM RV := match r with
  | .fl ds => bindM g fun d => match d with
    | .int n => if decide (0 ≤ n) && decide (n ≤ 1000) && decide (ds.length ≤ 1000) then pureM (.fl (List.replicate n.toNat ds).flatten) else badM
    | _ => badM
  | _ => badM
def fRep (f : DM RV) (g : DM D) : DM RV := bindM f (repK g)
theorem reps_rep {C : Ct} {Z : Hp} {vs : List V} {ds : List D} (r : Reps C Z vs ds) : ∀ n : Nat, Reps C Z (List.replicate n vs).flatten (List.replicate n ds).flatten
  | 0 => .nil
  | n + 1 => by
    rw [List.replicate_succ, List.replicate_succ, List.flatten_cons, List.flatten_cons]
    exact Reps.app r (reps_rep r n)
theorem df_rep {f : DM RV} {g : DM D} (hf : DF X W a f) (hg : DE X W b g) : DF X W (.BinOp a .Mult b pos) (fRep f g) := by
  refine pe_imp (pe_op op_rep hf hg) fun σ H Q ⟨B, Z, as, s, I, h⟩ => ?_
  refine ⟨B, Z, as, s, I, (After.bind h).imp fun r s1 H1 Z1 as1 I1 E1 P1 h1 v rv => ?_⟩
  cases r with
  | fl ds =>
    obtain ⟨p, xs, rfl, nz, nb, hf, hp, hr'⟩ := rv
    refine ⟨upd B p (.lst xs), Z1, as1, s1, I1.hold hp nz nb hf, (After.hold (After.bind h1) nz nb).imp fun d s2 H2 Z2 as2 I2 E2 P2 ⟨h2, J1, J2, J3, J4, J5, J6⟩ u ru => ?_⟩
    cases d with
    | int n =>
      dsimp only at h2
      split at h2
      · rename_i hc
        have hc : (0 ≤ n ∧ n ≤ 1000) ∧ ds.length ≤ 1000 := by simpa using hc
        obtain rfl : u = .int n := by cases ru; rfl
        have hl := hr'.length
        refine ⟨p, n, xs, rfl, rfl, J5, by omega, by omega, ?_, fun q np => ?_⟩
        · have h3 : n.toNat ≤ 1000 := by omega
          exact Nat.le_trans (Nat.mul_le_mul (show xs.length ≤ 1000 by omega) h3) (by decide)
        · exact After.pure h2 (J1.fresh np) _ ⟨q, _, rfl, J1.zh.free np, J1.bh.free np, J1.free_new np, upd_same, reps_rep (hr'.mono J2.same) _⟩
      · exact h2.elim
    | _ => exact h2.elim
  | _ => exact h1.elim
/-! ### signs of a text, int(text) -/
def gIxS : D → D → Option D
  | .str z, .int i => if cutOk z then (atI z.cps.toList i).map fun c => .str ⟨#[c]⟩ else none
  | _, _ => none
theorem de_ixS (ha : DO X W a oa) (hb : DO X W b ob) (hs : PlainIx b := by exact fun _ _ => rfl) : DE X W (.Subscript a b pos) (e2 gIxS oa ob) := by
  refine pe_imp (pe_ix ix_str ha hb hs) fun _ _ _ h => rD_op (r := rIxS) (g := gIxS) ?_ h
  intro Z H x y dx dy d Q rx ry zh e q
  cases dx with
  | str z =>
    cases dy with
    | int i =>
      unfold gIxS at e
      dsimp only at e
      split at e
      · rename_i hc
        cases e2 : atI z.cps.toList i with
        | none => rw [e2] at e; cases e
        | some c =>
          rw [e2] at e; cases e
          exact ⟨z, i, c, rx.str, ry.int, Nat.le_trans (of_decide_eq_true hc) (by decide), e2, q _ (.str _)⟩
      · cases e
    | _ => cases e
  | _ => cases e
def gIntS : D → Option D
  | .str z => if decide (z.length ≤ 640) then (PySem.intText? z).map .int else none
  | _ => none
theorem of_intS : OfC1 (ctOf X) (fun xs H Q => ∃ a n, xs = [.str a] ∧ PySem.intText? a = some n ∧ a.length ≤ 640 ∧ Q (.int n) H) gIntS := by
  intro Z H x dx d Q rx zh e q
  cases dx with
  | str z =>
    unfold gIntS at e
    dsimp only at e
    split at e
    · rename_i hc
      cases e2 : PySem.intText? z with
      | none => rw [e2] at e; cases e
      | some n =>
        rw [e2] at e; cases e
        exact ⟨z, n, by rw [rx.str], e2, of_decide_eq_true hc, q _ (.int _)⟩
    · cases e
  | _ => cases e
/-! ### max, min of a list of ints -/
def mxI : List Int → Option Int
  | [] => none
  | x :: xs => some (xs.foldl (fun a b => if b > a then b else a) x)
def mnI : List Int → Option Int
  | [] => none
  | x :: xs => some (xs.foldl (fun a b => if b < a then b else a) x)
theorem foldl_mx : ∀ (xs : List Int) (x : Int), (xs.foldl (fun a b => if b > a then b else a) x = x ∨ xs.foldl (fun a b => if b > a then b else a) x ∈ xs) ∧ x ≤ xs.foldl (fun a b => if b > a then b else a) x ∧ ∀ y, y ∈ xs → y ≤ xs.foldl (fun a b => if b > a then b else a) x
  | [], x => ⟨.inl rfl, Int.le_refl _, fun _ h => by simp at h⟩
  | z :: xs, x => by
    rw [List.foldl_cons]
    obtain ⟨h1, h2, h3⟩ := foldl_mx xs (if z > x then z else x)
    have h4 : x ≤ (if z > x then z else x) ∧ z ≤ (if z > x then z else x) := by split <;> omega
    refine ⟨?_, by omega, fun y hy => ?_⟩
    · rcases h1 with h1 | h1
      · rw [h1]
        split
        · exact .inr List.mem_cons_self
        · exact .inl rfl
      · exact .inr (List.mem_cons_of_mem _ h1)
    · rcases List.mem_cons.mp hy with rfl | hy
      · omega
      · exact h3 y hy
theorem foldl_mn : ∀ (xs : List Int) (x : Int), (xs.foldl (fun a b => if b < a then b else a) x = x ∨ xs.foldl (fun a b => if b < a then b else a) x ∈ xs) ∧ xs.foldl (fun a b => if b < a then b else a) x ≤ x ∧ ∀ y, y ∈ xs → xs.foldl (fun a b => if b < a then b else a) x ≤ y
  | [], x => ⟨.inl rfl, Int.le_refl _, fun _ h => by simp at h⟩
  | z :: xs, x => by
    rw [List.foldl_cons]
    obtain ⟨h1, h2, h3⟩ := foldl_mn xs (if z < x then z else x)
    have h4 : (if z < x then z else x) ≤ x ∧ (if z < x then z else x) ≤ z := by split <;> omega
    refine ⟨?_, by omega, fun y hy => ?_⟩
    · rcases h1 with h1 | h1
      · rw [h1]
        split
        · exact .inr List.mem_cons_self
        · exact .inl rfl
      · exact .inr (List.mem_cons_of_mem _ h1)
    · rcases List.mem_cons.mp hy with rfl | hy
      · omega
      · exact h3 y hy
theorem mxI_spec {xs : List Int} {m : Int} (h : mxI xs = some m) : m ∈ xs ∧ ∀ y, y ∈ xs → y ≤ m := by
  cases xs with
  | nil => cases h
  | cons x xs =>
    cases h
    obtain ⟨h1, h2, h3⟩ := foldl_mx xs x
    refine ⟨?_, fun y hy => ?_⟩
    · rcases h1 with h1 | h1
      · rw [h1]; exact List.mem_cons_self
      · exact List.mem_cons_of_mem _ h1
    · rcases List.mem_cons.mp hy with rfl | hy
      · exact h2
      · exact h3 y hy
theorem mnI_spec {xs : List Int} {m : Int} (h : mnI xs = some m) : m ∈ xs ∧ ∀ y, y ∈ xs → m ≤ y := by
  cases xs with
  | nil => cases h
  | cons x xs =>
    cases h
    obtain ⟨h1, h2, h3⟩ := foldl_mn xs x
    refine ⟨?_, fun y hy => ?_⟩
    · rcases h1 with h1 | h1
      · rw [h1]; exact List.mem_cons_self
      · exact List.mem_cons_of_mem _ h1
    · rcases List.mem_cons.mp hy with rfl | hy
      · exact h2
      · exact h3 y hy
def gMaxL : D → Option D
  | .list ds => (intsD ds).bind fun is => (mxI is).map .int
  | _ => none
def gMinL : D → Option D
  | .list ds => (intsD ds).bind fun is => (mnI is).map .int
  | _ => none
theorem of_maxL : OfC1 (ctOf X) (rMax X.K) gMaxL := by
  intro Z H x dx d Q rx zh e q
  cases dx with
  | list ds =>
    unfold gMaxL at e
    dsimp only at e
    cases e1 : intsD ds with
    | none => rw [e1] at e; cases e
    | some is =>
      rw [e1] at e
      change Option.map _ _ = _ at e
      cases e2 : mxI is with
      | none => rw [e2] at e; cases e
      | some m =>
        rw [e2] at e; cases e
        obtain ⟨p, vs, rfl, h1, h2⟩ := rx.list zh
        obtain ⟨m1, m2⟩ := mxI_spec e2
        refine ⟨p, is, rfl, by rw [← ints_rep h2 e1]; exact h1, List.length_pos_of_mem m1, fun m' h3 h4 => ?_⟩
        have : m' = m := by
          have := h4 m m1
          have := m2 m' h3
          omega
        rw [this]
        exact q _ (.int _)
  | _ => cases e
theorem of_minL : OfC1 (ctOf X) (rMin X.K) gMinL := by
  intro Z H x dx d Q rx zh e q
  cases dx with
  | list ds =>
    unfold gMinL at e
    dsimp only at e
    cases e1 : intsD ds with
    | none => rw [e1] at e; cases e
    | some is =>
      rw [e1] at e
      change Option.map _ _ = _ at e
      cases e2 : mnI is with
      | none => rw [e2] at e; cases e
      | some m =>
        rw [e2] at e; cases e
        obtain ⟨p, vs, rfl, h1, h2⟩ := rx.list zh
        obtain ⟨m1, m2⟩ := mnI_spec e2
        refine ⟨p, is, rfl, by rw [← ints_rep h2 e1]; exact h1, List.length_pos_of_mem m1, fun m' h3 h4 => ?_⟩
        have : m' = m := by
          have := h4 m m1
          have := m2 m' h3
          omega
        rw [this]
        exact q _ (.int _)
  | _ => cases e
/-! ### {k: e, ..}.get(y, z): the keys are written texts -/
def eVals : List (Str × DM D) → DM (List (Str × D))
  | [] => pureM []
  | (x, f) :: r => bindM f fun d => bindM (eVals r) fun ps => pureM ((x, d) :: ps)
/-- the last one counts -/
def lookL : List (Str × D) → Str → Option D → Option D
  | [], _, o => o
  | (x, d) :: r, y, o => lookL r y (if y = x then some d else o)
inductive PairsOk (X : Cx) (W : WX) : List (Option Expr) → List Expr → List (Str × DM D) → Prop
  | nil : PairsOk X W [] [] []
  | cons {x : Str} {q : Pos} {j : Nat} {v : Expr} {f : DM D} {ks : List (Option Expr)} {vs : List Expr} {r : List (Str × DM D)} : DE X W v f → PairsOk X W ks vs r → PairsOk X W (some (.Constant (.str x) j q) :: ks) (v :: vs) ((x, f) :: r)
def trsOf (C : Ct) (W : WX) (r : List (Str × DM D)) : List (TE × TE) := r.map fun p => (tC (.str p.1), rD C W p.2)
theorem PairsOk.pps {ks : List (Option Expr)} {vs : List Expr} {r : List (Str × DM D)} (h : PairsOk X W ks vs r) : PPs X pos ks vs (trsOf (ctOf X) W r) ∧ ks.all (·.isSome) = true ∧ ks.length = vs.length ∧ ks.length = r.length := by
  induction h with
  | nil => exact ⟨pps_nil, rfl, rfl, rfl⟩
  | cons hv _ ih => exact ⟨pps_cons pe_str hv ih.1, by rw [List.all_cons, ih.2.1]; rfl, by rw [List.length_cons, List.length_cons, ih.2.2.1], by rw [List.length_cons, List.length_cons, ih.2.2.2]⟩
theorem tPairs_of {C : Ct} {B : Hp} {σ : St} : ∀ {r : List (Str × DM D)} {Z H : Hp} {as : List Addr} {s : S} {Q : List (V × V) → Hp → Prop}, SR C B Z σ H as s →
    After C W B Z as σ (fun ps s' H' Z' as' => ∀ vs, Reps C Z' vs (ps.map (·.2)) → Q ((ps.map (·.1)).zipWith (fun (x : Str) (v : V) => (V.str x, v)) vs) H') (eVals r s) → tPairs (trsOf C W r) σ H Q
  | [], Z, H, as, s, Q, I, h => After.pure h I [] .nil
  | (x, f) :: r, Z, H, as, s, Q, I, h => ⟨B, Z, as, s, I, (After.bind h).imp fun d s1 H1 Z1 as1 I1 E1 P1 h1 v rv =>
      tPairs_of (r := r) I1 ((After.bind h1).imp fun ps s2 H2 Z2 as2 I2 E2 P2 h2 vs rvs => After.pure h2 I2 (v :: vs) (.cons (rv.mono E2.same) rvs))⟩
def dgetK (kvs : List (Str × DM D)) (fe ff : DM D) : DM D := bindM (eVals kvs) fun ps => if decide (ps.length ≤ 15) then bindM fe fun y => bindM ff fun z => match y with
  | .str x => pureM ((lookL ps x none).getD z)
  | _ => badM else badM
theorem look_val {C : Ct} {Z : Hp} : ∀ {ps : List (Str × D)} {vs : List V} (acc : List (Key × V)) (o : Option D) (y : Str), Reps C Z vs (ps.map (·.2)) →
    (match valV acc (.inr y), o with | some v, some d => Rep C Z v d | none, none => True | _, _ => False) →
    (match valV (mergeK acc ((ps.map (·.1)).zipWith (fun (x : Str) (v : V) => ((.inr x : Key), v)) vs)) (.inr y), lookL ps y o with | some v, some d => Rep C Z v d | none, none => True | _, _ => False)
  | [], vs, acc, o, y, r, h => by cases r; exact h
  | (x, d) :: ps, _, acc, o, y, r, h => by
    cases r with
    | @cons v vs _ _ rv rvs =>
      refine look_val (ps := ps) (vs := vs) (L2.putK acc (.inr x) v) (if y = x then some d else o) y rvs ?_
      rw [valV_put]
      by_cases e : y = x
      · rw [if_pos e, if_pos (by rw [e])]; exact rv
      · rw [if_neg e, if_neg (fun q => e (Sum.inr.inj q))]; exact h
theorem de_dget2 {ks : List (Option Expr)} {vs : List Expr} {r : List (Str × DM D)} {dpos apos : Pos} (hu : X.A.units + 1 < cLine) (h : PairsOk X W ks vs r) (he : DE X W a fa) (hf : DE X W b fb) (h0 : decide (r.length ≤ 15) && !r.isEmpty = true) (m : M2 X (.Dict ks vs dpos) "get" apos a b pos) :
    DE X W (.Call (.Attribute (.Dict ks vs dpos) "get" apos) [a, b] [] pos) (dgetK r fa fb) := by
  obtain ⟨k1, k2, k3, k4⟩ := h.pps (pos := dpos)
  have h0 : r.length ≤ 15 ∧ r ≠ [] := by
    have := h0
    rw [Bool.and_eq_true, decide_eq_true_iff] at this
    exact ⟨this.1, fun e => by rw [e] at this; exact absurd this.2 (by decide)⟩
  refine pe_imp (pe_dget2 hu (pe_disp k1 k2 k3 (fun e => h0.2 (List.eq_nil_of_length_eq_zero (by rw [← k4, e]; rfl))) (by rw [k4]; exact h0.1)) he hf m) fun σ H Q ⟨B, Z, as, s, I, h⟩ => ?_
  intro p np
  have I0 : SR (ctOf X) B Z σ (upd H p (.dK [])) as s := I.fresh np
  have nz : Z p = none := I.zh.free np
  have nb : B p = none := I.bh.free np
  have hp : (upd H p (.dK [])) p = some (.dK []) := upd_same
  have hfr : Free σ as s p := I.free_new np
  refine tPairs_of (B := upd B p (.dK [])) (I0.hold hp nz nb hfr) ((After.hold (After.bind h) nz nb).imp fun ps s1 H1 Z1 as1 I1 E1 P1 ⟨h1, J1, J2, J3, J4, J5, J6⟩ ws rws => ?_)
  have hlen := rws.length
  split at h1
  case isFalse => exact h1.elim
  rename_i hps
  have hps : ps.length ≤ 15 := of_decide_eq_true hps
  refine ⟨J5, (ps.map (·.1)).zipWith (fun (x : Str) (v : V) => ((.inr x : Key), v)) ws, ?_, ?_, ?_⟩
  · rw [List.map_zipWith]; rfl
  · rw [List.length_zipWith, List.length_map]; omega
  · generalize hK : (HO.dK (mergeK [] _)) = o
    have I2 : SR (ctOf X) B Z1 σ (upd H1 p o) as1 s1 := J1.poke J4 nb J6
    have hp2 : (upd H1 p o) p = some o := upd_same
    refine ⟨p, rfl, .inl ⟨_, .inl (by rw [hp2, ← hK])⟩, upd B p o, Z1, as1, s1, I2.hold hp2 J4 nb J6, (After.hold (After.bind h1) J4 nb).imp fun y s2 H2 Z2 as2 I2 E2 P2 ⟨h2, g1, g2, g3, g4, g5, g6⟩ u ru => ?_⟩
    refine ⟨upd B p o, Z2, as2, s2, g1.hold g5 g4 nb g6, (After.hold (After.bind h2) g4 nb).imp fun z s3 H3 Z3 as3 I3 E3 P3 ⟨h3, m1, m2, m3, m4, m5, m6⟩ t rt => ?_⟩
    cases y with
    | str x =>
      obtain rfl : u = .str x := by cases ru; rfl
      refine ⟨_, .inl ⟨_, .inr x, .inl (by rw [m5, ← hK]), rfl, rfl⟩, ?_⟩
      have hl := look_val (C := ctOf X) (Z := Z3) (ps := ps) (vs := ws) [] none x (rws.mono (g2.same.trans m2.same)) True.intro
      refine After.pure h3 m1 _ ?_
      revert hl
      generalize L2.valV (mergeK [] _) (Sum.inr x : Key) = q1
      generalize lookL _ _ _ = q2
      cases q1 <;> cases q2 <;> intro hl
      · exact rt
      · exact hl.elim
      · exact hl.elim
      · exact hl
    | _ => exact h3.elim
def dgetK1 (kvs : List (Str × DM D)) (fe : DM D) : DM D := bindM (eVals kvs) fun ps => if decide (ps.length ≤ 15) then bindM fe fun y => match y with
  | .str x => pureM ((lookL ps x none).getD .none)
  | _ => badM else badM
theorem de_dget1 {ks : List (Option Expr)} {vs : List Expr} {r : List (Str × DM D)} {dpos apos : Pos} (hu : X.A.units + 1 < cLine) (h : PairsOk X W ks vs r) (he : DE X W a fa) (h0 : decide (r.length ≤ 15) && !r.isEmpty = true) (m : M1 X (.Dict ks vs dpos) "get" apos a pos) :
    DE X W (.Call (.Attribute (.Dict ks vs dpos) "get" apos) [a] [] pos) (dgetK1 r fa) := by
  obtain ⟨k1, k2, k3, k4⟩ := h.pps (pos := dpos)
  have h0 : r.length ≤ 15 ∧ r ≠ [] := by
    have := h0
    rw [Bool.and_eq_true, decide_eq_true_iff] at this
    exact ⟨this.1, fun e => by rw [e] at this; exact absurd this.2 (by decide)⟩
  refine pe_imp (pe_dget1 hu (pe_disp k1 k2 k3 (fun e => h0.2 (List.eq_nil_of_length_eq_zero (by rw [← k4, e]; rfl))) (by rw [k4]; exact h0.1)) he m) fun σ H Q ⟨B, Z, as, s, I, h⟩ => ?_
  intro p np
  have I0 : SR (ctOf X) B Z σ (upd H p (.dK [])) as s := I.fresh np
  have nz : Z p = none := I.zh.free np
  have nb : B p = none := I.bh.free np
  have hp : (upd H p (.dK [])) p = some (.dK []) := upd_same
  have hfr : Free σ as s p := I.free_new np
  refine tPairs_of (B := upd B p (.dK [])) (I0.hold hp nz nb hfr) ((After.hold (After.bind h) nz nb).imp fun ps s1 H1 Z1 as1 I1 E1 P1 ⟨h1, J1, J2, J3, J4, J5, J6⟩ ws rws => ?_)
  have hlen := rws.length
  split at h1
  case isFalse => exact h1.elim
  rename_i hps
  have hps : ps.length ≤ 15 := of_decide_eq_true hps
  refine ⟨J5, (ps.map (·.1)).zipWith (fun (x : Str) (v : V) => ((.inr x : Key), v)) ws, ?_, ?_, ?_⟩
  · rw [List.map_zipWith]; rfl
  · rw [List.length_zipWith, List.length_map]; omega
  · generalize hK : (HO.dK (mergeK [] _)) = o
    have I2 : SR (ctOf X) B Z1 σ (upd H1 p o) as1 s1 := J1.poke J4 nb J6
    have hp2 : (upd H1 p o) p = some o := upd_same
    refine ⟨p, rfl, .inl ⟨_, .inl (by rw [hp2, ← hK])⟩, upd B p o, Z1, as1, s1, I2.hold hp2 J4 nb J6, (After.hold (After.bind h1) J4 nb).imp fun y s2 H2 Z2 as2 I2 E2 P2 ⟨h2, g1, g2, g3, g4, g5, g6⟩ u ru => ?_⟩
    cases y with
    | str x =>
      obtain rfl : u = .str x := by cases ru; rfl
      refine ⟨_, .inl ⟨_, .inr x, .inl (by rw [g5, ← hK]), rfl, rfl⟩, ?_⟩
      have hl := look_val (C := ctOf X) (Z := Z2) (ps := ps) (vs := ws) [] none x (rws.mono (g2.same)) True.intro
      refine After.pure h2 g1 _ ?_
      revert hl
      generalize L2.valV (mergeK [] _) (Sum.inr x : Key) = q1
      generalize lookL _ _ _ = q2
      cases q1 <;> cases q2 <;> intro hl
      · exact .non
      · exact hl.elim
      · exact hl.elim
      · exact hl
    | _ => exact h2.elim
/-- (a, b, ..) = a list -/
def tLstG (n : Nat) (t : List D → S → Option S) : D → S → Option S
  | .list ds, s => if ds.length == n then t ds s else none
  | _, _ => none
theorem dg_lst {is : List Nat} {es : List Expr} {kk : Nat} {n : Nat} {t : List D → S → Option S} (bd : Bd X W k) (h : DGs X is es t) (hn : (assignEach es X.env).length = n := by rfl) (hst : (assignEach es X.env).findIdx? (·.1) = none := by rfl) : DG X is (.Tuple es kk pos) (tLstG n t) :=
  pg_imp (pg_unl bd.calm h hn hst) fun v σ H Q ⟨B, Z, as, s, d, I, r, h⟩ => by
  cases r with
  | @lst a xs ds hq hr =>
    have h' : AfterU (ctOf X) B Z as (fun σ' H' => Upto is σ σ' → Q σ' H') (if ds.length == n then t ds s else none) := h
    split at h'
    · rename_i hz
      exact ⟨a, xs, rfl, I.zh.seq hq, by rw [hr.length]; simpa using hz, B, Z, as, s, ds, I, hr, h'⟩
    · exact h'.elim
  | _ => exact h.elim
/-! ### a, b, .. = x, y, .. by a tuple -/
def gNms : List Nat → TGs
  | [] => gNil
  | i :: is => gCons (gName i) (gNms is)
theorem gNms_all {Q : St → Hp → Prop} {H : Hp} : ∀ {is : List Nat} {vs : List V} {σ : St}, vs.length = is.length → Q (setσ is vs σ) H → gNms is vs σ H Q
  | [], [], σ, _, q => ⟨rfl, q⟩
  | i :: is, v :: vs, σ, hl, q => ⟨v, vs, rfl, gNms_all (is := is) (by simpa using hl) q⟩
  | [], _ :: _, _, hl, _ => by simp at hl
  | _ :: _, [], _, hl, _ => by simp at hl
theorem ds_parN (is : List Nat) {es ts : List Expr} {g : DM (List RV)} {pt : Pos} {kt k2 pt2} (bd : Bd X W k) (ha : DFL X W es g) (hg : PGs X ts (gNms is)) (hz : decide (is.length ≤ 100) = true := by rfl)
    (hn : (assignEach ts X.env).length = is.length := by rfl) (hst : (assignEach ts X.env).findIdx? (·.1) = none := by rfl)
    (hs : swapsWithSole [.Tuple ts kt pt] (.Tuple es k2 pt2) pos.line X.env = pure false := by rfl) (hw : swappedStores [.Tuple ts kt pt] (.Tuple es k2 pt2) X.env = pure none := by rfl)
    (h1 : (assignEach [.Tuple ts kt pt] X.env).map (·.2) = [assign (.Tuple ts kt pt) X.env] := by rfl) :
    DS X W (.Assign [.Tuple ts kt pt] (.Tuple es k2 pt2) pos) (sPar is g) :=
  ps_imp (ps_asg (pe_tup ha) (pg_tup bd.calm hg hn hst) hs hw h1) fun D σ H ⟨B, Z, as, s, I, h⟩ =>
  ⟨B, Z, as, s, I, (AfterS.bind h).imp fun rs s1 H1 Z1 as1 I1 E1 P1 h1 vs rvs => by
    cases e : setAll is rs s1 with
    | none => rw [e] at h1; exact h1.elim
    | some s2 =>
      rw [e] at h1
      obtain ⟨hl, I2⟩ := I1.storeAll rvs e
      have hz := of_decide_eq_true hz
      refine ⟨Nat.le_trans (by omega) (show 100 ≤ sizeLine by decide), fun p np => ⟨p, vs, rfl, .inl (.inl upd_same), hl, gNms_all hl ?_⟩⟩
      exact h1 _ _ _ _ (I2.fresh np) .refl (List.prefix_refl _)⟩
end
/-! ### steps -/
section
variable {f : DM RV} {g fa fb : DM D} {s : S}
def repK2 (ds : List D) (d : D) (s : S) : R RV := match d with
  | .int n => if (decide (0 ≤ n) && decide (n ≤ 1000) && decide (ds.length ≤ 1000)) = true then .ok (.fl (List.replicate n.toNat ds).flatten) s else .bad
  | _ => .bad
theorem v_fRep : fRep f g s = thenR (f s) (repK g) := rfl
theorem v_repK {ds : List D} : repK g (.fl ds) s = thenR (g s) (repK2 ds) := by
  show bindM g _ s = _
  unfold bindM thenR
  cases g s with
  | ok d s' =>
    cases d with
    | int n => dsimp only [repK2]; split <;> rfl
    | _ => rfl
  | _ => rfl
theorem v_repK2 {ds : List D} {n : Int} : repK2 ds (.int n) s = if (decide (0 ≤ n) && decide (n ≤ 1000) && decide (ds.length ≤ 1000)) = true then .ok (.fl (List.replicate n.toNat ds).flatten) s else .bad := rfl
def eValsk2 (x : Str) (d : D) (ps : List (Str × D)) (s : S) : R (List (Str × D)) := .ok ((x, d) :: ps) s
def eValsk (x : Str) (r : List (Str × DM D)) (d : D) (s : S) : R (List (Str × D)) := thenR (eVals r s) (eValsk2 x d)
theorem v_eVals0 : eVals [] s = .ok [] s := rfl
theorem v_eVals1 {x : Str} {r : List (Str × DM D)} : eVals ((x, g) :: r) s = thenR (g s) (eValsk x r) := rfl
theorem v_eValsk {x : Str} {r : List (Str × DM D)} {d : D} : eValsk x r d s = thenR (eVals r s) (eValsk2 x d) := rfl
theorem v_eValsk2 {x : Str} {d : D} {ps : List (Str × D)} : eValsk2 x d ps s = .ok ((x, d) :: ps) s := rfl
def dgK3 (ps : List (Str × D)) (y z : D) (s : S) : R D := match y with
  | .str x => .ok ((lookL ps x none).getD z) s
  | _ => .bad
def dgK2 (ps : List (Str × D)) (fb : DM D) (y : D) (s : S) : R D := thenR (fb s) (dgK3 ps y)
def dgK1 (fa fb : DM D) (ps : List (Str × D)) (s : S) : R D := if decide (ps.length ≤ 15) = true then thenR (fa s) (dgK2 ps fb) else .bad
theorem v_dgetK {r : List (Str × DM D)} : dgetK r fa fb s = thenR (eVals r s) (dgK1 fa fb) := by
  show bindM _ _ s = _
  unfold bindM thenR
  cases eVals r s with
  | ok ps s' =>
    dsimp only [dgK1]
    split
    · show bindM _ _ s' = _
      unfold bindM thenR
      cases fa s' with
      | ok y s2 =>
        dsimp only [dgK2]
        unfold thenR
        cases fb s2 with
        | ok z s3 => cases y <;> rfl
        | _ => rfl
      | _ => rfl
    · rfl
  | _ => rfl
theorem v_dgK1 {ps : List (Str × D)} : dgK1 fa fb ps s = if decide (ps.length ≤ 15) = true then thenR (fa s) (dgK2 ps fb) else .bad := rfl
theorem v_dgK2 {ps : List (Str × D)} {y : D} : dgK2 ps fb y s = thenR (fb s) (dgK3 ps y) := rfl
theorem v_dgK3 {ps : List (Str × D)} {x : Str} {z : D} : dgK3 ps (.str x) z s = .ok ((lookL ps x none).getD z) s := rfl
theorem v_lookL0 {y : Str} {o : Option D} : lookL [] y o = o := rfl
theorem v_lookL1 {x y : Str} {d : D} {r : List (Str × D)} {o : Option D} : lookL ((x, d) :: r) y o = lookL r y (if y = x then some d else o) := rfl
def dgJ2 (ps : List (Str × D)) (y : D) (s : S) : R D := match y with
  | .str x => .ok ((lookL ps x none).getD .none) s
  | _ => .bad
def dgJ1 (fa : DM D) (ps : List (Str × D)) (s : S) : R D := if decide (ps.length ≤ 15) = true then thenR (fa s) (dgJ2 ps) else .bad
theorem v_dgetK1 {r : List (Str × DM D)} : dgetK1 r fa s = thenR (eVals r s) (dgJ1 fa) := by
  show bindM _ _ s = _
  unfold bindM thenR
  cases eVals r s with
  | ok ps s' =>
    dsimp only [dgJ1]
    split
    · show bindM _ _ s' = _
      unfold bindM thenR
      cases fa s' with
      | ok y s2 => cases y <;> rfl
      | _ => rfl
    · rfl
  | _ => rfl
theorem v_dgJ1 {ps : List (Str × D)} : dgJ1 fa ps s = if decide (ps.length ≤ 15) = true then thenR (fa s) (dgJ2 ps) else .bad := rfl
theorem v_dgJ2 {ps : List (Str × D)} {x : Str} : dgJ2 ps (.str x) s = .ok ((lookL ps x none).getD .none) s := rfl
theorem v_gUsortl {is : List Int} : gUsort (.list (is.map .int)) = if decide (is.length ≤ 3000) = true then some ((usort is).map .int) else none := by
  unfold gUsort
  rw [v_asSeql]
  dsimp only
  rw [intsD_map]
theorem v_gUsortt {is : List Int} : gUsort (.tuple (is.map .int)) = if decide (is.length ≤ 3000) = true then some ((usort is).map .int) else none := by
  unfold gUsort
  rw [v_asSeqt]
  dsimp only
  rw [intsD_map]
theorem v_gMaxL {is : List Int} : gMaxL (.list (is.map .int)) = (mxI is).map .int := by
  unfold gMaxL
  dsimp only
  rw [intsD_map]
  rfl
theorem v_gMinL {is : List Int} : gMinL (.list (is.map .int)) = (mnI is).map .int := by
  unfold gMinL
  dsimp only
  rw [intsD_map]
  rfl
theorem v_gIxS {z : Str} {i : Int} : gIxS (.str z) (.int i) = if cutOk z = true then (atI z.cps.toList i).map fun c => .str ⟨#[c]⟩ else none := rfl
theorem v_gIntS {z : Str} : gIntS (.str z) = if decide (z.length ≤ 640) = true then (PySem.intText? z).map .int else none := rfl
theorem eqvAll_map {α : Type} [DecidableEq α] {f : α → D} (hf : ∀ x y, PyData.eqv (f x) (f y) = decide (x = y)) : ∀ {xs ys : List α}, PyData.eqvAll (xs.map f) (ys.map f) = decide (xs = ys)
  | [], [] => by simp only [List.map_nil, v_eqvA0, decide_true]
  | [], y :: ys => by simp only [List.map_nil, List.map_cons, v_eqvA3]; simp
  | x :: xs, [] => by simp only [List.map_nil, List.map_cons, v_eqvA2]; simp
  | x :: xs, y :: ys => by simp only [List.map_cons, v_eqvA1, hf, eqvAll_map hf (xs := xs) (ys := ys)]; rw [Bool.eq_iff_iff]; simp
theorem v_gEqlo {xs ys : List (Option Int)} : gEq (.list (xs.map oD)) (.list (ys.map oD)) = some (.bool (decide (xs = ys))) := by
  rw [gEq_of (sh_list (k := 63) (sh_map fun _ => sh_oD)) (sh_list (k := 63) (sh_map fun _ => sh_oD)), v_eqvll, eqvAll_map fun _ _ => eqv_oD]
theorem v_gNelo {xs ys : List (Option Int)} : gNe (.list (xs.map oD)) (.list (ys.map oD)) = some (.bool (!decide (xs = ys))) := by
  rw [gNe_of (sh_list (k := 63) (sh_map fun _ => sh_oD)) (sh_list (k := 63) (sh_map fun _ => sh_oD)), v_eqvll, eqvAll_map fun _ _ => eqv_oD]
theorem v_gEqli {xs ys : List Int} : gEq (.list (xs.map .int)) (.list (ys.map .int)) = some (.bool (decide (xs = ys))) := by
  rw [gEq_of (sh_ints (k := 63)) (sh_ints (k := 63)), v_eqvll, eqvAll_ints]
theorem v_gNeli {xs ys : List Int} : gNe (.list (xs.map .int)) (.list (ys.map .int)) = some (.bool (!decide (xs = ys))) := by
  rw [gNe_of (sh_ints (k := 63)) (sh_ints (k := 63)), v_eqvll, eqvAll_ints]
theorem v_gEqll0 : gEq (.list []) (.list []) = some (.bool true) := v_gEqli (xs := []) (ys := [])
theorem v_tLstG {n : Nat} {t : List D → S → Option S} {ds : List D} {s : S} : tLstG n t (.list ds) s = if ds.length == n then t ds s else none := rfl
def extB (i : Nat) (r : RV) (s : S) (o : Option (List D)) : R RV := match o, r with
  | some ds, .fl es => if lenOk (ds.length + es.length) = true then .ok (.d .none) (putList i (ds ++ es) s) else .bad
  | _, _ => .bad
def extk (i : Nat) (r : RV) (s : S) : R RV := extB i r s (listAt i s)
def extA (i : Nat) (f : DM RV) (o : Option (List D)) (s : S) : R RV := match o with
  | none => .bad
  | some _ => thenR (f s) (extk i)
theorem v_extend {i : Nat} : fExtend i f s = extA i f (listAt i s) s := by
  unfold fExtend extA
  cases listAt i s with
  | none => rfl
  | some ds =>
    show bindM f _ s = _
    unfold bindM thenR
    cases f s with
    | ok r s1 =>
      first
        | rfl
        | (dsimp only [extk, extB]
           cases listAt i s1 <;> cases r <;> rfl)
    | _ => rfl
theorem v_extA {i : Nat} {ds : List D} : extA i f (some ds) s = thenR (f s) (extk i) := rfl
theorem v_extk {i : Nat} {r : RV} : extk i r s = extB i r s (listAt i s) := rfl
theorem v_extB {i : Nat} {ds es : List D} : extB i (.fl es) s (some ds) = if lenOk (ds.length + es.length) = true then .ok (.d .none) (putList i (ds ++ es) s) else .bad := rfl
theorem any_ints {x : Int} {is : List Int} : ((is.map PyData.int).any fun z => PyData.eqv z (.int x)) = decide (x ∈ is) := by
  induction is with
  | nil => rfl
  | cons y ys ih =>
    rw [List.map_cons, List.any_cons, ih, v_eqvii, Bool.eq_iff_iff, Bool.or_eq_true, decide_eq_true_iff, decide_eq_true_iff, decide_eq_true_iff, List.mem_cons]
    exact or_congr eq_comm Iff.rfl
theorem v_gInli {x : Int} {is : List Int} : gIn (.int x) (.list (is.map .int)) = some (.bool (decide (x ∈ is))) := by
  show (if _ then some (PyData.bool _) else none) = _
  rw [shaped_sh sh_int, shaped_sh (sh_ints (k := 63)), any_ints]
  rfl
theorem v_gNotInli {x : Int} {is : List Int} : gNotIn (.int x) (.list (is.map .int)) = some (.bool (!decide (x ∈ is))) := by
  show (if _ then some (PyData.bool _) else none) = _
  rw [shaped_sh sh_int, shaped_sh (sh_ints (k := 63)), any_ints]
  rfl
theorem v_gNebb {x y : Bool} : gNe (.bool x) (.bool y) = some (.bool (!decide (x = y))) := by rw [gNe_of sh_bool sh_bool, v_eqvbb]
theorem v_gEqbb {x y : Bool} : gEq (.bool x) (.bool y) = some (.bool (decide (x = y))) := by rw [gEq_of sh_bool sh_bool, v_eqvbb]
theorem v_gNenn : gNe .none .none = some (.bool false) := v_gNeo (x := none) (y := none)
theorem v_gEqnn : gEq .none .none = some (.bool true) := v_gEqo (x := none) (y := none)
theorem v_gCatl {ds es : List D} : gCat (.list ds) (.list es) = if lenOk (ds.length + es.length) = true then some (ds ++ es) else none := rfl
theorem v_gCutLl {ds : List D} {j : Int} : gCutL (.list ds) (.int j) = some (cutD ds (some j) none) := rfl
theorem v_gCutUl {ds : List D} {j : Int} : gCutU (.list ds) (.int j) = some (cutD ds none (some j)) := rfl
theorem v_gCutLt {ds : List D} {j : Int} : gCutLT (.tuple ds) (.int j) = some (cutD ds (some j) none) := rfl
theorem v_gCutUt {ds : List D} {j : Int} : gCutUT (.tuple ds) (.int j) = some (cutD ds none (some j)) := rfl
theorem cutL_nat {ds : List D} (i : Nat) : cutD ds (some (i : Int)) none = ds.drop i := by
  unfold cutD
  rw [HT.sIx_nat, HT.sIx_none]
  rcases Nat.le_total i ds.length with h | h
  · rw [Nat.min_eq_left h, List.take_of_length_le (by rw [List.length_drop]; omega)]
  · rw [Nat.min_eq_right h, List.drop_length, List.drop_of_length_le h, List.take_nil]
theorem cutU_nat {ds : List D} (i : Nat) : cutD ds none (some (i : Int)) = ds.take i := by
  unfold cutD
  rw [HT.sIx_nat, HT.sIx_none, List.drop_zero, Nat.sub_zero]
  rcases Nat.le_total i ds.length with h | h
  · rw [Nat.min_eq_left h]
  · rw [Nat.min_eq_right h, List.take_of_length_le (Nat.le_refl _), List.take_of_length_le h]
end
end DL

/-! DLA: comprehensions with two fors. -/
namespace DL
open PySem PySem.Spec PyProof.Rows L2
theorem bindM_ok {α β : Type} {m : DM α} {k : α → DM β} {s s' : S} {a : α} (h : m s = .ok a s') : bindM m k s = k a s' := by unfold bindM; rw [h]
/-- a part that may not raise -/
def strict {α : Type} (m : DM α) : DM α := fun s => match m s with
  | .ok a s' => .ok a s'
  | _ => .bad
def compL2 (t : D → S → Option S) (src1 : DM (List D)) (t1 : D → S → Option S) (elt : DM D) (ks1 ks : List Nat) : List D → DM (List D)
  | [] => pureM []
  | d :: ds => fun s => match t d s with
    | none => .bad
    | some s1 => bindM (strict src1) (fun ds1 s3 => if decide (ds1.length ≤ 1000) = true then bindM (compL t1 (pureM true) elt ks1 ds1) (fun ys s4 => bindM (compL2 t src1 t1 elt ks1 ks ds) (fun zs => pureM (ys ++ zs)) (killS ks s4)) (killS ks1 s3) else .bad) s1
def eLc2 (ks1 ks : List Nat) (src : DM (List D)) (t : D → S → Option S) (src1 : DM (List D)) (t1 : D → S → Option S) (elt : DM D) : DM RV :=
  bindM src fun ds => fun s => if decide (ds.length ≤ 1000) = true then bindM (compL2 t src1 t1 elt ks1 ks ds) (fun ys => pureM (.fl ys)) (killS ks s) else .bad
section
variable {X : Cx} {W : WX} {elt tg iter tg1 iter1 : Expr} {scope : Scope} {pos : Pos} {src src1 : DM (List D)} {t t1 : D → S → Option S} {felt : DM D} {is is1 : List Nat} {k : Nat}
theorem rF_lc2 {own : List (Str × Nat)} {ks1 : List Nat} (hN : X.N.Nodup) (his : ∀ i ∈ is, i ∈ own.map (·.2)) (his1 : ∀ i ∈ is1, i ∈ ks1) (hk1 : ∀ i ∈ ks1, i ∈ own.map (·.2)) {σ : St} {H : Hp} {Q : VK} (h : rF (ctOf X) W (eLc2 ks1 (own.map (·.2)) src t src1 t1 felt) σ H Q) :
    tLc2 (rIt (ctOf X) W src) (rG (ctOf X) is t) (rB (ctOf X) W0 (pureM true)) (rIt (ctOf X) W0 src1) (rG (ctOf X) is1 t1) (rB (ctOf X) W0 (pureM true)) (rD (ctOf X) W0 felt) (own.map (·.2)) ks1 σ H Q := by
  obtain ⟨B, Z, as, s, I, h⟩ := h
  generalize own.map (·.2) = ks at his hk1 h ⊢
  refine ⟨B, Z, as, s, I, (After.bind h).imp fun ds s1 H1 Z1 as1 I1 E1 P1 h1 J hJ hlen D0 nD => ?_⟩
  split at h1
  case isFalse => exact h1.elim
  rename_i hds
  have hds : ds.length ≤ 1000 := of_decide_eq_true hds
  let Inv (i m : Nat) (H : Hp) : Prop := ∃ Z as s acc dacc, SR (ctOf X) B Z σ H as s ∧ Same Z1 Z ∧ Gone ks s ∧ m = ds.length - i ∧ i ≤ ds.length ∧ H D0 = some (.lst acc) ∧ Reps (ctOf X) Z acc dacc ∧ Z D0 = none ∧ B D0 = none ∧ Free σ as s D0 ∧ dacc.length ≤ i * 1000 ∧
    After (ctOf X) W B Z as σ (fun ys s' H' Z' as' => ∀ v, RVR (ctOf X) B Z' σ H' as' s' v (.fl (dacc ++ ys)) → Q v H') (compL2 t src1 t1 felt ks1 ks (ds.drop i) s)
  have I1k := I1.kill ks
  have nz : Z1 D0 = none := I1.zh.free nD
  have nb : B D0 = none := I1.bh.free nD
  refine ⟨Inv, ⟨ds.length, Z1, as1, killS ks s1, [], [], I1k.fresh nD, Same.refl _, gone_kill ks s1, rfl, Nat.zero_le _, upd_same, .nil, nz, nb, I1k.free_new nD, Nat.zero_le _, ?_⟩, fun i m H2 hw => ?_⟩
  · exact (After.bind h1).imp fun ys s2 H2 Z2 as2 I2 E2 P2 h2 v rv => h2 _ _ _ I2 .refl (List.prefix_refl _) v rv
  · obtain ⟨Z2, as2, s2, acc, dacc, I2, hz, hg, hm, hi, hD, hr, z2, b2, hf, hl, h2⟩ := hw
    obtain ⟨q1, q2⟩ := hJ i H2 (hz.trans I2.zh)
    by_cases hlt : i < ds.length
    · have hd : ds[i]? = some ds[i] := List.getElem?_eq_getElem hlt
      have hdr : ds.drop i = ds[i] :: ds.drop (i + 1) := List.drop_eq_getElem_cons hlt
      rw [hdr] at h2
      obtain ⟨go, yl⟩ := q1 _ hd
      refine .inr ⟨go, Inv (i + 1) (ds.length - (i + 1)), fun H' q => ⟨_, by omega, q⟩, fun x H' hy => ?_⟩
      obtain ⟨Z3, I3, E3, r3⟩ := yl x H' (upd B D0 (.lst acc)) Z2 σ as2 s2 hy (I2.hold hD z2 b2 hf) hz
      have uw := upto_wipe ks σ
      have I3w := I3.upto hg uw
      obtain ⟨gE, gz⟩ := E3.unhold z2 b2
      refine ⟨upd B D0 (.lst acc), Z3, as2, s2, ds[i], I3w, r3, ?_⟩
      unfold compL2 at h2
      cases e : t ds[i] s2 with
      | none => rw [e] at h2; exact h2
      | some s3 =>
        rw [e] at h2
        dsimp only at h2
        refine fun σ4 H4 Z4 as4 I4 E4 P4 up4 => ?_
        have up4' : Upto ks (wipe σ ks) σ4 := ⟨up4.1, fun j hj => up4.2 j fun q => hj (his j q)⟩
        have upA := upto_trans uw up4'
        refine ⟨wipe_upto upA, upd B D0 (.lst acc), Z4, as4, s3, I4, ?_⟩
        intro H5 Z5 as5 I5 E5 P5
        refine (if_pos rfl).mpr ?_
        refine ⟨upd B D0 (.lst acc), Z5, as5, s3, I5, ?_⟩
        have h2 : After (ctOf X) W B Z2 as2 σ (fun ys s' H' Z' as' => ∀ v, RVR (ctOf X) B Z' σ H' as' s' v (.fl (dacc ++ ys)) → Q v H') (bindM (strict src1) (fun ds1 s3 => if decide (ds1.length ≤ 1000) = true then bindM (compL t1 (pureM true) felt ks1 ds1) (fun ys s4 => bindM (compL2 t src1 t1 felt ks1 ks (ds.drop (i + 1))) (fun zs => pureM (ys ++ zs)) (killS ks s4)) (killS ks1 s3) else .bad) s3) := h2
        unfold bindM strict at h2
        cases e1 : src1 s3 with
        | bad => rw [e1] at h2; exact h2
        | exc c s' => rw [e1] at h2; exact h2.elim
        | ok ds1 s5 =>
          rw [e1] at h2
          dsimp only at h2
          split at h2
          case isFalse => exact h2.elim
          rename_i hds1
          have hds1 : ds1.length ≤ 1000 := of_decide_eq_true hds1
          intro H6 Z6 as6 I6 E6 P6 J1 hJ1 hlen1
          -- the state at the inner loop's start, D0 free again
          obtain ⟨U1, U2, U3⟩ := I6.unhold b2
          obtain ⟨x1, x2⟩ := ((E4.trans E5).trans E6).unhold gz b2
          have EA : Ext B Z2 Z6 := gE.trans x1
          have PA' : as2 <+: as6 := (P4.trans P5).trans P6
          let Inv1 (j m : Nat) (H : Hp) : Prop := ∃ Z as s acc1 dacc1, SR (ctOf X) B Z σ4 H as s ∧ Same Z6 Z ∧ Gone ks1 s ∧ m = ds1.length - j ∧ j ≤ ds1.length ∧ H D0 = some (.lst acc1) ∧ Reps (ctOf X) Z acc1 dacc1 ∧ Z D0 = none ∧ Free σ4 as s D0 ∧ dacc1.length ≤ i * 1000 + j ∧
            After (ctOf X) W B Z as σ (fun ys s' H' Z' as' => ∀ v, RVR (ctOf X) B Z' σ H' as' s' v (.fl (dacc1 ++ ys)) → Q v H') (bindM (compL t1 (pureM true) felt ks1 (ds1.drop j)) (fun ys s4 => bindM (compL2 t src1 t1 felt ks1 ks (ds.drop (i + 1))) (fun zs => pureM (ys ++ zs)) (killS ks s4)) s)
          have U1k := U1.kill ks1
          have free_kill : Free σ4 as6 (killS ks1 s5) D0 := by
            obtain ⟨_, _, K3⟩ := (I6.kill ks1).unhold b2
            exact K3
          refine ⟨Inv1, ⟨ds1.length, Z6, as6, killS ks1 s5, acc, dacc, U1k, Same.refl _, gone_kill ks1 s5, rfl, Nat.zero_le _, U2, hr.mono EA.same, x2, free_kill, by omega, After.later h2 EA PA'⟩, fun j m1 H7 hw1 => ?_⟩
          obtain ⟨Z7, as7, s7, acc1, dacc1, I7, hz7, hg7, hm7, hj7, hD7, hr7, z7, hf7, hl7, h7⟩ := hw1
          obtain ⟨p1, p2⟩ := hJ1 j H7 (hz7.trans I7.zh)
          by_cases hlt1 : j < ds1.length
          · have hd1 : ds1[j]? = some ds1[j] := List.getElem?_eq_getElem hlt1
            have hdr1 : ds1.drop j = ds1[j] :: ds1.drop (j + 1) := List.drop_eq_getElem_cons hlt1
            rw [hdr1] at h7
            obtain ⟨go1, yl1⟩ := p1 _ hd1
            refine .inr ⟨go1, Inv1 (j + 1) (ds1.length - (j + 1)), fun H' q => ⟨_, by omega, q⟩, fun y H' hy1 => ?_⟩
            obtain ⟨Z8, I8, E8, r8⟩ := yl1 y H' (upd B D0 (.lst acc1)) Z7 σ4 as7 s7 hy1 (I7.hold hD7 z7 b2 hf7) hz7
            have uw1 := upto_wipe ks1 σ4
            have I8w := I8.upto hg7 uw1
            obtain ⟨gE8, gz8⟩ := E8.unhold z7 b2
            refine ⟨upd B D0 (.lst acc1), Z8, as7, s7, ds1[j], I8w, r8, ?_⟩
            unfold bindM compL at h7
            cases e2 : t1 ds1[j] s7 with
            | none => rw [e2] at h7; exact h7
            | some s8 =>
              rw [e2] at h7
              dsimp only [pureM] at h7
              rw [if_pos rfl] at h7
              refine fun σ9 H9 Z9 as9 I9 E9 P9 up9 => ?_
              have up9' : Upto ks1 (wipe σ4 ks1) σ9 := ⟨up9.1, fun l hl => up9.2 l fun q => hl (his1 l q)⟩
              have upB := upto_trans uw1 up9'
              refine ⟨wipe_upto upB, upd B D0 (.lst acc1), Z9, as9, s8, I9, ?_⟩
              intro H10 Z10 as10 I10 E10 P10
              refine (if_pos rfl).mpr ?_
              refine ⟨upd B D0 (.lst acc1), Z10, as10, s8, I10, ?_⟩
              cases e3 : felt s8 with
              | bad => rw [e3] at h7; exact h7
              | exc c s' => rw [e3] at h7; exact h7.elim
              | ok z s9 =>
                rw [e3] at h7
                intro H11 Z11 as11 I11 E11 P11 v rv
                have JJ := (I11.kill ks1).upto (gone_kill ks1 s9) (upto_symm upB)
                obtain ⟨J1', J2, J3⟩ := JJ.unhold b2
                obtain ⟨y1, y2⟩ := ((E9.trans E10).trans E11).unhold gz8 b2
                have EB : Ext B Z7 Z11 := gE8.trans y1
                have PB : as7 <+: as11 := (P9.trans P10).trans P11
                refine ⟨acc1, J2, ?_, Z11, as11, killS ks1 s9, acc1 ++ [v], dacc1 ++ [z], J1'.poke y2 b2 J3, hz7.trans EB.same, gone_kill ks1 s9, rfl, hlt1, upd_same, (hr7.mono EB.same).append (.one rv), y2, J3, by rw [List.length_append]; show dacc1.length + 1 ≤ _; omega, ?_⟩
                · have := hr7.length
                  exact Nat.lt_of_lt_of_le (show acc1.length < 1001000 by omega) (by decide)
                have h8 := After.later h7 EB PB
                clear h7
                dsimp only at h8
                cases e4 : compL t1 (pureM true) felt ks1 (ds1.drop (j + 1)) (killS ks1 s9) with
                | bad => rw [show bindM (compL t1 (pureM true) felt ks1 (List.drop (j + 1) ds1)) (fun ys => pureM (z :: ys)) (killS ks1 s9) = R.bad by unfold bindM; rw [e4]] at h8; exact h8.elim
                | exc c s' =>
                  rw [show bindM (compL t1 (pureM true) felt ks1 (List.drop (j + 1) ds1)) (fun ys => pureM (z :: ys)) (killS ks1 s9) = R.exc c s' by unfold bindM; rw [e4]] at h8
                  rw [show bindM (compL t1 (pureM true) felt ks1 (List.drop (j + 1) ds1)) (fun ys s4 => bindM (compL2 t src1 t1 felt ks1 ks (List.drop (i + 1) ds)) (fun zs => pureM (ys ++ zs)) (killS ks s4)) (killS ks1 s9) = R.exc c s' by unfold bindM; rw [e4]]
                  exact h8
                | ok ys s10 =>
                  rw [show bindM (compL t1 (pureM true) felt ks1 (List.drop (j + 1) ds1)) (fun ys => pureM (z :: ys)) (killS ks1 s9) = R.ok (z :: ys) s10 by unfold bindM; rw [e4]; rfl] at h8
                  rw [bindM_ok e4]
                  dsimp only at h8
                  cases e5 : compL2 t src1 t1 felt ks1 ks (ds.drop (i + 1)) (killS ks s10) with
                  | bad => rw [e5] at h8; exact h8.elim
                  | exc c s' =>
                    rw [e5] at h8
                    rw [show bindM (compL2 t src1 t1 felt ks1 ks (List.drop (i + 1) ds)) (fun zs => pureM (ys ++ zs)) (killS ks s10) = R.exc c s' by unfold bindM; rw [e5]]
                    exact h8
                  | ok zs s11 =>
                    rw [e5] at h8
                    rw [show bindM (compL2 t src1 t1 felt ks1 ks (List.drop (i + 1) ds)) (fun zs => pureM (ys ++ zs)) (killS ks s10) = R.ok (ys ++ zs) s11 by unfold bindM; rw [e5]; rfl]
                    intro H12 Z12 as12 I12 E12 P12 w rw'
                    exact h8 H12 Z12 as12 I12 E12 P12 w (by rw [List.append_assoc] at rw'; exact rw')
          · have ej : j = ds1.length := by omega
            refine .inl ⟨p2 (by omega), ?_⟩
            rw [ej, List.drop_length] at h7
            have JJ := ((I7.hold hD7 z7 b2 hf7).kill ks).upto (gone_kill ks s7) (upto_symm upA)
            obtain ⟨J1', J2, J3⟩ := JJ.unhold b2
            refine ⟨Z7, as7, killS ks s7, acc1, dacc1, J1', (hz.trans EA.same).trans hz7, gone_kill ks s7, rfl, hlt, J2, hr7, z7, b2, J3, by omega, ?_⟩
            have h8 : After (ctOf X) W B Z7 as7 σ (fun ys s' H' Z' as' => ∀ v, RVR (ctOf X) B Z' σ H' as' s' v (.fl (dacc1 ++ ys)) → Q v H') (bindM (compL2 t src1 t1 felt ks1 ks (ds.drop (i + 1))) (fun zs => pureM ([] ++ zs)) (killS ks s7)) := h7
            cases e5 : compL2 t src1 t1 felt ks1 ks (ds.drop (i + 1)) (killS ks s7) with
            | bad => rw [show bindM (compL2 t src1 t1 felt ks1 ks (List.drop (i + 1) ds)) (fun zs => pureM ([] ++ zs)) (killS ks s7) = R.bad by unfold bindM; rw [e5]] at h8; exact h8.elim
            | exc c s' =>
              rw [show bindM (compL2 t src1 t1 felt ks1 ks (List.drop (i + 1) ds)) (fun zs => pureM ([] ++ zs)) (killS ks s7) = R.exc c s' by unfold bindM; rw [e5]] at h8
              exact h8
            | ok zs s11 =>
              rw [show bindM (compL2 t src1 t1 felt ks1 ks (List.drop (i + 1) ds)) (fun zs => pureM ([] ++ zs)) (killS ks s7) = R.ok ([] ++ zs) s11 by unfold bindM; rw [e5]; rfl] at h8
              exact h8
    · have ei : i = ds.length := by omega
      refine .inl ⟨q2 (by omega), ?_⟩
      rw [ei, List.drop_length] at h2
      refine h2 _ _ _ I2 .refl (List.prefix_refl _) _ ⟨D0, acc, rfl, z2, b2, hf, hD, ?_⟩
      rw [List.append_nil]; exact hr
theorem df_lc2 {own : List (Str × Nat)} {ks1 : List Nat} (b : Bd X W k) (hN : X.N.Nodup) (hi : DI X W tg iter src) (ok : BlkOk X.N X.env.scope scope own) (his : ∀ i ∈ is, i ∈ own.map (·.2)) (his1 : ∀ i ∈ is1, i ∈ ks1) (hk1 : ∀ i ∈ ks1, i ∈ own.map (·.2))
    (hg : ∀ (s : Shared) (H : Hp) (C : Addr) (cl : List (Str × Addr)) (fp : List Addr), Bd (X.blk s H scope (compEnvC scope cl C X.env) fp) W0 k → DG (X.blk s H scope (compEnvC scope cl C X.env) fp) is tg t)
    (hi1 : ∀ (s : Shared) (H : Hp) (C : Addr) (cl : List (Str × Addr)) (fp : List Addr), Bd (X.blk s H scope (compEnvC scope cl C X.env) fp) W0 k → DI (X.blk s H scope (compEnvC scope cl C X.env) fp) W0 tg1 iter1 src1)
    (hg1 : ∀ (s : Shared) (H : Hp) (C : Addr) (cl : List (Str × Addr)) (fp : List Addr), Bd (X.blk s H scope (compEnvC scope cl C X.env) fp) W0 k → DG (X.blk s H scope (compEnvC scope cl C X.env) fp) is1 tg1 t1)
    (he : ∀ (s : Shared) (H : Hp) (C : Addr) (cl : List (Str × Addr)) (fp : List Addr), Bd (X.blk s H scope (compEnvC scope cl C X.env) fp) W0 k → DE (X.blk s H scope (compEnvC scope cl C X.env) fp) W0 elt felt)
    (hs : ∀ x, foldedSetIterable iter X.env x = pure x := by intro _; rfl) (hs1 : ∀ env x, foldedSetIterable iter1 env x = pure x := by intro _ _; rfl) :
    DF X W (.ListComp elt [⟨tg, iter, [], 0⟩, ⟨tg1, iter1, [], 0⟩] scope pos) (eLc2 ks1 (own.map (·.2)) src t src1 t1 felt) := by
  have bb : ∀ (s : Shared) (H : Hp) (C : Addr) (cl : List (Str × Addr)) (fp : List Addr), Bd (X.blk s H scope (compEnvC scope cl C X.env) fp) W0 k := fun s H C cl fp => ⟨takes0, PassesOwn.never, b.hr, b.calm⟩
  exact pe_imp (pe_lc2 (vs1 := ks1) (g := rG (ctOf X) is t) (tt := rB (ctOf X) W0 (pureM true)) (wi1 := rIt (ctOf X) W0 src1) (g1 := rG (ctOf X) is1 t1) (tt1 := rB (ctOf X) W0 (pureM true)) (te := rD (ctOf X) W0 felt) b.calm hN hi ok hk1 (fun s H C cl fp => hg s H C cl fp (bb s H C cl fp)) (fun s H C cl fp => dts_nil) (fun s H C cl fp => hi1 s H C cl fp (bb s H C cl fp)) (fun s H C cl fp => hg1 s H C cl fp (bb s H C cl fp)) (fun s H C cl fp => dts_nil) (fun s H C cl fp => he s H C cl fp (bb s H C cl fp)) hs hs1) fun σ H Q h => rF_lc2 hN his his1 hk1 h
theorem ds_setLc2 {own : List (Str × Nat)} {ks1 : List Nat} (i : Nat) {y : Str} {py spos : Pos} (b : Bd X W k) (hN : X.N.Nodup) (hi : DI X W tg iter src) (ok : BlkOk X.N X.env.scope scope own) (his : ∀ i ∈ is, i ∈ own.map (·.2)) (his1 : ∀ i ∈ is1, i ∈ ks1) (hk1 : ∀ i ∈ ks1, i ∈ own.map (·.2))
    (hg : ∀ (s : Shared) (H : Hp) (C : Addr) (cl : List (Str × Addr)) (fp : List Addr), Bd (X.blk s H scope (compEnvC scope cl C X.env) fp) W0 k → DG (X.blk s H scope (compEnvC scope cl C X.env) fp) is tg t)
    (hi1 : ∀ (s : Shared) (H : Hp) (C : Addr) (cl : List (Str × Addr)) (fp : List Addr), Bd (X.blk s H scope (compEnvC scope cl C X.env) fp) W0 k → DI (X.blk s H scope (compEnvC scope cl C X.env) fp) W0 tg1 iter1 src1)
    (hg1 : ∀ (s : Shared) (H : Hp) (C : Addr) (cl : List (Str × Addr)) (fp : List Addr), Bd (X.blk s H scope (compEnvC scope cl C X.env) fp) W0 k → DG (X.blk s H scope (compEnvC scope cl C X.env) fp) is1 tg1 t1)
    (he : ∀ (s : Shared) (H : Hp) (C : Addr) (cl : List (Str × Addr)) (fp : List Addr), Bd (X.blk s H scope (compEnvC scope cl C X.env) fp) W0 k → DE (X.blk s H scope (compEnvC scope cl C X.env) fp) W0 elt felt)
    (hy : X.N[i]? = some y := by rfl) (hyl : X.env.scope.names.lookup y = some .local := by rfl)
    (hsw : swapsWith (.ListComp elt [⟨tg, iter, [], 0⟩, ⟨tg1, iter1, [], 0⟩] scope pos) (some (.Name y py)) spos.line X.env = pure true := by exact sw_true rfl rfl rfl (by decide +kernel))
    (hs : ∀ x, foldedSetIterable iter X.env x = pure x := by intro _; rfl) (hs1 : ∀ env x, foldedSetIterable iter1 env x = pure x := by intro _ _; rfl) :
    DS X W (.Assign [.Name y py] (.ListComp elt [⟨tg, iter, [], 0⟩, ⟨tg1, iter1, [], 0⟩] scope pos) spos) (sSet i (eLc2 ks1 (own.map (·.2)) src t src1 t1 felt)) := by
  have bb : ∀ (s : Shared) (H : Hp) (C : Addr) (cl : List (Str × Addr)) (fp : List Addr), Bd (X.blk s H scope (compEnvC scope cl C X.env) fp) W0 k := fun s H C cl fp => ⟨takes0, PassesOwn.never, b.hr, b.calm⟩
  refine ps_imp (ps_setLc2 (vs1 := ks1) (g := rG (ctOf X) is t) (tt := rB (ctOf X) W0 (pureM true)) (wi1 := rIt (ctOf X) W0 src1) (g1 := rG (ctOf X) is1 t1) (tt1 := rB (ctOf X) W0 (pureM true)) (te := rD (ctOf X) W0 felt) b.calm hN hy hyl hsw hi ok hk1 (fun s H C cl fp => hg s H C cl fp (bb s H C cl fp)) (fun s H C cl fp => dts_nil) (fun s H C cl fp => hi1 s H C cl fp (bb s H C cl fp)) (fun s H C cl fp => hg1 s H C cl fp (bb s H C cl fp)) (fun s H C cl fp => dts_nil) (fun s H C cl fp => he s H C cl fp (bb s H C cl fp)) hs hs1) fun D σ H ⟨B, Z, as, s, I, h⟩ => ?_
  refine rF_lc2 (W := W) hN his his1 hk1 ⟨B, Z, as, s, I, (AfterS.bind h).imp fun r s1 H1 Z1 as1 I1 E1 P1 h1 v rv => ?_⟩
  obtain ⟨q1, q2⟩ := rvr_sl rv
  exact h1 _ _ _ _ (I1.store q1 q2) .refl (List.prefix_refl _)
end
section
variable {α β : Type} {t t1 : D → S → Option S} {src1 : DM (List D)} {elt : DM D} {ks1 ks : List Nat} {s0 : S}
theorem comp2_map (f : α → D) (f1 : β → D) (g : α → β → D) (ys : α → List β) : ∀ (xs : List α), (∀ x, x ∈ xs → ∃ s1 s3, t (f x) s0 = some s1 ∧ src1 s1 = .ok ((ys x).map f1) s3 ∧ (ys x).length ≤ 1000 ∧ killS ks (killS ks1 s3) = s0 ∧
    ∀ y, y ∈ ys x → ∃ s4 s5, t1 (f1 y) (killS ks1 s3) = some s4 ∧ elt s4 = .ok (g x y) s5 ∧ killS ks1 s5 = killS ks1 s3) → compL2 t src1 t1 elt ks1 ks (xs.map f) s0 = .ok (xs.flatMap fun x => (ys x).map (g x)) s0
  | [], _ => rfl
  | x :: xs, h => by
    obtain ⟨s1, s3, h1, h2, h3, h4, h5⟩ := h x List.mem_cons_self
    have ih := comp2_map f f1 g ys xs fun z hz => h z (List.mem_cons_of_mem _ hz)
    have inner : ∀ zs : List β, (∀ y, y ∈ zs → ∃ s4 s5, t1 (f1 y) (killS ks1 s3) = some s4 ∧ elt s4 = .ok (g x y) s5 ∧ killS ks1 s5 = killS ks1 s3) → compL t1 (pureM true) elt ks1 (zs.map f1) (killS ks1 s3) = .ok (zs.map (g x)) (killS ks1 s3) := by
      intro zs
      induction zs with
      | nil => intro _; rfl
      | cons z zs ihz =>
        intro hz
        obtain ⟨s4, s5, k1, k2, k3⟩ := hz z List.mem_cons_self
        rw [List.map_cons, v_comp1, k1, v_compO, v_pure, v_compT, if_pos rfl, k2, v_compE, k3, ihz fun y hy => hz y (List.mem_cons_of_mem _ hy), v_compM]
        rfl
    rw [List.map_cons, List.flatMap_cons]
    unfold compL2
    rw [h1]
    dsimp only
    rw [bindM_ok (show strict src1 s1 = .ok ((ys x).map f1) s3 by unfold strict; rw [h2])]
    rw [if_pos (by rw [List.length_map]; exact decide_eq_true h3), bindM_ok (inner (ys x) h5), h4, bindM_ok ih]
    rfl
theorem comp2_mapX {X : R (List D)} {xs : List α} {f : α → D} (hX : compL2 t src1 t1 elt ks1 ks (xs.map f) s0 = X) (f1 : β → D) (g : α → β → D) (ys : α → List β) (h : ∀ x, x ∈ xs → ∃ s1 s3, t (f x) s0 = some s1 ∧ src1 s1 = .ok ((ys x).map f1) s3 ∧ (ys x).length ≤ 1000 ∧ killS ks (killS ks1 s3) = s0 ∧
    ∀ y, y ∈ ys x → ∃ s4 s5, t1 (f1 y) (killS ks1 s3) = some s4 ∧ elt s4 = .ok (g x y) s5 ∧ killS ks1 s5 = killS ks1 s3) : X = .ok (xs.flatMap fun x => (ys x).map (g x)) s0 := by
  rw [← hX]; exact comp2_map f f1 g ys xs h
variable {s : S} {src : DM (List D)}
def eLc2k (ks1 ks : List Nat) (t : D → S → Option S) (src1 : DM (List D)) (t1 : D → S → Option S) (elt : DM D) (ds : List D) (s : S) : R RV := if decide (ds.length ≤ 1000) = true then thenR (compL2 t src1 t1 elt ks1 ks ds (killS ks s)) eLcb else .bad
theorem v_eLc2 : eLc2 ks1 ks src t src1 t1 elt s = thenR (src s) (eLc2k ks1 ks t src1 t1 elt) := by
  show bindM _ _ s = _
  unfold bindM thenR
  cases src s with
  | ok ds s1 =>
    dsimp only [eLc2k]
    split
    · rfl
    · rfl
  | _ => rfl
theorem v_eLc2k {ds : List D} : eLc2k ks1 ks t src1 t1 elt ds s = if decide (ds.length ≤ 1000) = true then thenR (compL2 t src1 t1 elt ks1 ks ds (killS ks s)) eLcb else .bad := rfl
end
end DL

/-! DLB: loops that fold, loops that seek. -/
namespace DL
open PySem PySem.Spec PyProof.Rows L2
theorem v_dZipkT {xs ys : List D} {s : S} : dZipk [.tuple xs, .tuple ys] s = if lenOk xs.length = true then .ok (List.zipWith (fun x y => .tuple [x, y]) xs ys) s else .bad := by
  unfold dZipk zipD
  dsimp only
  split <;> rfl
theorem getElem?_split {α : Type} {xs : List α} {i : Nat} {x : α} (h : xs[i]? = some x) : xs = xs.take i ++ x :: xs.drop (i + 1) := by
  obtain ⟨h1, h2⟩ := List.getElem?_eq_some_iff.mp h
  rw [← h2, List.getElem_cons_drop, List.take_append_drop]
/-- a loop that folds -/
theorem for_acc {α β : Type} {t : D → S → Option S} {b : DM Fl} {ks : List Nat} {f : α → D} {xs : List α} {s0 : S} {X : R Fl} (hX : forL t b ks (xs.map f) s0 = X) (P : β → S → Prop) (g : β → α → β) (a0 : β) (p : P a0 s0)
    (h : ∀ pre x post s, xs = pre ++ x :: post → P (pre.foldl g a0) s → okT (t (f x) s) fun s1 => okF (b s1) (fun s2 => P (g (pre.foldl g a0) x) (killS ks s2)) noA) : ∃ s, X = .ok .nx s ∧ P (xs.foldl g a0) s := by
  obtain ⟨s, e, hs⟩ := list_gen hX (fun i s => P ((xs.take i).foldl g a0) s) p (by
    intro i d s hd hp
    rw [List.getElem?_map] at hd
    cases q : xs[i]? with
    | none => rw [q] at hd; cases hd
    | some x =>
      rw [q] at hd
      cases hd
      have hh := h (xs.take i) x (xs.drop (i + 1)) s (getElem?_split q) hp
      have hk : (xs.take (i + 1)).foldl g a0 = g ((xs.take i).foldl g a0) x := by
        rw [List.take_add_one, q, List.foldl_append]; rfl
      rw [hk]
      exact hh)
  refine ⟨s, e, ?_⟩
  rw [List.length_map, List.take_length] at hs
  exact hs
/-- a loop that seeks -/
theorem for_findI {α : Type} {t : D → S → Option S} {b : DM Fl} {ks : List Nat} {f : α → D} (P : Nat → S → Prop) (g : α → Option RV) : ∀ (xs : List α) (k : Nat) (s0 : S), P k s0 →
    (∀ i x s, xs[i]? = some x → P (k + i) s → okT (t (f x) s) fun s1 => (g x = none ∧ okF (b s1) (fun s2 => P (k + i + 1) (killS ks s2)) noA) ∨ ∃ r s2, g x = some r ∧ b s1 = .ok (.rt r) s2) →
    (xs.findSome? g = none ∧ ∃ s, forL t b ks (xs.map f) s0 = .ok .nx s ∧ P (k + xs.length) s) ∨ ∃ r s, xs.findSome? g = some r ∧ forL t b ks (xs.map f) s0 = .ok (.rt r) s
  | [], k, s0, p, h => .inl ⟨rfl, s0, rfl, p⟩
  | x :: xs, k, s0, p, h => by
    have h0 := h 0 x s0 rfl p
    rw [List.map_cons, v_for1]
    cases e1 : t (f x) s0 with
    | none => rw [e1] at h0; exact h0.elim
    | some s1 =>
      rw [e1, v_okTs] at h0
      rw [v_forT]
      rcases h0 with ⟨hg, h0⟩ | ⟨r, s2, hg, h0⟩
      · rw [List.findSome?_cons, hg]
        have nxt : ∀ s2, P (k + 0 + 1) (killS ks s2) → _ := fun s2 h4 => for_findI P g xs (k + 1) (killS ks s2) h4 fun i y s hy hp => by
          have := h (i + 1) y s (by simpa using hy)
          rw [show k + (i + 1) = k + 1 + i by omega] at this
          exact this hp
        rw [List.length_cons, show k + (xs.length + 1) = k + 1 + xs.length by omega]
        cases e2 : b s1 with
        | ok fl s2 =>
          rw [e2] at h0
          cases fl with
          | nx => exact nxt s2 h0
          | ct => exact nxt s2 h0
          | rt r => exact h0.elim
          | bk => exact h0.elim
        | exc c s2 => rw [e2] at h0; exact h0.elim
        | bad => rw [e2] at h0; exact h0.elim
      · rw [List.findSome?_cons, hg, h0]
        exact .inr ⟨r, s2, rfl, rfl⟩
theorem for_findX {α : Type} {t : D → S → Option S} {b : DM Fl} {ks : List Nat} {f : α → D} {xs : List α} {s0 : S} {X : R Fl} (hX : forL t b ks (xs.map f) s0 = X) (P : Nat → S → Prop) (g : α → Option RV) (p : P 0 s0)
    (h : ∀ i x s, xs[i]? = some x → P i s → okT (t (f x) s) fun s1 => (g x = none ∧ okF (b s1) (fun s2 => P (i + 1) (killS ks s2)) noA) ∨ ∃ r s2, g x = some r ∧ b s1 = .ok (.rt r) s2) :
    (xs.findSome? g = none ∧ ∃ s, X = .ok .nx s ∧ P xs.length s) ∨ ∃ r s, xs.findSome? g = some r ∧ X = .ok (.rt r) s := by
  rw [← hX]
  have := for_findI (t := t) (b := b) (ks := ks) (f := f) P g xs 0 s0 p (fun i x s hx hp => by
    rw [Nat.zero_add] at hp ⊢
    exact h i x s hx hp)
  rw [Nat.zero_add] at this
  exact this
theorem foldl_app {α β : Type} (h : α → List β) : ∀ (xs : List α) (a : List β), xs.foldl (fun acc x => acc ++ h x) a = a ++ xs.flatMap h
  | [], a => by simp
  | x :: xs, a => by rw [List.foldl_cons, foldl_app h xs, List.flatMap_cons, List.append_assoc]
theorem flatMap_len {α β : Type} {h : α → List β} {k : Nat} : ∀ {xs : List α}, (∀ x, x ∈ xs → (h x).length ≤ k) → (xs.flatMap h).length ≤ k * xs.length
  | [], _ => by simp
  | x :: xs, hh => by
    rw [List.flatMap_cons, List.length_append, List.length_cons, Nat.mul_add, Nat.mul_one]
    have h1 := hh x List.mem_cons_self
    have h2 := flatMap_len (xs := xs) fun y hy => hh y (List.mem_cons_of_mem _ hy)
    omega
theorem filterMap_eq {α β : Type} (h : α → Option β) : ∀ xs : List α, xs.filterMap h = xs.flatMap fun x => (h x).toList
  | [] => rfl
  | x :: xs => by
    rw [List.filterMap_cons, List.flatMap_cons, filterMap_eq h xs]
    cases h x <;> rfl
theorem all_bools {α : Type} (f : α → Bool) (xs : List α) : gAll (.list (xs.map fun x => PyData.bool (f x))) = some (.bool (xs.all f)) := by
  have h : xs.map (fun x => PyData.bool (f x)) = (xs.map f).map PyData.bool := by rw [List.map_map]; rfl
  unfold gAll
  dsimp only
  rw [h, boolsD_map]
  show some (PyData.bool ((xs.map f).all _root_.id)) = _
  rw [List.all_map]
  rfl
theorem any_bools {α : Type} (f : α → Bool) (xs : List α) : gAny (.list (xs.map fun x => PyData.bool (f x))) = some (.bool (xs.any f)) := by
  have h : xs.map (fun x => PyData.bool (f x)) = (xs.map f).map PyData.bool := by rw [List.map_map]; rfl
  unfold gAny
  dsimp only
  rw [h, boolsD_map]
  show some (PyData.bool ((xs.map f).any _root_.id)) = _
  rw [List.any_map]
  rfl
theorem zip_ints (xs ys : List Int) : List.zipWith (fun x y => PyData.tuple [x, y]) (xs.map .int) (ys.map .int) = (xs.zip ys).map fun p => PyData.tuple [.int p.1, .int p.2] := by
  rw [List.zipWith_map, List.zip, List.map_zipWith]
/-! ### tuples: slices, a sum -/
section
variable {X : Cx} {W : WX} {k : Nat} {a b c e lo hi : Expr} {oa ob oc : Opd} {pos p p2 : Pos} {x : Str} {id T : String}
theorem cut_whole {ds : List D} {l u : Option Int} (h : HT.sIx ds.length 0 l = 0 ∧ HT.sIx ds.length ds.length u = ds.length) : cutD ds l u = ds := by
  unfold cutD
  rw [h.1, h.2, List.drop_zero, Nat.sub_zero, List.take_length]
theorem de_cutUT (ha : DO X W a oa) (hb : DO X W b ob) : DE X W (.Subscript a (.Slice none (some b) none p2) pos) (eNewT (e2 gCutUT oa ob)) := by
  refine pe_imp (pe_slice sl_tupA ha po_none (po_some hb)) fun σ H Q ⟨B, Z, as, s, I, h⟩ => ?_
  refine rO_mono (rO2 I (After.bind h)) fun v H1 h1 => rO_mono h1 fun u H2 ⟨Z2, as2, s2, dx, dy, ds, I2, E2, P2, rx, ry, e, q⟩ => ?_
  cases dx with
  | tuple xs =>
    cases dy with
    | int j =>
      cases e
      cases rx with
      | f rx =>
      obtain ⟨p, vs, hp, g1, h2⟩ := (BRep.f (H := H2) rx).tuple I2.zh
      subst hp
      refine ⟨j, by rw [ry.int], p, vs, rfl, g1, fun hw => ?_, fun _ l np => ?_⟩
      · refine q _ _ _ I2 .refl (List.prefix_refl _) _ ?_
        rw [cut_whole (by rw [← h2.length]; exact hw)]
        exact rx
      · obtain ⟨I3, E3, z3⟩ := I2.alloc (o := .tup (cutV vs none (some j))) np
        exact q _ _ _ I3 E3 (List.prefix_refl _) _ (.tup (.inl (.inl z3)) ((h2.cut _ _).mono E3.same))
    | _ => cases e
  | _ => cases e
theorem de_cutLT (ha : DO X W a oa) (hb : DO X W b ob) : DE X W (.Subscript a (.Slice (some b) none none p2) pos) (eNewT (e2 gCutLT oa ob)) := by
  refine pe_imp (pe_slice sl_tupA ha (po_some hb) po_none) fun σ H Q ⟨B, Z, as, s, I, h⟩ => ?_
  refine rO_mono (rO2 I (After.bind h)) fun v H1 h1 => rO_mono h1 fun u H2 ⟨Z2, as2, s2, dx, dy, ds, I2, E2, P2, rx, ry, e, q⟩ => ?_
  cases dx with
  | tuple xs =>
    cases dy with
    | int j =>
      cases e
      cases rx with
      | f rx =>
      obtain ⟨p, vs, hp, g1, h2⟩ := (BRep.f (H := H2) rx).tuple I2.zh
      subst hp
      refine ⟨j, by rw [ry.int], p, vs, rfl, g1, fun hw => ?_, fun _ l np => ?_⟩
      · refine q _ _ _ I2 .refl (List.prefix_refl _) _ ?_
        rw [cut_whole (by rw [← h2.length]; exact hw)]
        exact rx
      · obtain ⟨I3, E3, z3⟩ := I2.alloc (o := .tup (cutV vs (some j) none)) np
        exact q _ _ _ I3 E3 (List.prefix_refl _) _ (.tup (.inl (.inl z3)) ((h2.cut _ _).mono E3.same))
    | _ => cases e
  | _ => cases e
/-- t[i:j] -/
def gCutBT : D → D → D → Option (List D)
  | .tuple ds, .int i, .int j => some (cutD ds (some i) (some j))
  | _, _, _ => none
def gCatT : D → D → Option (List D)
  | .tuple xs, .tuple ys => if lenOk (xs.length + ys.length) then some (xs ++ ys) else none
  | _, _ => none
theorem de_catT (ha : DO X W a oa) (hb : DO X W b ob) : DE X W (.BinOp a .Add b pos) (eNewT (e2 gCatT oa ob)) := by
  refine pe_imp (pe_op op_catA ha hb) fun σ H Q ⟨B, Z, as, s, I, h⟩ => ?_
  refine rO_mono (rO2 I (After.bind h)) fun v H1 h1 => rO_mono h1 fun u H2 ⟨Z2, as2, s2, dx, dy, ds, I2, E2, P2, rx, ry, e, q⟩ => ?_
  cases dx with
  | tuple xs =>
    cases dy with
    | tuple ys =>
      unfold gCatT at e
      dsimp only at e
      split at e
      · rename_i hl
        cases e
        cases rx with
        | f rx =>
        cases ry with
        | f ry =>
        obtain ⟨p, vs, hp, g1, h2⟩ := (BRep.f (H := H2) rx).tuple I2.zh
        obtain ⟨p', us, hp', h3, h4⟩ := (BRep.f (H := H2) ry).tuple I2.zh
        subst hp
        subst hp'
        have hlen := lenOk_line hl
        refine ⟨p, p', vs, us, rfl, rfl, g1, h3, by rw [h2.length, h4.length]; omega, fun h0 => ?_, fun _ h0 => ?_, fun _ _ l np => ?_⟩
        · refine q _ _ _ I2 .refl (List.prefix_refl _) _ ?_
          subst h0
          cases h2
          exact ry
        · refine q _ _ _ I2 .refl (List.prefix_refl _) _ ?_
          subst h0
          cases h4
          rw [List.append_nil]
          exact rx
        · obtain ⟨I3, E3, z3⟩ := I2.alloc (o := .tup (vs ++ us)) np
          exact q _ _ _ I3 E3 (List.prefix_refl _) _ (.tup (.inl (.inl z3)) ((Reps.app h2 h4).mono E3.same))
      · cases e
    | _ => cases e
  | _ => cases e
end
theorem v_gCatTt {xs ys : List D} : gCatT (.tuple xs) (.tuple ys) = if lenOk (xs.length + ys.length) = true then some (xs ++ ys) else none := rfl
end DL

/-! DLC: dicts whose keys are tuples, or ints, texts, None. -/
namespace DL
open PySem PySem.Spec PyProof.Rows L2
def isTup : D → Bool
  | .tuple _ => true
  | _ => false
def isLf : D → Bool
  | .none => true
  | .bool _ => true
  | .int _ => true
  | .str _ => true
  | _ => false
theorem BRep.dict {C : Ct} {Z H : Hp} {v : V} {kvs : List (D × D)} (zh : Same Z H) (h : BRep C Z H v (.dict kvs)) : ∃ p, v = .ref p ∧ DicR C Z H p kvs := by
  cases h with
  | f h =>
    cases h with
    | @dic a o es ep _ h1 h2 h3 h4 h5 h6 => exact ⟨a, rfl, h2, ⟨o, es, ep, zh _ _ h1, h3, h4, h5⟩, h6⟩
  | k h => exact ⟨_, rfl, h⟩
section
variable {X : Cx} {pins : List (Addr × Obj)} {σ : St} {H : Hp} {s : Shared}
theorem dict_obj (I : Inv X pins σ H s) {p : Addr} {o : Obj} (h : H p = some (dictHO p o)) : s.heap.get? p = some o := (I.hok p _ h).1
mutual
theorem nest_of (I : Inv X pins σ H s) : ∀ {v : V} {d : D} {nk : NestedKey} {u : Value}, Rep (ctOf X) H v d → toNK d = some nk → RelV v u → NestedIs s.heap nk u
  | _, _, nk, u, .non, e, r => by
    simp only [toNK] at e; cases e
    cases (show u = Value.none from r); exact .none
  | _, _, nk, u, .bl b, e, r => by
    simp only [toNK] at e; cases e
    cases (show u = Value.bool b from r); exact .bool rfl
  | _, _, nk, u, .int i, e, r => by
    simp only [toNK] at e; cases e
    obtain ⟨t, rfl⟩ := r; exact .int i t
  | _, _, nk, u, .str x, e, r => by
    simp only [toNK] at e; cases e
    obtain ⟨t, rfl⟩ := r; exact .text x t
  | _, _, nk, u, .lst _ _, e, r => by simp only [toNK] at e; cases e
  | _, _, nk, u, .dic _ _ _ _ _ _, e, r => by simp only [toNK] at e; cases e
  | _, _, nk, u, .tup (a := a) (xs := xs) (ds := ds) hq hr, e, r => by
    simp only [toNK] at e
    obtain ⟨ks, e1, rfl⟩ := Option.map_eq_some_iff.mp e
    cases (show u = Value.ref a from r)
    obtain ⟨its, rv, hl, hz⟩ := I.tuple hq
    obtain ⟨o, ho, hc, n, hd⟩ := hl
    exact .tup ho hc hd (nest_all I hr e1 (by simpa using rv))
theorem nest_all (I : Inv X pins σ H s) : ∀ {vs : List V} {ds : List D} {ks : List NestedKey} {us : List Value}, Reps (ctOf X) H vs ds → toNKs ds = some ks → Vals vs us → NestedAll s.heap ks us
  | _, _, ks, us, .nil, e, r => by
    simp only [toNKs] at e; cases e
    cases r; exact .nil
  | _, _, ks, us, .cons h t, e, r => by
    simp only [toNKs] at e
    obtain ⟨k, e1, e2⟩ := Option.bind_eq_some_iff.mp e
    obtain ⟨ks', e3, rfl⟩ := Option.map_eq_some_iff.mp e2
    cases r with
    | cons r1 r2 => exact .cons (nest_of I h e1 r1) (nest_all I t e3 r2)
end
/-- an entry with a tuple key -/
def EntT (C : Ct) (H : Hp) (x : NestedKey × Addr × Value) (kv : D × D) : Prop := toNK kv.1 = some x.1 ∧ Rep C H (.ref x.2.1) kv.1 ∧ x.1.depth ≤ 8 ∧ ∃ vv, RelV vv x.2.2 ∧ Rep C H vv kv.2
theorem ents_T {C : Ct} {H : Hp} {P : Program} : ∀ {es : List DictEntry} {kvs : List (D × D)}, Ents C H es kvs → (∀ q ∈ kvs, isTup q.1 = true) → ∃ xs : List (NestedKey × Addr × Value), es = xs.map (entryOfKey (nestedKind P C.w)) ∧ Paired (EntT C H) xs kvs
  | _, _, .nil, _ => ⟨[], rfl, .nil⟩
  | _, _, .cons (e := e) (kv := kv) (vv := vv) (k := k) (d := d) (nk := nk) r1 r2 e1 e2 e3 r4 r5 t, h => by
    obtain ⟨xs, h1, h2⟩ := ents_T (P := P) t fun q hq => h q (List.mem_cons_of_mem _ hq)
    have hk := h (k, d) List.mem_cons_self
    cases r2 with
    | @tup a ys ds hq hr =>
      have : e.key = Value.ref a := r1
      refine ⟨(nk, a, e.val) :: xs, ?_, .cons ⟨e1, .tup hq hr, e2, vv, r4, r5⟩ h2⟩
      rw [List.map_cons, ← h1]
      congr 1
      cases e
      simp only at this e3
      subst this e3
      rfl
    | _ => cases hk
theorem ents_back {C : Ct} {H : Hp} {P : Program} : ∀ {xs : List (NestedKey × Addr × Value)} {kvs : List (D × D)}, Paired (EntT C H) xs kvs → Ents C H (xs.map (entryOfKey (nestedKind P C.w))) kvs
  | _, _, .nil => .nil
  | _, _, .cons (a := x) (b := kv) ⟨h1, h2, h3, vv, h4, h5⟩ t => by
    obtain ⟨k, d⟩ := kv
    exact .cons (kv := V.ref x.2.1) (vv := vv) (nk := x.1) rfl h2 h1 h3 rfl h4 h5 (ents_back t)
theorem paired_keys {C : Ct} {H : Hp} : ∀ {xs : List (NestedKey × Addr × Value)} {kvs : List (D × D)}, Paired (EntT C H) xs kvs → kvs.map (fun p => toNK p.1) = (xs.map (·.1)).map some
  | _, _, .nil => rfl
  | _, _, .cons h t => by rw [List.map_cons, List.map_cons, List.map_cons, h.1, paired_keys t]
theorem nodup_some {α : Type} {l : List α} : (l.map some).Nodup ↔ l.Nodup := by
  constructor
  · intro h; exact List.Pairwise.of_map some (fun _ _ hne e => hne (congrArg some e)) h
  · intro h
    exact List.pairwise_map.mpr (h.imp fun hne e => hne (Option.some.inj e))
/-- the dict as one with tuple keys -/
theorem view_T {Z : Hp} (I : Inv X pins σ H s) (zh : Same Z H) {p : Addr} {kvs : List (D × D)} (h : DicR (ctOf X) Z H p kvs) (ht : ∀ q ∈ kvs, isTup q.1 = true) : ∃ xs, s.heap.DictOfH (nestedKind X.prog X.w) p xs ∧ Paired (EntT (ctOf X) Z) xs kvs := by
  obtain ⟨n, ⟨o, es, ep, h1, h2, h3, h4⟩, nd⟩ := h
  obtain ⟨xs, e1, e2⟩ := ents_T (P := X.prog) h4 ht
  refine ⟨xs, ⟨o, es, ep, dict_obj I h1, h2, h3, e1, fun x hx => ?_, ?_⟩, e2⟩
  · obtain ⟨i, hi, rfl⟩ := List.mem_iff_getElem.mp hx
    obtain ⟨kv, _, q1, q2, q3, _⟩ := paired_getL e2 (List.getElem?_eq_getElem hi)
    exact ⟨nest_of I (q2.mono zh) q1 rfl, q3⟩
  · rw [paired_keys e2, nodup_some] at nd
    exact nd
/-! what is asked, over data -/
def dGet (kvs : List (D × D)) (k : D) : Option D := (kvs.find? fun p => decide (toNK p.1 = toNK k)).map (·.2)
def dPut (kvs : List (D × D)) (k d : D) : List (D × D) := if (kvs.any fun p => decide (toNK p.1 = toNK k)) = true then kvs.map (fun p => if toNK p.1 = toNK k then (p.1, d) else p) else kvs ++ [(k, d)]
theorem atKey_get {C : Ct} {H : Hp} {k : D} {nk : NestedKey} (hk : toNK k = some nk) : ∀ {xs : List (NestedKey × Addr × Value)} {kvs : List (D × D)}, Paired (EntT C H) xs kvs →
    (match atKey xs nk, dGet kvs k with | some p, some d => ∃ vv, RelV vv p.2 ∧ Rep C H vv d | none, none => True | _, _ => False)
  | _, _, .nil => True.intro
  | _, _, .cons (a := x) (b := kv) h t => by
    have ih := atKey_get hk t
    unfold atKey dGet at ih ⊢
    rw [List.find?_cons, List.find?_cons, h.1, hk]
    by_cases e : x.1 = nk
    · rw [decide_eq_true e, decide_eq_true (congrArg some e)]
      exact h.2.2.2
    · rw [decide_eq_false e, decide_eq_false (fun q => e (Option.some.inj q))]
      rw [hk] at ih
      exact ih
theorem any_T {C : Ct} {H : Hp} {k : D} {nk : NestedKey} (hk : toNK k = some nk) {xs : List (NestedKey × Addr × Value)} {kvs : List (D × D)} (h : Paired (EntT C H) xs kvs) : (kvs.any fun p => decide (toNK p.1 = toNK k)) = (atKey xs nk).isSome := by
  induction h with
  | nil => rfl
  | @cons x kv xs kvs h t ih =>
    rw [List.any_cons, ih, h.1, hk]
    unfold atKey
    rw [List.find?_cons]
    by_cases e : x.1 = nk
    · rw [decide_eq_true e, decide_eq_true (congrArg some e)]; rfl
    · rw [decide_eq_false e, decide_eq_false (fun q => e (Option.some.inj q))]; rfl
theorem put_T {C : Ct} {H : Hp} {k d : D} {nk : NestedKey} {a : Addr} {u : Value} {vv : V} (hk : toNK k = some nk) (ra : Rep C H (.ref a) k) (hd : nk.depth ≤ 8) (ru : RelV vv u) (rv : Rep C H vv d) {xs : List (NestedKey × Addr × Value)} {kvs : List (D × D)} (h : Paired (EntT C H) xs kvs) :
    Paired (EntT C H) (storedH xs nk a u) (dPut kvs k d) := by
  unfold storedH dPut
  rw [any_T hk h]
  by_cases hs : (atKey xs nk).isSome = true
  · rw [if_pos hs, if_pos hs]
    clear hs
    induction h with
    | nil => exact .nil
    | @cons x kv xs kvs h t ih =>
      rw [List.map_cons, List.map_cons]
      refine .cons ?_ ih
      unfold putAt
      rw [h.1, hk]
      by_cases e : x.1 = nk
      · rw [if_pos e, if_pos (congrArg some e)]
        exact ⟨h.1, h.2.1, h.2.2.1, vv, ru, rv⟩
      · rw [if_neg e, if_neg (fun q => e (Option.some.inj q))]
        exact h
  · rw [if_neg hs, if_neg hs]
    clear hs
    induction h with
    | nil => exact .cons ⟨hk, ra, hd, vv, ru, rv⟩ .nil
    | cons h t ih => exact .cons h ih
/-! ints and None as keys -/
def kiD : Option Int → D
  | some i => .int i
  | none => .none
def kiV : Option Int → V
  | some i => .int i
  | none => .non
def kiN : Option Int → NestedKey
  | some i => .num i
  | none => .none
theorem toNK_ki : ∀ i : Option Int, toNK (kiD i) = some (kiN i)
  | some i => by show toNK (.int i) = _; simp only [toNK]; rfl
  | none => by show toNK .none = _; simp only [toNK]; rfl
theorem kiN_inj : ∀ {i j : Option Int}, kiN i = kiN j → i = j
  | some i, some j, h => by injection h with h; rw [h]
  | none, none, _ => rfl
  | some _, none, h => nomatch h
  | none, some _, h => nomatch h
def kiIs : Option Int → Value → Bool
  | some i, v => v.isInt i
  | none, .none => true
  | none, _ => false
theorem kiIs_rel : ∀ {k : Option Int} {v : Value}, kiIs k v = true → RelV (kiV k) v
  | some i, v, h => Value.isInt_shape h
  | none, v, h => by
    cases v <;> first | rfl | cases h
theorem rel_kiIs : ∀ {k : Option Int} {v : Value}, RelV (kiV k) v → kiIs k v = true
  | some i, v, h => by
    obtain ⟨t, rfl⟩ := (show ∃ t, v = Value.int i t from h)
    show Value.isInt i (.int i t) = true
    simp [Value.isInt]
  | none, v, h => by
    cases (show v = Value.none from h)
    rfl
def kiKind (prog : Program) (w : World) : PySem.KeyKind prog w (Option Int) where
  is := kiIs
  hash := fun k => (kiN k).hash w
  inj := fun v a b ha hb => by
    have h1 := kiIs_rel ha
    have h2 := kiIs_rel hb
    cases a with
    | none =>
      cases b with
      | none => rfl
      | some j =>
        obtain ⟨t, rfl⟩ := (show ∃ t, v = Value.int j t from h2)
        cases (show Value.int j t = Value.none from h1)
    | some i =>
      obtain ⟨t, rfl⟩ := (show ∃ t, v = Value.int i t from h1)
      cases b with
      | none => cases (show Value.int i t = Value.none from h2)
      | some j =>
        obtain ⟨u, e⟩ := (show ∃ u, Value.int i t = Value.int j u from h2)
        injection e with e1 _
        rw [e1]
  byValue := fun k v h => by
    have h1 := kiIs_rel h
    cases k with
    | none => cases (show v = Value.none from h1); rfl
    | some i => obtain ⟨t, rfl⟩ := (show ∃ t, v = Value.int i t from h1); rfl
  pyHash := fun {A E s k v Q} hv h => by
    have h1 := kiIs_rel hv
    cases k with
    | none =>
      cases (show v = Value.none from h1)
      exact W.pyHash_slot (T := "NoneType") rfl F.slot_NoneType_hash F.entry_NoneType_hash (F.args_NoneType_hash_1 _) (beq_builtin_none _) (.inl rfl) (wpAny_bind (wpAny_pure (wpAny_bind (wpAny_mkInt (wpAny_pure ⟨_, _, rfl, h⟩)))))
    | some i =>
      obtain ⟨t, rfl⟩ := (show ∃ t, v = Value.int i t from h1)
      exact wpAny_pyHash_int h
  eqBool := fun {A E s a b u v Q} hu hv h => by
    have h1 := kiIs_rel hu
    have h2 := kiIs_rel hv
    cases a with
    | none =>
      cases (show u = Value.none from h1)
      cases b with
      | none => cases (show v = Value.none from h2); exact SeqAt.EqAt.same _ _ _ _ _ h
      | some j => obtain ⟨t, rfl⟩ := (show ∃ t, v = Value.int j t from h2); exact SeqAt.EqAt.none_int j t _ _ _ _ h
    | some i =>
      obtain ⟨t, rfl⟩ := (show ∃ t, u = Value.int i t from h1)
      cases b with
      | none => cases (show v = Value.none from h2); exact SeqAt.EqAt.int_none i t _ _ _ _ h
      | some j =>
        obtain ⟨t', rfl⟩ := (show ∃ t, v = Value.int j t from h2)
        rw [show decide (some i = some j) = (i == j) by by_cases e : i = j <;> simp [e]] at h
        exact wpAny_eqBool_int h
  «strs» := fun k x t v h => by
    have h1 := kiIs_rel h
    cases k with
    | none => cases (show Value.str x t = Value.none from h1)
    | some i => obtain ⟨u, e⟩ := (show ∃ u, Value.str x t = Value.int i u from h1); cases e
def isIn : D → Bool
  | .int _ => true
  | .none => true
  | _ => false
def EntI (C : Ct) (H : Hp) (x : Option Int × Value) (kv : D × D) : Prop := kv.1 = kiD x.1 ∧ ∃ vv, RelV vv x.2 ∧ Rep C H vv kv.2
theorem ents_I {C : Ct} {H : Hp} {P : Program} : ∀ {es : List DictEntry} {kvs : List (D × D)}, Ents C H es kvs → (∀ q ∈ kvs, isIn q.1 = true) → ∃ xs : List (Option Int × Value), Pairs (kiKind P C.w) es xs ∧ Paired (EntI C H) xs kvs ∧ ∀ e ∈ es, ∃ k, (kiKind P C.w).is k e.key = true ∧ e.hash = (kiKind P C.w).hash k
  | _, _, .nil, _ => ⟨[], .nil, .nil, fun _ h => nomatch h⟩
  | _, _, .cons (e := e) (kv := kv) (vv := vv) (k := k) (d := d) (nk := nk) r1 r2 e1 e2 e3 r4 r5 t, h => by
    obtain ⟨xs, h1, h2, h3⟩ := ents_I (P := P) t fun q hq => h q (List.mem_cons_of_mem _ hq)
    have hk := h (k, d) List.mem_cons_self
    have key : ∃ i : Option Int, k = kiD i ∧ kv = kiV i := by
      cases r2 with
      | int i => exact ⟨some i, rfl, rfl⟩
      | non => exact ⟨none, rfl, rfl⟩
      | _ => cases hk
    obtain ⟨i, rfl, rfl⟩ := key
    rw [toNK_ki] at e1
    cases e1
    have hi : (kiKind P C.w).is i e.key = true := rel_kiIs r1
    refine ⟨(i, e.val) :: xs, .cons hi rfl h1, .cons ⟨rfl, vv, r4, r5⟩ h2, fun e' he => ?_⟩
    rcases List.mem_cons.mp he with rfl | he
    · exact ⟨i, hi, e3⟩
    · exact h3 e' he
theorem rep_ki {C : Ct} {H : Hp} : ∀ i : Option Int, Rep C H (kiV i) (kiD i)
  | some i => .int i
  | none => .non
theorem kiN_depth : ∀ i : Option Int, (kiN i).depth ≤ 8
  | some i => by show (NestedKey.num i).depth ≤ 8; simp [NestedKey.depth]
  | none => by show NestedKey.none.depth ≤ 8; simp [NestedKey.depth]
theorem ents_backI {C : Ct} {H : Hp} {P : Program} : ∀ {es : List DictEntry} {xs : List (Option Int × Value)} {kvs : List (D × D)}, Pairs (kiKind P C.w) es xs → Paired (EntI C H) xs kvs → (∀ e ∈ es, ∃ k, (kiKind P C.w).is k e.key = true ∧ e.hash = (kiKind P C.w).hash k) → Ents C H es kvs
  | _, _, _, .nil, .nil, _ => .nil
  | _, _, _, .cons (e := e) (kv := x) hi hv t, .cons (b := kv) ⟨h1, vv, h2, h3⟩ t2, hh => by
    obtain ⟨k, d⟩ := kv
    simp only at h1
    subst h1
    obtain ⟨j, j1, j2⟩ := hh e List.mem_cons_self
    have hj : j = x.1 := (kiKind P C.w).inj _ _ _ j1 hi
    subst hj
    exact .cons (kv := kiV x.1) (vv := vv) (nk := kiN x.1) (kiIs_rel hi) (rep_ki _) (toNK_ki _) (kiN_depth _) j2 (by rw [hv]; exact h2) h3 (ents_backI t t2 fun e' he => hh e' (List.mem_cons_of_mem _ he))
theorem paired_keysI {C : Ct} {H : Hp} : ∀ {xs : List (Option Int × Value)} {kvs : List (D × D)}, Paired (EntI C H) xs kvs → kvs.map (fun p => toNK p.1) = (xs.map (·.1)).map fun i => some (kiN i)
  | _, _, .nil => rfl
  | _, _, .cons h t => by rw [List.map_cons, List.map_cons, List.map_cons, h.1, paired_keysI t, toNK_ki]
theorem nodup_num {l : List (Option Int)} : (l.map fun i => some (kiN i)).Nodup ↔ l.Nodup := by
  constructor
  · intro h; exact List.Pairwise.of_map (fun i => some (kiN i)) (fun _ _ hne e => hne (by rw [e])) h
  · intro h
    exact List.pairwise_map.mpr (h.imp fun hne e => hne (kiN_inj (Option.some.inj e)))
theorem view_I {Z : Hp} (I : Inv X pins σ H s) {p : Addr} {kvs : List (D × D)} (h : DicR (ctOf X) Z H p kvs) (ht : ∀ q ∈ kvs, isIn q.1 = true) : ∃ xs, s.heap.DictOf (kiKind X.prog X.w) p xs ∧ Paired (EntI (ctOf X) Z) xs kvs := by
  obtain ⟨n, ⟨o, es, ep, h1, h2, h3, h4⟩, nd⟩ := h
  obtain ⟨xs, e1, e2, e3⟩ := ents_I (P := X.prog) h4 ht
  refine ⟨xs, ⟨o, es, ep, dict_obj I h1, h2, h3, fun e he => e3 e (by simpa using he), e1, ?_⟩, e2⟩
  rw [paired_keysI e2, nodup_num] at nd
  exact nd
theorem toNK_kiE {i j : Option Int} : toNK (kiD j) = toNK (kiD i) ↔ j = i := by
  rw [toNK_ki, toNK_ki]
  exact ⟨fun q => kiN_inj (Option.some.inj q), fun q => by rw [q]⟩
theorem get_I {C : Ct} {H : Hp} {i : Option Int} : ∀ {xs : List (Option Int × Value)} {kvs : List (D × D)}, Paired (EntI C H) xs kvs →
    (match valueAt xs i, dGet kvs (kiD i) with | some u, some d => ∃ vv, RelV vv u ∧ Rep C H vv d | none, none => True | _, _ => False)
  | _, _, .nil => True.intro
  | _, _, .cons (a := x) (b := kv) h t => by
    have ih := get_I (i := i) t
    unfold valueAt dGet at ih ⊢
    rw [List.find?_cons, List.find?_cons, h.1]
    by_cases e : x.1 = i
    · rw [decide_eq_true e, decide_eq_true (toNK_kiE.mpr e)]
      exact h.2
    · rw [decide_eq_false e, decide_eq_false (fun q => e (toNK_kiE.mp q))]
      exact ih
theorem put_I {C : Ct} {H : Hp} {d : D} {i : Option Int} {u : Value} {vv : V} (ru : RelV vv u) (rv : Rep C H vv d) {xs : List (Option Int × Value)} {kvs : List (D × D)} (h : Paired (EntI C H) xs kvs) :
    Paired (EntI C H) (stored xs i u) (dPut kvs (kiD i) d) := by
  have hn : ∀ j : Option Int, (toNK (kiD j) = toNK (kiD i)) ↔ j = i := fun j => toNK_kiE
  have hany : (kvs.any fun p => decide (toNK p.1 = toNK (kiD i))) = (xs.any fun kv => decide (kv.1 = i)) := by
    induction h with
    | nil => rfl
    | @cons x kv xs kvs h t ih =>
      rw [List.any_cons, List.any_cons, ih, h.1]
      congr 1
      exact decide_eq_decide.mpr (hn _)
  unfold stored dPut
  rw [hany]
  by_cases hs : (xs.any fun kv => decide (kv.1 = i)) = true
  · rw [if_pos hs, if_pos hs]
    clear hs hany
    induction h with
    | nil => exact .nil
    | @cons x kv xs kvs h t ih =>
      rw [List.map_cons, List.map_cons]
      refine .cons ?_ ih
      rw [h.1]
      by_cases e : x.1 = i
      · rw [if_pos e, if_pos ((hn _).mpr e)]
        exact ⟨rfl, vv, ru, rv⟩
      · rw [if_neg e, if_neg (fun q => e ((hn _).mp q))]
        exact h
  · rw [if_neg hs, if_neg hs]
    clear hs hany
    induction h with
    | nil => exact .cons ⟨rfl, vv, ru, rv⟩ .nil
    | cons h t ih => exact .cons h ih
end
end DL

/-! DLD: what is done with a dict: k in d, d[k], d[k] = v, {}, {k: v}. -/
namespace DL
open PySem PySem.Spec PyProof.Rows L2
def nkOk (k : D) : Bool := match toNK k with
  | some nk => decide (nk.depth ≤ 8)
  | none => false
theorem nkOk_some {k : D} (h : nkOk k = true) : ∃ nk, toNK k = some nk ∧ nk.depth ≤ 8 := by
  unfold nkOk at h
  split at h
  · rename_i nk e
    exact ⟨nk, e, of_decide_eq_true h⟩
  · cases h
/-- k may be asked of a dict with such keys -/
def keyT (k : D) (kvs : List (D × D)) : Bool := isTup k && nkOk k && kvs.all fun p => isTup p.1
def keyI (k : D) (kvs : List (D × D)) : Bool := isIn k && kvs.all fun p => isIn p.1
section
variable {X : Cx} {W : WX} {pins : List (Addr × Obj)} {σ : St} {H : Hp} {s : Shared}
/-- the key, as a value -/
theorem key_T {Z : Hp} {k : D} {kvs : List (D × D)} {x : V} (h : keyT k kvs = true) (rx : BRep (ctOf X) Z H x k) : ∃ a nk, x = .ref a ∧ Rep (ctOf X) Z (.ref a) k ∧ toNK k = some nk ∧ nk.depth ≤ 8 ∧ ∀ q ∈ kvs, isTup q.1 = true := by
  unfold keyT at h
  rw [Bool.and_eq_true, Bool.and_eq_true, List.all_eq_true] at h
  obtain ⟨⟨h1, h2⟩, h3⟩ := h
  obtain ⟨nk, e, hd⟩ := nkOk_some h2
  cases k with
  | tuple ds =>
    cases rx with
    | f r =>
      cases r with
      | @tup a xs _ hq hr => exact ⟨a, nk, rfl, .tup hq hr, e, hd, h3⟩
  | _ => cases h1
theorem key_I {Z : Hp} {k : D} {kvs : List (D × D)} {x : V} (h : keyI k kvs = true) (rx : BRep (ctOf X) Z H x k) : ∃ i : Option Int, k = kiD i ∧ x = kiV i ∧ ∀ q ∈ kvs, isIn q.1 = true := by
  unfold keyI at h
  rw [Bool.and_eq_true, List.all_eq_true] at h
  cases k with
  | int i => exact ⟨some i, rfl, rx.int, h.2⟩
  | none =>
    refine ⟨none, rfl, ?_, h.2⟩
    cases rx with
    | f r => cases r; rfl
  | _ => cases h.1
theorem room_T (hu : X.A.units + 64 < cLine) : (nestedKind X.prog X.w).room X.A.in1 := by
  show X.A.units + 1 + 8 < cLine
  omega
/-- x in d -/
def rInD (X : Cx) (f : Bool → Bool) : R2 := fun x y H Q => ∃ Z p kvs k, Same Z H ∧ y = .ref p ∧ DicR (ctOf X) Z H p kvs ∧ BRep (ctOf X) Z H x k ∧ (keyT k kvs = true ∨ keyI k kvs = true) ∧ Q (.bl (f (dGet kvs k).isSome)) H
theorem sees_T (I : Inv X pins σ H s) {Z : Hp} (zh : Same Z H) {k : D} {kvs : List (D × D)} {x : V} {v : Value} {p : Addr} (hd : DicR (ctOf X) Z H p kvs) (h : keyT k kvs = true) (rx : BRep (ctOf X) Z H x k) (rv : RelV x v) :
    ∃ a nk xs, v = .ref a ∧ (nestedKind X.prog X.w).is s.heap nk a ∧ s.heap.DictOfH (nestedKind X.prog X.w) p xs ∧ toNK k = some nk ∧ Paired (EntT (ctOf X) Z) xs kvs ∧ Rep (ctOf X) Z (.ref a) k ∧ nk.depth ≤ 8 := by
  obtain ⟨a, nk, rfl, r, e, hd8, ht⟩ := key_T h rx
  obtain ⟨xs, hm, hp⟩ := view_T I zh hd ht
  cases (show v = Value.ref a from rv)
  exact ⟨a, nk, xs, rfl, ⟨nest_of I (r.mono zh) e rfl, hd8⟩, hm, e, hp, r, hd8⟩
theorem some_T {C : Ct} {k : D} {nk : NestedKey} (hk : toNK k = some nk) {xs : List (NestedKey × Addr × Value)} {kvs : List (D × D)} (h : Paired (EntT C H) xs kvs) : (atKey xs nk).isSome = (dGet kvs k).isSome := by
  have := atKey_get hk h
  revert this
  cases atKey xs nk <;> cases dGet kvs k <;> intro h <;> first | rfl | exact h.elim
theorem some_I {C : Ct} {i : Option Int} {xs : List (Option Int × Value)} {kvs : List (D × D)} (h : Paired (EntI C H) xs kvs) : (valueAt xs i).isSome = (dGet kvs (kiD i)).isSome := by
  have := get_I (i := i) h
  revert this
  cases valueAt xs i <;> cases dGet kvs (kiD i) <;> intro h <;> first | rfl | exact h.elim
theorem op_inDc (hu : X.A.units + 64 < cLine) : OpR X (compareOp .In) (rInD X id) := by
  intro pins s σ H x y v u Q I rx ry h
  obtain ⟨Z, p, kvs, k, zh, rfl, hd, bx, hk, q⟩ := h
  cases (show u = Value.ref p from ry)
  rcases hk with hk | hk
  · obtain ⟨a, nk, xs, rfl, hkey, hm, e, hp, _⟩ := sees_T I zh hd hk bx rx
    refine wpAny_in_heap (room_T hu) hkey hd.ns hm ⟨.bl _, H, I.tok _, rfl, ?_⟩
    rw [some_T e hp]
    exact q
  · obtain ⟨i, rfl, rfl, ht⟩ := key_I hk bx
    obtain ⟨xs, hm, hp⟩ := view_I I hd ht
    refine wpAny_in_of (knd := kiKind X.prog X.w) (rel_kiIs rx) hd.ns hm.mapOf ⟨.bl _, H, I.tok _, rfl, ?_⟩
    rw [some_I hp]
    exact q
theorem op_notInDc (hu : X.A.units + 64 < cLine) : OpR X (compareOp .NotIn) (rInD X not) := by
  intro pins s σ H x y v u Q I rx ry h
  obtain ⟨Z, p, kvs, k, zh, rfl, hd, bx, hk, q⟩ := h
  cases (show u = Value.ref p from ry)
  rcases hk with hk | hk
  · obtain ⟨a, nk, xs, rfl, hkey, hm, e, hp, _⟩ := sees_T I zh hd hk bx rx
    refine wpAny_notIn_heap (room_T hu) hkey hd.ns hm ⟨.bl _, H, I.tok _, rfl, ?_⟩
    rw [some_T e hp]
    exact q
  · obtain ⟨i, rfl, rfl, ht⟩ := key_I hk bx
    obtain ⟨xs, hm, hp⟩ := view_I I hd ht
    refine wpAny_notIn_of (knd := kiKind X.prog X.w) (rel_kiIs rx) hd.ns hm.mapOf ⟨.bl _, H, I.tok _, rfl, ?_⟩
    rw [some_I hp]
    exact q
def gInD : D → D → Option D
  | k, .dict kvs => if keyT k kvs || keyI k kvs then some (.bool (dGet kvs k).isSome) else none
  | _, _ => none
def gNotInD : D → D → Option D
  | k, .dict kvs => if keyT k kvs || keyI k kvs then some (.bool (!(dGet kvs k).isSome)) else none
  | _, _ => none
theorem of_inD : Of2 (ctOf X) (rInD X id) gInD := by
  intro Z H x y dx dy d Q rx ry zh e q
  cases dy with
  | dict kvs =>
    obtain ⟨p, rfl, hd⟩ := ry.dict zh
    unfold gInD at e
    dsimp only at e
    split at e
    · rename_i hk
      cases e
      exact ⟨Z, p, kvs, dx, zh, rfl, hd, rx, by simpa using hk, q _ (.bl _)⟩
    · cases e
  | _ => cases dx <;> cases e
theorem of_notInD : Of2 (ctOf X) (rInD X not) gNotInD := by
  intro Z H x y dx dy d Q rx ry zh e q
  cases dy with
  | dict kvs =>
    obtain ⟨p, rfl, hd⟩ := ry.dict zh
    unfold gNotInD at e
    dsimp only at e
    split at e
    · rename_i hk
      cases e
      exact ⟨Z, p, kvs, dx, zh, rfl, hd, rx, by simpa using hk, q _ (.bl _)⟩
    · cases e
  | _ => cases dx <;> cases e
/-! ### d[k] -/
def rGetD (X : Cx) : R2 := fun x y H Q => ∃ Z p kvs k d, Same Z H ∧ x = .ref p ∧ DicR (ctOf X) Z H p kvs ∧ BRep (ctOf X) Z H y k ∧ (keyT k kvs = true ∨ keyI k kvs = true) ∧ dGet kvs k = some d ∧ ∀ v, Rep (ctOf X) Z v d → Q v H
theorem ix_D (hu : X.A.units + 64 < cLine) : IxR X (rGetD X) := by
  intro value slice pins s σ H x y v u Q I rx ry h hs
  obtain ⟨Z, p, kvs, k, d, zh, rfl, hd, by', hk, hg, q⟩ := h
  cases (show v = Value.ref p from rx)
  rcases hk with hk | hk
  · obtain ⟨a, nk, xs, rfl, hkey, hm, e, hp, _⟩ := sees_T I zh hd hk by' ry
    have hg2 := atKey_get e hp
    rw [hg] at hg2
    cases hat : atKey xs nk with
    | none => rw [hat] at hg2; exact hg2.elim
    | some pr =>
      rw [hat] at hg2
      obtain ⟨vv, rv, rd⟩ := hg2
      exact subscriptTail_builtinR (x := pr.2) hm.typeIs slot_dict_getitem.lookup (wpAny_getItem_heap (Q := fun r s' => r = pr.2 ∧ EP X pins σ Q r s') (room_T hu) hkey hm hat ⟨rfl, vv, H, I.tok _, rv, q vv rd⟩) hs
  · obtain ⟨i, rfl, rfl, ht⟩ := key_I hk by'
    obtain ⟨xs, hm, hp⟩ := view_I I hd ht
    have hg2 := get_I (i := i) hp
    rw [hg] at hg2
    cases hat : valueAt xs i with
    | none => rw [hat] at hg2; exact hg2.elim
    | some w =>
      rw [hat] at hg2
      obtain ⟨vv, rv, rd⟩ := hg2
      exact subscriptTail_builtinR (x := w) hm.typeIs slot_dict_getitem.lookup (wpAny_getItem_of (knd := kiKind X.prog X.w) (Q := fun r s' => r = w ∧ EP X pins σ Q r s') (rel_kiIs ry) hm.mapOf hat ⟨rfl, vv, H, I.tok _, rv, q vv rd⟩) hs
def gGetD : D → D → Option D
  | .dict kvs, k => if keyT k kvs || keyI k kvs then dGet kvs k else none
  | _, _ => none
variable {a b : Expr} {oa ob : Opd} {pos p p2 : Pos}
theorem of_getD : Of2 (ctOf X) (rGetD X) gGetD := by
  intro Z H x y dx dy d Q rx ry zh e q
  cases dx with
  | dict kvs =>
    obtain ⟨p, rfl, hd⟩ := rx.dict zh
    unfold gGetD at e
    dsimp only at e
    split at e
    · rename_i hk
      exact ⟨Z, p, kvs, dy, d, zh, rfl, hd, ry, by simpa using hk, e, q⟩
    · cases e
  | _ => cases e
theorem de_getD (hu : X.A.units + 64 < cLine) (ha : DO X W a oa) (hb : DO X W b ob) (hs : PlainIx b := by exact fun _ _ => rfl) : DE X W (.Subscript a b pos) (e2 gGetD oa ob) :=
  pe_imp (pe_ix (ix_D hu) ha hb hs) fun _ _ _ h => rD_op of_getD h
/-! ### d[k] = v -/
def rPutD (X : Cx) : TSet := fun o i v H Q => ∃ Z p kvs k d, Same Z H ∧ Z p = none ∧ o = .ref p ∧ DicR (ctOf X) Z H p kvs ∧ BRep (ctOf X) Z H i k ∧ (keyT k kvs = true ∨ keyI k kvs = true) ∧ kvs.length ≤ sizeLine ∧ Rep (ctOf X) Z v d ∧ ∀ o', DicR (ctOf X) Z (upd H p (dictHO p o')) p (dPut kvs k d) → Q (upd H p (dictHO p o'))
theorem dict_write (I : Inv X pins σ H s) {p : Addr} {o o' : Obj} (e : H p = some (dictHO p o)) {h' : Heap} (hs : Heap.SameBut p s.heap h') (ho : h'.get? p = some o') (t : Nat) : Inv X pins σ (upd H p (dictHO p o')) { s with heap := h', toks := t } :=
  I.write (e := p) (by rw [e]; exact True.intro) (.inl rfl) (fun b u hb q => (hs.2 b hb).trans q) ⟨_, ho⟩ ⟨ho, ⟨_, ho⟩, fun _ _ q k => k _ q⟩
theorem set_D (hu : X.A.units + 64 < cLine) : PSet X (rPutD X) := by
  intro pins s σ H o i v ov iv u Q I ro ri rv h
  obtain ⟨Z, p, kvs, k, d, zh, nz, rfl, hd, bi, hk, hl, rd, q⟩ := h
  cases (show ov = Value.ref p from ro)
  have hd0 := hd
  obtain ⟨n, ⟨o0, es0, ep0, e0, _⟩, nd⟩ := hd0
  rcases hk with hk | hk
  · obtain ⟨a, nk, xs, rfl, hkey, hm, e, hp, r, hd8⟩ := sees_T I zh hd hk bi ri
    refine wpAny_setItem_heap (hsz := by rw [paired_length hp]; exact hl) (room_T hu) hkey hm fun h' hm' hs => ?_
    obtain ⟨o', es, ep, h1, h2, h3, h4, h5, h6⟩ := hm'
    have hp' := put_T e r hd8 rv rd hp
    refine ⟨_, dict_write I e0 hs h1 _, q o' ⟨n, ⟨o', es, ep, upd_same, h2, h3, ?_⟩, ?_⟩⟩
    · rw [h4]
      exact ents_back hp'
    · rw [paired_keys hp', nodup_some]
      exact h6
  · obtain ⟨j, rfl, rfl, ht⟩ := key_I hk bi
    obtain ⟨xs, hm, hp⟩ := view_I I hd ht
    refine wpAny_setItem_pairs (knd := kiKind X.prog X.w) (hsz := by rw [paired_length hp]; exact hl) (rel_kiIs ri) hm fun h' hm' hs => ?_
    obtain ⟨o', es, ep, h1, h2, h3, h4, h5, h6⟩ := hm'
    have hp' := put_I (i := j) rv rd hp
    refine ⟨_, dict_write I e0 hs h1 _, q o' ⟨n, ⟨o', es, ep, upd_same, h2, h3, ?_⟩, ?_⟩⟩
    · exact ents_backI h5 hp' fun e he => h4 e (by simpa using he)
    · rw [paired_keysI hp', nodup_num]
      exact h6
def dictAt (i : Nat) (s : S) : Option (List (D × D)) := match s.env[i]? with
  | some (.od kvs) => some kvs
  | _ => none
def putDict (i : Nat) (kvs : List (D × D)) (s : S) : S := { s with env := s.env.set i (.od kvs) }
theorem dictAt_rep {C : Ct} {B Z : Hp} {as : List Addr} {s : S} (I : SR C B Z σ H as s) {i : Nat} {kvs : List (D × D)} (h : dictAt i s = some kvs) :
    ∃ p, σ[i]? = some (some (.ref p)) ∧ DicR C Z H p kvs ∧ Z p = none ∧ B p = none ∧
      ∀ (o' : HO) (kvs' : List (D × D)), DicR C Z (upd H p o') p kvs' → SR C B Z σ (upd H p o') as (putDict i kvs' s) := by
  unfold dictAt at h
  cases e : s.env[i]? with
  | none => rw [e] at h; cases h
  | some sl =>
    rw [e] at h
    obtain ⟨o, h1, h2⟩ := paired_get I.env e
    cases sl with
    | od kvs' =>
      cases h
      cases o with
      | none => exact h2.elim
      | some v =>
        cases v with
        | ref p =>
          obtain ⟨nz, h3⟩ := h2
          obtain ⟨nb, na⟩ := I.own i p _ h1 e rfl
          refine ⟨p, h1, h3, nz, nb, fun o' kvs' r => ?_⟩
          have hi : i < s.env.length := (List.getElem?_eq_some_iff.mp e).1
          have I0 := I.slot i .un (fun o _ => by cases o <;> trivial) rfl
          have hf := disown_free I h1 e rfl
          have I1 := I0.poke (o := o') nz nb hf
          have hσ : σ.set i (some (.ref p)) = σ := by
            refine List.ext_getElem? fun j => ?_
            by_cases hj : i = j
            · subst hj; rw [List.getElem?_set_self (List.getElem?_eq_some_iff.mp h1).1, h1]
            · rw [List.getElem?_set_ne hj]
          have I2 := I1.store (i := i) (v := .ref p) (sl := .od kvs') ⟨nz, r⟩ fun _ => ⟨p, rfl, nb, hf⟩
          rw [hσ] at I2
          dsimp only at I2
          rw [List.set_set] at I2
          exact I2
        | _ => exact h2.elim
    | _ => cases h
/-- d[k] = v -/
def sPutD (i : Nat) (fi fe : DM D) : DM Fl := bindM fe fun d => fun s => match dictAt i s with
  | none => .bad
  | some _ => bindM fi (fun k s1 => match dictAt i s1 with
    | some kvs => if (keyT k kvs || keyI k kvs) && lenOk kvs.length then .ok .nx (putDict i (dPut kvs k d) s1) else .bad
    | none => .bad) s
theorem ds_putD (hu : X.A.units + 64 < cLine) (i : Nat) {e ix : Expr} {x : Str} {px tpos : Pos} {fi fe : DM D} (he : DE X W e fe) (hix : DE X W ix fi) (hN : X.N[i]? = some x := by rfl) (hv : Vis X.env.scope x := by first | exact Or.inl rfl | exact Or.inr (Or.inl rfl) | exact Or.inr (Or.inr rfl)) (hd : (x == ("__debug__" : Str)) = false := by decide)
    (hcd : (x == ("__classdict__" : Str)) = false := by decide)
    (ha : ∀ v, assign (.Subscript (.Name x px) ix tpos) X.env v = (do
      let ov ← holding [v] (eval (.Name x px) X.env)
      let iv ← holding [v, ov] (eval ix X.env)
      standAt tpos
      holding [v, ov, iv] (setItem ov iv v)
      release [v, ov, iv] []) := by intro _; rfl)
    (hs : swapsWithSole [.Subscript (.Name x px) ix tpos] e pos.line X.env = pure false := by rfl) (hw : swappedStores [.Subscript (.Name x px) ix tpos] e X.env = pure none := by rfl)
    (h1 : (assignEach [.Subscript (.Name x px) ix tpos] X.env).map (·.2) = [assign (.Subscript (.Name x px) ix tpos) X.env] := by rfl) : DS X W (.Assign [.Subscript (.Name x px) ix tpos] e pos) (sPutD i fi fe) :=
  ps_imp (ps_asg he (pg_sub (pe_var hN hv hd hcd) hix (set_D hu) ha) hs hw h1) fun Dn σ H ⟨B, Z, as, s, I, h⟩ => ⟨B, Z, as, s, I, (AfterS.bind (σ := σ) h).imp fun d s1 H1 Z1 as1 I1 E1 P1 h1 v rv => by
    cases e0 : dictAt i s1 with
    | none => rw [e0] at h1; exact h1.elim
    | some kvs0 =>
      rw [e0] at h1
      dsimp only at h1
      obtain ⟨p, g1, g2, _⟩ := dictAt_rep I1 e0
      refine ⟨.ref p, g1, B, Z1, as1, s1, I1, (AfterS.bind h1).imp fun k s2 H2 Z2 as2 I2 E2 P2 h2 u ru => ?_⟩
      cases e1 : dictAt i s2 with
      | none => rw [e1] at h2; exact h2.elim
      | some kvs =>
        rw [e1] at h2
        dsimp only at h2
        split at h2
        · rename_i hk
          rw [Bool.and_eq_true] at hk
          obtain ⟨p', q1, q2, q3, q4, q5⟩ := dictAt_rep I2 e1
          rw [g1] at q1; cases q1
          refine ⟨Z2, p, kvs, k, d, I2.zh, q3, rfl, q2, .f ru, by simpa using hk.1, Nat.le_of_lt (lenOk_line hk.2), rv.mono E2.same, fun o' hd' => ?_⟩
          exact h2 _ _ _ _ (q5 _ _ hd') .refl (List.prefix_refl _)
        · exact h2.elim⟩
/-! ### displays -/
theorem dicR_new {C : Ct} {Z : Hp} {p : Addr} {o : Obj} (hn : (p == sysModules) = false) (h1 : o.ExactDict) (h2 : o.data = .dict #[] 0) : DicR C Z (upd H p (dictHO p o)) p [] :=
  ⟨hn, ⟨o, #[], 0, upd_same, h1, h2, .nil⟩, List.nodup_nil⟩
def fDict0 : DM RV := pureM (.fd [])
theorem df_dict0 : DF X W (.Dict [] [] pos) fDict0 := by
  refine ⟨fun pins s σ H Q I h => ?_⟩
  obtain ⟨B, Z, as, st, I1, h⟩ := h
  have hn := I.hok.fresh (Nat.le_refl s.heap.objs.size)
  have ho : (s.heap.push { cls := .type "dict", data := .dict #[] }).get? s.heap.objs.size = some { cls := .type "dict", data := .dict #[] } := Heap.get?_push_size _ rfl
  have I2 := I.laid (a := s.heap.objs.size) (o := dictHO s.heap.objs.size { cls := .type "dict", data := .dict #[] }) (h' := s.heap.push { cls := .type "dict", data := .dict #[] }) (t' := s.toks) (fun _ _ q => Heap.get?_push_of_some _ q) (Nat.le_refl _) ⟨ho, ⟨_, ho⟩, fun _ _ q k => k _ q⟩
  refine wpAny_Dict_empty ⟨.ref s.heap.objs.size, _, I2, rfl, ?_⟩
  have hb : (s.heap.objs.size == sysModules) = false := beq_eq_false_iff_ne.mpr (Nat.ne_of_gt I.big)
  exact After.pure h (I1.fresh hn) _ ⟨_, rfl, I1.zh.free hn, I1.bh.free hn, I1.free_new hn, dicR_new hb ⟨rfl, rfl, rfl⟩ rfl⟩
end
end DL

/-! DLE: dicts as lists of pairs; step lemmas of dicts. -/
namespace DL
open PySem PySem.Spec PyProof.Rows L2
section
variable {fi fe : DM D} {i : Nat} {s : S} {e : List Sl} {st : List Cell} {k d : D} {kvs : List (D × D)}
theorem v_fDict0 : fDict0 s = .ok (.fd []) s := rfl
def dictK (o : Option Sl) : Option (List (D × D)) := match o with
  | some (.od kvs) => some kvs
  | _ => none
theorem v_dictAt : dictAt i ⟨e, st⟩ = dictK (sl? e i) := rfl
theorem v_dictKo : dictK (some (.od kvs)) = some kvs := rfl
theorem v_putDict : putDict i kvs ⟨e, st⟩ = ⟨e.set i (.od kvs), st⟩ := rfl
def ptL (i : Nat) (d k : D) (s : S) (o : Option (List (D × D))) : R Fl := match o with
  | some kvs => if ((keyT k kvs || keyI k kvs) && lenOk kvs.length) = true then .ok .nx (putDict i (dPut kvs k d) s) else .bad
  | none => .bad
theorem v_ptL : ptL i d k s (some kvs) = if ((keyT k kvs || keyI k kvs) && lenOk kvs.length) = true then .ok .nx (putDict i (dPut kvs k d) s) else .bad := rfl
def ptI (i : Nat) (d k : D) (s : S) : R Fl := ptL i d k s (dictAt i s)
theorem v_ptI : ptI i d k s = ptL i d k s (dictAt i s) := rfl
def ptO (i : Nat) (fi : DM D) (d : D) (s : S) (o : Option (List (D × D))) : R Fl := match o with
  | some _ => thenR (fi s) (ptI i d)
  | none => .bad
theorem v_ptO : ptO i fi d s (some kvs) = thenR (fi s) (ptI i d) := rfl
def ptK (i : Nat) (fi : DM D) (d : D) (s : S) : R Fl := ptO i fi d s (dictAt i s)
theorem v_ptK : ptK i fi d s = ptO i fi d s (dictAt i s) := rfl
theorem v_sPutD : sPutD i fi fe s = thenR (fe s) (ptK i fi) := by
  unfold sPutD bindM thenR ptK ptO
  cases fe s with
  | ok d s' =>
    dsimp only
    cases dictAt i s' with
    | none => rfl
    | some ds =>
      dsimp only
      unfold thenR ptI ptL
      cases fi s' with
      | ok di s'' => first | (dsimp only; done) | (dsimp only; cases dictAt i s'' <;> rfl)
      | _ => rfl
  | _ => rfl
theorem v_gInD : gInD k (.dict kvs) = if (keyT k kvs || keyI k kvs) = true then some (.bool (dGet kvs k).isSome) else none := by cases k <;> rfl
theorem v_gNotInD : gNotInD k (.dict kvs) = if (keyT k kvs || keyI k kvs) = true then some (.bool (!(dGet kvs k).isSome)) else none := by cases k <;> rfl
theorem v_gGetD : gGetD (.dict kvs) k = if (keyT k kvs || keyI k kvs) = true then dGet kvs k else none := rfl
end
/-! a dict as a list of pairs -/
section
variable {α β : Type} [DecidableEq α] {enc : α → D} {val : β → D}
def dL (enc : α → D) (val : β → D) (L : List (α × β)) : List (D × D) := L.map fun p => (enc p.1, val p.2)
theorem dGet_L (henc : ∀ a b, toNK (enc a) = toNK (enc b) ↔ a = b) (L : List (α × β)) (a : α) : dGet (dL enc val L) (enc a) = (L.lookup a).map val := by
  unfold dGet dL
  induction L with
  | nil => rfl
  | cons p L ih =>
    rw [List.map_cons, List.find?_cons, List.lookup_cons]
    by_cases h : p.1 = a
    · rw [decide_eq_true ((henc _ _).mpr h), h, beq_self_eq_true]
      rfl
    · rw [decide_eq_false (fun q => h ((henc _ _).mp q)), show (a == p.1) = false from beq_eq_false_iff_ne.mpr fun q => h q.symm]
      exact ih
theorem lookup_none {L : List (α × β)} {a : α} : L.lookup a = none ↔ a ∉ L.map (·.1) := by
  induction L with
  | nil => exact ⟨fun _ h => (nomatch h), fun _ => rfl⟩
  | cons p L ih =>
    rw [List.lookup_cons, List.map_cons, List.mem_cons, not_or]
    by_cases h : p.1 = a
    · rw [h, beq_self_eq_true]
      exact ⟨fun q => (nomatch q), fun q => absurd rfl q.1⟩
    · rw [show (a == p.1) = false from beq_eq_false_iff_ne.mpr fun q => h q.symm]
      exact ⟨fun q => ⟨fun r => h r.symm, ih.mp q⟩, fun q => ih.mpr q.2⟩
theorem lookup_some {L : List (α × β)} {a : α} {b : β} (h : L.lookup a = some b) : (a, b) ∈ L := by
  induction L with
  | nil => cases h
  | cons p L ih =>
    rw [List.lookup_cons] at h
    by_cases e : a = p.1
    · rw [e, beq_self_eq_true] at h
      cases h
      rw [e]
      exact List.mem_cons_self
    · rw [beq_eq_false_iff_ne.mpr e] at h
      exact List.mem_cons_of_mem _ (ih h)
theorem dPut_new (henc : ∀ a b, toNK (enc a) = toNK (enc b) ↔ a = b) {L : List (α × β)} {a : α} {b : β} (h : a ∉ L.map (·.1)) : dPut (dL enc val L) (enc a) (val b) = dL enc val (L ++ [(a, b)]) := by
  unfold dPut dL
  rw [if_neg, List.map_append]
  · rfl
  · intro q
    rw [List.any_eq_true] at q
    obtain ⟨x, hx, q⟩ := q
    obtain ⟨p, hp, rfl⟩ := List.mem_map.mp hx
    exact h (List.mem_map.mpr ⟨p, hp, (henc _ _).mp (of_decide_eq_true q)⟩)
theorem dL_len {L : List (α × β)} : (dL enc val L).length = L.length := by unfold dL; rw [List.length_map]
theorem keyT_L {a : α} {L : List (α × β)} (h : ∀ x, isTup (enc x) = true) (h2 : nkOk (enc a) = true) : keyT (enc a) (dL enc val L) = true := by
  unfold keyT dL
  rw [h, h2, Bool.true_and, Bool.true_and, List.all_map, List.all_eq_true]
  exact fun p _ => h p.1
end
theorem keyI_L {β : Type} {val : β → D} {i : Int} {L : List (Int × β)} : keyI (.int i) (dL PyData.int val L) = true := by
  unfold keyI dL
  rw [List.all_map, show isIn (.int i) = true from rfl, Bool.true_and, List.all_eq_true]
  exact fun p _ => rfl
theorem enc_int (a b : Int) : toNK (.int a) = toNK (.int b) ↔ a = b := ⟨fun q => by simp only [toNK] at q; injection Option.some.inj q, fun q => by rw [q]⟩
theorem nks_ints (xs : List Int) : toNKs (xs.map .int) = some (xs.map .num) := by
  induction xs with
  | nil => rfl
  | cons x xs ih => simp only [List.map_cons, toNKs, toNK, ih]; rfl
theorem nk_ints (xs : List Int) : toNK (.tuple (xs.map .int)) = some (.tup (xs.map .num)) := by simp only [toNK, nks_ints]; rfl
theorem num_map_inj {xs ys : List Int} : xs.map NestedKey.num = ys.map NestedKey.num ↔ xs = ys := by
  constructor
  · intro h
    induction xs generalizing ys with
    | nil => cases ys with
      | nil => rfl
      | cons y ys => cases h
    | cons x xs ih => cases ys with
      | nil => cases h
      | cons y ys =>
        rw [List.map_cons, List.map_cons] at h
        injection h with h1 h2
        injection h1 with h1
        rw [h1, ih h2]
  · intro h; rw [h]
theorem enc_ints (xs ys : List Int) : toNK (.tuple (xs.map .int)) = toNK (.tuple (ys.map .int)) ↔ xs = ys := by
  rw [nk_ints, nk_ints]
  constructor
  · intro h
    injection h with h
    injection h with h
    exact num_map_inj.mp h
  · intro h; rw [h]
theorem depths_num : ∀ xs : List Int, NestedKey.depthAll (xs.map .num) = 0
  | [] => rfl
  | x :: xs => by
    rw [List.map_cons]
    simp only [NestedKey.depthAll, NestedKey.depth, depths_num xs]
    rfl
theorem nkOk_ints (xs : List Int) : nkOk (.tuple (xs.map .int)) = true := by
  unfold nkOk
  rw [nk_ints]
  dsimp only
  refine decide_eq_true ?_
  simp only [NestedKey.depth, depths_num]
  decide
/-! a loop that goes on with a state, or answers -/
def seekL {α β ρ : Type} (g : β → α → ρ ⊕ β) : List α → β → ρ ⊕ β
  | [], a => .inr a
  | x :: xs, a => match g a x with
    | .inl r => .inl r
    | .inr a' => seekL g xs a'
theorem for_seekI {α β ρ : Type} {t : D → S → Option S} {b : DM Fl} {ks : List Nat} {f : α → D} (P : Nat → β → S → Prop) (R : ρ → RV) (g : β → α → ρ ⊕ β) : ∀ (xs : List α) (k : Nat) (a : β) (s0 : S), P k a s0 →
    (∀ i x a s, xs[i]? = some x → P (k + i) a s → okT (t (f x) s) fun s1 => match g a x with | .inl r => ∃ s2, b s1 = .ok (.rt (R r)) s2 | .inr a' => okF (b s1) (fun s2 => P (k + i + 1) a' (killS ks s2)) noA) →
    match seekL g xs a with | .inl r => ∃ s, forL t b ks (xs.map f) s0 = .ok (.rt (R r)) s | .inr a' => ∃ s, forL t b ks (xs.map f) s0 = .ok .nx s ∧ P (k + xs.length) a' s
  | [], k, a, s0, p, h => ⟨s0, rfl, p⟩
  | x :: xs, k, a, s0, p, h => by
    have h0 := h 0 x a s0 rfl p
    rw [List.map_cons, v_for1]
    unfold seekL
    cases e1 : t (f x) s0 with
    | none => rw [e1] at h0; exact h0.elim
    | some s1 =>
      rw [e1, v_okTs] at h0
      rw [v_forT]
      cases hg : g a x with
      | inl r =>
        rw [hg] at h0
        obtain ⟨s2, h0⟩ := h0
        rw [h0]
        exact ⟨s2, rfl⟩
      | inr a' =>
        rw [hg] at h0
        dsimp only at h0 ⊢
        have nxt : ∀ s2, P (k + 0 + 1) a' (killS ks s2) → _ := fun s2 h4 => for_seekI P R g xs (k + 1) a' (killS ks s2) h4 fun i y a2 s hy hp => by
          have := h (i + 1) y a2 s (by simpa using hy)
          rw [show k + (i + 1) = k + 1 + i by omega] at this
          exact this hp
        rw [List.length_cons, show k + (xs.length + 1) = k + 1 + xs.length by omega]
        cases e2 : b s1 with
        | ok fl s2 =>
          rw [e2] at h0
          cases fl with
          | nx => exact nxt s2 h0
          | ct => exact nxt s2 h0
          | rt r => exact h0.elim
          | bk => exact h0.elim
        | exc c s2 => rw [e2] at h0; exact h0.elim
        | bad => rw [e2] at h0; exact h0.elim
theorem for_seekX {α β ρ : Type} {t : D → S → Option S} {b : DM Fl} {ks : List Nat} {f : α → D} {xs : List α} {s0 : S} {X : R Fl} (hX : forL t b ks (xs.map f) s0 = X) (P : Nat → β → S → Prop) (R : ρ → RV) (g : β → α → ρ ⊕ β) (a : β) (p : P 0 a s0)
    (h : ∀ i x a s, xs[i]? = some x → P i a s → okT (t (f x) s) fun s1 => match g a x with | .inl r => ∃ s2, b s1 = .ok (.rt (R r)) s2 | .inr a' => okF (b s1) (fun s2 => P (i + 1) a' (killS ks s2)) noA) :
    match seekL g xs a with | .inl r => ∃ s, X = .ok (.rt (R r)) s | .inr a' => ∃ s, X = .ok .nx s ∧ P xs.length a' s := by
  rw [← hX]
  have := for_seekI (t := t) (b := b) (ks := ks) (f := f) P R g xs 0 a s0 p (fun i x a s hx hp => by
    rw [Nat.zero_add] at hp ⊢
    exact h i x a s hx hp)
  rw [Nat.zero_add] at this
  exact this
/-- what holds along -/
theorem seek_inv {α β ρ : Type} {g : β → α → ρ ⊕ β} (I : Nat → β → Prop) (O : ρ → Prop) : ∀ (xs : List α) (k : Nat) (a : β), I k a → (∀ i x a, xs[i]? = some x → I (k + i) a → match g a x with | .inl r => O r | .inr a' => I (k + i + 1) a') →
    match seekL g xs a with | .inl r => O r | .inr a' => I (k + xs.length) a'
  | [], k, a, p, h => p
  | x :: xs, k, a, p, h => by
    have h0 := h 0 x a rfl p
    unfold seekL
    cases hg : g a x with
    | inl r => rw [hg] at h0; exact h0
    | inr a' =>
      rw [hg] at h0
      dsimp only at h0 ⊢
      rw [List.length_cons, show k + (xs.length + 1) = k + 1 + xs.length by omega]
      exact seek_inv I O xs (k + 1) a' h0 fun i y a2 hy hp => by
        have := h (i + 1) y a2 (by simpa using hy)
        rw [show k + (i + 1) = k + 1 + i by omega] at this
        exact this hp
theorem lookup_mem {α : Type} [DecidableEq α] {L : List α} {a : α} : ((L.map fun x => (x, ())).lookup a).isSome = decide (a ∈ L) := by
  cases h : (L.map fun x => (x, ())).lookup a with
  | none =>
    have := lookup_none.mp h
    rw [List.map_map] at this
    exact (decide_eq_false fun q => this (List.mem_map.mpr ⟨a, q, rfl⟩)).symm
  | some u =>
    obtain ⟨x, hx, e⟩ := List.mem_map.mp (lookup_some h)
    cases e
    exact (decide_eq_true hx).symm
end DL

/-! DLF: {k: v} with a tuple as its key. -/
namespace DL
open PySem PySem.Spec PyProof.Rows L2
section
variable {X : Cx} {W : WX} {pos : Pos} {a b : Expr} {fa fb : DM D}
/-- {k: v}: the dict stands empty while both are made -/
def tDict1 (C : Ct) (ta tb : TE) : TE := fun σ H Q => ∀ p o0, H p = none → (p == sysModules) = false → tPairs [(ta, tb)] σ (upd H p (dictHO p o0)) fun ps H2 =>
  H2 p = some (dictHO p o0) ∧ ∃ x y k d Z2, ps = [(x, y)] ∧ isTup k = true ∧ nkOk k = true ∧ Rep C Z2 x k ∧ Rep C Z2 y d ∧ Same Z2 H2 ∧ Z2 p = none ∧ ∀ o', DicR C Z2 (upd H2 p (dictHO p o')) p [(k, d)] → Q (.ref p) (upd H2 p (dictHO p o'))
theorem room_T0 (hu : X.A.units + 64 < cLine) : (nestedKind X.prog X.w).room X.A := by
  show X.A.units + 8 < cLine
  omega
theorem pe_dict1 (hu : X.A.units + 64 < cLine) {ta tb : TE} (ha : PE X a ta) (hb : PE X b tb) : PE X (.Dict [some a] [b] pos) (tDict1 (ctOf X) ta tb) := by
  refine ⟨fun pins s σ H Q I q => ?_⟩
  have hn := I.hok.fresh (Nat.le_refl s.heap.objs.size)
  have ho : (s.heap.push { cls := .type "dict", data := .dict #[] }).get? s.heap.objs.size = some { cls := .type "dict", data := .dict #[] } := Heap.get?_push_size _ rfl
  have I2 := I.laid (a := s.heap.objs.size) (o := dictHO s.heap.objs.size { cls := .type "dict", data := .dict #[] }) (h' := s.heap.push { cls := .type "dict", data := .dict #[] }) (t' := s.toks) (fun _ _ q => Heap.get?_push_of_some _ q) (Nat.le_refl _) ⟨ho, ⟨_, ho⟩, fun _ _ q k => k _ q⟩
  have hs0 : (s.heap.objs.size == sysModules) = false := beq_eq_false_iff_ne.mpr (Nat.ne_of_gt I.big)
  rw [arm_eval_Dict, zip_pairTrees [some a] [b] X.env pos rfl rfl, dictDisplay_pairs (pairTrees [some a] [b] X.env pos) (by simp [pairTrees]) (by simp [pairTrees])]
  have hps : PPs X pos [some a] [b] [(ta, tb)] := pps_cons ha hb pps_nil
  refine wpAny_bind (wpAny_standAt (wpAny_bind (wpAny_subDictH (knd := nestedKind X.prog X.w) (Q := fun d s' => wpAny (model X.prog X.w) X.A (pure (Value.ref d)) _ X.xe s') (room_T0 hu) (by simp [pairTrees])
    (thn (hps.run pins _ σ _ _ I2 (q _ _ hn hs0)) fun ws s2 ⟨ps, H2, I3, rel, e, x, y, k, d, Z2, ep, h1, h2, r1, r2, zh, nz, q2⟩ => ?_))))
  subst ep
  cases rel with
  | @cons _ wp _ _ r0 rt =>
    cases rt
    obtain ⟨wk, wv⟩ := wp
    obtain ⟨nk, e1, hd8⟩ := nkOk_some h2
    cases k with
    | tuple ds =>
      cases r1 with
      | @tup a0 xs _ hq hr =>
        cases (show wk = Value.ref a0 from r0.1)
        have hd0 : DicR (ctOf X) Z2 H2 s.heap.objs.size [] := ⟨hs0, ⟨_, #[], 0, e, ⟨rfl, rfl, rfl⟩, rfl, .nil⟩, List.nodup_nil⟩
        obtain ⟨xs0, hm, hp⟩ := view_T I3 zh hd0 (fun _ h => nomatch h)
        cases hp
        have ra : Rep (ctOf X) Z2 (.ref a0) (.tuple ds) := .tup hq hr
        refine ⟨[(nk, a0, wv)], ⟨rfl, rfl, ⟨nest_of I3 (ra.mono zh) e1 rfl, hd8⟩, True.intro⟩, hm, fun h' tk hm' hs => wpAny_pure ?_⟩
        obtain ⟨o', es, ep, g1, g2, g3, g4, g5, g6⟩ := hm'
        have hent : Paired (EntT (ctOf X) Z2) [(nk, a0, wv)] [(PyData.tuple ds, d)] := .cons ⟨e1, ra, hd8, y, r0.2, r2⟩ .nil
        refine ⟨V.ref s.heap.objs.size, _, dict_write I3 e hs g1 _, rfl, q2 o' ⟨hs0, ⟨o', es, ep, upd_same, g2, g3, ?_⟩, ?_⟩⟩
        · rw [g4]
          exact ents_back (xs := [(nk, a0, wv)]) hent
        · rw [paired_keys hent, nodup_some]
          exact List.nodup_cons.mpr ⟨fun h => (nomatch h), List.nodup_nil⟩
    | _ => cases h1
def fDict1 (fk fv : DM D) : DM RV := bindM fk fun k => bindM fv fun d => if isTup k && nkOk k then pureM (.fd [(k, d)]) else badM
theorem df_dict1 (hu : X.A.units + 64 < cLine) (ha : DE X W a fa) (hb : DE X W b fb) : DF X W (.Dict [some a] [b] pos) (fDict1 fa fb) :=
  pe_imp (pe_dict1 hu ha hb) fun σ H Q ⟨B, Z, as, s, I, h⟩ p o0 np hs0 => by
    have I0 : SR (ctOf X) B Z σ (upd H p (dictHO p o0)) as s := I.fresh np
    have nz : Z p = none := I.zh.free np
    have nb : B p = none := I.bh.free np
    have hp : (upd H p (dictHO p o0)) p = some (dictHO p o0) := upd_same
    have hfr : Free σ as s p := I.free_new np
    refine ⟨upd B p (dictHO p o0), Z, as, s, I0.hold hp nz nb hfr, (After.hold (After.bind h) nz nb).imp fun k s1 H1 Z1 as1 I1 E1 P1 ⟨h1, g1, g2, g3, g4, g5, g6⟩ x rx => ?_⟩
    refine ⟨upd B p (dictHO p o0), Z1, as1, s1, g1.hold g5 g4 nb g6, (After.hold (After.bind h1) g4 nb).imp fun d s2 H2 Z2 as2 I2 E2 P2 ⟨h2, m1, m2, m3, m4, m5, m6⟩ y ry => ?_⟩
    split at h2
    case isFalse => exact h2.elim
    rename_i hk
    rw [Bool.and_eq_true] at hk
    refine ⟨m5, x, y, k, d, Z2, rfl, hk.1, hk.2, rx.mono m2.same, ry, m1.zh, m4, fun o' hd => ?_⟩
    exact After.pure h2 (m1.poke m4 nb m6) _ ⟨p, rfl, m4, nb, m6, hd⟩
end
section
variable {fk fv : DM D} {s : S} {k d : D}
def d1L (k : D) (d : D) (s : S) : R RV := if isTup k && nkOk k then .ok (.fd [(k, d)]) s else .bad
theorem v_d1L : d1L k d s = if (isTup k && nkOk k) = true then .ok (.fd [(k, d)]) s else .bad := rfl
def d1K (fv : DM D) (k : D) (s : S) : R RV := thenR (fv s) (d1L k)
theorem v_d1K : d1K fv k s = thenR (fv s) (d1L k) := rfl
theorem v_fDict1 : fDict1 fk fv s = thenR (fk s) (d1K fv) := by
  unfold fDict1 bindM thenR d1K
  cases fk s with
  | ok k s' =>
    dsimp only
    unfold thenR d1L
    cases fv s' with
    | ok d s'' => dsimp only; split <;> rfl
    | _ => rfl
  | _ => rfl
end
end DL

/-! DLG: sorted of data that is alike: of a list, of the keys of a dict. -/
namespace DL
open PySem PySem.Spec PyProof.Rows L2
open PySem.W (alike alikeAll AllAlike Sortable dataLe dataLt EachIs)
section
variable {X : Cx} {W : WX} {pins : List (Addr × Obj)} {σ : St} {H : Hp} {s : Shared}
mutual
/-- what a value is worth is what is read off the heap -/
theorem reads_of (I : Inv X pins σ H s) : ∀ {v : V} {d : D} {u : Value}, Rep (ctOf X) H v d → alike d d = true → RelV v u → ∃ as, Reads s.heap u d as ∧ ∀ a, a ∈ as → ∃ o, s.heap.get? a = some o
  | _, _, u, .non, e, r => by cases (show u = Value.none from r); exact ⟨[], .none, fun _ h => nomatch h⟩
  | _, _, u, .bl b, e, r => by cases (show u = Value.bool b from r); exact ⟨[], .bool _, fun _ h => nomatch h⟩
  | _, _, u, .int i, e, r => by obtain ⟨t, rfl⟩ := r; exact ⟨[], .int _ _, fun _ h => nomatch h⟩
  | _, _, u, .str x, e, r => by obtain ⟨t, rfl⟩ := r; exact ⟨[], .str _ _, fun _ h => nomatch h⟩
  | _, _, u, .lst (a := a) (xs := xs) (ds := ds) hq hr, e, r => by
    cases (show u = Value.ref a from r)
    obtain ⟨its, rv, hl, hz⟩ := I.list hq
    obtain ⟨o, ho, hc, n, hd⟩ := hl.isList
    obtain ⟨as, h1, h2⟩ := readsAll_of I hr (by simpa [alike] using e) rv
    refine ⟨a :: as, .list ho hc hd (by simpa using h1), fun b hb => ?_⟩
    rcases List.mem_cons.mp hb with rfl | hb
    · exact ⟨o, ho⟩
    · exact h2 b hb
  | _, _, u, .tup (a := a) (xs := xs) (ds := ds) hq hr, e, r => by
    cases (show u = Value.ref a from r)
    obtain ⟨its, rv, hl, hz⟩ := I.tuple hq
    obtain ⟨o, ho, hc, n, hd⟩ := hl
    obtain ⟨as, h1, h2⟩ := readsAll_of I hr (by simpa [alike] using e) rv
    exact ⟨as, .tuple ho hc hd (by simpa using h1), h2⟩
  | _, _, u, .dic _ _ _ _ _ _, e, r => by simp [alike] at e
theorem readsAll_of (I : Inv X pins σ H s) : ∀ {vs : List V} {ds : List D} {us : List Value}, Reps (ctOf X) H vs ds → alikeAll ds ds = true → Vals vs us → ∃ as, ReadsAll s.heap us ds as ∧ ∀ a, a ∈ as → ∃ o, s.heap.get? a = some o
  | _, _, us, .nil, e, r => by cases r; exact ⟨[], .nil, fun _ h => nomatch h⟩
  | _, _, us, .cons h t, e, r => by
    cases r with
    | cons r1 r2 =>
      rw [alikeAll, Bool.and_eq_true] at e
      obtain ⟨as, h1, h2⟩ := reads_of I h e.1 r1
      obtain ⟨bs, h3, h4⟩ := readsAll_of I t e.2 r2
      refine ⟨as ++ bs, .cons h1 h3, fun a ha => ?_⟩
      rcases List.mem_append.mp ha with ha | ha
      · exact h2 a ha
      · exact h4 a ha
end
/-- what may be sorted -/
def sortOk (ds : List D) : Bool := (ds.all fun x => ds.all fun y => alike x y) && (ds.all (fun d => match d with | .tuple (_ :: _) => true | _ => false) || ds.all fun d => match d with | .none => false | .tuple _ => false | _ => true) && ds.all fun d => decide (d.depth ≤ 8)
theorem sortOk_of {ds : List D} (h : sortOk ds = true) : AllAlike ds ∧ Sortable ds ∧ ∀ d, d ∈ ds → d.depth ≤ 8 := by
  unfold sortOk at h
  rw [Bool.and_eq_true, Bool.and_eq_true, Bool.or_eq_true] at h
  obtain ⟨⟨h1, h2⟩, h3⟩ := h
  rw [List.all_eq_true] at h1 h3
  refine ⟨fun d hd d' hd' => List.all_eq_true.mp (h1 d hd) d' hd', ?_, fun d hd => of_decide_eq_true (h3 d hd)⟩
  rcases h2 with h2 | h2
  · refine .inl fun d hd => ?_
    have := List.all_eq_true.mp h2 d hd
    cases d with
    | tuple xs => cases xs with
      | nil => cases this
      | cons x r => exact ⟨x, r, rfl⟩
    | _ => cases this
  · refine .inr fun d hd => ?_
    have := List.all_eq_true.mp h2 d hd
    cases d with
    | none => cases this
    | tuple xs => cases this
    | _ => exact ⟨fun q => (nomatch q), fun xs q => (nomatch q)⟩
def sortD (ds : List D) : List D := ds.mergeSort (dataLe false id)
/-- what is known of an item -/
def ItR (X : Cx) (Z : Hp) (u : Value) (d : D) : Prop := ∃ v, RelV v u ∧ Rep (ctOf X) Z v d
theorem each_of {Z : Hp} : ∀ {vs : List V} {ds : List D} {us : List Value}, Reps (ctOf X) Z vs ds → Vals vs us → EachIs (ItR X Z) us ds
  | _, _, _, .nil, r => by cases r; exact .nil
  | _, _, _, .cons h t, r => by cases r with | cons r1 r2 => exact .cons ⟨_, r1, h⟩ (each_of t r2)
theorem each_back {Z : Hp} : ∀ {us : List Value} {ds : List D}, EachIs (ItR X Z) us ds → ∃ vs, Reps (ctOf X) Z vs ds ∧ Vals vs us
  | _, _, .nil => ⟨[], .nil, .nil⟩
  | _, _, .cons ⟨v, h1, h2⟩ t => by
    obtain ⟨vs, h3, h4⟩ := each_back t
    exact ⟨v :: vs, .cons h2 h3, .cons h1 h4⟩
theorem each_reads {Z : Hp} (I : Inv X pins σ H s) (zh : Same Z H) {us : List Value} {ds : List D} (h : EachIs (ItR X Z) us ds) (hal : AllAlike ds) : EachIs (fun u d => ∃ as, Reads s.heap u d as ∧ ∀ a, a ∈ as → ∃ o, s.heap.get? a = some o) us ds := by
  induction h with
  | nil => exact .nil
  | cons h t ih =>
    obtain ⟨v, h1, h2⟩ := h
    exact .cons (reads_of I (h2.mono zh) (hal _ List.mem_cons_self _ List.mem_cons_self) h1) (ih fun d hd d' hd' => hal d (List.mem_cons_of_mem _ hd) d' (List.mem_cons_of_mem _ hd'))
def rSortD (X : Cx) : List V → Hp → VK → Prop := fun vs H Q => ∃ Z a xs ds, Same Z H ∧ vs = [V.ref a] ∧ SqL X.K H a xs ∧ Reps (ctOf X) Z xs ds ∧ sortOk ds = true ∧ ∀ ys p, Reps (ctOf X) Z ys (sortD ds) → H p = none → Q (.ref p) (upd H p (.lst ys))
theorem cr_sortD (hu : X.A.units + 64 < cLine) : CallR X (.builtin "sorted") (rSortD X) := by
  intro pins s σ H vs us Q I r h
  obtain ⟨Z, a, xs, ds, zh, rfl, hs, hr, hok, q⟩ := h
  obtain ⟨its, rv, hl, hz⟩ := I.list hs
  obtain ⟨u, rfl, ru⟩ := vals1 r
  obtain rfl : u = Value.ref a := ru
  obtain ⟨h1, h2, h3⟩ := sortOk_of hok
  have he := each_of hr rv
  have hre : EachIs (fun u d => ∃ as, Reads s.heap u (id d) as) its ds := (each_reads I zh he h1).mono fun u d ⟨as, h, _⟩ => ⟨as, h⟩
  have hlen : ds.length = xs.length := hr.length.symm
  refine PySem.W.sorted_data (bs := ds) (enc := id) (R := ItR X Z) hl.isList he hre (by rw [List.map_id]; exact h1) (by rw [List.map_id]; exact h2) (by rw [hlen]; exact hz) (fun d hd => ?_) fun out ho eo => ?_
  · have := h3 d hd
    show X.A.units + 2 + d.depth < cLine
    omega
  · obtain ⟨ys, g1, g2⟩ := each_back eo
    obtain ⟨n, hn⟩ := sortedAll_at s.heap its out.toArray
    refine ⟨.ref (s.heap.objs.size + 1), _, I.laid (a := s.heap.objs.size + 1) (o := .lst ys) (t' := s.toks) (fun b o e => sortedAll_old e) (Nat.le_succ _) ⟨?_, out, n, g2, hn⟩, rfl, q ys _ g1 (I.hok.fresh (Nat.le_succ _))⟩
    have : ys.length = out.length := g2.length
    rw [this, ho, hlen]
    exact hz
def gSortD : D → Option (List D)
  | .list ds => if sortOk ds then some (sortD ds) else none
  | _ => none
theorem of_sortD : OfL1 (ctOf X) (rSortD X) gSortD := by
  intro Z H x dx ds Q rx zh e q
  cases dx with
  | list xs =>
    unfold gSortD at e
    dsimp only at e
    split at e
    · rename_i hok
      cases e
      obtain ⟨p, vs, rfl, h1, h2⟩ := rx.list zh
      exact ⟨Z, p, vs, xs, zh, rfl, h1, h2, hok, fun ys l hy np => q l ys np hy⟩
    · cases e
  | _ => cases e
/-! sorted(d) -/
theorem ents_keys {Z : Hp} : ∀ {es : List DictEntry} {kvs : List (D × D)}, Ents (ctOf X) Z es kvs → EachIs (ItR X Z) (es.map (·.key)) (kvs.map (·.1))
  | _, _, .nil => .nil
  | _, _, .cons r1 r2 e1 e2 e3 r4 r5 t => .cons ⟨_, r1, r2⟩ (ents_keys t)
def rSortK (X : Cx) : List V → Hp → VK → Prop := fun vs H Q => ∃ Z p kvs, Same Z H ∧ vs = [V.ref p] ∧ DicR (ctOf X) Z H p kvs ∧ kvs.length ≤ sizeLine ∧ sortOk (kvs.map (·.1)) = true ∧ ∀ ys l, Reps (ctOf X) Z ys (sortD (kvs.map (·.1))) → H l = none → Q (.ref l) (upd H l (.lst ys))
theorem cr_sortK (hc : X.calm = true) (hu : X.A.units + 64 < cLine) : CallR X (.builtin "sorted") (rSortK X) := by
  intro pins s σ H vs us Q I r h
  obtain ⟨Z, p, kvs, zh, rfl, hd, hlen, hok, q⟩ := h
  obtain ⟨u, rfl, ru⟩ := vals1 r
  obtain rfl : u = Value.ref p := ru
  obtain ⟨h1, h2, h3⟩ := sortOk_of hok
  obtain ⟨hn, ⟨o, es, ep, e0, ex, edat, hents⟩, nd⟩ := hd
  have hraw : s.heap.DictRaw p es ep := ⟨o, dict_obj I e0, ex, edat⟩
  have he := ents_keys hents
  have hlk : es.size = kvs.length := by
    have := he.length
    rw [List.length_map, List.length_map, Array.length_toList] at this
    exact this
  have hh : X.A.in1.handled = none := I.ok.hd hc
  refine Calls.call_function_entry kind_sorted plain_sorted entry_sorted (args_sorted1 _) ?_
  unfold Builtin.«sorted»
  refine wpAny_bind (m := checkCount "sorted" 1 1 _) (wpAny_pure ?_)
  refine wpAny_bind (PySem.W.kdu_collect (A := X.A.in1) (PySem.KdlSrc.rawDict hn) hh hraw (by rw [hlk]; exact hlen) fun h' tk acc hk hacc => ?_)
  have hal : acc.toList = es.toList.map (·.key) := by
    refine List.ext_getElem? fun i => ?_
    rw [List.getElem?_map]
    by_cases hi : i < acc.size
    · have e1 : acc[i]? = some acc[i] := Array.getElem?_eq_getElem hi
      obtain ⟨hi2, e2⟩ := hacc.2 i _ e1
      rw [Array.getElem?_toList, e1, e2, Array.getElem?_toList, Array.getElem?_eq_getElem hi2]
      rfl
    · rw [List.getElem?_eq_none (by rw [Array.length_toList]; omega), List.getElem?_eq_none (by rw [Array.length_toList, ← hacc.1]; omega)]
      rfl
  rw [hal]
  have hl2 : (es.toList.map (·.key)).length = kvs.length := by rw [List.length_map, Array.length_toList]; exact hlk
  refine wpAny_bind (wpAny_newList ?_ (by rw [hl2]; exact hlen))
  have hre := each_reads I zh he h1
  have hso : (h'.push (seqObj "list" (es.toList.map (·.key)).toArray 0)).get? h'.objs.size = some (seqObj "list" (es.toList.map (·.key)).toArray 0) := Heap.get?_push_size _ rfl
  have hlt : ∀ b o, s.heap.get? b = some o → b < h'.objs.size := fun b o e => Heap.lt_size (hk b o e)
  have hkp : ∀ b o, s.heap.get? b = some o → (h'.push (seqObj "list" (es.toList.map (·.key)).toArray 0)).get? b = some o := fun b o e => Heap.get?_push_of_some _ (hk b o e)
  have I' : Inv X pins σ H { s with heap := h', toks := tk } := I.kept (t' := tk) hk
  have hre2 : EachIs (fun u d => ∃ as, Reads (h'.push (seqObj "list" (es.toList.map (·.key)).toArray 0)) u (id d) as ∧ h'.objs.size ∉ as) (es.toList.map (·.key)) (kvs.map (·.1)) := hre.mono fun u d ⟨as, g1, g2⟩ => ⟨as, Reads.keeps hkp g1, fun hm => by
    obtain ⟨o', ho'⟩ := g2 _ hm
    exact Nat.lt_irrefl _ (hlt _ _ ho')⟩
  refine wpAny_bind (wpAny_holding (PySem.W.list_sort_data (s := { s with heap := h'.push (seqObj "list" (es.toList.map (·.key)).toArray 0), toks := tk }) (bs := kvs.map (·.1)) (enc := id) (R := ItR X Z) hso he hre2 (by rw [List.map_id]; exact h1) (by rw [List.map_id]; exact h2) (by rw [List.length_map]; exact hlen) ?_ fun out ho eo => wpAny_pure ⟨_, rfl, ?_⟩))
  · exact fun d hd => by
      have := h3 d hd
      show X.A.units + 1 + 1 + d.depth < cLine
      omega
  · obtain ⟨ys, g1, g2⟩ := each_back eo
    obtain ⟨n, hn2⟩ := sortedHeap_at (out := out.toArray) hso
    refine ⟨.ref h'.objs.size, _, I'.laid (a := h'.objs.size) (o := .lst ys) (t' := tk) (fun b o e => (sortedHeap_old (Nat.ne_of_lt (Heap.lt_size e)) (Heap.lt_size (Heap.get?_push_of_some _ e))).trans (Heap.get?_push_of_some _ e)) (Nat.le_refl _) ⟨?_, out, n, g2, hn2⟩, rfl, q ys _ g1 (I'.hok.fresh (Nat.le_refl _))⟩
    have : ys.length = out.length := g2.length
    rw [this, ho, List.length_map]
    exact hlen
def gSortK : D → Option (List D)
  | .dict kvs => if sortOk (kvs.map (·.1)) && lenOk kvs.length then some (sortD (kvs.map (·.1))) else none
  | _ => none
theorem of_sortK : OfL1 (ctOf X) (rSortK X) gSortK := by
  intro Z H x dx ds Q rx zh e q
  cases dx with
  | dict kvs =>
    unfold gSortK at e
    dsimp only at e
    split at e
    · rename_i hok
      cases e
      rw [Bool.and_eq_true] at hok
      obtain ⟨p, rfl, hd⟩ := rx.dict zh
      exact ⟨Z, p, kvs, zh, rfl, hd, Nat.le_of_lt (lenOk_line hok.2), hok.1, fun ys l hy np => q l ys np hy⟩
    · cases e
  | _ => cases e
/-! sum of a tuple -/
theorem ints_at : ∀ {us : List Value} {ns : List Int}, IntsAre us ns → ∀ (i : Nat) (v : Value), us[i]? = some v → ∃ t, v = .int (ns.getD i 0) t
  | _, _, .nil, i, v, e => by simp at e
  | _, _, .cons n t h, 0, v, e => by simp at e; exact ⟨t, by rw [← e]; rfl⟩
  | _, _, .cons n t h, i + 1, v, e => by
    rw [List.getElem?_cons_succ] at e
    obtain ⟨t, e⟩ := ints_at h i v e
    exact ⟨t, e⟩
theorem pre_sum : ∀ ns : List Int, preSum (fun i => ns.getD i 0) ns.length = ns.sum
  | [] => rfl
  | n :: ns => by
    rw [List.length_cons, PySem.W.kdu_shift, List.sum_cons, ← pre_sum ns]
    rfl
def rSumT (K : PySem.W.Frag) : List V → Hp → VK → Prop := fun vs H Q => ∃ (a : Addr) (ns : List Int), vs = [V.ref a] ∧ SqT K H a (ns.map V.int) ∧ Q (.int ns.sum) H
theorem cr_sumT (hc : X.calm = true) : CallR X (.builtin "sum") (rSumT X.K) := by
  intro pins s σ H vs us Q I r h
  obtain ⟨a, ns, rfl, hs, q⟩ := h
  obtain ⟨its, rv, hl, _⟩ := I.tuple hs
  rw [Vals.ref1 r]
  have hi := rv.ints
  have hlen : its.length = ns.length := by
    have := rv.length
    rw [List.length_map] at this
    exact this.symm
  refine call_sum_walkAnyS (PySem.W.iter_tupleW (A := X.A.in1) (vs := its.toArray) (I.ok.hd hc) hl fun s₂ e W st hfp hw hk => ?_)
  refine ⟨s.heap.objs.size, _, _, _, _, _, _, (fun i => ns.getD i 0), rfl, W, st, hfp, fun i v hv => ints_at hi i v (by rw [← hv]; simp), fun s' t' m => ?_⟩
  obtain ⟨h', tk, rfl, hk'⟩ := PySem.W.moved_old e rfl m
  refine ⟨.int _, H, I.kept hk', ⟨t', ?_⟩, q⟩
  rw [List.size_toArray, hlen, pre_sum]
def gSumT : D → Option D
  | .tuple ds => (intsD ds).map fun is => .int is.sum
  | _ => none
theorem of_sumT : OfC1 (ctOf X) (rSumT X.K) gSumT := by
  intro Z H x dx d Q rx zh e q
  cases dx with
  | tuple ds =>
    unfold gSumT at e
    dsimp only at e
    cases e2 : intsD ds with
    | none => rw [e2] at e; cases e
    | some is =>
      rw [e2] at e; cases e
      obtain ⟨p, xs, rfl, h1, h2⟩ := rx.tuple zh
      exact ⟨p, is, rfl, by rw [← ints_rep h2 e2]; exact h1, q _ (.int _)⟩
  | _ => cases e
theorem v_gSumT {is : List Int} : gSumT (.tuple (is.map .int)) = some (.int is.sum) := by
  unfold gSumT
  dsimp only
  rw [intsD_map]
  rfl
/-! d.get(k) -/
def tDGetD (C : Ct) (td ty : TE) : TE := fun σ H Q => td σ H fun x H1 => (∃ p Z kvs, x = .ref p ∧ DicR C Z H1 p kvs) ∧ ty σ H1 fun y H2 => ∃ Z p kvs k, Same Z H2 ∧ x = .ref p ∧ DicR C Z H2 p kvs ∧ Rep C Z y k ∧ keyT k kvs = true ∧ ∀ v, Rep C Z v ((dGet kvs k).getD .none) → Q v H2
theorem pe_dgetD {o e : Expr} {apos cpos : Pos} {td ty : TE} (hu : X.A.units + 64 < cLine) (ho : PE X o td) (he : PE X e ty) (m : M1 X o "get" apos e cpos) : PE X (.Call (.Attribute o "get" apos) [e] [] cpos) (tDGetD (ctOf X) td ty) := by
  refine ⟨fun pins s σ H Q I h => ?_⟩
  refine wpAny_Call_method m.base m.few m.line PySem.F.plainAttrs_dict PySem.F.slot_dict_get PySem.F.type_dict_get (thn (ho.run pins s σ H _ I h) fun u s1 ⟨x, H1, I1, rx, ⟨p, Z1, kvs1, ex, hd1⟩, q1⟩ => ?_)
  subst ex
  obtain rfl : u = Value.ref p := rx
  obtain ⟨_, ⟨o1, es1, ep1, e1, ex1, edat1, _⟩, _⟩ := hd1
  have e1 := dict_obj I1 e1
  refine ⟨⟨o1, e1, ex1.1⟩, fun b q => ?_, ?_⟩
  · cases q
    exact ⟨o1, e1, ex1.2.1⟩
  rw [m.trees]
  refine Calls.callWith_builtin rfl (Calls.evalArgs_plain (Calls.spliced_cons (thn (he.run pins s1 σ H1 _ I1 q1) fun iv s2 ⟨y, H2, I2, ry, Z, p', kvs, k, zh, ep, hd, rk, hk, q⟩ => Calls.spliced_nil ?_)))
  cases ep
  obtain ⟨a, nk, xs, rfl, hkey, hm, e, hp, _⟩ := sees_T I2 zh hd hk (.f rk) ry
  refine call_meetsIn PySem.F.slot_dict_get hm.typeIs PySem.F.entry_dict_get (PySem.F.args_dict_get_2 _ _) (meetsH_dict_get (nestedKind X.prog X.w) p a hd.ns) ⟨room_T hu, nk, xs, hkey, hm, ?_⟩
  have hg := atKey_get e hp
  cases e1 : atKey xs nk with
  | none =>
    cases e2 : dGet kvs k with
    | none => exact ⟨.non, H2, I2.tok _, rfl, q _ (by rw [e2]; exact .non)⟩
    | some d => rw [e1, e2] at hg; exact hg.elim
  | some pr =>
    cases e2 : dGet kvs k with
    | none => rw [e1, e2] at hg; exact hg.elim
    | some d =>
      rw [e1, e2] at hg
      obtain ⟨vv, h1, h2⟩ := hg
      exact ⟨vv, H2, I2.tok _, h1, q _ (by rw [e2]; exact h2)⟩
def eGetM (oa : Opd) (fb : DM D) : DM D := bindM (evO oa) fun x => fun s => match res s x with
  | some (.dict _) => bindM fb (fun k s2 => match res s2 x with
    | some (.dict kvs) => if keyT k kvs then .ok ((dGet kvs k).getD .none) s2 else .bad
    | _ => .bad) s
  | _ => .bad
theorem de_getM {a b : Expr} {oa : Opd} {fb : DM D} {apos cpos : Pos} (hu : X.A.units + 64 < cLine) (ha : DO X W a oa) (hb : DE X W b fb) (m : M1 X a "get" apos b cpos) : DE X W (.Call (.Attribute a "get" apos) [b] [] cpos) (eGetM oa fb) :=
  pe_imp (pe_dgetD hu ha hb m) fun σ H Q ⟨B, Z, as, s, I, h⟩ => by
    refine rO_mono (rO_ev I (After.bind h)) fun v H1 ⟨Z1, as1, s1, x, I1, E1, P1, rx, h1⟩ => ?_
    split at h1
    · rename_i kvs0 ex0
      have hb0 := res_rep I1 rx ex0
      obtain ⟨p, rfl, hd0⟩ := hb0.dict I1.zh
      refine ⟨⟨p, Z1, kvs0, rfl, hd0⟩, B, Z1, as1, s1, I1, (After.bind h1).imp fun k s2 H2 Z2 as2 I2 E2 P2 h2 y ry => ?_⟩
      split at h2
      · rename_i kvs ex
        have hb1 := res_rep I2 (rx.mono E2.same P2) ex
        obtain ⟨p', e, hd⟩ := hb1.dict I2.zh
        cases e
        split at h2
        · rename_i hk
          exact ⟨Z2, p, kvs, k, I2.zh, rfl, hd, ry, hk, fun v rv => h2 _ _ _ I2 .refl (List.prefix_refl _) v rv⟩
        · exact h2.elim
      · exact h2.elim
    · exact h1.elim
end
section
variable {oa : Opd} {fb : DM D} {s : S} {k : D} {kvs : List (D × D)} {d : D} {x : Ov}
/-- the found one -/
def gmL (k : D) (s : S) (o : Option D) : R D := match o with
  | some (.dict kvs) => if keyT k kvs then .ok ((dGet kvs k).getD .none) s else .bad
  | _ => .bad
theorem v_gmL : gmL k s (some (.dict kvs)) = if keyT k kvs = true then .ok ((dGet kvs k).getD .none) s else .bad := rfl
def gmJ (x : Ov) (k : D) (s : S) : R D := gmL k s (res s x)
theorem v_gmJ : gmJ x k s = gmL k s (res s x) := rfl
def gmI (fb : DM D) (x : Ov) (s : S) (o : Option D) : R D := match o with
  | some (.dict _) => thenR (fb s) (gmJ x)
  | _ => .bad
theorem v_gmI : gmI fb x s (some (.dict kvs)) = thenR (fb s) (gmJ x) := rfl
def gmK (fb : DM D) (x : Ov) (s : S) : R D := gmI fb x s (res s x)
theorem v_gmK : gmK fb x s = gmI fb x s (res s x) := rfl
theorem v_eGetM : eGetM oa fb s = thenR (evO oa s) (gmK fb) := by
  unfold eGetM bindM thenR gmK gmI
  cases evO oa s with
  | ok x s' =>
    dsimp only
    split
    · unfold thenR gmJ gmL
      cases fb s' with
      | ok k s'' =>
        rfl
      | _ => rfl
    · rfl
  | _ => rfl
theorem v_gSortD {ds : List D} : gSortD (.list ds) = if sortOk ds = true then some (sortD ds) else none := rfl
theorem v_gSortK : gSortK (.dict kvs) = if (sortOk (kvs.map (·.1)) && lenOk kvs.length) = true then some (sortD (kvs.map (·.1))) else none := rfl
end
end DL

/-! DLH: for k in d; min of data that is alike. -/
namespace DL
open PySem PySem.Spec PyProof.Rows L2
open PySem.W (alike alikeAll AllAlike Sortable dataLe dataLt EachIs)
/-- the keys of the dict at d, in their order -/
def Itw (d : Addr) (o : Obj) (xs : List V) : It :=
  ⟨fun i H => H d = some (dictHO d o) ∧ i < xs.length, fun i H x H' => H' = H ∧ xs[i]? = some x, fun i H => H d = some (dictHO d o) ∧ xs.length ≤ i⟩
section
variable {P : Program} {w : World} {K : PySem.W.Frag} {tg : Expr} {d : Addr} {o : Obj} {es : Array DictEntry} {ep : Nat} {xs : List V}
theorem turn_raw (it : Addr) (hod : o.data = .dict es ep) (rv : Vals xs (es.toList.map (·.key))) : Turn P w K tg (Itw d o xs) [it] it (fun i h => h.IsKeyIter it d i xs.length ep) where
  mem := List.mem_singleton.mpr rfl
  obj := fun i h st b hb => by
    cases List.mem_singleton.mp hb
    obtain ⟨oi, e, c, dd⟩ := st
    exact ⟨oi, e, fun v z => by rw [dd] at z; cases z⟩
  keep := fun i h h' st k => st.at fun oi e => k it (List.mem_singleton.mpr rfl) oi e
  item := by
    intro X hP hw hK hc i pins s σ H E I hf st ⟨hd, hi⟩
    subst hP hw hK
    obtain ⟨f0, f1, f2, f3, f4, f5⟩ := hf it (List.mem_singleton.mpr rfl)
    have hgd := dict_obj I hd
    have hsz : es.size = xs.length := by
      have := rv.length
      rw [List.length_map, Array.length_toList] at this
      exact this.symm
    obtain ⟨u, hu, ru⟩ := rv.get (List.getElem?_eq_getElem hi)
    rw [List.getElem?_map] at hu
    obtain ⟨en, hen, rfl⟩ := Option.map_eq_some_iff.mp hu
    refine next_key_item st hgd hod hsz (by rw [← Array.getElem?_toList]; exact hen) fun h' st' sb => ?_
    have I1 : Inv X pins σ H { s with heap := h' } := I.turned (t' := s.toks) (fun b ob hb e => (sb.2 b hb).trans e) f0 f1 f3 f4 f5
    obtain ⟨oi, e, c, dd⟩ := id st'
    exact ⟨en.key, rfl, go_of (s := { s with heap := h' }) e c dd (by decide) ⟨_, H, I1, ru, ⟨rfl, List.getElem?_eq_getElem hi⟩, st', fun b hb => (hf b hb).1⟩⟩
  done := by
    intro X hP hw hK hc i pins s σ H E I hf st ⟨hd, hi⟩
    subst hP hw hK
    obtain ⟨f0, f1, f2, f3, f4, f5⟩ := hf it (List.mem_singleton.mpr rfl)
    have hgd := dict_obj I hd
    have hsz : es.size = xs.length := by
      have := rv.length
      rw [List.length_map, Array.length_toList] at this
      exact this.symm
    exact next_key_end (I.ok.hd hc) st hgd hod hsz hi fun h' eb => ⟨rfl, I.turned (t' := s.toks) (fun b ob hb e => eb b ob hb e) f0 f1 f3 f4 f5⟩
  self := fun A i s Q E st h => wpAny_pyIter_keyiter st h
end
section
variable {X : Cx} {W : WX} {tg l : Expr}
theorem ents_V {C : Ct} {Z : Hp} : ∀ {es : List DictEntry} {kvs : List (D × D)}, Ents C Z es kvs → ∃ xs, Vals xs (es.map (·.key)) ∧ Reps C Z xs (kvs.map (·.1))
  | _, _, .nil => ⟨[], .nil, .nil⟩
  | _, _, .cons r1 r2 e1 e2 e3 r4 r5 t => by
    obtain ⟨xs, h1, h2⟩ := ents_V t
    exact ⟨_ :: xs, .cons r1 h1, .cons r2 h2⟩
theorem feeds_raw {C : Ct} {Z0 : Hp} {d : Addr} {o : Obj} {xs : List V} {ds : List D} (h : Z0 d = some (dictHO d o)) (r : Reps C Z0 xs ds) : Feeds C (Itw d o xs) Z0 ds := fun i H zh => by
  refine ⟨fun y hy => ?_, fun hi => ⟨zh _ _ h, by rw [r.length]; exact hi⟩⟩
  obtain ⟨v, hv, rv⟩ := r.get hy
  refine ⟨⟨zh _ _ h, (List.getElem?_eq_some_iff.mp hv).1⟩, fun x H' B Z σ as s hy I hz => ?_⟩
  obtain ⟨rfl, hx⟩ := hy
  rw [hv] at hx; cases hx
  exact ⟨Z, I, .refl, rv.mono hz⟩
def tKeys (te : TE) : TI := fun σ H R => te σ H fun x H1 => ∃ d o es ep xs, x = .ref d ∧ H1 d = some (dictHO d o) ∧ (d == sysModules) = false ∧ o.ExactDict ∧ o.data = .dict es ep ∧ Vals xs (es.toList.map (·.key)) ∧ R (Itw d o xs) H1
theorem pi_keysD {te : TE} (he : PE X l te) : PI X tg l (tKeys te) := by
  refine ⟨fun pins s σ H R I h => ?_⟩
  refine thn (he.run pins s σ H _ I h) fun u s1 ⟨x, H1, I1, rx, d, o, es, ep, xs, ex, hd, hs, hx, hdt, rv, q⟩ => ?_
  subst ex
  obtain rfl : u = Value.ref d := rx
  have hgd := dict_obj I1 hd
  have hsz : xs.length = es.size := by
    have := rv.length
    rw [List.length_map, Array.length_toList] at this
    exact this
  refine iter_keys hs hgd hx hdt (pi_one (tk := s1.toks) I1 _ (turn_raw _ hdt rv) ⟨_, Heap.get?_push_size _ rfl, rfl, ?_⟩ q)
  rw [hsz]
  rfl
def iKeys (f : DM D) : DM (List D) := bindM f fun d => match d with
  | .dict kvs => if lenOk kvs.length then pureM (kvs.map (·.1)) else badM
  | _ => badM
theorem di_keys {f : DM D} (h : DE X W l f) : DI X W tg l (iKeys f) := pi_imp (pi_keysD h) fun σ H R ⟨B, Z, as, s, I, h⟩ =>
  ⟨B, Z, as, s, I, (After.bind h).imp fun d s1 H1 Z1 as1 I1 E1 P1 h1 v rv => by
    cases rv with
    | @dic a o es ep kvs e1 e2 e3 e4 e5 e6 =>
      dsimp only at h1
      split at h1
      · rename_i hl
        obtain ⟨xs, g1, g2⟩ := ents_V e5
        exact ⟨a, o, es, ep, xs, rfl, I1.zh _ _ e1, e2, e3, e4, g1, After.pure h1 I1 _ (feeds_raw e1 g2) (by rw [List.length_map]; exact Nat.le_of_lt (lenOk_line hl))⟩
      · exact h1.elim
    | _ => exact h1.elim⟩
end
/-! min(xs) -/
mutual
theorem reads_det {h : Heap} : ∀ {v : Value} {d d' : D} {as as' : List Addr}, Reads h v d as → Reads h v d' as' → alike d d = true → d = d'
  | _, _, _, _, _, .none, r, _ => by cases r; rfl
  | _, _, _, _, _, .bool _, r, _ => by cases r; rfl
  | _, _, _, _, _, .int _ _, r, _ => by cases r; rfl
  | _, _, _, _, _, .str _ _, r, _ => by cases r; rfl
  | _, _, _, _, _, .list h1 h2 h3 h4, r, e => by
    cases r with
    | list g1 g2 g3 g4 =>
      rw [h1] at g1; cases g1
      rw [h3] at g3; cases g3
      rw [readsAll_det h4 g4 (by simpa [alike] using e)]
    | tuple g1 g2 g3 g4 =>
      rw [h1] at g1; cases g1
      rw [h2] at g2; exact absurd g2 (by decide)
    | dict g1 g2 g3 g4 g5 =>
      rw [h1] at g1; cases g1
      rw [h2] at g2; exact absurd g2 (by decide)
  | _, _, _, _, _, .tuple h1 h2 h3 h4, r, e => by
    cases r with
    | tuple g1 g2 g3 g4 =>
      rw [h1] at g1; cases g1
      rw [h3] at g3; cases g3
      rw [readsAll_det h4 g4 (by simpa [alike] using e)]
    | list g1 g2 g3 g4 =>
      rw [h1] at g1; cases g1
      rw [h2] at g2; exact absurd g2 (by decide)
    | dict g1 g2 g3 g4 g5 =>
      rw [h1] at g1; cases g1
      rw [h2] at g2; exact absurd g2 (by decide)
  | _, _, _, _, _, .dict _ _ _ _ _, _, e => by simp [alike] at e
theorem readsAll_det {h : Heap} : ∀ {vs : List Value} {ds ds' : List D} {as as' : List Addr}, ReadsAll h vs ds as → ReadsAll h vs ds' as' → alikeAll ds ds = true → ds = ds'
  | _, _, _, _, _, .nil, r, _ => by cases r; rfl
  | _, _, _, _, _, .cons h1 h2, r, e => by
    cases r with
    | cons g1 g2 =>
      rw [alikeAll, Bool.and_eq_true] at e
      rw [reads_det h1 g1 e.1, readsAll_det h2 g2 e.2]
end
theorem reads_get {h : Heap} : ∀ {vs : List Value} {ds : List D} {as : List Addr} {i : Nat} {v : Value}, ReadsAll h vs ds as → vs[i]? = some v → ∃ d bs, ds[i]? = some d ∧ Reads h v d bs
  | _, _, _, i, v, .nil, e => by simp at e
  | _, _, _, 0, v, .cons h1 h2, e => by simp at e; cases e; exact ⟨_, _, rfl, h1⟩
  | _, _, _, i + 1, v, .cons h1 h2, e => by
    rw [List.getElem?_cons_succ] at e
    obtain ⟨d, bs, q1, q2⟩ := reads_get h2 e
    exact ⟨d, bs, by rw [List.getElem?_cons_succ]; exact q1, q2⟩
def notNone : D → Bool
  | .none => false
  | _ => true
def minOk (ds : List D) : Bool := (ds.all fun x => ds.all fun y => alike x y) && ds.all notNone && decide (PyData.depthAll ds ≤ 8)
theorem alike_self : ∀ {ds : List D}, (∀ d, d ∈ ds → alike d d = true) → alikeAll ds ds = true
  | [], _ => by simp [alikeAll]
  | d :: ds, h => by
    rw [alikeAll, h d List.mem_cons_self, alike_self fun x hx => h x (List.mem_cons_of_mem _ hx)]
    rfl
def rMinD (X : Cx) : List V → Hp → VK → Prop := fun vs H Q => ∃ Z a xs d ds, Same Z H ∧ vs = [V.ref a] ∧ SqL X.K H a xs ∧ Reps (ctOf X) Z xs (d :: ds) ∧ minOk (d :: ds) = true ∧ ∀ v, Rep (ctOf X) Z v (PySem.W.minD d ds) → Q v H
theorem cr_minD {X : Cx} (hc : X.calm = true) (hu : X.A.units + 64 < cLine) : CallR X (.builtin "min") (rMinD X) := by
  intro pins s σ H vs us Q I r h
  obtain ⟨Z, a, xs, d, ds, zh, rfl, hs, hr, hok, q⟩ := h
  obtain ⟨its, rv, hl, hz⟩ := I.list hs
  obtain ⟨u, rfl, ru⟩ := vals1 r
  obtain rfl : u = Value.ref a := ru
  unfold minOk at hok
  rw [Bool.and_eq_true, Bool.and_eq_true, decide_eq_true_iff] at hok
  obtain ⟨⟨h1, h0⟩, h2⟩ := hok
  rw [List.all_eq_true] at h1 h0
  have hal : AllAlike (d :: ds) := fun x hx y hy => List.all_eq_true.mp (h1 x hx) y hy
  have hself : alikeAll (d :: ds) (d :: ds) = true := alike_self fun x hx => hal x hx x hx
  have hnn : ∀ x, x ∈ d :: ds → x ≠ .none := fun x hx e => by have := h0 x hx; rw [e] at this; cases this
  obtain ⟨as, hra, _⟩ := readsAll_of I (hr.mono zh) hself rv
  refine PySem.W.min_list_data (I.ok.hd hc) hl.isList (by simpa using hra) ⟨hal, hnn⟩ (by omega) fun i v h' tk bs hv hrd hk => ?_
  have hv' : its[i]? = some v := by simpa using hv
  obtain ⟨d1, bs1, e1, e2⟩ := reads_get hra hv'
  have hd1 : d1 ∈ d :: ds := List.mem_of_getElem? e1
  have hdd := reads_det (Reads.keeps hk e2) hrd (hal d1 hd1 d1 hd1)
  obtain ⟨x, hx, rx'⟩ := hr.get e1
  obtain ⟨u, hu', rx⟩ := rv.get hx
  rw [hv'] at hu'; cases hu'
  exact ⟨x, H, I.kept hk, rx, q x (by rw [← hdd]; exact rx')⟩
def gMinD : D → Option D
  | .list (d :: ds) => if minOk (d :: ds) then some (PySem.W.minD d ds) else none
  | _ => none
theorem of_minD {X : Cx} : OfC1 (ctOf X) (rMinD X) gMinD := by
  intro Z H x dx d Q rx zh e q
  cases dx with
  | list xs =>
    cases xs with
    | nil => cases e
    | cons y ys =>
      unfold gMinD at e
      dsimp only at e
      split at e
      · rename_i hok
        cases e
        obtain ⟨p, vs, rfl, h1, h2⟩ := rx.list zh
        exact ⟨Z, p, vs, y, ys, zh, rfl, h1, h2, hok, q⟩
      · cases e
  | _ => cases e
theorem v_gMinD {d : D} {ds : List D} : gMinD (.list (d :: ds)) = if minOk (d :: ds) = true then some (PySem.W.minD d ds) else none := rfl
section
variable {f : DM D} {s : S} {kvs : List (D × D)}
def iKeysk (d : D) (s : S) : R (List D) := match d with
  | .dict kvs => if lenOk kvs.length then .ok (kvs.map (·.1)) s else .bad
  | _ => .bad
theorem v_iKeysk : iKeysk (.dict kvs) s = if lenOk kvs.length = true then .ok (kvs.map (·.1)) s else .bad := rfl
theorem v_iKeys : iKeys f s = thenR (f s) iKeysk := by
  unfold iKeys bindM thenR
  cases f s with
  | ok d s' =>
    dsimp only
    unfold iKeysk
    cases d with
    | dict kvs => dsimp only; split <;> rfl
    | _ => rfl
  | _ => rfl
end
end DL

/-! DLI: functions that call themselves; enumerate(tuple). -/
namespace DL
open PySem PySem.Spec PyProof.Rows L2
/-- a function that nobody may call: the bottom of a recursion -/
theorem fnP_bad {P : Program} {w : World} {K : PySem.W.Frag} {mg : Str → Option Value} {base : Heap} {x : Str} {k : Nat} {st : Stmt} {f : Addr} {fd : FuncData} {N ps : List Str} (F : Fun K x x st f fd) (S : FnScope N ps (defScope st)) (gm : mg x = some (.ref f)) (bn : Binds K fd ps []) :
    FnP P w K mg base x (k + 1) (fun _ => .bad) := by
  refine ⟨f, fd, ps, F.okX S (fun vs H Q E h => ?_) (fun cdv A outer s H vs Q E hr h => ?_), gm, F.kp, bn⟩
  · obtain ⟨B, Z, ds, _, _, r, h⟩ := h
    exact h.elim
  · obtain ⟨B, Z, ds, hb, hz, r, h⟩ := h
    exact h.elim
/-! ### enumerate(t), t a tuple -/
section
open AutoSeq1 (wpAny_loadPart')
theorem meets_enT (tu : Addr) (its : Array Value) (nn : Nat) (dic : Option Addr) (slo : Array (Option Value)) :
    Meets (Builtin.«enumerate.__new__» ⟨[.type "enumerate", .ref tu], []⟩) (fun _ RR ss => ss.heap.get? tu = some { cls := .type "tuple", dict := dic, data := .seq its nn, slots := slo } ∧
      RR (.ok (.ret (.ref (ss.heap.push { cls := .type "tuple_iterator", data := .fields #[.ref tu, .int 0 0] }).objs.size)))
        { ss with heap := (ss.heap.push { cls := .type "tuple_iterator", data := .fields #[.ref tu, .int 0 0] }).push { cls := .type "enumerate", data := .fields #[.none, .bool false, .ref ss.heap.objs.size, rawInt 0, .none, .none] } }) :=
  .of_wp fun pr wo AA RR ss hyp => by
    obtain ⟨hea, gen, dra, tok, oss⟩ := ss; obtain ⟨hl, hyp⟩ := hyp
    have isub := sub_enumerate
    have isT : Heap.IsTuple (Shared.heap ⟨hea, gen, dra, tok, oss⟩) tu its := ⟨_, hl, rfl, nn, rfl⟩
    wp_walk using wpAny_loadPart' hl
    refine wpAny_stack_any fun stk => wpAny_pure ?_
    split
    · rename_i cc _ _ _ _ _
      cases (cc == Value.type "enumerate")
      · wp_walk using wpAny_loadPart' hl, wpAny_pyIter_tuple isT
        exact ⟨_, rfl, hyp⟩
      · wp_walk using wpAny_loadPart' hl, wpAny_pyIter_tuple isT
        exact ⟨_, rfl, hyp⟩
    · wp_walk using wpAny_loadPart' hl, wpAny_pyIter_tuple isT
      exact ⟨_, rfl, hyp⟩
end
theorem call_enT {prog : Program} {w : World} {A : Around} {E : Value → Shared → Prop} {s : Shared} {tu : Addr} {its : Array Value} {Q : Value → Shared → Prop} (hT : s.heap.IsTuple tu its)
    (h : ∀ h', IsEnum h' (s.heap.objs.size + 1) s.heap.objs.size 0 .none → h'.IsTupleIter s.heap.objs.size tu 0 → (∀ b o, s.heap.get? b = some o → h'.get? b = some o) → Q (.ref (s.heap.objs.size + 1)) { s with heap := h' }) :
    wpAny (model prog w) A (call (.type "enumerate") [.ref tu]) Q E s := by
  obtain ⟨⟨cl, dic, dat, slo⟩, hl, hcl, nn, hdat⟩ := hT
  have hcl' : cl = .type "tuple" := hcl
  have hdat' : dat = .seq its nn := hdat
  subst hcl' hdat'
  refine callType_new F.called_enumerate (by decide) (F.typeCall_enumerate_1 _) (F.newCall_enumerate_1 _) (fun ob => F.args_object_init_2 ob _) F.entry_enumerate_new (meets_enT tu its nn dic slo) ⟨hl, ?_⟩
  have hsz : (s.heap.push { cls := .type "tuple_iterator", data := .fields #[.ref tu, .int 0 0] }).objs.size = s.heap.objs.size + 1 := Heap.size_push ..
  show _ ∧ _
  rw [hsz]
  have he : IsEnum ((s.heap.push { cls := .type "tuple_iterator", data := .fields #[.ref tu, .int 0 0] }).push { cls := .type "enumerate", data := .fields #[.none, .bool false, .ref s.heap.objs.size, rawInt 0, .none, .none] }) (s.heap.objs.size + 1) s.heap.objs.size 0 .none := by
    have hg := Heap.get?_push_size (s.heap.push { cls := .type "tuple_iterator", data := .fields #[.ref tu, .int 0 0] }) (o := { cls := .type "enumerate", data := .fields #[.none, .bool false, .ref s.heap.objs.size, rawInt 0, .none, .none] }) rfl
    rw [hsz] at hg
    exact hg
  exact ⟨⟨_, he, rfl⟩, h _ he ⟨_, Heap.get?_push_of_some _ (Heap.get?_push_size _ rfl), rfl, rfl⟩ fun b o x => Heap.get?_push_of_some _ (Heap.get?_push_of_some _ x)⟩
/-- the items of the tuple at a, each in a new pair -/
def Itet (K : PySem.W.Frag) (a : Addr) (n : Nat) : It :=
  ⟨fun i H => ∃ (xs : List V) (x : V), SqT K H a xs ∧ xs[i]? = some x ∧ xs.length = n, fun i H v H' => ∃ T x, v = .ref T ∧ H T = none ∧ H' = upd H T (.tup [.int (i : Nat), x]) ∧ ∀ xs, SqT K H a xs → xs[i]? = some x, fun i H => ∃ xs : List V, SqT K H a xs ∧ xs.length = n ∧ n ≤ i⟩
theorem turn_enT {P : Program} {w : World} {K : PySem.W.Frag} {elts : List Expr} {kk : Nat} {tpos : Pos} (a e it : Addr) (n : Nat) :
    Turn P w K (.Tuple elts kk tpos) (Itet K a n) [e, it] e (fun i h => (∃ old, IsEnum h e it ((i : Nat) : Int) old) ∧ h.IsTupleIter it a i ∧ e ≠ it ∧ e ≠ a ∧ a ≠ it ∧ i ≤ n) where
  mem := List.mem_cons_self
  obj := fun i h st b hb => by
    obtain ⟨⟨old, he⟩, ⟨o, ho, hc, hd⟩, _⟩ := st
    rcases List.mem_cons.mp hb with z | z
    · rw [z]; exact ⟨_, he, fun v q => nomatch q⟩
    · rw [List.mem_singleton.mp z]; exact ⟨o, ho, fun v q => by rw [hd] at q; cases q⟩
  keep := fun i h h' st k => let ⟨⟨old, he⟩, hi, hne⟩ := st; ⟨⟨old, k e List.mem_cons_self _ he⟩, hi.at fun o q => k it (List.mem_cons_of_mem _ List.mem_cons_self) o q, hne⟩
  item := by
    intro X hP hw hK hc i pins s σ H E I hf st ⟨xs, x, hq, hx, hxn⟩
    subst hP hw hK
    obtain ⟨⟨old, he⟩, hit, hne, hea, hai, hin⟩ := st
    obtain ⟨its, rv, p, hz⟩ := I.tuple hq
    obtain ⟨u, hu, ru⟩ := rv.get hx
    have hil : i < its.toArray.size := by
      have := (List.getElem?_eq_some_iff.mp hu).1
      simpa using this
    have hel : e < s.heap.objs.size := Heap.lt_size he
    have hitl : it < s.heap.objs.size := by obtain ⟨_, q, _⟩ := hit; exact Heap.lt_size q
    refine wpAny_pyNext_enum_itemD (Draws.tuple (A := X.A.in1) (I.ok.hd hc) it a hai its.toArray) he ⟨hit, (show s.heap.IsTuple a its.toArray from p)⟩ hil hne (by simp [hne, hea]) fun x1 h' tk hx1 ho hst hT hsz hk => ?_
    have hx1 : x1 = u := by
      have h1 : its[i]? = some x1 := by simpa using hx1
      rw [hu] at h1; exact (Option.some.inj h1).symm
    subst hx1
    refine ⟨_, rfl, wpAny_letOwnedTupleGo_enum (s := { s with heap := h', toks := tk + 1 }) ho fun h'' he' sb => ?_⟩
    have hT2 : h''.get? s.heap.objs.size = some { cls := .type "tuple", data := .seq #[.int i tk, x1] } := (sb.2 _ (Nat.ne_of_gt hel)).trans hT
    have new : ObjOk X.prog X.w (upd H s.heap.objs.size (.tup [.int (i : Nat), x])) h'' s.heap.objs.size (.tup [.int (i : Nat), x]) :=
      ⟨by show 2 ≤ sizeLine; decide, [.int i tk, x1], .cons ⟨_, rfl⟩ (.cons ru .nil), ⟨_, hT2, rfl, _, rfl⟩⟩
    have I1 : Inv X pins σ (upd H s.heap.objs.size (.tup [.int (i : Nat), x])) { s with heap := h'', toks := tk + 1 } :=
      I.turnedNew (t' := tk + 1) (ch := [e, it]) (fun b ob hb q => (sb.2 b (fun z => hb (by simp [z]))).trans (hk b ob (fun z => hb (by simp [z])) (fun z => hb (by simp [z])) q)) hf (Nat.le_refl _) new
    refine ⟨.ref s.heap.objs.size, _, I1, rfl, ⟨_, x, rfl, I.hok.fresh (Nat.le_refl _), rfl, fun ys hy => by rw [I.tuple_inj hy hq]; exact hx⟩, ⟨⟨x1, ?_⟩, hst.1.at fun o q => (sb.2 it (Ne.symm hne)).trans q, hne, hea, hai, ?_⟩, fun b hb => ?_⟩
    · rw [show ((i + 1 : Nat) : Int) = (i : Int) + 1 by omega]
      exact he'
    · have := (List.getElem?_eq_some_iff.mp hx).1
      omega
    · have hb' : b < s.heap.objs.size := by
        rcases List.mem_cons.mp hb with z | z
        · rw [z]; exact hel
        · rw [List.mem_singleton.mp z]; exact hitl
      rw [upd_ne (Nat.ne_of_lt hb')]
      exact (hf b hb).1
  done := by
    intro X hP hw hK hc i pins s σ H E I hf st ⟨xs, hq, hxn, hx⟩
    subst hP hw hK
    obtain ⟨⟨old, he⟩, hit, hne, hea, hai, hin⟩ := st
    obtain ⟨its, rv, p, hz⟩ := I.tuple hq
    obtain ⟨f0, f1, f2, f3, f4, f5⟩ := hf it (List.mem_cons_of_mem _ List.mem_cons_self)
    have hsz : i = its.toArray.size := by
      have := rv.length
      rw [List.size_toArray, ← this]
      omega
    subst hsz
    exact wpAny_pyNext_enum_endD (Draws.tuple (A := X.A.in1) (I.ok.hd hc) it a hai its.toArray) he ⟨hit, (show s.heap.IsTuple a its.toArray from p)⟩ fun h' eb => ⟨rfl, I.turned (t' := s.toks) (fun b o hb q => eb b o hb q) f0 f1 f3 f4 f5⟩
  self := fun A i s Q E st h => let ⟨⟨_, he⟩, _⟩ := st; wpAny_pyIter_enum he h
def tEnT (K : PySem.W.Frag) (ta : TA) : TI := fun σ H R => ta σ H fun vs H1 => ∃ a xs, vs = [.ref a] ∧ SqT K H1 a xs ∧ R (Itet K a xs.length) H1
theorem pi_enT {X : Cx} {e : Expr} {ta : TA} {p pos tpos : Pos} {elts : List Expr} {kk : Nat} (hg : Gl X "enumerate") (hm : X.mg "enumerate" = none) (ha : PA X [e] ta) (hs : starEach [e] X.env = [(false, eval e X.env)] := by rfl) :
    PI X (.Tuple elts kk tpos) (.Call (.Name "enumerate" p) [e] [] pos) (tEnT X.K ta) := by
  refine ⟨fun pins s σ H R I h => ?_⟩
  refine Call_ (ld_blt I hg hm boot_enumerate (PyProof.Rows.callWith_type1 (thn (ha.run pos pins s σ H _ I h) fun us s1 ⟨vs, H1, I1, r1, a, xs, ex, hq, q⟩ => ?_) hs rfl))
  subst ex
  cases r1 with
  | cons r rr =>
    cases rr
    cases r
    obtain ⟨its, rv, p', hz⟩ := I1.tuple hq
    have hT : s1.heap.IsTuple a its.toArray := p'
    have hal : a < s1.heap.objs.size := by obtain ⟨_, q, _⟩ := hT; exact Heap.lt_size q
    refine call_enT hT fun h' he hit hk => wpAny_pyIter_enum he ?_
    have I2 : Inv X pins σ H1 { s1 with heap := h' } := I1.kept (t' := s1.toks) hk
    refine ⟨s1.heap.objs.size + 1, [s1.heap.objs.size + 1, s1.heap.objs.size], _, _, H1, rfl, I2, turn_enT a (s1.heap.objs.size + 1) s1.heap.objs.size xs.length, ⟨⟨.none, he⟩, hit, Nat.succ_ne_self _, Ne.symm (Nat.ne_of_lt (Nat.lt_succ_of_lt hal)), Nat.ne_of_lt hal, Nat.zero_le _⟩, fun b hb => ?_, q⟩
    have hle : s1.heap.objs.size ≤ b := by
      rcases List.mem_cons.mp hb with z | z
      · rw [z]; exact Nat.le_add_right _ _
      · rw [List.mem_singleton.mp z]; exact Nat.le_refl _
    exact I1.fpOk hle (I1.hok.fresh hle)
section
variable {X : Cx} {W : WX} {a : Expr} {p pos tpos : Pos} {elts : List Expr} {kk : Nat}
theorem feeds_enT {C : Ct} {Z0 : Hp} {a : Addr} {xs : List V} {ds : List D} (h : SqT C.K Z0 a xs) (r : Reps C Z0 xs ds) : Feeds C (Itet C.K a xs.length) Z0 (ds.mapIdx fun i x => .tuple [.int (i : Nat), x]) := fun i H zh => by
  refine ⟨fun d hd => ?_, fun hi => ⟨xs, sqT_mono zh h, rfl, by rw [r.length]; rwa [List.length_mapIdx] at hi⟩⟩
  rw [List.getElem?_mapIdx] at hd
  obtain ⟨dx, e1, rfl⟩ := Option.map_eq_some_iff.mp hd
  obtain ⟨v, hv, rv⟩ := r.get e1
  refine ⟨⟨xs, v, sqT_mono zh h, hv, rfl⟩, fun x H' B Z σ as s hy I hz => ?_⟩
  obtain ⟨T, x', rfl, np, rfl, hx⟩ := hy
  have q1 := hx xs (sqT_mono zh h)
  rw [hv] at q1; cases q1
  obtain ⟨I3, E3, z3⟩ := I.alloc (o := .tup [.int (i : Nat), v]) np
  exact ⟨_, I3, E3, .tup (.inl (.inl z3)) (.cons (.int _) (.cons ((rv.mono hz).mono E3.same) .nil))⟩
def enumT : List D → Option (List D)
  | [.tuple xs] => if lenOk xs.length then some (xs.mapIdx fun i x => .tuple [.int (i : Nat), x]) else none
  | _ => none
def dEnumT (g : DM (List D)) : DM (List D) := bindM g fun ds => liftO (enumT ds)
theorem di_enumT {g : DM (List D)} (hm : X.mg "enumerate" = none) (ha : DL X W [a] g) (hg : Gl X "enumerate" := by rfl)
    (hs : starEach [a] X.env = [(false, eval a X.env)] := by rfl) : DI X W (.Tuple elts kk tpos) (.Call (.Name "enumerate" p) [a] [] pos) (dEnumT g) :=
  pi_imp (pi_enT hg hm ha hs) fun σ H R ⟨B, Z, as, s, I, h⟩ =>
  ⟨B, Z, as, s, I, (After.bind h).imp fun ds s1 H1 Z1 as1 I1 E1 P1 h1 vs rvs => by
    obtain ⟨es, e, q⟩ := After.lift h1 I1
    cases rvs with
    | nil => cases e
    | cons r t =>
      cases t with
      | cons r2 t2 => cases r <;> cases e
      | nil =>
        cases r with
        | tup hx rx =>
          unfold enumT at e
          dsimp only at e
          split at e
          · rename_i hl
            cases e
            refine ⟨_, _, rfl, sqT_mono I1.zh hx, q _ (feeds_enT hx rx) ?_⟩
            rw [List.length_mapIdx]
            exact Nat.le_of_lt (lenOk_line hl)
          · cases e
        | _ => cases e⟩
end
section
variable {g : DM (List D)} {s : S} {xs : List D}
def dEnumTk (ds : List D) (s : S) : R (List D) := optR (enumT ds) s
theorem v_dEnumTk : dEnumTk [.tuple xs] s = if lenOk xs.length = true then .ok (xs.mapIdx fun i x => .tuple [.int (i : Nat), x]) s else .bad := by
  show optR (if _ then _ else none) s = _
  split <;> rfl
theorem v_dEnumT : dEnumT g s = thenR (g s) dEnumTk := by
  unfold dEnumT bindM thenR
  cases g s <;> first | rfl | exact lift_opt
end
end DL

/-! DLJ: sorted(set(tuples of ints)), fewer than 64. -/
namespace DL
open PySem PySem.Spec PyProof.Rows L2
open PySem.W (alike alikeAll AllAlike Sortable dataLe dataLt EachIs)
def tupI (p : List Int) : D := .tuple (p.map .int)
theorem tupI_lt {p q : List Int} : dataLt (tupI p) (tupI q) = decide (p < q) := by
  unfold tupI
  rw [PySem.W.dataLt_tuple]
  exact PySem.W.dataLt_ints p q
theorem lex_tri : ∀ (r r' : List Int), r < r' ∨ r = r' ∨ r' < r
  | [], [] => .inr (.inl rfl)
  | [], _ :: _ => .inl (List.nil_lt_cons _ _)
  | _ :: _, [] => .inr (.inr (List.nil_lt_cons _ _))
  | a :: r, c :: r' => by
    rw [List.cons_lt_cons_iff, List.cons_lt_cons_iff]
    rcases Int.lt_trichotomy a c with h | h | h
    · exact .inl (.inl h)
    · subst h
      rcases lex_tri r r' with h | h | h
      · exact .inl (.inr ⟨rfl, h⟩)
      · exact .inr (.inl (by rw [h]))
      · exact .inr (.inr (.inr ⟨rfl, h⟩))
    · exact .inr (.inr (.inl h))
def leI (p q : List Int) : Bool := decide (¬ q < p)
theorem leI_total (p q : List Int) : (leI p q || leI q p) = true := by
  unfold leI
  by_cases h : q < p
  · have : ¬ p < q := fun h' => List.lt_irrefl _ (List.lt_trans h h')
    rw [decide_eq_true this, Bool.or_true]
  · rw [decide_eq_true h, Bool.true_or]
theorem leI_trans (p q r : List Int) (h : leI p q = true) (k : leI q r = true) : leI p r = true := by
  unfold leI at h k ⊢
  rw [decide_eq_true_iff] at h k ⊢
  intro e
  rcases lex_tri p q with h1 | h1 | h1
  · exact k (List.lt_trans e h1)
  · subst h1; exact k e
  · exact h h1
theorem leI_anti {p q : List Int} (h : leI p q = true) (k : leI q p = true) : p = q := by
  unfold leI at h k
  rw [decide_eq_true_iff] at h k
  rcases lex_tri p q with h1 | h1 | h1
  · exact absurd h1 k
  · exact h1
  · exact absurd h1 h
/-- each once -/
def oneL : List (List Int) → List (List Int)
  | [] => []
  | k :: ks => if k ∈ ks then oneL ks else k :: oneL ks
theorem oneL_mem {p : List Int} : ∀ {ks : List (List Int)}, p ∈ oneL ks ↔ p ∈ ks
  | [] => Iff.rfl
  | k :: ks => by
    unfold oneL
    by_cases h : k ∈ ks
    · rw [if_pos h, oneL_mem, List.mem_cons]
      exact ⟨.inr, fun q => q.elim (fun e => e ▸ h) fun q => q⟩
    · rw [if_neg h, List.mem_cons, List.mem_cons, oneL_mem]
theorem oneL_nodup : ∀ (ks : List (List Int)), (oneL ks).Nodup
  | [] => List.nodup_nil
  | k :: ks => by
    unfold oneL
    by_cases h : k ∈ ks
    · rw [if_pos h]; exact oneL_nodup ks
    · rw [if_neg h]; exact List.nodup_cons.mpr ⟨fun q => h (oneL_mem.mp q), oneL_nodup ks⟩
/-- the sorted members -/
def usT (ks : List (List Int)) : List (List Int) := (oneL ks).mergeSort leI
theorem usT_mem {ks : List (List Int)} {p : List Int} : p ∈ usT ks ↔ p ∈ ks := by
  unfold usT
  rw [List.mem_mergeSort, oneL_mem]
theorem one_sorted : ∀ {a b : List (List Int)}, a.Nodup → b.Nodup → (∀ p, p ∈ a ↔ p ∈ b) → a.Pairwise (fun p q => leI p q = true) → b.Pairwise (fun p q => leI p q = true) → a = b
  | [], [], _, _, _, _, _ => rfl
  | [], y :: b, _, _, h, _, _ => absurd ((h y).mpr List.mem_cons_self) (fun q => nomatch q)
  | x :: a, [], _, _, h, _, _ => absurd ((h x).mp List.mem_cons_self) (fun q => nomatch q)
  | x :: a, y :: b, n1, n2, h, s1, s2 => by
    obtain ⟨u1, v1⟩ := List.nodup_cons.mp n1
    obtain ⟨u2, v2⟩ := List.nodup_cons.mp n2
    obtain ⟨w1, z1⟩ := List.pairwise_cons.mp s1
    obtain ⟨w2, z2⟩ := List.pairwise_cons.mp s2
    have e : x = y := by
      rcases List.mem_cons.mp ((h x).mp List.mem_cons_self) with e | e
      · exact e
      · rcases List.mem_cons.mp ((h y).mpr List.mem_cons_self) with e' | e'
        · exact e'.symm
        · exact leI_anti (w1 y e') (w2 x e)
    subst e
    rw [one_sorted v1 v2 (fun p => ?_) z1 z2]
    constructor
    · intro hp
      rcases List.mem_cons.mp ((h p).mp (List.mem_cons_of_mem _ hp)) with e | e
      · subst e; exact absurd hp u1
      · exact e
    · intro hp
      rcases List.mem_cons.mp ((h p).mpr (List.mem_cons_of_mem _ hp)) with e | e
      · subst e; exact absurd hp u2
      · exact e
section
variable {X : Cx} {W : WX} {pos pos' p : Pos} {a : Expr} {oa : Opd}
def rSortS (X : Cx) : List V → Hp → VK → Prop := fun vs H Q => ∃ (Z : Hp) (a : Addr) (L : List (Addr × List Int)), vs = [V.ref a] ∧ Same Z H ∧ H a = some (SetTO X.prog X.w a L) ∧ (∀ q ∈ L, SqT X.K Z q.1 (q.2.map V.int)) ∧ (∀ q ∈ L, q.2 ≠ []) ∧
  ∀ (ks : List (List Int)) (vs' : List V) (p : Addr), Reps (ctOf X) Z vs' (ks.map tupI) → (∀ k, k ∈ ks ↔ k ∈ L.map (·.2)) → ks.Nodup → ks.Pairwise (fun p q => leI p q = true) → H p = none → Q (.ref p) (upd H p (.lst vs'))
theorem rep_tup {C : Ct} {Z : Hp} {b : Addr} {k : List Int} (h : SqT C.K Z b (k.map V.int)) : Rep C Z (.ref b) (tupI k) := .tup h (repsI k)
theorem pick_L {L : List (Addr × List Int)} : ∀ {vs : List Value}, (∀ v, v ∈ vs → ∃ q ∈ L, v = Value.ref q.1) → ∃ L1 : List (Addr × List Int), vs = L1.map (fun q => Value.ref q.1) ∧ ∀ q ∈ L1, q ∈ L
  | [], _ => ⟨[], rfl, fun q hq => nomatch hq⟩
  | v :: vs, hv => by
    obtain ⟨q, hq, e⟩ := hv v List.mem_cons_self
    obtain ⟨L1, e1, hs⟩ := pick_L fun u hu => hv u (List.mem_cons_of_mem _ hu)
    refine ⟨q :: L1, by rw [List.map_cons, e, e1], fun r hr => ?_⟩
    rcases List.mem_cons.mp hr with z | z
    · rw [z]; exact hq
    · exact hs r z
theorem cr_sortS (hc : X.calm = true) (hu : X.A.units + 64 < cLine) : CallR X (.builtin "sorted") (rSortS X) := by
  intro pins s σ H vs us Q I r h
  obtain ⟨Z, a, L, rfl, zh, ha, hk, hne, q⟩ := h
  have hkH : ∀ q ∈ L, SqT X.K H q.1 (q.2.map V.int) := fun q hq => sqT_mono zh (hk q hq)
  have R0 : SetT0 X.prog X.w s.heap a L := (I.hok a _ ha).1
  obtain ⟨es, ep, t, R⟩ := R0.full fun p hp => I.isT (hkH p hp)
  rw [Vals.ref1 r]
  obtain ⟨o, ho, hex, hd⟩ := R.ob
  have hsize := R.size
  have hfew := R.few
  have hh : X.A.in1.handled = none := I.ok.hd hc
  refine Calls.call_function_entry kind_sorted plain_sorted entry_sorted (args_sorted1 _) ?_
  unfold Builtin.«sorted»
  refine wpAny_bind (m := checkCount "sorted" 1 1 _) (wpAny_pure ?_)
  refine wpAny_bind (collect_set (A := X.A.in1) hh ⟨o, ho, hex.1, hd⟩ R.fits (by unfold scanBound; omega) R.tab.ris R.led fun s1 ws kp hle hgen hos pm => ?_)
  have hes : es.toList.map (·.2) = L.map fun q => Value.ref q.1 := by
    rw [R.rows]
    unfold rowsOf
    rw [List.map_map]
    rfl
  rw [hes] at pm
  have one : ∀ q ∈ L, ∀ r ∈ L, q.1 = r.1 → q = r := fun q hq r hr e => by
    have a1 := R.tup q hq
    rw [e] at a1
    exact Prod.ext e (a1.inj (R.tup r hr))
  obtain ⟨L1, rfl, hL1⟩ := pick_L (L := L) (vs := ws) fun v hv => by
    obtain ⟨q, hq, e⟩ := List.mem_map.mp (pm.mem_iff.mp hv)
    exact ⟨q, hq, e.symm⟩
  have nL : L.Nodup := List.Pairwise.of_map (·.2) (fun _ _ hne e => hne (congrArg _ e)) R.nd
  have nref : (L.map fun q => Value.ref q.1).Nodup := by
    refine List.pairwise_map.mpr (List.Pairwise.imp_of_mem (fun {q r} hq hr hne e => ?_) nL)
    injection e with e
    exact hne (one q hq r hr e)
  have n1 : L1.Nodup := List.Pairwise.of_map (fun q => Value.ref q.1) (fun _ _ hne e => hne (congrArg (fun q : Addr × List Int => Value.ref q.1) e)) (pm.nodup_iff.mpr nref)
  have pL : L1.Perm L := (List.perm_ext_iff_of_nodup n1 nL).mpr fun q => ⟨hL1 q, fun hq => by
    obtain ⟨r, hr, e⟩ := List.mem_map.mp (pm.mem_iff.mpr (List.mem_map.mpr ⟨q, hq, rfl⟩))
    injection e with e
    rw [← one r (hL1 r hr) q hq e]
    exact hr⟩
  have hlen : L1.length < 64 := by rw [pL.length_eq]; exact hfew
  have hsz : L1.length ≤ sizeLine := by rw [sizeLine_eq]; omega
  refine wpAny_bind (wpAny_newList ?_ (by rw [List.length_map]; exact hsz))
  generalize hws : L1.map (fun q => Value.ref q.1) = ws
  have hso : (s1.heap.push (seqObj "list" ws.toArray 0)).get? s1.heap.objs.size = some (seqObj "list" ws.toArray 0) := Heap.get?_push_size _ rfl
  have hkp : ∀ b o, s.heap.get? b = some o → (s1.heap.push (seqObj "list" ws.toArray 0)).get? b = some o := fun b o e => Heap.get?_push_of_some _ (kp b o e)
  have hal : ∀ d, d ∈ L1.map (fun q => tupI q.2) → ∀ d', d' ∈ L1.map (fun q => tupI q.2) → alike d d' = true := fun d hd d' hd' => by
    obtain ⟨q, _, rfl⟩ := List.mem_map.mp hd
    obtain ⟨r, _, rfl⟩ := List.mem_map.mp hd'
    show alike (.tuple _) (.tuple _) = true
    rw [alike]
    exact PySem.W.alike_ints _ _
  have he : EachIs (ItR X Z) ws (L1.map fun q => tupI q.2) := by
    rw [← hws]
    clear hws hso hkp hal pL n1 pm hlen hsz
    induction L1 with
    | nil => exact .nil
    | cons q L1 ih => exact .cons ⟨.ref q.1, rfl, rep_tup (hk q (hL1 q List.mem_cons_self))⟩ (ih fun r hr => hL1 r (List.mem_cons_of_mem _ hr))
  have hre := each_reads I zh he hal
  have hre2 : EachIs (fun u d => ∃ as, Reads (s1.heap.push (seqObj "list" ws.toArray 0)) u (id d) as ∧ s1.heap.objs.size ∉ as) ws (L1.map fun q => tupI q.2) := hre.mono fun u d ⟨as, g1, g2⟩ => ⟨as, Reads.keeps hkp g1, fun hm => by
    obtain ⟨o', ho'⟩ := g2 _ hm
    exact Nat.lt_irrefl _ (Heap.lt_size (kp _ _ ho'))⟩
  refine wpAny_bind (wpAny_holding (PySem.W.list_sort_data (s := { s1 with heap := s1.heap.push (seqObj "list" ws.toArray 0) }) (bs := L1.map fun q => tupI q.2) (enc := id) (R := ItR X Z) hso he hre2 (by rw [List.map_id]; exact hal) ?_ (by rw [List.length_map]; exact hsz) ?_ fun out hout eo => wpAny_pure ⟨_, rfl, ?_⟩))
  · rw [List.map_id]
    refine .inl fun d hd => ?_
    obtain ⟨q, hq, rfl⟩ := List.mem_map.mp hd
    have h0 := hne q (hL1 q hq)
    cases hq2 : q.2 with
    | nil => exact absurd hq2 h0
    | cons x xs => exact ⟨_, _, by unfold tupI; rw [List.map_cons]⟩
  · intro d hd
    obtain ⟨q, _, rfl⟩ := List.mem_map.mp hd
    have : PyData.depth (tupI q.2) ≤ 1 := by
      unfold tupI
      rw [PyData.depth, PySem.W.depth_ints]
      decide
    show X.A.units + 1 + 1 + PyData.depth (tupI q.2) < cLine
    omega
  · obtain ⟨ys, g1, g2⟩ := each_back eo
    obtain ⟨n, hn2⟩ := sortedHeap_at (out := out.toArray) hso
    have hsl : (L1.map fun q => tupI q.2).mergeSort (dataLe false id) = ((L1.map (·.2)).mergeSort leI).map tupI := by
      rw [show (L1.map fun q => tupI q.2) = (L1.map (·.2)).map tupI by rw [List.map_map]; rfl]
      refine (List.map_mergeSort fun p _ q _ => ?_).symm
      show leI p q = !dataLt (tupI q) (tupI p)
      rw [tupI_lt]
      unfold leI
      rw [decide_not]
    rw [hsl] at g1
    have hp1 := List.mergeSort_perm (L1.map (·.2)) leI
    have hkk : (L1.map (·.2)).Perm (L.map (·.2)) := pL.map _
    have hn : H s1.heap.objs.size = none := I.hok.fresh hle
    have kF : ∀ b o, s.heap.get? b = some o → (sortedHeap (s1.heap.push (seqObj "list" ws.toArray 0)) s1.heap.objs.size ws out.toArray).get? b = some o := fun b o e => (sortedHeap_old (Nat.ne_of_lt (Heap.lt_size (kp b o e))) (Heap.lt_size (hkp b o e))).trans (hkp b o e)
    have hyl : ys.length ≤ sizeLine := by
      have := g1.length
      rw [List.length_map, hp1.length_eq, List.length_map] at this
      omega
    have J : Inv X pins σ (upd H s1.heap.objs.size (.lst ys)) { s with heap := sortedHeap (s1.heap.push (seqObj "list" ws.toArray 0)) s1.heap.objs.size ws out.toArray, gens := s1.gens, drawn := s1.drawn, toks := s1.toks } :=
      I.call (ch := []) (Un.laid kF hle hn) (I.hok.laid kF hle ⟨hyl, out, n, g2, hn2⟩) (by rw [hgen]; exact I.bare) (fun _ z => nomatch z)
    have e : ({ s1 with heap := sortedHeap (s1.heap.push (seqObj "list" ws.toArray 0)) s1.heap.objs.size ws out.toArray } : Shared) = { s with heap := sortedHeap (s1.heap.push (seqObj "list" ws.toArray 0)) s1.heap.objs.size ws out.toArray, gens := s1.gens, drawn := s1.drawn, toks := s1.toks } := by
      cases s1
      cases s
      cases hos
      rfl
    show EP X pins σ Q _ { s1 with heap := sortedHeap (s1.heap.push (seqObj "list" ws.toArray 0)) s1.heap.objs.size ws out.toArray }
    rw [e]
    refine ⟨.ref s1.heap.objs.size, _, J, rfl, q _ ys _ g1 (fun k => ?_) ?_ ?_ hn⟩
    · rw [hp1.mem_iff]; exact hkk.mem_iff
    · exact hp1.nodup_iff.mpr (hkk.nodup_iff.mpr R.nd)
    · exact List.pairwise_mergeSort leI_trans leI_total _
def tupsD : List D → Option (List (List Int))
  | [] => some []
  | .tuple xs :: ds => (intsD xs).bind fun is => (tupsD ds).map fun ks => is :: ks
  | _ :: _ => none
theorem tupsD_map (ks : List (List Int)) : tupsD (ks.map tupI) = some ks := by
  induction ks with
  | nil => rfl
  | cons k ks ih =>
    show (intsD (k.map .int)).bind _ = _
    rw [intsD_map, Option.bind_some, show tupsD (ks.map tupI) = some ks from ih]
    rfl
theorem tups_rep {C : Ct} {Z : Hp} : ∀ {ds : List D} {ks : List (List Int)} {vs : List V}, tupsD ds = some ks → Reps C Z vs ds → ∃ L : List (Addr × List Int), vs = L.map (fun p => V.ref p.1) ∧ (∀ p ∈ L, SqT C.K Z p.1 (p.2.map V.int)) ∧ L.map (·.2) = ks
  | [], _, _, e, .nil => by cases e; exact ⟨[], rfl, fun p h => (nomatch h), rfl⟩
  | d :: ds, ks, _, e, .cons h t => by
    cases h with
    | @tup a xs es hq hr =>
      change (intsD es).bind _ = _ at e
      obtain ⟨is, e1, e2⟩ := Option.bind_eq_some_iff.mp e
      obtain ⟨ks', e3, rfl⟩ := Option.map_eq_some_iff.mp e2
      obtain ⟨L, h1, h2, h3⟩ := tups_rep e3 t
      have hxs : xs = is.map V.int := ints_rep hr e1
      refine ⟨(a, is) :: L, by rw [h1]; rfl, fun p hp => ?_, by rw [List.map_cons, h3]⟩
      rcases List.mem_cons.mp hp with rfl | hp
      · rw [← hxs]; exact hq
      · exact h2 p hp
    | _ => cases e
def gUsortT : D → Option (List D)
  | .list ds => (tupsD ds).bind fun ks => if decide (ks.length < 64) && ks.all fun k => !k.isEmpty then some ((usT ks).map tupI) else none
  | _ => none
theorem v_gUsortT {ks : List (List Int)} : gUsortT (.list (ks.map tupI)) = if (decide (ks.length < 64) && ks.all fun k => !k.isEmpty) = true then some ((usT ks).map tupI) else none := by
  unfold gUsortT
  dsimp only
  rw [tupsD_map]
  rfl
theorem usT_nodup (ks : List (List Int)) : (usT ks).Nodup := by
  unfold usT
  rw [(List.mergeSort_perm _ _).nodup_iff]
  exact oneL_nodup ks
theorem df_usortT {py : Pos} (hc : X.calm = true) (hu : X.A.units + 64 < cLine) (ms : X.mg "sorted" = none) (mt : X.mg "set" = none) (ha : DO X W a oa) (hgs : Gl X "sorted" := by rfl) (hgt : Gl X "set" := by rfl)
    (hs : starEach [a] X.env = (false, eval a X.env) :: starEach [] X.env := by rfl) (hpl : (backTo pos' (starEach [] X.env)).any (·.1) = false := by rfl)
    (hs' : starEach [Expr.Call (.Name "set" py) [a] [] pos'] X.env = (false, eval (Expr.Call (.Name "set" py) [a] [] pos') X.env) :: starEach [] X.env := by rfl) (hpl' : (backTo pos (starEach [] X.env)).any (·.1) = false := by rfl) :
    DF X W (.Call (.Name "sorted" p) [.Call (.Name "set" py) [a] [] pos'] [] pos) (fNew (e1 gUsortT oa)) := by
  have inner : PE X (.Call (.Name "set" py) [a] [] pos') (tCB (rSetOfT X.K X.prog X.w) (tCons (rO (ctOf X) W oa) tNil)) := pe_callTy (cr_setOfT hc hu) hgt mt (by decide +kernel) (pa_cons ha pa_nil hs) (by decide) (by decide) hs hpl
  refine pe_imp (pe_callB (id := "sorted") (cr_sortS hc hu) hgs ms (by decide +kernel) (pa_cons inner pa_nil hs') (by decide) (by decide) hs' hpl') fun σ H Q ⟨B, Z, as, s, I, h⟩ => ?_
  refine rO_mono (rO1 I (After.bind h)) fun v H1 ⟨Z1, as1, s1, dx, es, I1, E1, P1, rx, e, q⟩ => ?_
  cases dx with
  | list ds =>
    unfold gUsortT at e
    dsimp only at e
    obtain ⟨ks, e1, e2⟩ := Option.bind_eq_some_iff.mp e
    split at e2
    · rename_i hk
      cases e2
      rw [Bool.and_eq_true, decide_eq_true_iff, List.all_eq_true] at hk
      obtain ⟨p1, vs, rfl, h1, h2⟩ := rx.list I1.zh
      obtain ⟨L0, rfl, h3, h4⟩ := tups_rep e1 h2
      have hl : L0.length < 64 := by rw [← h4, List.length_map] at hk; exact hk.1
      refine ⟨p1, L0, rfl, h1, fun p hp => sqT_mono I1.zh (h3 p hp), hl, fun p2 L np hsub hall => ?_⟩
      have I2 : SR (ctOf X) B Z1 σ (upd H1 p2 (SetTO X.prog X.w p2 L)) as1 s1 := I1.fresh np
      refine ⟨Z1, p2, L, rfl, I2.zh, upd_same, fun q hq => h3 q (hsub q hq), fun q hq he => ?_, fun ks' vs' p3 hr hm hn hso np3 => ?_⟩
      · have := hk.2 q.2 (by rw [← h4]; exact List.mem_map.mpr ⟨q, hsub q hq, rfl⟩)
        rw [he] at this
        cases this
      · have hks : ks' = usT ks := one_sorted hn (usT_nodup ks) (fun k => by
          rw [hm, usT_mem, ← h4]
          constructor
          · intro h
            obtain ⟨q, hq, rfl⟩ := List.mem_map.mp h
            exact List.mem_map.mpr ⟨q, hsub q hq, rfl⟩
          · intro h
            obtain ⟨q, hq, rfl⟩ := List.mem_map.mp h
            exact hall q hq) hso (List.pairwise_mergeSort leI_trans leI_total _)
        subst hks
        have I3 := I2.fresh (p := p3) (o := .lst vs') np3
        exact q _ _ _ I3 .refl (List.prefix_refl _) _ ⟨p3, _, rfl, I2.zh.free np3, I2.bh.free np3, I2.free_new np3, upd_same, hr⟩
    · cases e2
  | _ => cases e
end
end DL

/-! DLK: a tuple's slice with both ends, tuple(range(i, j, -1)), list(range(n)). -/
namespace DL
open PySem PySem.Spec PyProof.Rows L2
section
variable {X : Cx} {W : WX} {k : Nat} {a b c e lo hi : Expr} {oa ob oc : Opd} {pos p p2 : Pos} {x : Str} {id T : String}
def asI : D → Option Int
  | .int i => some i
  | _ => none
def gCutIJ (i j : Int) : D → Option (List D)
  | .tuple ds => some (cutD ds (some i) (some j))
  | _ => none
def eCutB (oa ob oc : Opd) : DM (List D) := bindM (evO oa) fun x => bindM (e1 asI ob) fun i => bindM (e1 asI oc) fun j => with1 (gCutIJ i j) x
theorem asI_some {d : D} {i : Int} (h : asI d = some i) : d = .int i := by
  cases d with
  | int j => cases h; rfl
  | _ => cases h
theorem de_cutBT (ha : DO X W a oa) (hb : DO X W b ob) (hc : DO X W c oc) : DE X W (.Subscript a (.Slice (some b) (some c) none p2) pos) (eNewT (eCutB oa ob oc)) := by
  refine pe_imp (pe_slice sl_tupA ha (po_some hb) (po_some hc)) fun σ H Q ⟨B, Z, as, s, I, h⟩ => ?_
  refine rO_mono (rO_ev I (After.bind (After.bind h))) fun v H1 ⟨Z1, as1, s1, x, I1, E1, P1, rx, h1⟩ => ?_
  refine rO_mono (rO1 I1 (After.bind h1)) fun u H2 ⟨Z2, as2, s2, dy, i, I2, E2, P2, ry, e2, h2⟩ => ?_
  obtain rfl := asI_some e2
  refine ⟨i, by rw [ry.int], ?_⟩
  refine rO_mono (rO1 I2 (After.bind h2)) fun w H3 ⟨Z3, as3, s3, dz, j, I3, E3, P3, rz, e3, h3⟩ => ?_
  obtain rfl := asI_some e3
  refine ⟨j, by rw [rz.int], ?_⟩
  unfold with1 at h3
  cases ex : res s3 x with
  | none => rw [ex] at h3; exact h3.elim
  | some dx =>
    rw [ex] at h3
    obtain ⟨ds, e, q⟩ := After.lift h3 I3
    have rx := res_rep I3 (rx.mono (E2.trans E3).same (P2.trans P3)) ex
    have EE := E1.trans (E2.trans E3)
    have PP := P1.trans (P2.trans P3)
    cases dx with
    | tuple xs =>
      cases e
      cases rx with
      | f rx =>
      obtain ⟨p, vs, hp, g1, h2⟩ := (BRep.f (H := H3) rx).tuple I3.zh
      subst hp
      refine ⟨p, vs, rfl, g1, fun hw => ?_, fun _ l np => ?_⟩
      · refine q _ _ _ I3 .refl (List.prefix_refl _) _ ?_
        rw [cut_whole (by rw [← h2.length]; exact hw)]
        exact rx
      · obtain ⟨I4, E4, z4⟩ := I3.alloc (o := .tup (cutV vs (some i) (some j))) np
        exact q _ _ _ I4 E4 (List.prefix_refl _) _ (.tup (.inl (.inl z4)) ((h2.cut _ _).mono E4.same))
    | _ => cases e
/-! ### list(range(n)), tuple(range(i, j, -1)) -/
theorem reps_range {C : Ct} {Z : Hp} {lo : Int} : ∀ n : Nat, Reps C Z ((List.range n).map fun k : Nat => V.int (lo + (k : Int))) (rangeL lo n) := by
  intro n
  unfold rangeL
  generalize List.range n = l
  induction l with
  | nil => exact .nil
  | cons k l ih => exact .cons (.int _) ih
def fListRg (f : DM D) : DM RV := fNew (bindM f fun d => liftO (iRange1 [d]))
theorem df_listRg1 {f : DM D} {p3 p4 : Pos} (hc : X.calm = true) (hm : X.mg "list" = none) (hm2 : X.mg "range" = none) (ha : DE X W a f) (hg : Gl X "list" := by rfl) (hg2 : Gl X "range" := by rfl)
    (na2 : starEach [a] X.env = (false, eval a X.env) :: starEach [] X.env := by rfl)
    (na : starEach [Expr.Call (.Name "range" p3) [a] [] p4] X.env = (false, eval (Expr.Call (.Name "range" p3) [a] [] p4) X.env) :: starEach [] X.env := by rfl) :
    DF X W (.Call (.Name "list" p) [.Call (.Name "range" p3) [a] [] p4] [] pos) (fListRg f) := by
  refine pe_imp (pe_listRg hc hg hm (prg_1 hg2 hm2 ha na2) na) fun σ H Q ⟨B, Z, as, s, I, h⟩ => ?_
  refine ⟨B, Z, as, s, I, (After.bind (After.bind h)).imp fun d s1 H1 Z1 as1 I1 E1 P1 h1 v rv => ?_⟩
  obtain ⟨es, e, h2⟩ := After.lift h1 I1
  obtain ⟨n, e0, ho, rfl⟩ := iRange1_some e
  cases e0
  cases rv
  have hb := rangeOk_le ho
  refine ⟨n, rfl, ⟨by omega, by omega, by omega, by omega, by omega⟩, fun q np => ?_⟩
  have hr : Reps (ctOf X) Z1 (rgV 0 n) (rangeL 0 n.toNat) := by
    unfold rgV
    rw [Int.sub_zero]
    exact reps_range _
  have I2 := I1.fresh (p := q) (o := .lst (rgV 0 n)) np
  exact h2 _ _ _ I2 .refl (List.prefix_refl _) _ ⟨q, _, rfl, I1.zh.free np, I1.bh.free np, I1.free_new np, upd_same, hr⟩
/-- i, i - 1, …: n of them -/
def downV (i : Int) (n : Nat) : List V := (List.range n).map fun k => V.int (i + (k : Nat) * (-1))
def downL (i : Int) (n : Nat) : List D := (List.range n).map fun k : Nat => PyData.int (i - (k : Int))
theorem reps_down {C : Ct} {Z : Hp} {i : Int} : ∀ n : Nat, Reps C Z (downV i n) (downL i n) := by
  intro n
  unfold downL downV
  generalize List.range n = l
  induction l with
  | nil => exact .nil
  | cons k l ih =>
    refine .cons ?_ ih
    show Rep C Z (V.int (i + (k : Int) * (-1))) (.int (i - (k : Int)))
    rw [show i + (k : Int) * (-1) = i - (k : Int) by omega]
    exact .int _
theorem vals_down {i : Int} {n : Nat} {acc : Array Value} (h : ItemsOf (fun k v => ∃ t, v = .int (i + k * (-1)) t) acc n) : Vals (downV i n) acc.toList := by
  have e : acc.toList.length = n := by rw [Array.length_toList]; exact h.1
  unfold downV
  rw [← e]
  refine vals_of_get acc.toList _ fun j u hj => ?_
  exact h.2 j u (by rw [← hj, Array.getElem?_toList])
def tTupDn (ta : TA) : TE := fun σ H Q => ta σ H fun vs H1 => ∃ i j : Int, vs = [.int i, .int j, .int (-1)] ∧ (-(2 ^ 62) ≤ i ∧ i < 2 ^ 62 ∧ -(2 ^ 62) ≤ j ∧ j < 2 ^ 62 ∧ (i - j).toNat ≤ 2 ^ 24) ∧ ∀ q, H1 q = none → Q (.ref q) (upd H1 q (.tup (downV i (i - j).toNat)))
theorem pe_tupDn {ta : TA} {p3 p4 : Pos} (hc : X.calm = true) (hg : Gl X "tuple") (hm : X.mg "tuple" = none) (hg2 : Gl X "range") (hm2 : X.mg "range" = none) (ha : PA X [a, b, c] ta)
    (hs : starEach [a, b, c] X.env = (false, eval a X.env) :: starEach [b, c] X.env) (hpl : (backTo p4 (starEach [b, c] X.env)).any (·.1) = false)
    (na : starEach [Expr.Call (.Name "range" p3) [a, b, c] [] p4] X.env = (false, eval (Expr.Call (.Name "range" p3) [a, b, c] [] p4) X.env) :: starEach [] X.env) :
    PE X (.Call (.Name "tuple" p) [.Call (.Name "range" p3) [a, b, c] [] p4] [] pos) (tTupDn ta) := by
  refine ⟨fun pins s σ H Q I h => ?_⟩
  refine Call_ (ld_blt I hg hm boot_tuple (PyProof.Rows.callWith_type1 (args_cons (thn (Q := fun v s1 => ∃ r i j t u w H1, v = .ref r ∧ IsRange s1.heap r i j (-1) t u w ∧ Inv X pins σ H1 s1 ∧ (-(2 ^ 62) ≤ i ∧ i < 2 ^ 62 ∧ -(2 ^ 62) ≤ j ∧ j < 2 ^ 62 ∧ (i - j).toNat ≤ 2 ^ 24) ∧ ∀ q, H1 q = none → Q (.ref q) (upd H1 q (.tup (downV i (i - j).toNat)))) ?_ fun v s1 ⟨r, i, j, t, u, w, H1, ex, hr, I1, ok, q⟩ => args_nil ?_) na) na))
  · refine Call_ (ld_blt I hg2 hm2 boot_range (PyProof.Rows.callWith_type1 (thn (ha.run p4 pins s σ H _ I h) fun us s1 ⟨vs, H1, I1, r1, q1⟩ => ?_) hs hpl))
    obtain ⟨i, j, e, ok, q⟩ := q1
    subst e
    cases r1 with
    | cons r rr =>
      cases rr with
      | cons r' rr =>
        cases rr with
        | cons r'' rr =>
          cases rr
          obtain ⟨t, rfl⟩ := r
          obtain ⟨t', rfl⟩ := r'
          obtain ⟨t'', rfl⟩ := r''
          refine call_range_3 (by decide) ?_ (.inl (PyProof.noPylong_small (by decide)))
          exact ⟨_, i, j, _, _, _, H1, rfl, IsRange.new _ _ _ _ _ _ _, I1.kept (t' := s1.toks) fun b o e => Heap.get?_push_of_some _ e, ok, q⟩
  · subst ex
    obtain ⟨b1, b2, b3, b4, b5⟩ := ok
    refine call_tuple_range (n := (i - j).toNat) (I1.ok.hd hc) hr (PySem.W.small_down b1 b2 b3 b4) (PySem.W.rangeSize_downNat i j) b5 fun h' tk acc hk hi => ?_
    have I2 : Inv X pins σ H1 { s1 with heap := h', toks := tk } := I1.kept hk
    refine ⟨.ref h'.objs.size, upd H1 h'.objs.size (.tup (downV i (i - j).toNat)), I2.laid (t' := tk) (fun c o e => Heap.get?_push_of_some _ e) (Nat.le_refl _) (show ObjOk X.prog X.w _ _ _ (.tup (downV i (i - j).toNat)) from ⟨?_, acc.toList, vals_down hi, ?_⟩), rfl, q _ (I2.hok.fresh (Nat.le_refl _))⟩
    · unfold downV; rw [List.length_map, List.length_range, sizeLine_eq]; omega
    · rw [Array.toArray_toList]; exact IsTup.new _ _
def iDown (ds : List D) : Option (List D) := match ds with
  | [.int i, .int j, .int k] => if rangeOk i j && decide (k = -1) then some (downL i (i - j).toNat) else none
  | _ => none
theorem iDown_some {ds es : List D} (h : iDown ds = some es) : ∃ i j, ds = [.int i, .int j, .int (-1)] ∧ rangeOk i j = true ∧ es = downL i (i - j).toNat := by
  unfold iDown at h
  split at h
  · split at h
    · rename_i i j k ho
      rw [Bool.and_eq_true, decide_eq_true_iff] at ho
      obtain ⟨ho, rfl⟩ := ho
      cases h
      exact ⟨i, j, rfl, ho, rfl⟩
    · cases h
  · cases h
def eTupDn (g : DM (List D)) : DM D := eNewT (bindM g fun ds => liftO (iDown ds))
theorem de_tupDn {g : DM (List D)} {p3 p4 : Pos} (hc : X.calm = true) (hm : X.mg "tuple" = none) (hm2 : X.mg "range" = none) (ha : DL X W [a, b, c] g) (hg : Gl X "tuple" := by rfl) (hg2 : Gl X "range" := by rfl)
    (hs : starEach [a, b, c] X.env = (false, eval a X.env) :: starEach [b, c] X.env := by rfl) (hpl : (backTo p4 (starEach [b, c] X.env)).any (·.1) = false := by rfl)
    (na : starEach [Expr.Call (.Name "range" p3) [a, b, c] [] p4] X.env = (false, eval (Expr.Call (.Name "range" p3) [a, b, c] [] p4) X.env) :: starEach [] X.env := by rfl) :
    DE X W (.Call (.Name "tuple" p) [.Call (.Name "range" p3) [a, b, c] [] p4] [] pos) (eTupDn g) := by
  refine pe_imp (pe_tupDn hc hg hm hg2 hm2 ha hs hpl na) fun σ H Q ⟨B, Z, as, s, I, h⟩ => ?_
  refine ⟨B, Z, as, s, I, (After.bind (After.bind h)).imp fun ds s1 H1 Z1 as1 I1 E1 P1 h1 vs rvs => ?_⟩
  obtain ⟨es, e, h2⟩ := After.lift h1 I1
  obtain ⟨i, j, rfl, ho, rfl⟩ := iDown_some e
  cases rvs with
  | cons r t =>
    cases t with
    | cons r2 t2 =>
      cases t2 with
      | cons r3 t3 =>
        cases t3; cases r; cases r2; cases r3
        have hb := rangeOk_le ho
        refine ⟨i, j, rfl, ⟨by omega, by omega, by omega, by omega, by omega⟩, fun q np => ?_⟩
        obtain ⟨I3, E3, z3⟩ := I1.alloc (o := .tup (downV i (i - j).toNat)) np
        exact h2 _ _ _ I3 E3 (List.prefix_refl _) _ (.tup (.inl (.inl z3)) ((reps_down _).mono E3.same))
end
/-! ### sorted of one thing -/
section
open PySem.W (alike alikeAll AllAlike Sortable dataLe dataLt EachIs SortsAt dataKind)
variable {X : Cx}
theorem sorts_one {prog : Program} {w : World} {A : Around} {s : Shared} {v : Value} {d : D} {as : List Addr} (r : Reads s.heap v d as) (hal : alike d d = true) (hn : d ≠ .none) (hu : A.units + d.depth < cLine) : SortsAt prog w A s (dataKind s.heap [d]) [v] := by
  have hall : AllAlike [d] := fun x hx y hy => by rw [List.mem_singleton.mp hx, List.mem_singleton.mp hy]; exact hal
  refine ⟨fun u hv => ?_, general', fun E x y a b Q ha hb hq => ?_, fun h => absurd h (by simp)⟩
  · rw [List.mem_singleton.mp hv]
    exact ⟨_, PySem.W.dataKind_some hall List.mem_cons_self r⟩
  · obtain ⟨d1, as1, hd1, ra, rfl⟩ := PySem.W.dataKind_inv ha
    obtain ⟨d2, as2, hd2, rb, rfl⟩ := PySem.W.dataKind_inv hb
    rw [List.mem_singleton] at hd1 hd2
    subst hd1 hd2
    show wpAny (model prog w) A (oneLt' false x y) Q E s
    exact PySem.W.oneLt_alike (fun h => by cases h) ra rb hal hn (by rw [Nat.min_self]; exact hu) hq
def oneOk : List D → Bool
  | [d] => alike d d && notNone d && decide (d.depth ≤ 8)
  | _ => false
def rSort1 (X : Cx) : List V → Hp → VK → Prop := fun vs H Q => ∃ Z a x d, Same Z H ∧ vs = [V.ref a] ∧ SqL X.K H a [x] ∧ Rep (ctOf X) Z x d ∧ oneOk [d] = true ∧ ∀ y p, Rep (ctOf X) Z y d → H p = none → Q (.ref p) (upd H p (.lst [y]))
theorem cr_sort1 (hu : X.A.units + 64 < cLine) : CallR X (.builtin "sorted") (rSort1 X) := by
  intro pins s σ H vs us Q I r h
  obtain ⟨Z, a, x, d, zh, rfl, hs, hr, hok, q⟩ := h
  obtain ⟨its, rv, hl, hz⟩ := I.list hs
  obtain ⟨u, rfl, ru⟩ := vals1 r
  obtain rfl : u = Value.ref a := ru
  unfold oneOk at hok
  rw [Bool.and_eq_true, Bool.and_eq_true, decide_eq_true_iff] at hok
  obtain ⟨⟨h1, h2⟩, h3⟩ := hok
  have hnn : d ≠ .none := fun e => by rw [e] at h2; cases h2
  cases rv with
  | @cons _ v _ _ r1 r2 =>
    cases r2
    have he : EachIs (ItR X Z) [v] [d] := .cons ⟨x, r1, hr⟩ .nil
    have hall : AllAlike [d] := fun x hx y hy => by rw [List.mem_singleton.mp hx, List.mem_singleton.mp hy]; exact h1
    have hre : EachIs (fun u d => ∃ as, Reads s.heap u (id d) as) [v] [d] := (each_reads I zh he hall).mono fun u d ⟨as, h, _⟩ => ⟨as, h⟩
    have hre' : EachIs (fun u b => ∃ as, Reads (PySem.W.sortingHeap (PySem.W.copyHeap s.heap [v]) (s.heap.objs.size + 1) [v]) u (id b) as) [v] [d] := hre.mono fun _ _ ⟨as, r⟩ => ⟨as, PyProof.Rows.Reads.keeps (fun _ _ => PySem.W.sorting_copy_old) r⟩
    have hrd : ∃ as, Reads (PySem.W.sortingHeap (PySem.W.copyHeap s.heap [v]) (s.heap.objs.size + 1) [v]) v d as := by
      cases hre' with
      | cons h _ => exact h
    obtain ⟨as, hrd⟩ := hrd
    refine PySem.W.sorted_vals (κ := dataKind (PySem.W.sortingHeap (PySem.W.copyHeap s.heap [v]) (s.heap.objs.size + 1) [v]) ([d].map id)) hl.isList (sorts_one (s := { s with heap := PySem.W.sortingHeap (PySem.W.copyHeap s.heap [v]) (s.heap.objs.size + 1) [v] }) hrd h1 hnn (by show X.A.units + 2 + d.depth < cLine; omega)) (by simpa using hz) ?_
    have e1 := PySem.W.sortVals_data (R := ItR X Z) (enc := id) false he hre' (by rw [List.map_id]; exact hall)
    have e2 : ([d] : List D).mergeSort (dataLe false id) = [d] := List.mergeSort_of_pairwise (List.pairwise_singleton _ _)
    rw [e2] at e1
    generalize PySem.W.sortVals (dataKind (PySem.W.sortingHeap (PySem.W.copyHeap s.heap [v]) (s.heap.objs.size + 1) [v]) ([d].map id)) false [v] [v] = out at e1
    obtain ⟨ys, g1, g2⟩ := each_back e1
    obtain ⟨n, hn⟩ := sortedAll_at s.heap [v] out.toArray
    cases g1 with
    | @cons y _ _ _ g1 g3 =>
      cases g3
      refine ⟨.ref (s.heap.objs.size + 1), _, I.laid (a := s.heap.objs.size + 1) (o := .lst [y]) (t' := s.toks) (fun b o e => sortedAll_old e) (Nat.le_succ _) ⟨by rw [sizeLine_eq]; exact Nat.le_add_left _ _, out, n, g2, hn⟩, rfl, q y _ g1 (I.hok.fresh (Nat.le_succ _))⟩
def gSortE : D → Option (List D)
  | .list ds => if sortOk ds then some (sortD ds) else if oneOk ds then some ds else none
  | _ => none
def rSortE (X : Cx) : List V → Hp → VK → Prop := fun vs H Q => rSortD X vs H Q ∨ rSort1 X vs H Q
theorem cr_sortE (hu : X.A.units + 64 < cLine) : CallR X (.builtin "sorted") (rSortE X) := by
  intro pins s σ H vs us Q I r h
  rcases h with h | h
  · exact cr_sortD hu pins s σ H vs us Q I r h
  · exact cr_sort1 hu pins s σ H vs us Q I r h
theorem of_sortE : OfL1 (ctOf X) (rSortE X) gSortE := by
  intro Z H x dx ds Q rx zh e q
  cases dx with
  | list xs =>
    unfold gSortE at e
    dsimp only at e
    split at e
    · rename_i hok
      exact .inl (of_sortD Z H x (.list xs) ds Q rx zh (by unfold gSortD; dsimp only; rw [if_pos hok]; exact e) q)
    · split at e
      · rename_i hok
        cases e
        cases ds with
        | nil => cases hok
        | cons d ds =>
          cases ds with
          | cons _ _ => cases hok
          | nil =>
            obtain ⟨p, vs, rfl, h1, h2⟩ := rx.list zh
            cases h2 with
            | @cons v _ _ _ h2 h3 =>
              cases h3
              exact .inr ⟨Z, p, v, d, zh, rfl, h1, h2, hok, fun y l hy np => q l [y] np (.cons hy .nil)⟩
      · cases e
  | _ => cases e
end
/-! ### in a tuple of any data -/
section
variable {X : Cx}
def rNotInTD (K : PySem.W.Frag) : R2 := fun x y H Q => ∃ d ds, Dp K H x d ∧ Dp K H y (.tuple ds) ∧ SeqAt.shaped d = true ∧ SeqAt.shaped (.tuple ds) = true ∧ Q (.bl (!ds.any fun z => PyData.eqv z d)) H
theorem op_notInTD (hu : X.A.units + 65 < cLine) : OpR X (compareOp .NotIn) (rNotInTD X.K) := by
  intro pins s σ H x y v u Q I rx ry h
  obtain ⟨d, ds, hd, he, sd, se, q⟩ := h
  obtain ⟨as, r1⟩ := Dp.reads I d x v hd rx
  obtain ⟨bs, r2⟩ := Dp.reads I (.tuple ds) y u he ry
  exact SeqAt.notIn_tuple_reads r2 r1 (SeqAt.canLay_of_shaped se) (SeqAt.canLay_of_shaped sd) (room_in_shaped sd hu) ⟨.bl _, H, I, rfl, q⟩
def gNotInTD (x y : D) : Option D := match y with
  | .tuple ds => if SeqAt.shaped x && SeqAt.shaped (.tuple ds) then some (.bool (!ds.any fun z => PyData.eqv z x)) else none
  | _ => none
theorem of_notInTD : Of2 (ctOf X) (rNotInTD X.K) gNotInTD := by
  intro Z H x y dx dy d Q rx ry zh e q
  unfold gNotInTD at e
  cases dy with
  | tuple ds =>
    dsimp only at e
    split at e
    · rename_i h
      rw [Bool.and_eq_true] at h
      cases e
      exact ⟨dx, ds, (rx.toH zh).dp (shaped_lay h.1), (ry.toH zh).dp (shaped_lay h.2), h.1, h.2, q _ (.bl _)⟩
    · cases e
  | _ => cases e
end
/-! ### sorted of a tuple of ints -/
section
open PySem.W (alike alikeAll AllAlike Sortable dataLe dataLt EachIs copyHeap)
theorem coll_tup {prog : Program} {w : World} {A : Around} {E : Value → Shared → Prop} {s : Shared} {p : Addr} {o : Obj} {us : List Value} {n : Nat} {Q : List Value → Shared → Prop}
    (ho : s.heap.get? p = some o) (hc : o.cls = .type "tuple") (hd : o.data = .seq us.toArray n) (hz : us.length ≤ sizeLine)
    (q : Q us { s with heap := (s.heap.push (seqObj "list" #[] 0)).update s.heap.objs.size (Obj.mapSeq (· ++ us.toArray)) }) : wpAny (model prog w) A (collect (.ref p)) Q E s := by
  have hp : (s.heap.push (seqObj "list" #[] 0)).get? p = some o := Heap.get?_push_of_some _ ho
  have hn : (s.heap.push (seqObj "list" #[] 0)).get? s.heap.objs.size = some (seqObj "list" #[] 0) := Heap.get?_push_size _ rfl
  have happ : ((#[] : Array Value) ++ us.toArray).toList = us := by simp
  unfold collect
  refine wpAny_bind (wpAny_runValue (codeAny_builtin entry_proto_collect' (show wpAny _ _ (do again (.builtin "list.__iadd__" ⟨[← newList [], .ref p], []⟩)) _ _ s from ?_)))
  refine wpAny_bind (wpAny_newList (wpAny_pure ⟨Code.quiet_builtin _ (by decide +kernel), codeAny_builtin entry_list_iadd' (show wpAny _ _ (Builtin.List.listExtendWith (.ref s.heap.objs.size) (.ref p) (.ref s.heap.objs.size)) _ _ { s with heap := s.heap.push (seqObj "list" #[] 0) } from ?_)⟩))
  unfold Builtin.List.listExtendWith
  refine wpAny_bind (wpAny_typeOf (T := "tuple") ⟨o, hp, hc⟩ ?_)
  rw [if_pos (by rw [show (Value.type "tuple" == Value.type "tuple") = true from rfl]; simp)]
  refine wpAny_bind (listItems_at hp hd (wpAny_bind (listItems_at (xs := #[]) (n := 0) hn rfl ?_)))
  rw [if_neg (by simp)]
  refine wpAny_bind (listUpdate_at (xs := #[]) (n := 0) hn rfl (wpAny_pure ?_) (Nat.zero_le _) (by show (#[] ++ us.toArray).size ≤ sizeLine + 1; simp only [Array.size_append, List.size_toArray, List.length_nil]; omega))
  show wpAny (model prog w) A (do
      let z ← load s.heap.objs.size
      match z.data with | .seq xs _ => pure xs.toList | _ => unsupported "internal:collect") Q E { s with heap := (s.heap.push (seqObj "list" #[] 0)).update s.heap.objs.size (Obj.mapSeq (· ++ us.toArray)) }
  refine wpAny_bind (wpAny_load (get?_update_seq hn _) (show wpAny _ _ (pure ((#[] : Array Value) ++ us.toArray).toList) Q E _ from ?_))
  rw [happ]
  exact wpAny_pure q
variable {X : Cx}
def sI (is : List Int) : List Int := is.mergeSort fun x y => decide (x ≤ y)
def rSortTI (X : Cx) : List V → Hp → VK → Prop := fun vs H Q => ∃ a ns, vs = [V.ref a] ∧ SqT X.K H a (ns.map V.int) ∧ ∀ p, H p = none → Q (.ref p) (upd H p (.lst ((sI ns).map V.int)))
theorem ints_back {C : Ct} {Z : Hp} : ∀ {ys : List V} {is : List Int}, Reps C Z ys (is.map PyData.int) → ys = is.map V.int
  | _, [], .nil => rfl
  | _, i :: is, .cons h t => by
    cases h
    rw [ints_back t]
    rfl
theorem cr_sortTI (hu : X.A.units + 64 < cLine) : CallR X (.builtin "sorted") (rSortTI X) := by
  intro pins s σ H vs us Q I r h
  obtain ⟨a, ns, rfl, hs, q⟩ := h
  obtain ⟨its, rv, hl, hz⟩ := I.tuple hs
  obtain ⟨u, rfl, ru⟩ := vals1 r
  obtain rfl : u = Value.ref a := ru
  obtain ⟨o, ho, hc, n, hd⟩ := hl
  have hlen : its.length = ns.length := by rw [← rv.length, List.length_map]
  have hz' : its.length ≤ sizeLine := by rw [hlen]; simpa using hz
  have he : EachIs (ItR X H) its (ns.map PyData.int) := each_of (repsI ns) rv
  have hal : AllAlike (ns.map PyData.int) := fun d hd d' hd' => by
    obtain ⟨x, _, rfl⟩ := List.mem_map.mp hd
    obtain ⟨y, _, rfl⟩ := List.mem_map.mp hd'
    simp [alike]
  have hre := each_reads I (Same.refl _) he hal
  have hso := PySem.W.copyHeap_at s.heap its
  have hre2 : EachIs (fun u d => ∃ as, Reads (copyHeap s.heap its) u (id d) as ∧ s.heap.objs.size + 1 ∉ as) its (ns.map PyData.int) := hre.mono fun u d ⟨as, g1, g2⟩ => ⟨as, Reads.keeps (fun _ _ => PySem.W.copyHeap_old) g1, fun hm => by
    obtain ⟨o', ho'⟩ := g2 _ hm
    exact absurd (Heap.lt_size ho') (Nat.not_lt.mpr (Nat.le_succ _))⟩
  have hsz : ((s.heap.push (seqObj "list" #[] 0)).update s.heap.objs.size (Obj.mapSeq (· ++ its.toArray))).objs.size = s.heap.objs.size + 1 := by rw [Heap.size_update, size_push']
  refine Calls.call_function_entry kind_sorted plain_sorted entry_sorted (args_sorted1 _) (show wpAny (model X.prog X.w) X.A.in1 (Builtin.«sorted» ⟨[.ref a], []⟩) _ _ s from ?_)
  unfold Builtin.«sorted»
  refine wpAny_bind (m := checkCount "sorted" 1 1 _) (wpAny_pure (wpAny_bind (coll_tup ho hc hd hz' (wpAny_bind (wpAny_newList ?_ hz')))))
  show wpAny _ _ _ _ _ { s with heap := copyHeap s.heap its }
  rw [hsz]
  refine wpAny_bind (wpAny_holding (PySem.W.list_sort_data (s := { s with heap := copyHeap s.heap its }) (bs := ns.map PyData.int) (enc := id) (R := ItR X H) hso he hre2 (by rw [List.map_id]; exact hal) (.inr fun d hd => ?_) (by rw [List.length_map, ← hlen]; exact hz') (fun d hd => ?_) fun out hout eo => wpAny_pure ⟨_, rfl, ?_⟩))
  · rw [List.map_id] at hd
    obtain ⟨x, _, rfl⟩ := List.mem_map.mp hd
    exact ⟨fun q => (nomatch q), fun _ q => (nomatch q)⟩
  · obtain ⟨x, _, rfl⟩ := List.mem_map.mp hd
    show X.A.units + 1 + 1 + PyData.depth (.int x) < cLine
    have : PyData.depth (.int x) = 0 := by simp only [PyData.depth]
    omega
  · have hsl : (ns.map PyData.int).mergeSort (dataLe false id) = (sI ns).map PyData.int := by
      refine (List.map_mergeSort fun p _ q _ => ?_).symm
      show decide (p ≤ q) = !dataLt (.int q) (.int p)
      rw [PySem.W.dataLt_int, ← decide_not]
      exact decide_eq_decide.mpr (by omega)
    rw [hsl] at eo
    obtain ⟨ys, g1, g2⟩ := each_back eo
    obtain rfl := ints_back g1
    obtain ⟨k, hk⟩ := sortedAll_at s.heap its out.toArray
    have hyl : ((sI ns).map V.int).length ≤ sizeLine := by
      rw [List.length_map]
      unfold sI
      rw [(List.mergeSort_perm _ _).length_eq, ← hlen]
      exact hz'
    exact ⟨.ref (s.heap.objs.size + 1), _, I.laid (a := s.heap.objs.size + 1) (o := .lst ((sI ns).map V.int)) (t' := s.toks) (fun b o e => sortedAll_old e) (Nat.le_succ _) ⟨hyl, out, k, g2, hk⟩, rfl, q _ (I.hok.fresh (Nat.le_succ _))⟩
def gSortTI : D → Option (List D)
  | .tuple ds => (intsD ds).map fun is => (sI is).map .int
  | _ => none
theorem of_sortTI : OfL1 (ctOf X) (rSortTI X) gSortTI := by
  intro Z H x dx ds Q rx zh e q
  cases dx with
  | tuple xs =>
    unfold gSortTI at e
    dsimp only at e
    cases e2 : intsD xs with
    | none => rw [e2] at e; cases e
    | some is =>
      rw [e2] at e; cases e
      obtain ⟨p, vs, rfl, h1, h2⟩ := rx.tuple zh
      exact ⟨p, is, rfl, by rw [← ints_rep h2 e2]; exact h1, fun l np => q l _ np (repsI _)⟩
  | _ => cases e
end
/-! ### steps -/
def fListRgk (d : D) (s : S) : R RV := thenR (optR (iRange1 [d]) s) fNewk
theorem v_fListRg {f : DM D} {s : S} : fListRg f s = thenR (f s) fListRgk := by
  unfold fListRg fNew bindM thenR fListRgk
  cases f s with
  | ok d s1 =>
    dsimp only
    rw [lift_opt]
    cases iRange1 [d] <;> rfl
  | _ => rfl
theorem v_fListRgk {n : Int} {s : S} : fListRgk (.int n) s = if rangeOk 0 n = true then .ok (.fl (rangeL 0 n.toNat)) s else .bad := by
  unfold fListRgk iRange1
  dsimp only
  split <;> rfl
def eTupDnk (ds : List D) (s : S) : R D := thenR (optR (iDown ds) s) eNewTk
theorem v_eTupDn {g : DM (List D)} {s : S} : eTupDn g s = thenR (g s) eTupDnk := by
  unfold eTupDn eNewT bindM thenR eTupDnk
  cases g s with
  | ok d s1 =>
    dsimp only
    rw [lift_opt]
    cases iDown d <;> rfl
  | _ => rfl
theorem v_eTupDnk {i j : Int} {s : S} : eTupDnk [.int i, .int j, .int (-1)] s = if rangeOk i j = true then .ok (.tuple (downL i (i - j).toNat)) s else .bad := by
  unfold eTupDnk iDown
  dsimp only
  rw [decide_eq_true rfl, Bool.and_true]
  split <;> rfl
def eCutBc (x : Ov) (i j : Int) (s : S) : R (List D) := with1 (gCutIJ i j) x s
def eCutBb (oc : Opd) (x : Ov) (i : Int) (s : S) : R (List D) := thenR (e1 asI oc s) (eCutBc x i)
def eCutBa (ob oc : Opd) (x : Ov) (s : S) : R (List D) := thenR (e1 asI ob s) (eCutBb oc x)
theorem v_eCutB {oa ob oc : Opd} {s : S} : eCutB oa ob oc s = thenR (evO oa s) (eCutBa ob oc) := rfl
theorem v_eCutBa {ob oc : Opd} {x : Ov} {s : S} : eCutBa ob oc x s = thenR (e1 asI ob s) (eCutBb oc x) := rfl
theorem v_eCutBb {oc : Opd} {x : Ov} {i : Int} {s : S} : eCutBb oc x i s = thenR (e1 asI oc s) (eCutBc x i) := rfl
theorem v_eCutBc {x : Ov} {i j : Int} {s : S} : eCutBc x i j s = w1 (gCutIJ i j) s (res s x) := v_with1
theorem v_gCutIJ {i j : Int} {ds : List D} : gCutIJ i j (.tuple ds) = some (cutD ds (some i) (some j)) := rfl
theorem v_gSortE {ds : List D} : gSortE (.list ds) = if sortOk ds = true then some (sortD ds) else if oneOk ds = true then some ds else none := rfl
theorem v_gSortTI {is : List Int} : gSortTI (.tuple (is.map .int)) = some ((sI is).map .int) := by
  unfold gSortTI
  dsimp only
  rw [intsD_map]
  rfl
theorem v_asI {i : Int} : asI (.int i) = some i := rfl
end DL

/-! DLL: a caught exception: which class it is; try: return .. except X as e: return which(e). -/
namespace DL
open PySem PySem.Spec PyProof.Rows L2

section
variable {X : Cx} {a D : Addr} {oe : Obj}
/-- isinstance(e, c), the exception e stands among the pins -/
theorem call_isP (C : ExcC X.K D) (hp : (a, oe) ∈ X.pn) (hz : Zc (.ref D) none oe) (hf : ∃ vs, oe.data = .fields vs) : CallR X (.builtin "isinstance") (rIsE X.K D a) := by
  intro pins s σ H ys us Q I ru hh
  obtain ⟨c, cv, b, e0, hcv, hk, q⟩ := hh
  subst e0
  obtain ⟨u1, u2, rfl, r1, r2⟩ := Vals.two ru
  obtain rfl : u1 = Value.ref a := r1
  obtain rfl := hcv _ r2
  have at_ := (I.pin (a, oe) (List.mem_append_left _ hp)).1
  have J : PySem.W.InstAt s.heap a oe D none := by
    obtain ⟨fs, hfs⟩ := hf
    obtain ⟨z1, z2⟩ := hz
    cases oe with
    | mk q1 q2 q3 q4 =>
      cases z1; cases z2; cases hfs
      exact ⟨at_, rfl, rfl, trivial⟩
  have F := PySem.W.handS_kitx_exc (x := a) (ox := oe) C.hg C.hk C.hs C.hd C.ha C.hn C.ht C.hm
  exact PySem.W.kia_one F I.kIn J hk (by intro z; cases z) fun tk => ⟨.bl b, H, I.kept (t' := tk) (fun _ _ y => y), rfl, q⟩
/-- xs.count(y), flat items -/
def rCntF (K : PySem.W.Frag) : V → List V → Hp → VK → Prop := fun x xs H Q => ∃ (p : Addr) (ys : List V) (y : V), x = .ref p ∧ xs = [y] ∧ SqL K H p ys ∧ flatV y = true ∧ ys.all flatV = true ∧ Q (.int (ys.countP fun z => eqV z y : Nat)) H
theorem cnt_vals {y : V} : ∀ {ys : List V} {its : List Value}, Vals ys its → ys.all flatV = true → its.countP (eqU y) = ys.countP fun z => eqV z y
  | _, _, .nil, _ => rfl
  | _, _, .cons r t, f => by
    rw [List.all_cons, Bool.and_eq_true] at f
    rw [List.countP_cons, List.countP_cons, cnt_vals t f.2, eqU_of r f.1]
theorem mt_cntF : MtR X "list.count" (rCntF X.K) := by
  intro pins s σ H x zs v us Q I rx rxs hh
  obtain ⟨p, ys, y, e1, e2, hs, fy, fys, q⟩ := hh
  subst e1 e2
  obtain rfl : v = Value.ref p := rx
  obtain ⟨uy, rfl, ry⟩ := Vals.one rxs
  obtain ⟨its, rv, ⟨⟨k1, k2, k3, k4⟩, m, at_, c1, c2, c3⟩, hl⟩ := I.list hs
  dsimp only at c1 c3
  subst c1 c3
  refine call_meets PySem.F.slot_list_count ⟨_, at_, rfl⟩ PySem.F.entry_list_count (PySem.F.args_list_count_2 _ _) (SeqAt.list_countAt p its.toArray m k2 k4 uy (eqU y)) ⟨at_, ?_, ?_⟩
  · exact fun u' hu' => mem_eqAt ry fy rv fys u' (by simpa using hu')
  · refine ⟨.int ((ys.countP fun z => eqV z y : Nat) : Int), H, I.tok _, ⟨s.toks, ?_⟩, q⟩
    have e3 : its.toArray.toList.countP (eqU y) = ys.countP fun z => eqV z y := cnt_vals rv fys
    rw [e3]

/-! ### the tests of one exception -/
def tI (a : Addr) (b : Bool) : TE := fun σ H Q => σ[0]? = some (some (.ref a)) ∧ Q (.bl b) H
def tIs (a : Addr) (bs : List Bool) : TA := fun σ H Q => σ[0]? = some (some (.ref a)) ∧ Q (bs.map .bl) H
variable {e : Expr} {es : List Expr} {b : Bool} {bs cs : List Bool} {n y own : Str} {p p1 p2 p3 p4 pos : Pos}
theorem pa_isN : PA X [] (tIs a []) := pa_imp pa_nil fun σ H Q h => h.2
theorem pa_isC (h : PE X e (tI a b)) (hr : PA X es (tIs a bs)) (hs : starEach (e :: es) X.env = (false, eval e X.env) :: starEach es X.env := by rfl) : PA X (e :: es) (tIs a (b :: bs)) :=
  pa_imp (pa_cons h hr hs) fun σ H Q h => ⟨h.1, h.1, h.2⟩
/-- the exception in hand: its class, its object -/
structure Hand (X : Cx) (a D : Addr) (oe : Obj) : Prop where
  C : ExcC X.K D
  hp : (a, oe) ∈ X.pn
  hz : Zc (.ref D) none oe
  hf : ∃ vs, oe.data = .fields vs
theorem pe_isE {Cy : Addr} (h : Hand X a D oe) (mi : X.mg "isinstance" = none) (gy : X.mg y = some (.ref Cy)) (hk : PySem.W.kitOne X.K (.ref D) (.ref Cy) = some b) (hN : X.N[0]? = some n := by rfl) (hv : Vis X.env.scope n := by first | exact Or.inl rfl | exact Or.inr (Or.inl rfl) | exact Or.inr (Or.inr rfl)) (hd : (n == ("__debug__" : Str)) = false := by decide) (hcd : (n == ("__classdict__" : Str)) = false := by decide)
    (hg : Gl X "isinstance" := by rfl) (hgy : Gl X y := by rfl) (hdy : (y == ("__debug__" : Str)) = false := by decide)
    (hs1 : starEach [.Name n p1, .Name y p2] X.env = (false, eval (.Name n p1) X.env) :: starEach [.Name y p2] X.env := by rfl) (hs2 : starEach [.Name y p2] X.env = (false, eval (.Name y p2) X.env) :: starEach [] X.env := by rfl)
    (hpl : (backTo pos (starEach [.Name y p2] X.env)).any (·.1) = false := by rfl) : PE X (.Call (.Name "isinstance" p) [.Name n p1, .Name y p2] [] pos) (tI a b) := by
  refine pe_imp (pe_callB (call_isP h.C h.hp h.hz h.hf) hg mi (by decide +kernel) (pa_cons (pe_var hN hv hd hcd) (pa_cons (pe_glob hgy gy (v := .ref Cy) rfl hdy) pa_nil hs2) hs1) (by decide) (by decide) hs1 hpl) fun σ H Q h => ?_
  exact ⟨.ref a, h.1, .ref Cy, .ref Cy, b, rfl, fun u z => z, hk, h.2⟩
theorem pe_isV (h : Hand X a D oe) (mi : X.mg "isinstance" = none) (mv : X.mg "ValueError" = none) (hk : PySem.W.kitOne X.K (.ref D) (.type "ValueError") = some b) (hN : X.N[0]? = some n := by rfl) (hv : Vis X.env.scope n := by first | exact Or.inl rfl | exact Or.inr (Or.inl rfl) | exact Or.inr (Or.inr rfl)) (hd : (n == ("__debug__" : Str)) = false := by decide) (hcd : (n == ("__classdict__" : Str)) = false := by decide)
    (hg : Gl X "isinstance" := by rfl) (hgy : Gl X "ValueError" := by rfl)
    (hs1 : starEach [.Name n p1, .Name "ValueError" p2] X.env = (false, eval (.Name n p1) X.env) :: starEach [.Name "ValueError" p2] X.env := by rfl) (hs2 : starEach [.Name "ValueError" p2] X.env = (false, eval (.Name "ValueError" p2) X.env) :: starEach [] X.env := by rfl)
    (hpl : (backTo pos (starEach [.Name "ValueError" p2] X.env)).any (·.1) = false := by rfl) : PE X (.Call (.Name "isinstance" p) [.Name n p1, .Name "ValueError" p2] [] pos) (tI a b) := by
  refine pe_imp (pe_callB (call_isP h.C h.hp h.hz h.hf) hg mi (by decide +kernel) (pa_cons (pe_var hN hv hd hcd) (pa_cons (pe_bltn hgy mv (u := .type "ValueError") (by decide +kernel) (v := .ty "ValueError") rfl) pa_nil hs2) hs1) (by decide) (by decide) hs1 hpl) fun σ H Q h => ?_
  exact ⟨.ref a, h.1, .ty "ValueError", .type "ValueError", b, rfl, fun u z => z, hk, h.2⟩

/-! ### the list of answers -/
/-- what is wished of the rest of which, behind the answers bs -/
def tRest (a : Addr) (bs : List Bool) (n : Nat) : TS := fun D σ H => ∃ l H0, σ[0]? = some (some (.ref a)) ∧ σ[1]? = some (some (.ref l)) ∧ H0 l = none ∧ Same H0 H ∧ H l = some (.lst (bs.map .bl)) ∧
  ∀ v H' q, Same H0 H' → v = .ref q → H0 q = none → H' q = some (.tup [.str "raised", .int (n : Nat)]) → D.rt v H'
variable {k : Nat} {rest : List Stmt}
theorem same_upd {H0 H : Hp} {l : Addr} {o : HO} (h : Same H0 H) (hl : H0 l = none) : Same H0 (upd H l o) := fun b u e => by rw [upd_ne (ne_of_none e hl)]; exact h b u e
theorem rest_ext {ap : Pos} (hes : PA X es (tIs a cs)) (hr : PSs X rest (tRest a (bs ++ cs) k)) (hl : bs.length + cs.length ≤ 1000 := by simp) (hN : X.N[1]? = some own := by rfl) (hv : Vis X.env.scope own := by first | exact Or.inl rfl | exact Or.inr (Or.inl rfl) | exact Or.inr (Or.inr rfl)) (hd : (own == ("__debug__" : Str)) = false := by decide) (hcd : (own == ("__classdict__" : Str)) = false := by decide)
    (hbase : attributeBase (.Name own p) "extend" X.env (eval (.Name own p) X.env) = eval (.Name own p) X.env := by rfl)
    (hfew : ((backTo pos (starEach [.List es p2] X.env)).all (fun x => !x.1) && (backToKw pos (keywordEach [] X.env)).all (fun x => x.1.isSome)
      && decide (([.List es p2] : List Expr).length + ([] : List Keyword).length + (if ([] : List Keyword).isEmpty then 0 else 1) < 30)) = true := by rfl)
    (hline : (ap.endLine == pos.line) = true := by rfl) (hs : starEach [.List es p2] X.env = (false, eval (.List es p2) X.env) :: starEach [] X.env := by rfl) (hplain : (backTo pos (starEach [] X.env)).any (·.1) = false := by rfl)
    (hsw : swapsWith (.Call (.Attribute (.Name own p) "extend" ap) [.List es p2] [] pos) none p4.line X.env = pure false := by rfl) :
    PSs X (.Expr (.Call (.Attribute (.Name own p) "extend" ap) [.List es p2] [] pos) p4 :: rest) (tRest a bs k) := by
  refine pss_imp (pss_cons (ps_expr (pe_bm PySem.F.plainAttrs_list PySem.F.slot_list_extend PySem.F.type_list_extend mt_extend (pe_var hN hv hd hcd) (pa_cons (pe_lst hes) pa_nil hs) hbase hfew hline hs hplain) hsw) hr) fun Dd σ H hh => ?_
  obtain ⟨l, H0, h0, h1, h2, h3, h4, h5⟩ := hh
  have lc : (cs.map V.bl).length ≤ sizeLine := small_line (by rw [List.length_map]; omega)
  refine ⟨.ref l, h1, .inl ⟨rfl, _, .inl (.inl h4)⟩, h0, lc, fun q nq => ?_⟩
  have ne : l ≠ q := ne_of_none h4 nq
  refine ⟨l, q, _, _, rfl, rfl, by rw [upd_ne ne]; exact h4, upd_same, small_line (by rw [List.length_map, List.length_map]; omega), ?_⟩
  refine ⟨l, H0, h0, h1, h2, same_upd (fun b u z => ?_) h2, by rw [upd_same, List.map_append], h5⟩
  rw [upd_ne (ne_of_none (h3 b u z) nq)]; exact h3 b u z
theorem rest_app {ap : Pos} (he : PE X e (tI a b)) (hr : PSs X rest (tRest a (bs ++ [b]) k)) (hl : bs.length + 1 ≤ 1000 := by simp) (hN : X.N[1]? = some own := by rfl) (hv : Vis X.env.scope own := by first | exact Or.inl rfl | exact Or.inr (Or.inl rfl) | exact Or.inr (Or.inr rfl)) (hd : (own == ("__debug__" : Str)) = false := by decide) (hcd : (own == ("__classdict__" : Str)) = false := by decide)
    (hbase : attributeBase (.Name own p) "append" X.env (eval (.Name own p) X.env) = eval (.Name own p) X.env := by rfl)
    (hfew : ((backTo pos (starEach [e] X.env)).all (fun x => !x.1) && (backToKw pos (keywordEach [] X.env)).all (fun x => x.1.isSome)
      && decide (([e] : List Expr).length + ([] : List Keyword).length + (if ([] : List Keyword).isEmpty then 0 else 1) < 30)) = true := by rfl)
    (hline : (ap.endLine == pos.line) = true := by rfl) (hs : starEach [e] X.env = (false, eval e X.env) :: starEach [] X.env := by rfl) (hplain : (backTo pos (starEach [] X.env)).any (·.1) = false := by rfl)
    (hsw : swapsWith (.Call (.Attribute (.Name own p) "append" ap) [e] [] pos) none p4.line X.env = pure false := by rfl) :
    PSs X (.Expr (.Call (.Attribute (.Name own p) "append" ap) [e] [] pos) p4 :: rest) (tRest a bs k) := by
  refine pss_imp (pss_cons (ps_expr (pe_bm PySem.F.plainAttrs_list PySem.F.slot_list_append PySem.F.type_list_append mt_append (pe_var hN hv hd hcd) (pa_cons he pa_nil hs) hbase hfew hline hs hplain) hsw) hr) fun Dd σ H hh => ?_
  obtain ⟨l, H0, h0, h1, h2, h3, h4, h5⟩ := hh
  refine ⟨.ref l, h1, .inl ⟨rfl, _, .inl (.inl h4)⟩, h0, l, _, _, rfl, rfl, h4, Nat.lt_of_lt_of_le (by rw [List.length_map]; omega) (show 1000 ≤ sizeLine by decide), ?_⟩
  exact ⟨l, H0, h0, h1, h2, same_upd h3 h2, by rw [upd_same, List.map_append]; rfl, h5⟩
theorem flats_bl (bs : List Bool) : (bs.map V.bl).all flatV = true := by
  rw [List.all_eq_true]
  intro x hx
  obtain ⟨b, _, rfl⟩ := List.mem_map.mp hx
  rfl
/-- if own.count(True) != 1 or not isinstance(e, ValueError): ..; return ('raised', own.index(True)) -/
theorem rest_fin {suite : List Stmt} {ts : TS} {ap bp : Pos} {j1 j2 j3 j4 j5} {q1 q2 q3 q4 q5 q6 q7 q8 q9 q10 q11 : Pos} (hV : PE X e (tI a true)) (hsu : PSs X suite ts) (hc : bs.count true = 1) (hk : bs[k]? = some true) (hno : ∀ m b, m < k → bs[m]? = some b → b = false)
    (hN : X.N[1]? = some own := by rfl) (hv : Vis X.env.scope own := by first | exact Or.inl rfl | exact Or.inr (Or.inl rfl) | exact Or.inr (Or.inr rfl)) (hd : (own == ("__debug__" : Str)) = false := by decide) (hcd : (own == ("__classdict__" : Str)) = false := by decide)
    (hval : ∀ whole, isTrue e X.env whole = (do let v ← whole; standAt e.pos; holding [v] (truthy v)) := by intro _; rfl)
    (hb1 : attributeBase (.Name own q1) "count" X.env (eval (.Name own q1) X.env) = eval (.Name own q1) X.env := by rfl) (hb2 : attributeBase (.Name own q6) "index" X.env (eval (.Name own q6) X.env) = eval (.Name own q6) X.env := by rfl)
    (hl1 : (ap.endLine == q2.line) = true := by rfl) (hl2 : (bp.endLine == q7.line) = true := by rfl) :
    PSs X [.If (.BoolOp .Or [.Compare (.Call (.Attribute (.Name own q1) "count" ap) [.Constant (.bool true) j1 q3] [] q2) [.NotEq] [.Constant (.int 1) j2 q4] q5, .UnaryOp .Not e q8] q9) suite [] q10,
      .Return (some (.Tuple [.Constant (.str "raised") j3 p1, .Call (.Attribute (.Name own q6) "index" bp) [.Constant (.bool true) j4 p2] [] q7] j5 p3)) q11] (tRest a bs k) := by
  have tCount : PE X (.Call (.Attribute (.Name own q1) "count" ap) [.Constant (.bool true) j1 q3] [] q2) _ :=
    pe_bm PySem.F.plainAttrs_list PySem.F.slot_list_count PySem.F.type_list_count mt_cntF (pe_var hN hv hd hcd) (pa_cons pe_bl pa_nil rfl) hb1 rfl hl1 rfl rfl
  have tIndex : PE X (.Call (.Attribute (.Name own q6) "index" bp) [.Constant (.bool true) j4 p2] [] q7) _ :=
    pe_bm PySem.F.plainAttrs_list PySem.F.slot_list_index PySem.F.type_list_index mt_index (pe_var hN hv hd hcd) (pa_cons pe_bl pa_nil rfl) hb2 rfl hl2 rfl rfl
  refine pss_imp (pss_cons (ps_if (PW.pt (pw_or (pt_cmpR op_ne tCount pe_int (nomark _)) (pw_or1 (pt_not (pt_val hV hval))))) hsu pss_nil) (pss_one (ps_ret (pe_tup (pa_cons pe_str (pa_cons tIndex pa_nil rfl) rfl))))) fun Dd σ H hh => ?_
  obtain ⟨l, H0, h0, h1, h2, h3, h4, h5⟩ := hh
  have hS : SqL X.K H l (bs.map V.bl) := .inl (.inl h4)
  have cnt : ((bs.map V.bl).countP fun z => eqV z (.bl true)) = 1 := by
    rw [List.countP_map, ← hc, List.count]
    refine List.countP_congr fun x _ => ?_
    cases x <;> decide
  refine ⟨.ref l, h1, .inl ⟨rfl, _, hS⟩, l, _, _, rfl, rfl, hS, rfl, flats_bl bs, ?_⟩
  rw [cnt]
  refine ⟨rfl, false, rfl, ?_⟩
  refine (if_neg Bool.false_ne_true).mpr ?_
  refine ⟨h0, true, rfl, ?_⟩
  refine (if_neg (by decide)).mpr ?_
  refine ⟨.ref l, h1, .inl ⟨rfl, _, hS⟩, l, _, .bl true, k, .bl true, rfl, rfl, hS, rfl, flats_bl bs, by rw [List.getElem?_map, hk]; rfl, by decide, fun m z hm hz => ?_, by show 2 ≤ sizeLine; decide, fun q nq => ?_⟩
  · rw [List.getElem?_map] at hz
    cases hb : bs[m]? with
    | none => rw [hb] at hz; cases hz
    | some b => rw [hb] at hz; cases hz; rw [hno m b hm hb]; decide
  · exact h5 _ _ q (same_upd h3 (h3.free nq)) rfl (h3.free nq) upd_same
/-- own = [..] at first -/
def tFirst (a : Addr) (n : Nat) : TS := fun D σ H => σ[0]? = some (some (.ref a)) ∧ 1 < σ.length ∧ ∀ v H' q, Same H H' → v = .ref q → H q = none → H' q = some (.tup [.str "raised", .int (n : Nat)]) → D.rt v H'
theorem rest_first (hes : PA X es (tIs a bs)) (hr : PSs X rest (tRest a bs k)) (hnd : X.N.Nodup) (hN : X.N[1]? = some own := by rfl) (hx : Loc X.env.scope own := by first | exact Or.inl rfl | exact Or.inr rfl) (hl : bs.length ≤ 1000 := by simp)
    (hs : swapsWith (.List es p2) (some (.Name own p)) pos.line X.env = pure false := by rfl) (hf : X.fn own = true ∨ X.env.scope.names.lookup own = some .local := by first | exact .inl rfl | exact .inr rfl) : PSs X (.Assign [.Name own p] (.List es p2) pos :: rest) (tFirst a k) := by
  refine pss_imp (pss_cons (ps_set (i := 1) hnd hN hx (pe_lst hes) hs hf) hr) fun Dd σ H hh => ?_
  obtain ⟨h0, h1, h5⟩ := hh
  refine ⟨h0, small_line (by rw [List.length_map]; exact hl), fun l nl => ?_⟩
  refine ⟨l, H, ?_, ?_, nl, fun b u z => ?_, upd_same, h5⟩
  · rw [List.getElem?_set_ne (by decide)]; exact h0
  · rw [List.getElem?_set_self h1]
  · rw [upd_ne (ne_of_none z nl)]; exact z
end

/-! ### the def which: called while the exception is handled -/
/-- what the class c (at Ca) says of the classes kn -/
structure XcOk (K : PySem.W.Frag) (mg : Str → Option Value) (kn : List Str) (c : Str) (Ca : Addr) : Prop where
  g : mg c = some (.ref Ca)
  C : ExcC K Ca
  v : PySem.W.kitOne K (.ref Ca) (.type "ValueError") = some true
  e : ∀ y ∈ kn, ∃ Cy, mg y = some (.ref Cy) ∧ PySem.W.kitOne K (.ref Ca) (.ref Cy) = some (c == y)
  s : ∃ Cs, mg "SumError" = some (.ref Cs) ∧ PySem.W.exmOne K (.ref Ca) (.ref Cs) = some true
abbrev raisedD (n : Nat) : D := .tuple [.str "raised", .int (n : Nat)]
structure FnW (P : Program) (w : World) (K : PySem.W.Frag) (mg : Str → Option Value) (base : Heap) (x : Str) (k : Nat) (kn : List Str) : Prop where
  ex : ∃ (f : Addr) (fd : FuncData) (ps : List Str), mg x = some (.ref f) ∧ PySem.W.keepIn K (.ref f) = true ∧ Binds K fd ps [] ∧ ps.length = 1 ∧
    ∀ (A : Around) (outer : List Env) (s : Shared) (H : Hp) (args : Args) (Q : VK) (p : Addr × Obj) (c : Str) (Ca : Addr) (n : Nat), L2H.RoomH k A → L2H.PinOk outer H s p → Env0 P w K mg base A outer s H → BindsTo s fd args (ps.zip [Value.ref p.1]) →
      Zc (.ref Ca) none p.2 → (∃ vs, p.2.data = .fields vs) → XcOk K mg kn c Ca → kn[n]? = some c → (∀ v H' q, Same H H' → v = .ref q → H q = none → H' q = some (.tup [.str "raised", .int (n : Nat)]) → Q v H') →
      codeAny (model P w) A (.call (.ref f) args) (CR (L2.CX P w) outer P w H s Q fun _ _ _ => False) s
section
variable {P : Program} {w : World} {K : PySem.W.Frag} {mg : Str → Option Value} {base : Heap}
theorem fnW_of {x : Str} {k : Nat} {st : Stmt} {f : Addr} {fd : FuncData} {N ps kn : List Str} (F : Fun K x x st f fd) (S : FnScope N ps (defScope st)) (gm : mg x = some (.ref f)) (bn : Binds K fd ps []) (h1 : ps.length = 1 := by rfl) (h2 : 1 < N.length := by decide)
    (body : ∀ (cdv : Value) (A : Around) (outer : List Env) (s : Shared) (H : Hp) (p : Addr × Obj) (c : Str) (Ca : Addr) (n : Nat), Hand (L2H.cxH (L2.CX P w) P w K mg base N x (defScope st) f cdv A outer s H (fun _ _ _ => False) p) p.1 Ca p.2 → XcOk K mg kn c Ca → kn[n]? = some c →
      PSs (L2H.cxH (L2.CX P w) P w K mg base N x (defScope st) f cdv A outer s H (fun _ _ _ => False) p) (defBody st) (tFirst p.1 n)) : FnW P w K mg base x (k + 1) kn := by
  refine ⟨f, fd, ps, gm, F.kp, bn, h1, fun A outer s H args Q p c Ca n hr hpin e0 hbind hz hf hx hn hQ => ?_⟩
  obtain ⟨oc, od, kV, doc, pm, an, cdv, ct, osl, efd, lk, hcd⟩ := F.ex
  subst efd
  have KX : K.In s.heap := e0.mod.kin.keeps fun b o z => (e0.bs b o z).1
  have hkd : ∀ z ∈ ps.zip [Value.ref p.1], (defScope st).names.lookup z.1 = some .local ∨ ((defScope st).names.lookup z.1 = some .cell ∧ ((cellsFrom (s.heap.objs.size + 1) (defScope st).names []).lookup z.1).isSome = true) := by
    intro z hzm
    have hm : z.1 ∈ ps := by
      obtain ⟨z1, z2⟩ := z
      exact (List.of_mem_zip hzm).1
    rcases S.par z.1 hm with q | q
    · exact Or.inl q
    · exact Or.inr ⟨q, PySem.W.cellsFrom_some _ _ _ (Or.inl q)⟩
  refine codeAny_call_function hr.depth (KX _ _ lk) rfl S.co S.gen rfl (PySem.W.codeRec_of KX hcd) (hbind _ _ _ _ ?_)
  refine wpAny_newFunctionEnv_cells S.kind hkd fun env he s1 inC => ?_
  subst he
  have lim : s.heap.NoLimit := e0.mod.nolimit.keeps fun b o z => (e0.bs b o z).1
  refine ⟨lim.keeps inC.toInCall.keep, codeAny_func ?_⟩
  have I := L2H.inv_startH (CX := L2.CX P w) (E := fun _ _ _ => False) (N := N) (cd := cdv) S hpin e0 (vs := [V.ref p.1]) (us := [Value.ref p.1]) h1.symm (.cons rfl .nil) inC
  have hb := body cdv A outer s H p c Ca n ⟨hx.C, by show p ∈ [p]; exact List.mem_cons_self, hz, hf⟩ hx hn
  have hstart : tFirst p.1 n { nx := fun _ H' => Q .non H', rt := Q } (L2.start N [V.ref p.1]) H := by
    refine ⟨rfl, ?_, hQ⟩
    unfold L2.start
    rw [List.length_append, List.length_map, List.length_replicate]
    simp only [List.length_cons, List.length_nil]
    omega
  refine wpAny_mono (hb.run [] s1 _ H _ I hstart) (fun fl s' hs => ?_) fun e s' hs => hs
  cases fl with
  | ret u =>
    obtain ⟨v, σ', H', J, rv, q⟩ := hs
    exact ⟨v, H', J.os, J.bare, J.base, J.hok, rv, q⟩
  | next =>
    obtain ⟨σ', H', J, q⟩ := hs
    exact ⟨V.non, H', J.os, J.bare, J.base, J.hok, rfl, q⟩
  | brk => obtain ⟨_, _, _, q⟩ := hs; exact q.elim
  | cont => obtain ⟨_, _, _, q⟩ := hs; exact q.elim
end

/-! ### the suites -/
/-- what is wished of a suite that hands back d: the exception's name stands in slot i -/
def tSu (C : Ct) (i : Nat) (a : Addr) (d : D) : TS := fun Dd σ H => σ[i]? = some (some (.ref a)) ∧ ∃ B Z as s, SR C B Z σ H as s ∧ ∀ v H' Z', SR C B Z' σ H' as s → Ext B Z Z' → Rep C Z' v d → Dd.rt v H'
section
variable {X : Cx} {W : WX} {k : Nat} {C : Ct} {B Z H H' : Hp} {σ : St} {as : List Addr} {s : S}
theorem SR.newTup (I : SR C B Z σ H as s) {q : Addr} {vs : List V} {ds : List D} (sm : Same H H') (nq : H q = none) (hq : H' q = some (.tup vs)) (r : Reps C Z vs ds) : ∃ Z', SR C B Z' σ H' as s ∧ Ext B Z Z' ∧ Rep C Z' (.ref q) (.tuple ds) := by
  have I1 : SR C B Z σ H' as s := I.grow (Same.refl _) (fun b o z => sm b o (I.zh b o z)) (fun b o z => sm b o (I.bh b o z)) (fun i p sl e1 e2 hw => by
    obtain ⟨z1, o, z2⟩ := I.ownH e1 e2 hw
    exact ⟨z1, (sm p o z2).trans z2.symm⟩) fun b hb => by
    obtain ⟨o, z2⟩ := I.cellH hb
    exact ⟨(I.asb b hb).2, (sm b o z2).trans z2.symm⟩
  have hf : Free σ as s q := I.free_new nq
  obtain ⟨I2, E2⟩ := I1.freeze hq (I.zh.free nq) (I.bh.free nq) hf
  exact ⟨_, I2, E2, .tup (.inl (.inl upd_same)) (r.mono E2.same)⟩
/-- return which(e) -/
theorem pss_retW {a : Addr} {oe : Obj} {pn : List (Addr × Obj)} {i n : Nat} {kn : List Str} {c x y : Str} {Ca : Addr} {p p1 pos pos2 : Pos} (F : FnW X.prog X.w X.K X.mg X.base y k kn) (hr : Room k X.A) (hx : XcOk X.K X.mg kn c Ca) (hn : kn[n]? = some c) (hz : Zc (.ref Ca) none oe) (hf : ∃ vs, oe.data = .fields vs)
    (hN : X.N[i]? = some x := by rfl) (hv : Vis X.env.scope x := by first | exact Or.inl rfl | exact Or.inr (Or.inl rfl) | exact Or.inr (Or.inr rfl)) (hg : Gl X y := by rfl) (hdx : (x == ("__debug__" : Str)) = false := by decide) (hcx : (x == ("__classdict__" : Str)) = false := by decide) (hdy : (y == ("__debug__" : Str)) = false := by decide)
    (he : starEach [.Name x p1] X.env = (false, eval (.Name x p1) X.env) :: starEach [] X.env := by rfl) (hpl : (backTo pos (starEach [] X.env)).any (·.1) = false := by rfl) :
    PSs (X.suite a ((a, oe) :: pn)) [.Return (some (.Call (.Name y p) [.Name x p1] [] pos)) pos2] (tSu (ctOf X) i a (raisedD n)) := by
  obtain ⟨f, fd, ps, gm, kf, bn, l1, run⟩ := F.ex
  have hcall : PE (X.suite a ((a, oe) :: pn)) (.Call (.Name y p) [.Name x p1] [] pos) (fun σ H Q => σ[i]? = some (some (.ref a)) ∧ ∀ v H' q, Same H H' → v = .ref q → H q = none → H' q = some (.tup [.str "raised", .int (n : Nat)]) → Q v H') := by
    refine ⟨fun pins s σ H Q I h => ?_⟩
    refine wpAny_Call_Name_kw (ld_glob I hg gm ?_ hdy)
    have pa : PA (X.suite a ((a, oe) :: pn)) [.Name x p1] (tCons (tVar i) tNil) := pa_cons (pe_var hN hv hdx hcx) pa_nil he
    refine PySem.W.callWith_K (h₀ := X.base) I.ok.mod.kin kf (thn (pa.run pos pins s σ H (fun vs H1 => vs = [V.ref a] ∧ H1 = H) I ⟨_, h.1, rfl, rfl⟩) fun us s1 hh => ?_) he hpl
    obtain ⟨vs, H1, I1, r, e1, e2⟩ := hh
    subst e1 e2
    refine ⟨I1.kIn, ?_⟩
    obtain ⟨u, rfl, ru⟩ := Vals.one r
    obtain rfl : u = Value.ref a := ru
    obtain ⟨g1, g2, g3, g4, g5⟩ := I1.pin (a, oe) (List.mem_append_left _ List.mem_cons_self)
    have hpin : L2H.PinOk X.stack H1 s1 (a, oe) := ⟨g1, g2, fun hm => (List.mem_cons.mp (I1.stkSub a hm)).elim g3 g4, g5⟩
    have bnd := bn s1 [Value.ref a] I1.kIn (by show [Value.ref a].length = _; rw [l1]; rfl)
    rw [List.append_nil] at bnd
    have rm : L2H.RoomH k (X.A.mark (some (.ref a))) := ⟨hr.dp, hr.un⟩
    refine wpAny_call (codeAny_mono (run (X.A.mark (some (.ref a))) X.stack s1 H1 ⟨[Value.ref a], []⟩ Q (a, oe) c Ca n rm hpin I1.env0 bnd hz hf hx hn h.2) fun r s' hq => ?_)
    cases r with
    | error e =>
      obtain ⟨_, _, _, _, _, _, _, _, _, _, _, _, no⟩ := hq
      exact no.elim
    | ok fl =>
      cases fl with
      | ret u => exact I1.after hq
      | next => exact False.elim hq
      | brk => exact False.elim hq
      | cont => exact False.elim hq
  refine pss_imp (pss_one (ps_ret hcall)) fun Dd σ H hh => ?_
  obtain ⟨h0, B, Z, as, s, I, h1⟩ := hh
  refine ⟨h0, fun v H' q sm ev nq hq => ?_⟩
  subst ev
  obtain ⟨Z', I2, E2, r2⟩ := I.newTup (ds := [.str "raised", .int (n : Nat)]) sm nq hq (.cons (.str _) (.cons (.int _) .nil))
  exact h1 _ _ _ I2 E2 r2
/-- what a try makes of a body that may raise: wh says what the suite hands back for a class -/
def sTryW (i : Nat) (wh : Str → Option D) (fb : DM Fl) : DM Fl := fun s => match fb s with
  | .exc c s' => if i < s'.env.length then (match wh c with
    | some d => .ok (.rt (.d d)) (setSl i .un s')
    | none => .bad) else .bad
  | r => r
theorem ds_tryW (i : Nat) {x n : Str} {Cs : Addr} {body suite : List Stmt} {b₀ : Stmt} {np pos pos' : Pos} {fb : DM Fl} (wh : Str → Option D) (b : Bd X W k) (hN : X.N.Nodup) (gs : X.mg x = some (.ref Cs))
    (hbody : ∀ (W : WX) (pn : List (Addr × Obj)) (xe : Value → Shared → Prop), Bd (X.tr pn xe) W k → DSs (X.tr pn xe) W body fb)
    (hsu : ∀ c d Ca, wh c = some d → X.mg c = some (.ref Ca) → PySem.W.exmOne X.K (.ref Ca) (.ref Cs) = some true ∧ ∀ a oe pn, Zc (.ref Ca) none oe → (∃ vs, oe.data = .fields vs) → PSs (X.suite a ((a, oe) :: pn)) (b₀ :: suite) (tSu (ctOf X) i a d))
    (hi : X.N[i]? = some n := by rfl) (hs : X.stack = X.env :: X.outer := by rfl) (hf : X.env.frame = some X.env.locals := by rfl) (hln : X.env.kindOf n = some .local := by rfl) (hg : Gl X x := by rfl) (hdx : (x == ("__debug__" : Str)) = false := by decide) :
    DS X W (.Try body [.ExceptHandler (some (.Name x np)) (some n) (b₀ :: suite) pos'] [] [] pos) (sTryW i wh fb) := by
  let ts : Addr → Value → Option Addr → TS := fun a cls d' Dd σ H => ∃ c d Ca, cls = .ref Ca ∧ d' = none ∧ wh c = some d ∧ X.mg c = some (.ref Ca) ∧ tSu (ctOf X) i a d Dd σ H
  refine ps_imp (ps_try_as (tb := fun W => rS (ctOf X) W fb) (ts := ts) (i := i) (Wout := W) (c := .ref Cs) hs hf hN hi hln ⟨hg, hdx, Or.inl gs⟩ b.tk (fun W' pn xe tk po => hbody W' pn xe ⟨tk, po, b.hr, b.calm⟩) (fun a oe cls d pn hz hfs => ?_)) fun Dd σ H hh => ?_
  · refine ⟨fun pins s σ H Dd I h => ?_⟩
    obtain ⟨c, d', Ca, rfl, rfl, hw, gc, h⟩ := h
    exact ((hsu c d' Ca hw gc).2 a oe pn hz hfs).run pins s σ H Dd I h
  · obtain ⟨B, Z, as, s, I, h⟩ := hh
    refine ⟨B, Z, as, s, I, ?_⟩
    unfold sTryW at h
    cases e : fb s with
    | bad => rw [e] at h; exact h
    | ok fl s' => rw [e] at h; cases fl <;> exact h
    | exc c s' =>
      rw [e] at h
      dsimp only at h
      split at h
      · rename_i hlt
        cases ew : wh c with
        | none => rw [ew] at h; exact h.elim
        | some d =>
          rw [ew] at h
          intro Ca σ' H' Z' as' gc I' E' P'
          refine ⟨true, (hsu c d Ca ew gc).1, fun _ a na => ⟨c, d, Ca, rfl, rfl, ew, gc, ?_, ?_⟩, fun z => nomatch z⟩
          · have hl : σ'.length = s'.env.length := paired_length I'.env
            rw [List.getElem?_set_self (by omega)]
          · refine ⟨B, Z', as', setSl i .un s', I'.store (sl := .un) trivial (fun z => nomatch z), fun v H2 Z2 I2 E2 r2 => ?_⟩
            exact h v _ H2 Z2 as' I2 (E'.trans E2) P' r2
      · exact h.elim
end

/-! ### which, its answers -/
theorem which_bits {c : Str} : ∀ {kn : List Str} {n : Nat}, kn.Nodup → kn[n]? = some c → (kn.map fun y => c == y).count true = 1 ∧ (kn.map fun y => c == y)[n]? = some true ∧ ∀ m b, m < n → (kn.map fun y => c == y)[m]? = some b → b = false
  | [], n, _, hn => by simp at hn
  | y :: kn, 0, nd, hn => by
    have e : y = c := by simpa using hn
    subst e
    have hy : y ∉ kn := (List.nodup_cons.mp nd).1
    refine ⟨?_, by simp, fun m b hm => absurd hm (Nat.not_lt_zero _)⟩
    rw [List.map_cons, List.count_cons, show (y == y) = true by simp]
    have e0 : (kn.map fun z => y == z).count true = 0 := by
      rw [List.count_eq_zero]
      intro hm
      obtain ⟨z, hz, e⟩ := List.mem_map.mp hm
      have e' : y = z := by simpa using e
      exact hy (e' ▸ hz)
    rw [e0]; rfl
  | y :: kn, n + 1, nd, hn => by
    have hn' : kn[n]? = some c := by simpa using hn
    obtain ⟨h1, h2, h3⟩ := which_bits (List.nodup_cons.mp nd).2 hn'
    have ne : (c == y) = false := by
      refine beq_false_of_ne fun e => ?_
      subst e
      exact (List.nodup_cons.mp nd).1 (List.mem_of_getElem? hn')
    refine ⟨?_, ?_, fun m b hm hb => ?_⟩
    · rw [List.map_cons, List.count_cons, ne, h1]; rfl
    · rw [List.map_cons, List.getElem?_cons_succ]; exact h2
    · cases m with
      | zero =>
        rw [List.map_cons, List.getElem?_cons_zero] at hb
        cases hb; exact ne
      | succ m =>
        rw [List.map_cons, List.getElem?_cons_succ] at hb
        exact h3 m b (by omega) hb
def whT (kn cs : List Str) (c : Str) : Option D := if cs.contains c then (match kn.findIdx? (· == c) with
  | some n => some (raisedD n)
  | none => none) else none
theorem whT_some {kn cs : List Str} {c : Str} {d : D} (h : whT kn cs c = some d) : c ∈ cs ∧ ∃ n, kn[n]? = some c ∧ d = raisedD n := by
  unfold whT at h
  split at h
  · rename_i hc
    refine ⟨by simpa using hc, ?_⟩
    cases e : kn.findIdx? (· == c) with
    | none => rw [e] at h; cases h
    | some n =>
      rw [e] at h
      cases h
      obtain ⟨h1, h2, _⟩ := List.findIdx?_eq_some_iff_getElem.mp e
      refine ⟨n, ?_, rfl⟩
      rw [List.getElem?_eq_getElem h1]
      exact congrArg some (by simpa using h2)
  · cases h
section
variable {X : Cx} {W : WX} {k k' : Nat}
/-- try: .. except SumError as n: return which(n) -/
theorem ds_tryRet (i : Nat) (kn cs : List Str) {n y : Str} {body : List Stmt} {np p p1 pc pos pos' pos2 : Pos} {fb : DM Fl} (b : Bd X W k) (hN : X.N.Nodup) (gs : ∃ Cs, X.mg "SumError" = some (.ref Cs)) (xc : ∀ c ∈ cs, ∃ Ca, XcOk X.K X.mg kn c Ca) (F : FnW X.prog X.w X.K X.mg X.base y k' kn)
    (hbody : ∀ (W : WX) (pn : List (Addr × Obj)) (xe : Value → Shared → Prop), Bd (X.tr pn xe) W k → DSs (X.tr pn xe) W body fb) (hk : k' ≤ k := by decide)
    (hi : X.N[i]? = some n := by rfl) (hs : X.stack = X.env :: X.outer := by rfl) (hf : X.env.frame = some X.env.locals := by rfl) (hln : X.env.kindOf n = some .local := by rfl) (hg : Gl X "SumError" := by rfl)
    (hv : Vis X.env.scope n := by first | exact Or.inl rfl | exact Or.inr (Or.inl rfl) | exact Or.inr (Or.inr rfl)) (hgy : Gl X y := by rfl) (hdx : (n == ("__debug__" : Str)) = false := by decide) (hcx : (n == ("__classdict__" : Str)) = false := by decide) (hdy : (y == ("__debug__" : Str)) = false := by decide)
    (he : starEach [.Name n p1] X.env = (false, eval (.Name n p1) X.env) :: starEach [] X.env := by rfl) (hpl : (backTo pc (starEach [] X.env)).any (·.1) = false := by rfl) :
    DS X W (.Try body [.ExceptHandler (some (.Name "SumError" np)) (some n) [.Return (some (.Call (.Name y p) [.Name n p1] [] pc)) pos2] pos'] [] [] pos) (sTryW i (whT kn cs) fb) := by
  obtain ⟨Cs, gs⟩ := gs
  refine ds_tryW i (whT kn cs) b hN gs hbody (fun c d Ca hw gc => ?_) hi hs hf hln hg
  obtain ⟨hc, m, hm, rfl⟩ := whT_some hw
  obtain ⟨Ca', hx⟩ := xc c hc
  obtain rfl : Ca = Ca' := by
    have := gc.symm.trans hx.g
    cases this; rfl
  obtain ⟨Cs', g', ex⟩ := hx.s
  obtain rfl : Cs = Cs' := by
    have := gs.symm.trans g'
    cases this; rfl
  exact ⟨ex, fun a oe pn hz hfs => pss_retW F (b.hr.mono hk) hx hm hz hfs hi hv hgy hdx hcx hdy he hpl⟩
end
end DL

/-! DLM: [f, g, h][i](..). -/
namespace DL
open PySem PySem.Spec PyProof.Rows L2
section
variable {X : Cx} {W : WX} {k : Nat}
/-- names of defs, as a list displays them -/
inductive FnEs (X : Cx) (k : Nat) : List Expr → List (List D → PR) → Prop
  | nil : FnEs X k [] []
  | cons {x : Str} {p : Pos} {k' : Nat} {G : List D → PR} {es : List Expr} {Gs : List (List D → PR)} (F : FnP X.prog X.w X.K X.mg X.base x k' G) (hr : FnEs X k es Gs) (hk : k' ≤ k := by decide) (hg : Gl X x := by rfl) (hd : (x == ("__debug__" : Str)) = false := by decide)
      (hs : starEach (.Name x p :: es) X.env = (false, eval (.Name x p) X.env) :: starEach es X.env := by rfl) : FnEs X k (.Name x p :: es) (G :: Gs)
def FnAt (X : Cx) (k : Nat) (f : Addr) (G : List D → PR) : Prop := ∃ (fd : FuncData) (ps : List Str), FnOk X.prog X.w X.K X.mg X.base (L2.CX X.prog X.w) k f fd ps (spP (ctOf X) G) ∧ PySem.W.keepIn X.K (.ref f) = true ∧ Binds X.K fd ps []
theorem FnEs.at {es : List Expr} {Gs : List (List D → PR)} (h : FnEs X k es Gs) : ∃ fs : List Addr, PA X es (fun _ H Q => Q (fs.map V.ref) H) ∧ Paired (FnAt X k) fs Gs := by
  induction h with
  | nil => exact ⟨[], pa_imp pa_nil fun σ H Q h => h, .nil⟩
  | cons F _ hk hg hd hs ih =>
    obtain ⟨fs, p1, p2⟩ := ih
    obtain ⟨f, fd, ps, h1, h2, h3, h4⟩ := F.ex
    refine ⟨f :: fs, pa_imp (pa_cons (pe_glob hg h2 (v := .ref f) rfl hd) p1 hs) fun σ H Q h => h, .cons ⟨fd, ps, h1.mono hk, h3, h4⟩ p2⟩
def callI (Gs : List (List D → PR)) (fi : DM D) (g : DM (List D)) : DM RV := bindM fi fun d => match d with
  | .int i => (match atI Gs i with
    | some G => callF G g
    | none => badM)
  | _ => badM
theorem paired_atI {α β : Type} {F : α → β → Prop} {l : List α} {m : List β} (h : Paired F l m) {i : Int} {b : β} (e : atI m i = some b) : ∃ a, atI l i = some a ∧ F a b := by
  unfold atI at e ⊢
  rw [paired_length h]
  cases e2 : ixN m.length i with
  | none => rw [e2] at e; cases e
  | some j => rw [e2] at e; exact paired_get h e
theorem df_callI {ns : List Expr} {Gs : List (List D → PR)} {ix e : Expr} {es : List Expr} {p1 p2 pos : Pos} {fi : DM D} {g : DM (List D)} (b : Bd X W k) (hG : FnEs X k ns Gs) (hi : DE X W ix fi) (ha : DL X W (e :: es) g) (hlen : Gs.length ≤ 1000 := by decide) (hpx : PlainIx ix := by exact fun _ _ => rfl)
    (he : starEach (e :: es) X.env = (false, eval e X.env) :: starEach es X.env := by rfl) (hpl : (backTo pos (starEach es X.env)).any (·.1) = false := by rfl) :
    DF X W (.Call (.Subscript (.List ns p1) ix p2) (e :: es) [] pos) (callI Gs fi g) := by
  obtain ⟨fs, hp, hF⟩ := hG.at
  have hf : PE X (.Subscript (.List ns p1) ix p2) _ := pe_ix ix_seq (pe_lst hp) hi hpx
  refine ⟨fun pins s σ H Q I h => ?_⟩
  obtain ⟨B, Z, as, st, J, h⟩ := h
  show wpAny _ _ (do callWith pos (← eval (.Subscript (.List ns p1) ix p2) X.env) [] (backTo pos (starEach (e :: es) X.env)) (backToKw pos (keywordEach [] X.env))) _ _ _
  have hread := hf.run pins s σ H (fun v H1 => ∃ f G Z1 as1 s1, v = .ref f ∧ FnAt X k f G ∧ SR (ctOf X) B Z1 σ H1 as1 s1 ∧ Ext B Z Z1 ∧ as <+: as1 ∧
      After (ctOf X) W B Z1 as1 σ (fun r s' H' Z' as' => ∀ v, RVR (ctOf X) B Z' σ H' as' s' v r → Q v H') (callF G g s1)) I
  refine wpAny_bind (thn (hread ?_) fun v s1 hh => ?_)
  · refine ⟨small_line (by rw [List.length_map, paired_length hF]; exact hlen), fun q nq => ?_⟩
    have nz : Z q = none := J.zh.free nq
    have nb : B q = none := J.bh.free nq
    have J2 := (J.fresh nq (o := .lst (fs.map V.ref))).hold upd_same nz nb (J.free_new nq)
    refine ⟨_, Z, as, st, J2, ((After.bind h).hold nz nb).imp fun d s1 H1 Z1 as1 I1 E1 P1 hh w rw' => ?_⟩
    obtain ⟨h1, I1', E1', _, _, hq, _⟩ := hh
    cases d with
    | int i =>
      cases rw'
      dsimp only at h1
      cases e1 : atI Gs i with
      | none => rw [e1] at h1; exact h1.elim
      | some G =>
        rw [e1] at h1
        obtain ⟨f, e2, hf2⟩ := paired_atI hF e1
        have e3 : atI (fs.map V.ref) i = some (V.ref f) := by
          unfold atI at e2 ⊢
          rw [List.length_map]
          cases e4 : ixN fs.length i with
          | none => rw [e4] at e2; cases e2
          | some j =>
            rw [e4] at e2
            show (fs.map V.ref)[j]? = _
            rw [List.getElem?_map, show fs[j]? = some f from e2]; rfl
        exact .inl ⟨q, fs.map V.ref, i, .ref f, rfl, rfl, .inl (.inl hq), e3, f, G, Z1, as1, s1, rfl, hf2, I1', E1', P1, h1⟩
    | _ => exact h1.elim
  · obtain ⟨x, H1, I1, r1, f, G, Z1, as1, st1, ex, hf2, J1, E1, P1, h1⟩ := hh
    subst ex
    obtain rfl : v = Value.ref f := r1
    obtain ⟨fd, ps, F1, kf, bn⟩ := hf2
    have hb : PA X (e :: es) (rL (ctOf X) W g) := ha
    refine PySem.W.callWith_K (h₀ := X.base) I1.ok.mod.kin kf (thn (hb.run pos pins s1 σ H1 (fun vs H2 => spP (ctOf X) G vs H2 Q (WE W σ)) I1 ⟨B, Z1, as1, st1, J1, (After.bind h1).imp fun ds s2 H2 Z2 as2 I2 E2 P2 h2 vs rvs => sp_call I2 rvs h2⟩) fun us s2 ⟨vs, H2, I2, r2, q2⟩ => ⟨I2.kIn, ?_⟩) he hpl
    exact run_fnS F1 b.hr bn (passAt b.tk σ) I2 r2 q2
end
end DL
namespace DL
open PySem PySem.Spec PyProof.Rows L2
/-! ### tuple * n -/
theorem tup_mul1 (l : Addr) (its : Array Value) (n : Nat) (dd : Option Addr) (sl : Array (Option Value)) (x : Int) (u : Tok)
    (z0 : (decide (x < -(2 ^ 63)) || decide (x ≥ 2 ^ 63)) = false) (z1 : (its.isEmpty || x == 1) = true) :
    Meets (Builtin.«tuple.__mul__» ⟨[.ref l, .int x u], []⟩) (fun _ R s =>
      s.heap.get? l = some { cls := .type "tuple", dict := dd, data := .seq its n, slots := sl } ∧ R (.ok (.ret (Value.ref l))) s) :=
  .of_wp fun prog w A R s hh => by
    obtain ⟨q1, q2, q3, q4, q5⟩ := s
    obtain ⟨hl, hh⟩ := hh
    have fx := AutoSeq1.idx_int
    wp_walk using wpAny_loadPart' hl
    repeat (first
      | (refine wpAny_ite_false (decide_eq_false (by rw [z0]; decide)) ?_; wp_walk using wpAny_loadPart' hl)
      | (refine wpAny_ite_true (decide_eq_true z1) ?_; wp_walk using wpAny_loadPart' hl))
    all_goals first | exact ⟨_, rfl, hh⟩ | skip
def rRep1T (K : PySem.W.Frag) : R2 := fun x y H Q => ∃ l xs, x = .ref l ∧ y = .int 1 ∧ SqT K H l xs ∧ Q (.ref l) H
section
variable {X : Cx}
theorem op_rep1T : OpR X (binaryOp .Mult) (rRep1T X.K) := by
  intro pins s σ H x y v u Q I rx ry hh
  obtain ⟨l, xs, e1, e2, hT, q⟩ := hh
  subst e1 e2
  obtain rfl : v = Value.ref l := rx
  obtain ⟨t, rfl⟩ := ry
  obtain ⟨its, r, ⟨⟨c1, c2, c3, c4⟩, ho, hc, n, hd⟩, hs⟩ := I.tuple hT
  dsimp only at hc hd
  subst hc hd
  have z1 : (its.toArray.isEmpty || (1 : Int) == 1) = true := by simp
  have M := tup_mul1 l its.toArray n c2 c4 1 t (by decide) z1
  exact wpAny_binaryOp_repeat_ref (T := "tuple") (U := "int") (by decide) ⟨_, ho, rfl⟩ (fun s' => typeIs_int s' 1 t) noFill_tuple_mul F.fills_int_mul F.slot_int_rmul repeat_tuple F.slot_int_index.lookup
    (call_meets F.slot_int_rmul (typeIs_int s 1 t) F.entry_int_rmul (F.args_int_rmul_2 _ _) (int_rmul_tuple 1 t l its.toArray n c2 c4) ⟨ho, rfl, ⟨_, ho, rfl⟩, call_meets F.slot_tuple_mul ⟨_, ho, rfl⟩ F.entry_tuple_mul (F.args_tuple_mul_2 _ _) M ⟨ho, ⟨.ref l, H, I, rfl, q⟩⟩⟩)
def rRepA (K : PySem.W.Frag) : R2 := fun x y H Q => rRep1T K x y H Q ∨ rRepT K x y H Q
theorem op_repA : OpR X (binaryOp .Mult) (rRepA X.K) := by
  intro pins s σ H x y v u Q I rx ry hh
  rcases hh with hh | hh
  · exact op_rep1T pins s σ H x y v u Q I rx ry hh
  · exact op_repT pins s σ H x y v u Q I rx ry hh
def gRepT : D → D → Option (List D)
  | .tuple xs, .int n => if n == 1 then some xs else if !xs.isEmpty && decide (2 ≤ n) && decide (n ≤ 1000) && decide (xs.length ≤ 1000) then some (List.replicate n.toNat xs).flatten else none
  | _, _ => none
theorem of_repT : Of2T (ctOf X) (rRepA X.K) gRepT := by
  intro Z H x y dx dy ds Q rx ry zh e q1 q2
  cases dx with
  | tuple xs =>
    cases dy with
    | int n =>
      obtain ⟨p, vs, rfl, hT, hr⟩ := rx.tuple zh
      obtain rfl := ry.int
      unfold gRepT at e
      dsimp only at e
      split at e
      · rename_i h1
        obtain rfl : n = 1 := by simpa using h1
        cases e
        have rep : Rep (ctOf X) Z (.ref p) (.tuple ds) := by
          cases rx with
          | f r => exact r
        exact .inl ⟨p, vs, rfl, rfl, hT, q1 _ rep⟩
      · split at e
        · rename_i h1
          simp only [Bool.and_eq_true, Bool.not_eq_true', decide_eq_true_eq] at h1
          obtain ⟨⟨⟨h2, h3⟩, h4⟩, h5⟩ := h1
          cases e
          have hl := hr.length
          refine .inr ⟨p, n, vs, rfl, rfl, hT, fun z => ?_, h3, h4, by omega, fun q nq => q2 q _ nq (reps_rep hr _)⟩
          subst z
          cases hr
          cases h2
        · cases e
    | _ => cases e
  | _ => cases e
variable {W : WX} {a b : Expr} {oa ob : Opd} {pos : Pos}
theorem de_repT (ha : DO X W a oa) (hb : DO X W b ob) : DE X W (.BinOp a .Mult b pos) (eNewT (e2 gRepT oa ob)) :=
  pe_imp (pe_op op_repA ha hb) fun _ _ _ h => rD_opT of_repT h
end
end DL

/-! DLN: objects of own classes: fields, methods, making; cells that are told by an expression. -/
namespace DL
open PySem PySem.Spec PyProof.Rows L2
section
variable {C : Ct} {B Z Z' H : Hp} {σ : St} {as : List Addr} {s : S}
theorem SR.newCellA (I : SR C B Z σ H as s) {p : Addr} {c : Cell} (nz : Z p = none) (nb : B p = none) (hf : Free σ as s p) (hc : CellR C Z H as p c) : SR C B Z σ H (as ++ [p]) { s with st := s.st ++ [c] } := by
  have hp : as <+: as ++ [p] := List.prefix_append _ _
  refine ⟨I.zh, I.bh, paired_imp I.env fun i o sl e1 e2 q => q.keep (Same.refl _) hp fun q' hq hw => ?_, ?_, ?_, fun a ha => ?_, fun i q sl e1 e2 hw => ⟨(I.own i q sl e1 e2 hw).1, fun hm => ?_⟩, I.dis⟩
  · subst hq; exact ⟨(I.ownH e1 e2 hw).1, rfl⟩
  · have h1 : Paired (CellR C Z H (as ++ [p])) as s.st := paired_imp I.st fun i a c' _ _ q => q.keep (Same.refl _) hp rfl
    exact h1.snoc (hc.keep (Same.refl _) hp rfl)
  · rw [List.nodup_append]
    refine ⟨I.asn, by simp, fun a ha b hb e => ?_⟩
    have hb' : b = p := by simpa using hb
    exact hf.1 (by rw [← hb', ← e]; exact ha)
  · rcases List.mem_append.mp ha with h | h
    · exact I.asb a h
    · have e : a = p := by simpa using h
      subst e; exact ⟨nb, nz⟩
  · rcases List.mem_append.mp hm with h | h
    · exact (I.own i q sl e1 e2 hw).2 h
    · have e : q = p := by simpa using h
      subst e
      rw [hf.2 i sl e1 e2] at hw; cases hw
/-- a cell is written -/
theorem SR.putCell (I : SR C B Z σ H as s) {g : Nat} {p : Addr} {c : Cell} {o : HO} (h3 : as[g]? = some p) (hc : CellR C Z (upd H p o) as p c) : SR C B Z σ (upd H p o) as { s with st := s.st.set g c } := by
  have hp : p ∈ as := List.mem_of_getElem? h3
  obtain ⟨nb, nz⟩ := I.asb p hp
  refine ⟨fun b x q => by rw [upd_ne (ne_of_none q nz)]; exact I.zh b x q, fun b x q => by rw [upd_ne (ne_of_none q nb)]; exact I.bh b x q, ?_, ?_, I.asn, I.asb, I.own, I.dis⟩
  · exact paired_imp I.env fun j o sl q1 q2 q => q.keep (Same.refl _) (List.prefix_refl _) fun q' hq' hw => by
      subst hq'
      refine ⟨(I.ownH q1 q2 hw).1, upd_ne fun z => ?_⟩
      subst z
      exact (I.own j _ sl q1 q2 hw).2 hp
  · obtain ⟨c0, h4, _⟩ := paired_getL I.st h3
    have hgl : g < s.st.length := (List.getElem?_eq_some_iff.mp h4).1
    have base : Paired (fun a c => a ≠ p → CellR C Z (upd H p o) as a c) as s.st := paired_imp I.st fun j a c q1 q2 q hne => q.keep (Same.refl _) (List.prefix_refl _) (upd_ne hne)
    have key : ∀ (l : List Addr) (m : List Cell), l.length = m.length → (∀ (j : Nat) a c, l[j]? = some a → m[j]? = some c → CellR C Z (upd H p o) as a c) → Paired (CellR C Z (upd H p o) as) l m := by
      intro l
      induction l with
      | nil => intro m hm _; cases m with
        | nil => exact .nil
        | cons _ _ => cases hm
      | cons a l ih => intro m hm hh; cases m with
        | nil => cases hm
        | cons c m => exact .cons (hh 0 _ _ rfl rfl) (ih m (by simpa using hm) fun j a' c' q1 q2 => hh (j + 1) a' c' (by simpa using q1) (by simpa using q2))
    refine key _ _ (by rw [List.length_set]; exact paired_length I.st) fun j a c' q1 q2 => ?_
    by_cases hj : g = j
    · subst hj
      rw [List.getElem?_set_self hgl] at q2; cases q2
      rw [h3] at q1; cases q1
      exact hc
    · rw [List.getElem?_set_ne hj] at q2
      obtain ⟨c2, q3, q4⟩ := paired_getL base q1
      rw [q2] at q3; cases q3
      refine q4 fun z => ?_
      subst z
      obtain ⟨l1, e1⟩ := List.getElem?_eq_some_iff.mp h3
      obtain ⟨l2, e2⟩ := List.getElem?_eq_some_iff.mp q1
      exact hj ((List.getElem_inj I.asn).mp (e1.trans e2.symm))

/-! ### instances -/
structure ClP (K : PySem.W.Frag) (mg : Str → Option Value) (c : Str) (fs : List Str) : Prop where
  ex : ∃ Ca, mg c = some (.ref Ca) ∧ Cls K Ca ∧ ∀ f ∈ fs, NoAttr K Ca f
def insOf (c : Str) (g : Nat) (s : S) : Option (List (Str × Sl)) := match s.st[g]? with
  | some (.ins c' fs) => if c' == c then some fs else none
  | _ => none
abbrev FldR (C : Ct) (Z H : Hp) (as : List Addr) : Str × V → Str × Sl → Prop := fun x y => x.1 = y.1 ∧ y.2.own = false ∧ SlR C Z H as (some x.2) y.2
theorem ins_rep (I : SR C B Z σ H as s) {g : Nat} {p : Addr} {c : Str} {fs : List (Str × Sl)} (hg : as[g]? = some p) (h : insOf c g s = some fs) :
    ∃ Ca dx vs, C.mg c = some (.ref Ca) ∧ H p = some (.ins Ca dx vs) ∧ Paired (FldR C Z H as) vs fs := by
  unfold insOf at h
  obtain ⟨c0, h4, h5⟩ := paired_getL I.st hg
  rw [h4] at h
  cases c0 with
  | lst ds => cases h
  | dic ds => cases h
  | ins c' fs' =>
    dsimp only at h
    split at h
    · rename_i e
      cases h
      obtain rfl : c' = c := by simpa using e
      exact h5
    · cases h
theorem fld_some {vs : List (Str × V)} {fs : List (Str × Sl)} (h : Paired (FldR C Z H as) vs fs) {f : Str} {sl : Sl} (e : fs.lookup f = some sl) : ∃ v, vs.lookup f = some v ∧ sl.own = false ∧ SlR C Z H as (some v) sl := by
  induction h with
  | nil => cases e
  | @cons x y l m r t ih =>
    obtain ⟨n1, v⟩ := x
    obtain ⟨n2, sl'⟩ := y
    obtain ⟨r1, r2, r3⟩ := r
    dsimp only at r1 r2 r3
    subst r1
    rw [List.lookup_cons] at e ⊢
    cases q : f == n1 with
    | true => rw [q] at e; cases e; exact ⟨v, rfl, r2, r3⟩
    | false => rw [q] at e; exact ih e
theorem fld_none {vs : List (Str × V)} {fs : List (Str × Sl)} (h : Paired (FldR C Z H as) vs fs) {f : Str} (e : fs.lookup f = none) : vs.lookup f = none := by
  induction h with
  | nil => rfl
  | @cons x y l m r t ih =>
    obtain ⟨n1, v⟩ := x
    obtain ⟨n2, sl'⟩ := y
    have r1 : n1 = n2 := r.1
    subst r1
    rw [List.lookup_cons] at e ⊢
    cases q : f == n1 with
    | true => rw [q] at e; cases e
    | false => rw [q] at e; exact ih e
/-- a field is stored -/
def putS (f : Str) (sl : Sl) : List (Str × Sl) → List (Str × Sl)
  | [] => [(f, sl)]
  | (g, x) :: r => if g = f then (g, sl) :: r else (g, x) :: putS f sl r
theorem fld_put {vs : List (Str × V)} {fs : List (Str × Sl)} {f : Str} {v : V} {sl : Sl} (hw : sl.own = false) (r : SlR C Z H as (some v) sl) (h : Paired (FldR C Z H as) vs fs) : Paired (FldR C Z H as) (putF f v vs) (putS f sl fs) := by
  induction h with
  | nil => exact .cons ⟨rfl, hw, r⟩ .nil
  | @cons x y l m q t ih =>
    obtain ⟨n1, v1⟩ := x
    obtain ⟨n2, sl'⟩ := y
    obtain ⟨q1, q2, q3⟩ := q
    dsimp only at q1 q2 q3
    subst q1
    unfold putF putS
    by_cases e : n1 = f
    · rw [if_pos e, if_pos e]; exact .cons ⟨rfl, hw, r⟩ t
    · rw [if_neg e, if_neg e]; exact .cons ⟨rfl, q2, q3⟩ ih
theorem flds_keep {H' : Hp} {as' : List Addr} (hz : Same Z Z') (ha : as <+: as') {vs : List (Str × V)} {fs : List (Str × Sl)} (h : Paired (FldR C Z H as) vs fs) : Paired (FldR C Z' H' as') vs fs :=
  paired_imp h fun i x y _ _ ⟨q1, q2, q3⟩ => ⟨q1, q2, q3.keep hz ha fun p _ hw => by rw [q2] at hw; cases hw⟩
end

/-! ### expressions that are worth a cell -/
abbrev DC (X : Cx) (W : WX) (e : Expr) (f : DM Nat) : Prop := PE X e (rC (ctOf X) W f)
section
variable {X : Cx} {W : WX} {k k' : Nat} {e o : Expr} {es : List Expr} {fo : DM Nat} {fe : DM D} {fv : DM RV} {pos apos p : Pos} {c f x m : Str}
def oVar (i : Nat) : DM Nat := fun s => match s.env[i]? with
  | some (.cell g) => .ok g s
  | _ => .bad
theorem dc_name (i : Nat) {x : Str} (hN : X.N[i]? = some x := by rfl) (hv : Vis X.env.scope x := by first | exact Or.inl rfl | exact Or.inr (Or.inl rfl) | exact Or.inr (Or.inr rfl)) (hd : (x == ("__debug__" : Str)) = false := by decide)
    (hcd : (x == ("__classdict__" : Str)) = false := by decide) : DC X W (.Name x pos) (oVar i) := pe_imp (pe_var hN hv hd hcd) fun σ H Q ⟨B, Z, as, s, I, h⟩ => by
  unfold oVar at h
  cases e : s.env[i]? with
  | none => rw [e] at h; exact h.elim
  | some sl =>
    rw [e] at h
    cases sl with
    | cell g =>
      obtain ⟨o, h1, h2⟩ := paired_get I.env e
      cases o with
      | none => exact h2.elim
      | some v =>
        cases v with
        | ref q => exact ⟨.ref q, h1, h _ _ _ I .refl (List.prefix_refl _) q h2⟩
        | _ => exact h2.elim
    | _ => exact h.elim
theorem do_c (h : DC X W e fo) : DO X W e (.c fo) := h
/-- a result that is a cell -/
def asC (fv : DM RV) : DM Nat := bindM fv fun r => match r with
  | .cell g => pureM g
  | _ => badM
theorem dc_of (h : DF X W e fv) : DC X W e (asC fv) := pe_imp h fun σ H Q ⟨B, Z, as, s, I, h⟩ => ⟨B, Z, as, s, I, (After.bind h).imp fun r s1 H1 Z1 as1 I1 E1 P1 h1 v rv => by
  cases r with
  | cell g =>
    obtain ⟨q, rfl, hq⟩ := rv
    exact After.pure h1 I1 q hq
  | _ => exact h1.elim⟩
/-- o.f, data -/
def eFldK (c f : Str) (g : Nat) : DM D := fun s => match (insOf c g s).bind fun fs => fs.lookup f with
  | some (.v d) => .ok d s
  | _ => .bad
def eFld (c f : Str) (fo : DM Nat) : DM D := bindM fo (eFldK c f)
def cFldK (c f : Str) (g : Nat) : DM Nat := fun s => match (insOf c g s).bind fun fs => fs.lookup f with
  | some (.cell g') => .ok g' s
  | _ => .bad
def cFld (c f : Str) (fo : DM Nat) : DM Nat := bindM fo (cFldK c f)
theorem fld_at {C : Ct} {B Z H : Hp} {σ : St} {as : List Addr} {s : S} (I : SR C B Z σ H as s) {g : Nat} {q : Addr} {sl : Sl} (hq : as[g]? = some q) (e : (insOf c g s).bind (fun fs => fs.lookup f) = some sl) :
    ∃ Ca dx vs v, C.mg c = some (.ref Ca) ∧ H q = some (.ins Ca dx vs) ∧ vs.lookup f = some v ∧ SlR C Z H as (some v) sl := by
  cases e1 : insOf c g s with
  | none => rw [e1] at e; cases e
  | some fs =>
    rw [e1] at e
    obtain ⟨Ca, dx, vs, h1, h2, h3⟩ := ins_rep I hq e1
    obtain ⟨v, h4, _, h5⟩ := fld_some h3 e
    exact ⟨Ca, dx, vs, v, h1, h2, h4, h5⟩
theorem de_fld {fs : List Str} (cl : ClP X.K X.mg c fs) (ho : DC X W o fo) (hf : f ∈ fs := by decide) (hb : attributeBase o f X.env (eval o X.env) = eval o X.env := by rfl) : DE X W (.Attribute o f pos) (eFld c f fo) := by
  obtain ⟨Ca, g1, g2, g3⟩ := cl.ex
  refine pe_imp (pe_fld ho hb) fun σ H Q ⟨B, Z, as, s, I, h⟩ => ?_
  refine ⟨B, Z, as, s, I, (After.bind h).imp fun g s1 H1 Z1 as1 I1 E1 P1 h1 q hq => ?_⟩
  unfold eFldK at h1
  cases e1 : (insOf c g s1).bind fun fs => fs.lookup f with
  | none => rw [e1] at h1; exact h1.elim
  | some sl =>
    rw [e1] at h1
    cases sl with
    | v d =>
      obtain ⟨Ca', dx, vs, v, q1, q2, q3, q4⟩ := fld_at I1 hq e1
      have : Value.ref Ca' = .ref Ca := Option.some.inj (q1.symm.trans g1)
      cases this
      exact ⟨q, Ca, dx, vs, v, rfl, q2, g2, g3 f hf, q3, h1 _ _ _ I1 .refl (List.prefix_refl _) v q4⟩
    | _ => exact h1.elim
theorem dc_fld {fs : List Str} (cl : ClP X.K X.mg c fs) (ho : DC X W o fo) (hf : f ∈ fs := by decide) (hb : attributeBase o f X.env (eval o X.env) = eval o X.env := by rfl) : DC X W (.Attribute o f pos) (cFld c f fo) := by
  obtain ⟨Ca, g1, g2, g3⟩ := cl.ex
  refine pe_imp (pe_fld ho hb) fun σ H Q ⟨B, Z, as, s, I, h⟩ => ?_
  refine ⟨B, Z, as, s, I, (After.bind h).imp fun g s1 H1 Z1 as1 I1 E1 P1 h1 q hq => ?_⟩
  unfold cFldK at h1
  cases e1 : (insOf c g s1).bind fun fs => fs.lookup f with
  | none => rw [e1] at h1; exact h1.elim
  | some sl =>
    rw [e1] at h1
    cases sl with
    | cell g' =>
      obtain ⟨Ca', dx, vs, v, q1, q2, q3, q4⟩ := fld_at I1 hq e1
      have : Value.ref Ca' = .ref Ca := Option.some.inj (q1.symm.trans g1)
      cases this
      cases v with
      | ref q' => exact ⟨q, Ca, dx, vs, .ref q', rfl, q2, g2, g3 f hf, q3, h1 _ _ _ I1 .refl (List.prefix_refl _) q' q4⟩
      | _ => exact q4.elim
    | _ => exact h1.elim
/-- o.f = e, o in slot i -/
def sFldK (i : Nat) (c f : Str) (r : RV) : DM Fl := fun s => match s.env[i]? with
  | some (.cell g) => (match insOf c g s with
    | some fs => if fs.length < 900 then (match r with
      | .d d => .ok .nx { s with st := s.st.set g (.ins c (putS f (.v d) fs)) }
      | .cell g' => .ok .nx { s with st := s.st.set g (.ins c (putS f (.cell g') fs)) }
      | .fl ds => .ok .nx { s with st := (s.st ++ [Cell.lst ds]).set g (.ins c (putS f (.cell s.st.length) fs)) }
      | .fd kvs => .ok .nx { s with st := (s.st ++ [Cell.dic kvs]).set g (.ins c (putS f (.cell s.st.length) fs)) }) else .bad
    | none => .bad)
  | _ => .bad
def sFldP (i : Nat) (c f : Str) (fv : DM RV) : DM Fl := bindM fv (sFldK i c f)
theorem ds_fld (i : Nat) {fs : List Str} {px : Pos} (cl : ClP X.K X.mg c fs) (he : DF X W e fv) (hf : f ∈ fs := by decide) (hN : X.N[i]? = some x := by rfl) (hv : Vis X.env.scope x := by first | exact Or.inl rfl | exact Or.inr (Or.inl rfl) | exact Or.inr (Or.inr rfl)) (hd : (x == ("__debug__" : Str)) = false := by decide)
    (hcd : (x == ("__classdict__" : Str)) = false := by decide) (hs : swapsWith e (some (.Attribute (.Name x px) f apos)) pos.line X.env = pure false := by rfl) : DS X W (.Assign [.Attribute (.Name x px) f apos] e pos) (sFldP i c f fv) := by
  obtain ⟨Ca, g1, g2, g3⟩ := cl.ex
  refine ps_imp (ps_fld (pe_var hN hv hd hcd) he hs) fun D σ H ⟨B, Z, as, s, I, h⟩ => ?_
  refine ⟨B, Z, as, s, I, (AfterS.bind h).imp fun r s1 H1 Z1 as1 I1 E1 P1 h1 v rv => ?_⟩
  unfold sFldK at h1
  cases e0 : s1.env[i]? with
  | none => rw [e0] at h1; exact h1.elim
  | some sl0 =>
    rw [e0] at h1
    cases sl0 with
    | cell g =>
      dsimp only at h1
      obtain ⟨o, q1, q2⟩ := paired_get I1.env e0
      cases o with
      | none => exact q2.elim
      | some v0 =>
        cases v0 with
        | ref q =>
          have hq : as1[g]? = some q := q2
          cases e1 : insOf c g s1 with
          | none => rw [e1] at h1; exact h1.elim
          | some fs =>
            rw [e1] at h1
            dsimp only at h1
            split at h1
            · rename_i hl
              obtain ⟨Ca', dx, vs, z1, z2, z3⟩ := ins_rep I1 hq e1
              have : Value.ref Ca' = .ref Ca := Option.some.inj (z1.symm.trans g1)
              cases this
              refine ⟨.ref q, q1, q, Ca, dx, vs, rfl, z2, g2, g3 f hf, by rw [paired_length z3]; omega, ?_⟩
              have hlen : as1.length = s1.st.length := paired_length I1.st
              cases r with
              | d d =>
                have J := I1.putCell (o := .ins Ca dx (putF f v vs)) (c := .ins c (putS f (.v d) fs)) hq ⟨Ca, dx, _, z1, upd_same, fld_put rfl rv (flds_keep (Same.refl _) (List.prefix_refl _) z3)⟩
                exact h1 _ _ _ _ J .refl (List.prefix_refl _)
              | cell g' =>
                obtain ⟨q', rfl, hq'⟩ := rv
                have J := I1.putCell (o := .ins Ca dx (putF f (.ref q') vs)) (c := .ins c (putS f (.cell g') fs)) hq ⟨Ca, dx, _, z1, upd_same, fld_put rfl hq' (flds_keep (Same.refl _) (List.prefix_refl _) z3)⟩
                exact h1 _ _ _ _ J .refl (List.prefix_refl _)
              | fl ds =>
                obtain ⟨l, xs, rfl, nz, nb, hf', hp, hr⟩ := rv
                have J0 := I1.newCellA nz nb hf' (c := .lst ds) ⟨xs, hp, hr⟩
                have hq2 : (as1 ++ [l])[g]? = some q := by rw [List.getElem?_append_left (List.getElem?_eq_some_iff.mp hq).1]; exact hq
                have hl2 : (as1 ++ [l])[s1.st.length]? = some l := by rw [← hlen, List.getElem?_append_right (Nat.le_refl _), Nat.sub_self]; rfl
                have J := J0.putCell (o := .ins Ca dx (putF f (.ref l) vs)) (c := .ins c (putS f (.cell s1.st.length) fs)) hq2 ⟨Ca, dx, _, z1, upd_same, fld_put rfl hl2 (flds_keep (Same.refl _) (List.prefix_append _ _) z3)⟩
                exact h1 _ _ _ _ J .refl (List.prefix_append _ _)
              | fd kvs =>
                obtain ⟨l, rfl, nz, nb, hf', hr⟩ := rv
                have J0 := I1.newCellA nz nb hf' (c := .dic kvs) hr
                have hq2 : (as1 ++ [l])[g]? = some q := by rw [List.getElem?_append_left (List.getElem?_eq_some_iff.mp hq).1]; exact hq
                have hl2 : (as1 ++ [l])[s1.st.length]? = some l := by rw [← hlen, List.getElem?_append_right (Nat.le_refl _), Nat.sub_self]; rfl
                have J := J0.putCell (o := .ins Ca dx (putF f (.ref l) vs)) (c := .ins c (putS f (.cell s1.st.length) fs)) hq2 ⟨Ca, dx, _, z1, upd_same, fld_put rfl hl2 (flds_keep (Same.refl _) (List.prefix_append _ _) z3)⟩
                exact h1 _ _ _ _ J .refl (List.prefix_append _ _)
            · exact h1.elim
        | _ => exact q2.elim
    | _ => exact h1.elim
end
end DL

/-! DLO: methods, making an object. -/
namespace DL
open PySem PySem.Spec PyProof.Rows L2
/-- a method m of the class c is worth G, at level k -/
structure MtM (P : Program) (w : World) (K : PySem.W.Frag) (mg : Str → Option Value) (base : Heap) (c m : Str) (k : Nat) (G : List Sl → List Cell → FR) : Prop where
  ex : ∃ (Ca f : Addr) (fd : FuncData) (ps : List Str), mg c = some (.ref Ca) ∧ Cls K Ca ∧ Meth K Ca m f ∧ FnOk P w K mg base (L2.CX P w) k f fd ps (spM ⟨w, K, mg⟩ G) ∧ Binds K fd ps []
/-- making an object of the class c: its __init__ is worth G -/
structure MkM (P : Program) (w : World) (K : PySem.W.Frag) (mg : Str → Option Value) (base : Heap) (c : Str) (k : Nat) (G : List Sl → List Cell → FR) : Prop where
  ex : ∃ (Ca f : Addr) (fd : FuncData) (ps : List Str), mg c = some (.ref Ca) ∧ Mk K Ca f ∧ FnOk P w K mg base (L2.CX P w) k f fd ps (spM ⟨w, K, mg⟩ G) ∧ Binds K fd ps []
def frR' (r : FR) (s : S) : R RV := match r with
  | .ok r st => .ok r { s with st := st }
  | .exc c st => .exc c { s with st := st }
  | .bad => .bad
def callO (c m : Str) (G : List Sl → List Cell → FR) (fo : DM Nat) (g : DM (List Sl)) : DM RV := bindM fo fun o => fun s => match insOf c o s with
  | some fs => if (fs.lookup m).isNone then bindM g (fun args s' => frR' (G (.cell o :: args) s'.st) s') s else .bad
  | none => .bad
def mkO (c : Str) (G : List Sl → List Cell → FR) (g : DM (List Sl)) : DM RV := bindM g fun args => fun s => match G (.cell s.st.length :: args) (s.st ++ [.ins c []]) with
  | .ok (.d .none) st => .ok (.cell s.st.length) { s with st := st }
  | .exc c' st => .exc c' { s with st := st }
  | _ => .bad
section
variable {C : Ct} {W : WX} {B Z H : Hp} {σ : St} {as : List Addr} {s : S}
theorem sp_callM {G : List Sl → List Cell → FR} {vs : List V} {args : List Sl} {Q : VK} (I : SR C B Z σ H as s) (rvs : Paired (SlR C Z H as) (vs.map some) args) (hw : ∀ sl ∈ args, sl.own = false)
    (h : After C W B Z as σ (fun r s' H' Z' as' => ∀ v, RVR C B Z' σ H' as' s' v r → Q v H') (frR' (G args s.st) s)) : spM C G vs H Q (WE W σ) := by
  refine ⟨rim H as, Z, as, args, s.st, I.lend rvs hw, hw, ?_⟩
  unfold frR' at h
  cases e : G args s.st with
  | bad => rw [e] at h; exact h
  | exc c st =>
    rw [e] at h
    intro Ca H' Z' as' hc J E P
    obtain ⟨I2, E2⟩ := I.lent J E P
    exact h Ca H' Z' as' hc I2 E2 P
  | ok r st =>
    rw [e] at h
    intro v H' Z' as' J E P rv
    obtain ⟨I2, E2⟩ := I.lent J E P
    refine h H' Z' as' I2 E2 P v ?_
    have noB : ∀ {q : Addr}, rim H as q = none → B q = none := fun {q} b1 => by
      cases qb : B q with
      | none => rfl
      | some o =>
        have := I.bh q o qb
        rw [← rim_some (H := H) (as := as) (a := q) (fun hm => by rw [(I.asb q hm).1] at qb; cases qb), b1] at this; cases this
    have noF : ∀ {q : Addr}, rim H as q = none → q ∉ as' → Free σ as' { s with st := st } q := fun {q} b1 f1 => ⟨f1, fun i sl e1 e2 => by
      cases hw' : sl.own with
      | false => rfl
      | true =>
        obtain ⟨_, o, ho⟩ := I.ownH e1 e2 hw'
        rw [← rim_some (H := H) (as := as) (a := q) (I.own i q sl e1 e2 hw').2, b1] at ho; cases ho⟩
    cases r with
    | d x => exact rv
    | cell g => exact rv
    | fl ds =>
      obtain ⟨q, xs, rfl, z1, b1, f1, h3, h4⟩ := rv
      exact ⟨q, xs, rfl, z1, noB b1, noF b1 f1.1, h3, h4⟩
    | fd kvs =>
      obtain ⟨q, rfl, z1, b1, f1, h3⟩ := rv
      exact ⟨q, rfl, z1, noB b1, noF b1 f1.1, h3⟩
end
section
variable {X : Cx} {W : WX} {k k' : Nat} {e o : Expr} {es : List Expr} {fo : DM Nat} {g : DM (List Sl)} {pos apos p : Pos} {c m x : Str} {CX : CXT} {f Ca : Addr} {fd : FuncData} {ps : List Str} {sp : Sp} {E : St → XK} {ta : TE} {t : TA}
def tMethS (Ca : Addr) (m : Str) (sp : Sp) (E : St → XK) (ta : TE) (t : TA) : TE := fun σ H Q => ta σ H fun v H1 => ∃ a dx fs, v = .ref a ∧ H1 a = some (.ins Ca dx fs) ∧ fs.lookup m = none ∧ t σ H1 fun vs H2 => sp (v :: vs) H2 Q (E σ)
theorem pe_methS {pl : Sem Bool} (ho : PE X o ta) (cl : Cls X.K Ca) (hm : Meth X.K Ca m f) (F : FnOk X.prog X.w X.K X.mg X.base CX k f fd ps sp) (hr : Room k X.A) (hb : Binds X.K fd ps []) (hx : ∀ σ, PassesAt CX X σ (E σ)) (ha : PA X (e :: es) t)
    (h1 : starEach (e :: es) X.env = (false, eval e X.env) :: starEach es X.env := by rfl) (h2 : (backTo pos (starEach es X.env)).any (·.1) = false := by rfl)
    (h3 : eval (.Call (.Attribute o m apos) (e :: es) [] pos) X.env = (do let ov ← eval o X.env; standAt apos.atName; let (g1, first) ← holding [ov] (getMethod ov m pl); callWith pos g1 first (backTo pos (starEach (e :: es) X.env)) (backToKw pos (keywordEach [] X.env))) := by rfl) :
    PE X (.Call (.Attribute o m apos) (e :: es) [] pos) (tMethS Ca m sp E ta t) := by
  refine ⟨fun pins s σ H Q I hh => ?_⟩
  refine PySem.W.methodCall_KW (pl := pl) (thn (ho.run pins s σ H _ I hh) fun u s1 hu => ?_) h3
  obtain ⟨v, H1, I1, rv, a, dx, fs, ev, ea, hl, q⟩ := hu
  subst ev
  obtain rfl : u = Value.ref a := rv
  refine getmeth_ok I1 ea cl hm hl ?_
  refine PySem.W.callWith_K (first := [.ref a]) (h₀ := X.base) I1.ok.mod.kin hm.kp (thn (ha.run pos pins s1 σ H1 _ I1 q) fun us s2 hz => ?_) h1 h2
  obtain ⟨vs, H2, I2, r, q2⟩ := hz
  exact ⟨I2.kIn, run_fnS (us := .ref a :: us) (vs := .ref a :: vs) F hr hb (hx σ) I2 (.cons rfl r) q2⟩
theorem pe_methS0 {pl : Sem Bool} (ho : PE X o ta) (cl : Cls X.K Ca) (hm : Meth X.K Ca m f) (F : FnOk X.prog X.w X.K X.mg X.base CX k f fd ps sp) (hr : Room k X.A) (hb : Binds X.K fd ps []) (hx : ∀ σ, PassesAt CX X σ (E σ))
    (h3 : eval (.Call (.Attribute o m apos) [] [] pos) X.env = (do let ov ← eval o X.env; standAt apos.atName; let (g1, first) ← holding [ov] (getMethod ov m pl); callWith pos g1 first (backTo pos (starEach [] X.env)) (backToKw pos (keywordEach [] X.env))) := by rfl) :
    PE X (.Call (.Attribute o m apos) [] [] pos) (tMethS Ca m sp E ta tNil) := by
  refine ⟨fun pins s σ H Q I hh => ?_⟩
  refine PySem.W.methodCall_KW (pl := pl) (thn (ho.run pins s σ H _ I hh) fun u s1 hu => ?_) h3
  obtain ⟨v, H1, I1, rv, a, dx, fs, ev, ea, hl, q⟩ := hu
  subst ev
  obtain rfl : u = Value.ref a := rv
  refine getmeth_ok I1 ea cl hm hl ?_
  exact PySem.W.callWith_K0 (first := [.ref a]) I1.kIn hm.kp (run_fnS (us := [.ref a]) (vs := [.ref a]) F hr hb (hx σ) I1 (.cons rfl .nil) q)
theorem callO_at {G : List Sl → List Cell → FR} {ta : TA} {σ : St} {H : Hp} {Q : VK} (gc : X.mg c = some (.ref Ca)) (hta : ∀ (H1 : Hp) (B Z : Hp) (as : List Addr) (s1 : S) (R : List V → Hp → Prop), SR (ctOf X) B Z σ H1 as s1 →
      After (ctOf X) W B Z as σ (fun sls _ H' Z' as' => ∀ vs, Paired (SlR (ctOf X) Z' H' as') (vs.map some) sls → (∀ sl ∈ sls, sl.own = false) → R vs H') (g s1) → ta σ H1 R)
    (h : rF (ctOf X) W (callO c m G fo g) σ H Q) : tMethS Ca m (spM (ctOf X) G) (WE W) (rC (ctOf X) W fo) ta σ H Q := by
  obtain ⟨B, Z, as, s, I, h⟩ := h
  refine ⟨B, Z, as, s, I, (After.bind h).imp fun og s1 H1 Z1 as1 I1 E1 P1 h1 q hq => ?_⟩
  cases e1 : insOf c og s1 with
  | none => rw [e1] at h1; exact h1.elim
  | some fs =>
    rw [e1] at h1
    dsimp only at h1
    split at h1
    · rename_i hn
      obtain ⟨Ca', dx, vs0, z1, z2, z3⟩ := ins_rep I1 hq e1
      have : Value.ref Ca' = .ref Ca := Option.some.inj (z1.symm.trans gc)
      cases this
      have hl : fs.lookup m = none := by
        cases hq2 : fs.lookup m with
        | none => rfl
        | some x => rw [hq2] at hn; cases hn
      refine ⟨q, dx, vs0, rfl, z2, fld_none z3 hl, ?_⟩
      refine hta H1 B Z1 as1 s1 _ I1 ((After.bind h1).imp fun args s2 H2 Z2 as2 I2 E2 P2 h2 vs rvs hw => ?_)
      have hq2 : as2[og]? = some q := by
        obtain ⟨t, rfl⟩ := P2
        rw [List.getElem?_append_left (List.getElem?_eq_some_iff.mp hq).1]; exact hq
      exact sp_callM (vs := .ref q :: vs) (args := .cell og :: args) I2 (.cons hq2 rvs) (fun sl hm => by
        rcases List.mem_cons.mp hm with rfl | hm
        · rfl
        · exact hw sl hm) h2
    · exact h1.elim
/-- o.m(..) -/
theorem df_callO {pl : Sem Bool} {G : List Sl → List Cell → FR} (b : Bd X W k) (M : MtM X.prog X.w X.K X.mg X.base c m k' G) (ho : DC X W o fo) (ha : DA X W (e :: es) g) (hk : k' ≤ k := by decide)
    (h1 : starEach (e :: es) X.env = (false, eval e X.env) :: starEach es X.env := by rfl) (h2 : (backTo pos (starEach es X.env)).any (·.1) = false := by rfl)
    (h3 : eval (.Call (.Attribute o m apos) (e :: es) [] pos) X.env = (do let ov ← eval o X.env; standAt apos.atName; let (g1, first) ← holding [ov] (getMethod ov m pl); callWith pos g1 first (backTo pos (starEach (e :: es) X.env)) (backToKw pos (keywordEach [] X.env))) := by rfl) :
    DF X W (.Call (.Attribute o m apos) (e :: es) [] pos) (callO c m G fo g) := by
  obtain ⟨Ca, f, fd, ps, gc, cl, hm, F, bn⟩ := M.ex
  refine pe_imp (pe_methS ho cl hm F (b.hr.mono hk) bn (fun σ => passAt b.tk σ) ha h1 h2 h3) fun σ H Q h => ?_
  exact callO_at gc (fun H1 B Z as s1 R I h => ⟨B, Z, as, s1, I, h⟩) h
theorem df_callO0 {pl : Sem Bool} {G : List Sl → List Cell → FR} (b : Bd X W k) (M : MtM X.prog X.w X.K X.mg X.base c m k' G) (ho : DC X W o fo) (hk : k' ≤ k := by decide)
    (h3 : eval (.Call (.Attribute o m apos) [] [] pos) X.env = (do let ov ← eval o X.env; standAt apos.atName; let (g1, first) ← holding [ov] (getMethod ov m pl); callWith pos g1 first (backTo pos (starEach [] X.env)) (backToKw pos (keywordEach [] X.env))) := by rfl) :
    DF X W (.Call (.Attribute o m apos) [] [] pos) (callO c m G fo aNil) := by
  obtain ⟨Ca, f, fd, ps, gc, cl, hm, F, bn⟩ := M.ex
  refine pe_imp (pe_methS0 ho cl hm F (b.hr.mono hk) bn (fun σ => passAt b.tk σ) h3) fun σ H Q h => ?_
  exact callO_at gc (fun H1 B Z as s1 R I h => After.pure h I [] .nil fun _ z => nomatch z) h

/-! ### C(..) -/
theorem run_makeS {pins : List (Addr × Obj)} {σ : St} {H : Hp} {s : Shared} {Q : VK} {us : List Value} {vs : List V} (M : Mk X.K Ca f) (F : FnOk X.prog X.w X.K X.mg X.base CX k f fd ps sp) (hr : Room (k + 1) X.A) (hb : Binds X.K fd ps []) (hx : PassesAt CX X σ (E σ)) (hx0 : ∀ (pins : List (Addr × Obj)) (H : Hp) (s : Shared) (e : Value) (s' : Shared), Inv X pins σ H s → CX X.stack H s (E σ) e s' → X.xe e s') (I : Inv X pins σ H s) (r : Vals vs us)
    (h : ∀ y dx, H y = none → H dx = none → dx ≠ y → sp (.ref y :: vs) (upd (upd H dx (.own y)) y (.ins Ca dx [])) (fun v H2 => v = .non ∧ Q (.ref y) H2) (E σ)) :
    wpAny (model X.prog X.w) X.A (call (.ref Ca) us) (EP X pins σ Q) X.xe s := by
  have n1 : s.heap.objs.size ≠ s.heap.objs.size + 1 := Nat.ne_of_lt (Nat.lt_succ_self _)
  have hsp := h (s.heap.objs.size + 1) s.heap.objs.size (I.hok.fresh (Nat.le_succ _)) (I.hok.fresh (Nat.le_refl _)) n1
  have J := Inv.made (C := Ca) I
  have rr : Vals (V.ref (s.heap.objs.size + 1) :: vs) (Value.ref (s.heap.objs.size + 1) :: us) := .cons rfl r
  have hl : (Value.ref (s.heap.objs.size + 1) :: us).length = ps.length := by rw [← rr.length]; exact F.len _ _ _ _ hsp
  have bnd := hb _ (Value.ref (s.heap.objs.size + 1) :: us) J.kIn (by rw [List.append_nil]; exact hl)
  rw [List.append_nil] at bnd
  have go := F.run _ X.stack _ _ ⟨Value.ref (s.heap.objs.size + 1) :: us, []⟩ (Value.ref (s.heap.objs.size + 1) :: us) _ _ (E σ) (hr.make Ca us []) (J.env0.make Ca us []) bnd rr hsp
  refine wpAny_call (make_map (f := f) I.kIn M.makes M.init (beq_iff_eq.mp M.fn) (codeAny_mono go fun r s' hq => ?_))
  cases r with
  | error e => exact hx0 pins _ _ e s' J hq
  | ok fl =>
    cases fl with
    | ret u =>
      obtain ⟨v, H', I3, rv, ev, q3⟩ := J.after hq
      subst ev
      exact ⟨rv, ⟨V.ref (s.heap.objs.size + 1), H', I3, rfl, q3⟩⟩
    | next => exact False.elim hq
    | brk => exact False.elim hq
    | cont => exact False.elim hq
theorem SR.newIns {C : Ct} {B Z H : Hp} {σ : St} {as : List Addr} {s : S} (I : SR C B Z σ H as s) {y dx : Addr} (gc : C.mg c = some (.ref Ca)) (ny : H y = none) (nd : H dx = none) (ne : dx ≠ y) :
    SR C B Z σ (upd (upd H dx (.own y)) y (.ins Ca dx [])) (as ++ [y]) { s with st := s.st ++ [.ins c []] } := by
  have I1 := I.fresh (o := .own y) nd
  have ny1 : upd H dx (.own y) y = none := by rw [upd_ne (Ne.symm ne)]; exact ny
  have I2 := I1.fresh (o := .ins Ca dx []) ny1
  exact I2.newCellA (I.zh.free ny) (I.bh.free ny) (I.free_new ny) ⟨Ca, dx, [], gc, upd_same, .nil⟩
theorem df_mkO {G : List Sl → List Cell → FR} (b : Bd X W k) (M : MkM X.prog X.w X.K X.mg X.base c k' G) (ha : DA X W (e :: es) g) (hk : k' + 1 ≤ k := by decide) (hg : Gl X c := by rfl)
    (hdb : (c == ("__debug__" : Str)) = false := by decide) (he : starEach (e :: es) X.env = (false, eval e X.env) :: starEach es X.env := by rfl) (hpl : (backTo pos (starEach es X.env)).any (·.1) = false := by rfl) :
    DF X W (.Call (.Name c p) (e :: es) [] pos) (mkO c G g) := by
  obtain ⟨Ca, f, fd, ps, gc, Mk1, F, bn⟩ := M.ex
  refine ⟨fun pins s σ H Q I h => ?_⟩
  obtain ⟨B, Z, as, st, J, h⟩ := h
  refine wpAny_Call_Name_kw (ld_glob I hg gc ?_ hdb)
  have hread := ha.run pos pins s σ H (fun vs H1 => ∀ y dx, H1 y = none → H1 dx = none → dx ≠ y → spM (ctOf X) G (.ref y :: vs) (upd (upd H1 dx (.own y)) y (.ins Ca dx [])) (fun v H2 => v = .non ∧ Q (.ref y) H2) (WE W σ)) I
  refine PySem.W.callWith_K (h₀ := X.base) I.ok.mod.kin Mk1.kp (thn (hread ⟨B, Z, as, st, J, (After.bind h).imp fun args s1 H1 Z1 as1 I1 E1 P1 h1 vs rvs hw y dx ny nd ne => ?_⟩) fun us s1 hz => ?_) he hpl
  · have J1 := I1.newIns gc ny nd ne
    have hlen : as1.length = s1.st.length := paired_length I1.st
    have hy : (as1 ++ [y])[s1.st.length]? = some y := by rw [← hlen, List.getElem?_append_right (Nat.le_refl _), Nat.sub_self]; rfl
    refine sp_callM (W := W) (σ := σ) (args := .cell s1.st.length :: args) J1 (.cons hy (paired_imp rvs fun i o sl e1 e2 q => q.keep (Same.refl _) (List.prefix_append _ _) fun q' _ hw' => by rw [hw sl (List.mem_of_getElem? e2)] at hw'; cases hw')) (fun sl hm => ?_) ?_
    · rcases List.mem_cons.mp hm with rfl | hm
      · rfl
      · exact hw sl hm
    · unfold frR'
      dsimp only
      cases e1 : G (.cell s1.st.length :: args) (s1.st ++ [.ins c []]) with
      | bad => rw [e1] at h1; exact h1
      | exc c' st' =>
        rw [e1] at h1
        exact fun Cb H' Z' as' hc I' E' P' => h1 Cb H' Z' as' hc I' E' ((List.prefix_append _ _).trans P')
      | ok r st' =>
        rw [e1] at h1
        intro H' Z' as' I' E' P' v rv
        cases r with
        | d x =>
          cases x with
          | none =>
            cases rv
            refine ⟨rfl, h1 H' Z' as' I' E' ((List.prefix_append _ _).trans P') (.ref y) ⟨y, rfl, ?_⟩⟩
            obtain ⟨t, rfl⟩ := P'
            rw [List.getElem?_append_left (by rw [List.length_append, List.length_singleton]; omega)]
            exact hy
          | _ => exact h1.elim
        | _ => exact h1.elim
  · obtain ⟨vs, H1, I1, r1, q1⟩ := hz
    exact ⟨I1.kIn, run_makeS Mk1 F (b.hr.mono hk) bn (passAt b.tk σ) (passAt b.tk σ) I1 r1 q1⟩
end
end DL

/-! DLP: cells are changed by an expression; defs that are methods; suites that ask one class. -/
namespace DL
open PySem PySem.Spec PyProof.Rows L2
section
variable {X : Cx} {W : WX} {k : Nat} {e o ix : Expr} {fo : DM Nat} {fe fi : DM D} {fv : DM RV} {pos apos : Pos}
def lstC (g : Nat) (s : S) : Option (List D) := match s.st[g]? with
  | some (.lst ds) => some ds
  | _ => none
def dicC (g : Nat) (s : S) : Option (List (D × D)) := match s.st[g]? with
  | some (.dic ds) => some ds
  | _ => none
theorem lstC_rep {C : Ct} {B Z H : Hp} {σ : St} {as : List Addr} {s : S} (I : SR C B Z σ H as s) {g : Nat} {p : Addr} {ds : List D} (hg : as[g]? = some p) (h : lstC g s = some ds) :
    ∃ xs, H p = some (.lst xs) ∧ Reps C Z xs ds ∧ ∀ (ys : List V) (es : List D), Reps C Z ys es → SR C B Z σ (upd H p (.lst ys)) as { s with st := s.st.set g (.lst es) } := by
  unfold lstC at h
  obtain ⟨c, h4, h5⟩ := paired_getL I.st hg
  rw [h4] at h
  cases c with
  | lst ds' =>
    cases h
    obtain ⟨xs, h6, h7⟩ := h5
    exact ⟨xs, h6, h7, fun ys es r => I.putCell hg ⟨ys, upd_same, r⟩⟩
  | _ => cases h
theorem dicC_rep {C : Ct} {B Z H : Hp} {σ : St} {as : List Addr} {s : S} (I : SR C B Z σ H as s) {g : Nat} {p : Addr} {kvs : List (D × D)} (hg : as[g]? = some p) (h : dicC g s = some kvs) :
    DicR C Z H p kvs ∧ Z p = none ∧ ∀ (o' : HO) (kvs' : List (D × D)), DicR C Z (upd H p o') p kvs' → SR C B Z σ (upd H p o') as { s with st := s.st.set g (.dic kvs') } := by
  unfold dicC at h
  obtain ⟨c, h4, h5⟩ := paired_getL I.st hg
  rw [h4] at h
  cases c with
  | dic ds' =>
    cases h
    exact ⟨h5, (I.asb p (List.mem_of_getElem? hg)).2, fun o' kvs' r => I.putCell hg r⟩
  | _ => cases h
theorem as_later {as as' : List Addr} {g : Nat} {p : Addr} (hg : as[g]? = some p) (P : as <+: as') : as'[g]? = some p := by
  obtain ⟨t, rfl⟩ := P
  rw [List.getElem?_append_left (List.getElem?_eq_some_iff.mp hg).1]; exact hg
/-- o.append(e), o a cell -/
def fAppC (fo : DM Nat) (fe : DM D) : DM RV := bindM fo fun g => fun s => match lstC g s with
  | none => .bad
  | some _ => bindM fe (fun d s1 => match lstC g s1 with
    | some ds => if lenOk ds.length then .ok (.d .none) { s1 with st := s1.st.set g (.lst (ds ++ [d])) } else .bad
    | none => .bad) s
theorem df_appC (ho : DC X W o fo) (he : DE X W e fe)
    (hbase : attributeBase o "append" X.env (eval o X.env) = eval o X.env := by rfl)
    (hfew : ((backTo pos (starEach [e] X.env)).all (fun x => !x.1) && (backToKw pos (keywordEach [] X.env)).all (fun x => x.1.isSome)
      && decide ([e].length + ([] : List Keyword).length + (if ([] : List Keyword).isEmpty then 0 else 1) < 30)) = true := by rfl)
    (hline : (apos.endLine == pos.line) = true := by rfl) (hs : starEach [e] X.env = (false, eval e X.env) :: starEach [] X.env := by rfl) (hplain : (backTo pos (starEach [] X.env)).any (·.1) = false := by rfl) :
    DF X W (.Call (.Attribute o "append" apos) [e] [] pos) (fAppC fo fe) := by
  refine pe_imp (pe_bm PySem.F.plainAttrs_list PySem.F.slot_list_append PySem.F.type_list_append mt_append ho (pa_cons he pa_nil hs) hbase hfew hline hs hplain) fun σ H Q ⟨B, Z, as, s, I, h⟩ => ?_
  refine ⟨B, Z, as, s, I, (After.bind h).imp fun g s1 H1 Z1 as1 I1 E1 P1 h1 q hq => ?_⟩
  cases e0 : lstC g s1 with
  | none => rw [e0] at h1; exact h1.elim
  | some ds0 =>
    rw [e0] at h1
    dsimp only at h1
    obtain ⟨xs, g1, g2, _⟩ := lstC_rep I1 hq e0
    refine ⟨.inl ⟨rfl, xs, .inl (.inl g1)⟩, B, Z1, as1, s1, I1, (After.bind h1).imp fun d s2 H2 Z2 as2 I2 E2 P2 h3 v rv => ?_⟩
    cases e1 : lstC g s2 with
    | none => rw [e1] at h3; exact h3.elim
    | some ds =>
      rw [e1] at h3
      dsimp only at h3
      split at h3
      · rename_i hl
        obtain ⟨xs', q1, q2, q3⟩ := lstC_rep I2 (as_later hq P2) e1
        refine ⟨q, xs', v, rfl, rfl, q1, by rw [q2.length]; exact lenOk_line hl, ?_⟩
        exact h3 _ _ _ (q3 _ _ (q2.append (.one rv))) .refl (List.prefix_refl _) _ .non
      · exact h3.elim
/-- o.pop(), o a cell -/
def fPopC (fo : DM Nat) : DM RV := bindM fo fun g => fun s => match lstC g s with
  | some ds => (match ds.getLast? with
    | some d => .ok (.d d) { s with st := s.st.set g (.lst ds.dropLast) }
    | none => .bad)
  | none => .bad
theorem df_popC (ho : DC X W o fo) (hbase : attributeBase o "pop" X.env (eval o X.env) = eval o X.env := by rfl) (hline : (apos.endLine == pos.line) = true := by rfl) :
    DF X W (.Call (.Attribute o "pop" apos) [] [] pos) (fPopC fo) := by
  refine pe_imp (pe_bm0 PySem.F.plainAttrs_list PySem.F.slot_list_pop PySem.F.type_list_pop mt_pop ho hbase hline) fun σ H Q ⟨B, Z, as, s, I, h⟩ => ?_
  refine ⟨B, Z, as, s, I, (After.bind h).imp fun g s1 H1 Z1 as1 I1 E1 P1 h1 q hq => ?_⟩
  cases e0 : lstC g s1 with
  | none => rw [e0] at h1; exact h1.elim
  | some ds =>
    rw [e0] at h1
    dsimp only at h1
    obtain ⟨xs, g1, g2, g3⟩ := lstC_rep I1 hq e0
    cases e1 : ds.getLast? with
    | none => rw [e1] at h1; exact h1.elim
    | some d =>
      rw [e1] at h1
      have e2 : ds[ds.length - 1]? = some d := by rw [← List.getLast?_eq_getElem?]; exact e1
      obtain ⟨v, hv2, rv⟩ := g2.get e2
      refine ⟨.inl ⟨rfl, xs, .inl (.inl g1)⟩, q, xs, v, rfl, rfl, g1, by rw [g2.length]; exact hv2, ?_⟩
      exact h1 _ _ _ (g3 _ _ g2.dropLast) .refl (List.prefix_refl _) v rv
/-- o[k] = e, o a cell that is a dict -/
def sPutC (fo : DM Nat) (fi fe : DM D) : DM Fl := bindM fe fun d => bindM fo fun g => fun s => match dicC g s with
  | none => .bad
  | some _ => bindM fi (fun k s1 => match dicC g s1 with
    | some kvs => if (keyT k kvs || keyI k kvs) && lenOk kvs.length then .ok .nx { s1 with st := s1.st.set g (.dic (dPut kvs k d)) } else .bad
    | none => .bad) s
theorem ds_putC (hu : X.A.units + 64 < cLine) {tpos : Pos} (ho : DC X W o fo) (he : DE X W e fe) (hix : DE X W ix fi)
    (ha : ∀ v, assign (.Subscript o ix tpos) X.env v = (do
      let ov ← holding [v] (eval o X.env)
      let iv ← holding [v, ov] (eval ix X.env)
      standAt tpos
      holding [v, ov, iv] (setItem ov iv v)
      release [v, ov, iv] []) := by intro _; rfl)
    (hs : swapsWithSole [.Subscript o ix tpos] e pos.line X.env = pure false := by rfl) (hw : swappedStores [.Subscript o ix tpos] e X.env = pure none := by rfl)
    (h1 : (assignEach [.Subscript o ix tpos] X.env).map (·.2) = [assign (.Subscript o ix tpos) X.env] := by rfl) : DS X W (.Assign [.Subscript o ix tpos] e pos) (sPutC fo fi fe) :=
  ps_imp (ps_asg he (pg_sub ho hix (set_D hu) ha) hs hw h1) fun Dn σ H ⟨B, Z, as, s, I, h⟩ => ⟨B, Z, as, s, I, (AfterS.bind (σ := σ) h).imp fun d s1 H1 Z1 as1 I1 E1 P1 h1 v rv => by
    refine ⟨B, Z1, as1, s1, I1, (AfterS.bind h1).imp fun g s2 H2 Z2 as2 I2 E2 P2 h2 q hq => ?_⟩
    cases e0 : dicC g s2 with
    | none => rw [e0] at h2; exact h2.elim
    | some kvs0 =>
      rw [e0] at h2
      dsimp only at h2
      refine ⟨B, Z2, as2, s2, I2, (AfterS.bind h2).imp fun k s3 H3 Z3 as3 I3 E3 P3 h3 u ru => ?_⟩
      cases e1 : dicC g s3 with
      | none => rw [e1] at h3; exact h3.elim
      | some kvs =>
        rw [e1] at h3
        dsimp only at h3
        split at h3
        · rename_i hk
          rw [Bool.and_eq_true] at hk
          obtain ⟨q1, q2, q3⟩ := dicC_rep I3 (as_later hq P3) e1
          refine ⟨Z3, q, kvs, k, d, I3.zh, q2, rfl, q1, .f ru, by simpa using hk.1, Nat.le_of_lt (lenOk_line hk.2), rv.mono (E2.trans E3).same, fun o' hd' => ?_⟩
          exact h3 _ _ _ _ (q3 _ _ hd') .refl (List.prefix_refl _)
        · exact h3.elim⟩
/-- a cell handed back -/
def fOfC (fo : DM Nat) : DM RV := bindM fo fun g => pureM (.cell g)
theorem df_ofC (ho : DC X W e fo) : DF X W e (fOfC fo) := pe_imp ho fun σ H Q ⟨B, Z, as, s, I, h⟩ => ⟨B, Z, as, s, I, (After.bind h).imp fun g s1 H1 Z1 as1 I1 E1 P1 h1 q hq => After.pure h1 I1 (.ref q) ⟨q, rfl, hq⟩⟩
/-- a cell handed on -/
def aOfC (fo : DM Nat) : DM Sl := bindM fo fun g => pureM (.cell g)
theorem da_ofC (ho : DC X W e fo) : PE X e (rA1 (ctOf X) W (aOfC fo)) := pe_imp ho fun σ H Q ⟨B, Z, as, s, I, h⟩ => ⟨B, Z, as, s, I, (After.bind h).imp fun g s1 H1 Z1 as1 I1 E1 P1 h1 q hq => After.pure h1 I1 (.ref q) hq rfl⟩
end
/-! ### a method by its body -/
section
variable {P : Program} {w : World} {K : PySem.W.Frag} {mg : Str → Option Value} {base : Heap}
theorem fnQ_ok {x qual : Str} {k : Nat} {st : Stmt} {f : Addr} {fd : FuncData} {N ps : List Str} {G : List Sl → List Cell → FR} (fb : DM Fl) (F : Fun K x qual st f fd) (S : FnScope N ps (defScope st))
    (hl : ∀ args st, G args st ≠ .bad → args.length = ps.length)
    (body : ∀ (cdv : Value) (A : Around) (outer : List Env) (s : Shared) (H : Hp) (E : XK), Bd (cxOf (L2.CX P w) P w K mg base N qual (defScope st) f cdv A outer s H E) (fun cls d _ H => E cls d H) k → DSs (cxOf (L2.CX P w) P w K mg base N qual (defScope st) f cdv A outer s H E) (fun cls d _ H => E cls d H) (defBody st) fb)
    (run : ∀ args st, G args st ≠ .bad → runM fb N.length args st = G args st) : FnOk P w K mg base (L2.CX P w) (k + 1) f fd ps (spM ⟨w, K, mg⟩ G) := by
  refine F.okX S (fun vs H Q E h => ?_) (fun cdv A outer s H vs Q E hr h => ?_)
  · obtain ⟨B, Z, as, args, st, I, _, h⟩ := h
    have hl1 : vs.length = args.length := by have := paired_length I.env; rw [List.length_map] at this; exact this
    rw [hl1]
    refine hl args st fun z => ?_
    rw [z] at h; exact h
  · refine ⟨_, body cdv A outer s H E ⟨takes_of rfl rfl rfl rfl, passes_of rfl, hr, rfl⟩, ?_⟩
    obtain ⟨B, Z, as, args, st, I0, hw, h⟩ := h
    have I := sr_startM (N := N) I0 hw
    refine ⟨B, Z, as, _, I, ?_⟩
    have hne : G args st ≠ .bad := fun z => by rw [z] at h; exact h
    have e := run args st hne
    rw [← e] at h hne
    unfold runM at h hne
    cases e1 : fb (envM N.length args st) with
    | bad => rw [e1] at hne; exact absurd rfl hne
    | exc c s' =>
      rw [e1] at h
      exact fun Ca σ' H' Z' as' hc I' E' P' => h Ca H' Z' as' hc I'.noEnv E' P'
    | ok fl s' =>
      rw [e1] at h hne
      cases fl with
      | nx => exact fun σ' H' Z' as' I' E' P' => h .non H' Z' as' I'.noEnv E' P' .non
      | bk => exact absurd rfl hne
      | ct => exact absurd rfl hne
      | rt rr =>
        exact fun v σ' H' Z' as' I' E' P' rv => h v H' Z' as' I'.noEnv E' P' (by
          cases rr with
          | d x => exact rv
          | cell g => exact rv
          | fl ds => obtain ⟨q, xs, h0, h1, h2, h3, h4⟩ := rv; exact ⟨q, xs, h0, h1, h2, ⟨h3.1, fun i sl e => by simp at e⟩, h4⟩
          | fd ds => obtain ⟨q, h0, h1, h2, h3, h4⟩ := rv; exact ⟨q, h0, h1, h2, ⟨h3.1, fun i sl e => by simp at e⟩, h4⟩)
/-- what the head tells of a method -/
structure MtF (K : PySem.W.Frag) (mg : Str → Option Value) (c m : Str) (f : Addr) : Prop where
  ex : ∃ Ca, mg c = some (.ref Ca) ∧ Cls K Ca ∧ Meth K Ca m f
structure MkF (K : PySem.W.Frag) (mg : Str → Option Value) (c : Str) (f : Addr) : Prop where
  ex : ∃ Ca, mg c = some (.ref Ca) ∧ Mk K Ca f
theorem mtM_of {c m qual : Str} {k : Nat} {st : Stmt} {f : Addr} {fd : FuncData} {N ps : List Str} {G : List Sl → List Cell → FR} (fb : DM Fl) (F : Fun K m qual st f fd) (S : FnScope N ps (defScope st)) (M : MtF K mg c m f) (bn : Binds K fd ps [])
    (hl : ∀ args st, G args st ≠ .bad → args.length = ps.length)
    (body : ∀ (cdv : Value) (A : Around) (outer : List Env) (s : Shared) (H : Hp) (E : XK), Bd (cxOf (L2.CX P w) P w K mg base N qual (defScope st) f cdv A outer s H E) (fun cls d _ H => E cls d H) k → DSs (cxOf (L2.CX P w) P w K mg base N qual (defScope st) f cdv A outer s H E) (fun cls d _ H => E cls d H) (defBody st) fb)
    (run : ∀ args st, G args st ≠ .bad → runM fb N.length args st = G args st) : MtM P w K mg base c m (k + 1) G := by
  obtain ⟨Ca, h1, h2, h3⟩ := M.ex
  exact ⟨Ca, f, fd, ps, h1, h2, h3, fnQ_ok fb F S hl body run, bn⟩
theorem mkM_of {c qual : Str} {k : Nat} {st : Stmt} {f : Addr} {fd : FuncData} {N ps : List Str} {G : List Sl → List Cell → FR} (fb : DM Fl) (F : Fun K "__init__" qual st f fd) (S : FnScope N ps (defScope st)) (M : MkF K mg c f) (bn : Binds K fd ps [])
    (hl : ∀ args st, G args st ≠ .bad → args.length = ps.length)
    (body : ∀ (cdv : Value) (A : Around) (outer : List Env) (s : Shared) (H : Hp) (E : XK), Bd (cxOf (L2.CX P w) P w K mg base N qual (defScope st) f cdv A outer s H E) (fun cls d _ H => E cls d H) k → DSs (cxOf (L2.CX P w) P w K mg base N qual (defScope st) f cdv A outer s H E) (fun cls d _ H => E cls d H) (defBody st) fb)
    (run : ∀ args st, G args st ≠ .bad → runM fb N.length args st = G args st) : MkM P w K mg base c (k + 1) G := by
  obtain ⟨Ca, h1, h2⟩ := M.ex
  exact ⟨Ca, f, fd, ps, h1, h2, fnQ_ok fb F S hl body run, bn⟩
/-- the bottom of a recursion -/
theorem mtM_bad {c m qual : Str} {k : Nat} {st : Stmt} {f : Addr} {fd : FuncData} {N ps : List Str} (F : Fun K m qual st f fd) (S : FnScope N ps (defScope st)) (M : MtF K mg c m f) (bn : Binds K fd ps []) : MtM P w K mg base c m (k + 1) fun _ _ => .bad := by
  obtain ⟨Ca, h1, h2, h3⟩ := M.ex
  exact ⟨Ca, f, fd, ps, h1, h2, h3, F.okX S (fun vs H Q E h => by obtain ⟨_, _, _, _, _, _, _, z⟩ := h; exact z.elim) (fun cdv A outer s H vs Q E hr h => by obtain ⟨_, _, _, _, _, _, _, z⟩ := h; exact z.elim), bn⟩
end
end DL

/-! DLQ: steps for simp: cells, fields, methods, objects, try. -/
namespace DL
open PySem PySem.Spec PyProof.Rows L2
section
variable {α β : Type} {s : S} {e : List Sl} {st : List Cell} {c f m : Str} {fo : DM Nat} {fe fi : DM D} {fv : DM RV} {g i : Nat}
theorem v_strbeq {a b : String} : (Str.ofString a == Str.ofString b) = (a == b) := by
  by_cases h : a = b
  · subst h; simp
  · have h2 : ¬ Str.ofString a = Str.ofString b := fun q => h (ofString_inj.mp q)
    rw [beq_eq_false_iff_ne.mpr h2, beq_eq_false_iff_ne.mpr h]
def pkC (o : Option Cell) : Option D := match o with
  | some (.lst ds) => some (.list ds)
  | some (.dic kvs) => some (.dict kvs)
  | _ => none
theorem v_peekC : peekC g ⟨e, st⟩ = pkC (cl? st g) := rfl
theorem v_pkCl {ds : List D} : pkC (some (.lst ds)) = some (.list ds) := rfl
theorem v_pkCd {ds : List (D × D)} : pkC (some (.dic ds)) = some (.dict ds) := rfl
def evOc (g : Nat) (s : S) : R Ov := .ok (.c g) s
theorem v_evOc : evO (.c fo) s = thenR (fo s) evOc := rfl
theorem v_evOck : evOc g s = .ok (.c g) s := rfl
theorem v_resc : res s (.c g) = peekC g s := rfl
def oVark (o : Option Sl) (s : S) : R Nat := match o with
  | some (.cell g) => .ok g s
  | _ => .bad
theorem v_oVar : oVar i ⟨e, st⟩ = oVark (sl? e i) ⟨e, st⟩ := rfl
theorem v_oVark : oVark (some (.cell g)) s = .ok g s := rfl
/-! fields -/
def fcl (c : Str) (o : Option Cell) : Option (List (Str × Sl)) := match o with
  | some (.ins c' fs) => if (c' == c) = true then some fs else none
  | _ => none
theorem v_fcl {c' : Str} {fs : List (Str × Sl)} : fcl c (some (.ins c' fs)) = if (c' == c) = true then some fs else none := rfl
def lkF (f : Str) (o : Option (List (Str × Sl))) : Option Sl := o.bind fun fs => fs.lookup f
def lk (f : Str) (fs : List (Str × Sl)) : Option Sl := fs.lookup f
theorem v_lkF {fs : List (Str × Sl)} : lkF f (some fs) = lk f fs := rfl
theorem v_lkI {p : Prop} [Decidable p] {a b : Option (List (Str × Sl))} : lkF f (if p then a else b) = if p then lkF f a else lkF f b := by split <;> rfl
theorem v_lk0 : lk f [] = none := rfl
theorem v_lk1 {n : Str} {x : Sl} {fs : List (Str × Sl)} : lk f ((n, x) :: fs) = if (f == n) = true then some x else lk f fs := by
  unfold lk
  rw [List.lookup_cons]
  cases f == n <;> rfl
def eFldR (o : Option Sl) (s : S) : R D := match o with
  | some (.v d) => .ok d s
  | _ => .bad
def eFldk (c f : Str) (g : Nat) (s : S) : R D := eFldR (lkF f (fcl c (cl? s.st g))) s
theorem v_eFld : eFld c f fo s = thenR (fo s) (eFldk c f) := by
  show bindM fo (eFldK c f) s = _
  have : eFldK c f = eFldk c f := rfl
  rw [this]; rfl
theorem v_eFldk : eFldk c f g ⟨e, st⟩ = eFldR (lkF f (fcl c (cl? st g))) ⟨e, st⟩ := rfl
theorem v_eFldR {d : D} : eFldR (some (.v d)) s = .ok d s := rfl
def cFldR (o : Option Sl) (s : S) : R Nat := match o with
  | some (.cell d) => .ok d s
  | _ => .bad
def cFldk (c f : Str) (g : Nat) (s : S) : R Nat := cFldR (lkF f (fcl c (cl? s.st g))) s
theorem v_cFld : cFld c f fo s = thenR (fo s) (cFldk c f) := by
  show bindM fo (cFldK c f) s = _
  have : cFldK c f = cFldk c f := rfl
  rw [this]; rfl
theorem v_cFldk : cFldk c f g ⟨e, st⟩ = cFldR (lkF f (fcl c (cl? st g))) ⟨e, st⟩ := rfl
theorem v_cFldR {d : Nat} : cFldR (some (.cell d)) s = .ok d s := rfl
def asCk (r : RV) (s : S) : R Nat := match r with
  | .cell g => .ok g s
  | _ => .bad
theorem v_asC : asC fv s = thenR (fv s) asCk := by
  unfold asC bindM thenR asCk
  cases fv s with
  | ok r s' => cases r <;> rfl
  | _ => rfl
theorem v_asCk : asCk (.cell g) s = .ok g s := rfl
def fOfCk (g : Nat) (s : S) : R RV := .ok (.cell g) s
theorem v_fOfC : fOfC fo s = thenR (fo s) fOfCk := rfl
theorem v_fOfCk : fOfCk g s = .ok (.cell g) s := rfl
def aOfCk (g : Nat) (s : S) : R Sl := .ok (.cell g) s
theorem v_aOfC : aOfC fo s = thenR (fo s) aOfCk := rfl
theorem v_aOfCk : aOfCk g s = .ok (.cell g) s := rfl
/-! stores -/
theorem v_putS0 {sl : Sl} : putS f sl [] = [(f, sl)] := rfl
theorem v_putS1 {sl x : Sl} {n : Str} {r : List (Str × Sl)} : putS f sl ((n, x) :: r) = if (n == f) = true then (n, sl) :: r else (n, x) :: putS f sl r := by
  rw [putS]
  by_cases h : n = f
  · rw [if_pos h, if_pos (by rw [h]; exact beq_self_eq_true f)]
  · rw [if_neg h, if_neg (by rw [beq_eq_false_iff_ne.mpr h]; exact Bool.false_ne_true)]
def stR2 (g : Nat) (c f : Str) (sl : Sl) (x : Option Cell) (e : List Sl) (st : List Cell) (o : Option (List (Str × Sl))) : R Fl := match o with
  | some fs => if fs.length < 900 then .ok .nx ⟨e, (st ++ x.toList).set g (.ins c (putS f sl fs))⟩ else .bad
  | none => .bad
def sFldO (c f : Str) (sl : Sl) (x : Option Cell) (e : List Sl) (st : List Cell) (o : Option Sl) : R Fl := match o with
  | some (.cell g) => stR2 g c f sl x e st (fcl c (cl? st g))
  | _ => .bad
def sFldk (i : Nat) (c f : Str) (r : RV) (s : S) : R Fl := match r with
  | .d d => sFldO c f (.v d) none s.env s.st (sl? s.env i)
  | .cell g' => sFldO c f (.cell g') none s.env s.st (sl? s.env i)
  | .fl ds => sFldO c f (.cell s.st.length) (some (.lst ds)) s.env s.st (sl? s.env i)
  | .fd ds => sFldO c f (.cell s.st.length) (some (.dic ds)) s.env s.st (sl? s.env i)
theorem v_sFldP : sFldP i c f fv s = thenR (fv s) (sFldk i c f) := by
  have key : ∀ r, sFldK i c f r = sFldk i c f r := by
    intro r
    funext s
    obtain ⟨e, st⟩ := s
    unfold sFldK sFldk sFldO sl?
    dsimp only
    cases h : e[i]? with
    | none => cases r <;> rfl
    | some sl =>
      cases sl with
      | cell g =>
        dsimp only
        have h2 : insOf c g ⟨e, st⟩ = fcl c (cl? st g) := rfl
        rw [h2]
        unfold stR2
        cases h3 : fcl c (cl? st g) with
        | none => cases r <;> rfl
        | some fs =>
          cases r <;> simp
      | _ => cases r <;> rfl
  show bindM fv (sFldK i c f) s = _
  rw [show sFldK i c f = sFldk i c f from funext key]
  rfl
theorem v_sFldkd {d : D} : sFldk i c f (.d d) ⟨e, st⟩ = sFldO c f (.v d) none e st (sl? e i) := rfl
theorem v_sFldkc : sFldk i c f (.cell g) ⟨e, st⟩ = sFldO c f (.cell g) none e st (sl? e i) := rfl
theorem v_sFldkl {ds : List D} : sFldk i c f (.fl ds) ⟨e, st⟩ = sFldO c f (.cell st.length) (some (.lst ds)) e st (sl? e i) := rfl
theorem v_sFldkk {ds : List (D × D)} : sFldk i c f (.fd ds) ⟨e, st⟩ = sFldO c f (.cell st.length) (some (.dic ds)) e st (sl? e i) := rfl
theorem v_sFldO {sl : Sl} {x : Option Cell} : sFldO c f sl x e st (some (.cell g)) = stR2 g c f sl x e st (fcl c (cl? st g)) := rfl
theorem v_stR2n {sl : Sl} {fs : List (Str × Sl)} : stR2 g c f sl none e st (some fs) = if fs.length < 900 then .ok .nx ⟨e, st.set g (.ins c (putS f sl fs))⟩ else .bad := by
  unfold stR2; simp
theorem v_stR2s {sl : Sl} {x : Cell} {fs : List (Str × Sl)} : stR2 g c f sl (some x) e st (some fs) = if fs.length < 900 then .ok .nx ⟨e, (st ++ [x]).set g (.ins c (putS f sl fs))⟩ else .bad := rfl
theorem v_stR2i {sl : Sl} {x : Option Cell} {p : Prop} [Decidable p] {a b : Option (List (Str × Sl))} : stR2 g c f sl x e st (if p then a else b) = if p then stR2 g c f sl x e st a else stR2 g c f sl x e st b := by split <;> rfl
/-! methods -/
variable {G : List Sl → List Cell → FR} {ga : DM (List Sl)}
def callOa (o : Nat) (G : List Sl → List Cell → FR) (args : List Sl) (s : S) : R RV := frR (G (.cell o :: args) s.st) s.env
def callOb (o : Nat) (G : List Sl → List Cell → FR) (ga : DM (List Sl)) (s : S) (x : Option Sl) (b : Bool) : R RV := if b = true then (match x with
  | none => thenR (ga s) (callOa o G)
  | some _ => .bad) else .bad
def callOk (c m : Str) (G : List Sl → List Cell → FR) (ga : DM (List Sl)) (o : Nat) (s : S) : R RV := callOb o G ga s (lkF m (fcl c (cl? s.st o))) (fcl c (cl? s.st o)).isSome
theorem v_callO : callO c m G fo ga s = thenR (fo s) (callOk c m G ga) := by
  have key : (fun o => fun s => match insOf c o s with
    | some fs => if (fs.lookup m).isNone then bindM ga (fun args s' => frR' (G (.cell o :: args) s'.st) s') s else .bad
    | none => .bad : Nat → DM RV) = callOk c m G ga := by
    funext o s
    obtain ⟨e, st⟩ := s
    have h2 : insOf c o ⟨e, st⟩ = fcl c (cl? st o) := rfl
    rw [h2]
    unfold callOk callOb lkF
    dsimp only
    cases h3 : fcl c (cl? st o) with
    | none => rfl
    | some fs =>
      dsimp only [Option.bind_some, Option.isSome_some]
      rw [if_pos rfl]
      cases h4 : fs.lookup m with
      | some x => rfl
      | none =>
        show bindM ga _ _ = _
        unfold bindM thenR callOa frR' frR
        cases ga ⟨e, st⟩ with
        | ok a s' => (try dsimp only) <;> (cases G (.cell o :: a) s'.st <;> rfl)
        | _ => rfl
  exact congrArg (fun k => bindM fo k s) key
theorem v_callOk {o : Nat} : callOk c m G ga o ⟨e, st⟩ = callOb o G ga ⟨e, st⟩ (lkF m (fcl c (cl? st o))) (fcl c (cl? st o)).isSome := rfl
theorem v_callOb {o : Nat} : callOb o G ga s none true = thenR (ga s) (callOa o G) := rfl
theorem v_callOa {o : Nat} {args : List Sl} : callOa o G args ⟨e, st⟩ = frR (G (.cell o :: args) st) e := rfl
theorem v_iss {p : Prop} [Decidable p] {a b : Option (List (Str × Sl))} : (if p then a else b).isSome = if p then a.isSome else b.isSome := by split <;> rfl
theorem v_isS {a : List (Str × Sl)} : (some a).isSome = true := rfl
/-! objects -/
def mkR (n : Nat) (e : List Sl) (r : FR) : R RV := match r with
  | .ok (.d .none) st => .ok (.cell n) ⟨e, st⟩
  | .exc c st => .exc c ⟨e, st⟩
  | _ => .bad
def mkOk (c : Str) (G : List Sl → List Cell → FR) (args : List Sl) (s : S) : R RV := mkR s.st.length s.env (G (.cell s.st.length :: args) (s.st ++ [.ins c []]))
theorem v_mkO : mkO c G ga s = thenR (ga s) (mkOk c G) := by
  unfold mkO bindM thenR mkOk mkR
  cases ga s with
  | ok a s' =>
    (try dsimp only) <;> (cases G (.cell s'.st.length :: a) (s'.st ++ [.ins c []]) <;> (try rfl) <;> (rename_i r st; cases r <;> (try rfl) <;> (rename_i x; cases x <;> rfl)))
  | _ => rfl
theorem v_mkOk {args : List Sl} : mkOk c G args ⟨e, st⟩ = mkR st.length e (G (.cell st.length :: args) (st ++ [.ins c []])) := rfl
theorem v_mkRok {n : Nat} : mkR n e (.ok (.d .none) st) = .ok (.cell n) ⟨e, st⟩ := rfl
theorem v_mkRx {n : Nat} : mkR n e (.exc c st) = .exc c ⟨e, st⟩ := rfl
/-! lists and dicts in cells -/
def lcl (o : Option Cell) : Option (List D) := match o with
  | some (.lst ds) => some ds
  | _ => none
theorem v_lcl {ds : List D} : lcl (some (.lst ds)) = some ds := rfl
def dcl (o : Option Cell) : Option (List (D × D)) := match o with
  | some (.dic ds) => some ds
  | _ => none
theorem v_dcl {ds : List (D × D)} : dcl (some (.dic ds)) = some ds := rfl
def appBC (g : Nat) (d : D) (s : S) (o : Option (List D)) : R RV := match o with
  | some ds => if lenOk ds.length = true then .ok (.d .none) ⟨s.env, s.st.set g (.lst (ds ++ [d]))⟩ else .bad
  | none => .bad
def appAC (g : Nat) (d : D) (s : S) : R RV := appBC g d s (lcl (cl? s.st g))
def appOC (g : Nat) (fe : DM D) (s : S) (o : Option (List D)) : R RV := match o with
  | some _ => thenR (fe s) (appAC g)
  | none => .bad
def appKC (fe : DM D) (g : Nat) (s : S) : R RV := appOC g fe s (lcl (cl? s.st g))
theorem v_fAppC : fAppC fo fe s = thenR (fo s) (appKC fe) := by
  have key : (fun g => fun s => match lstC g s with
    | none => .bad
    | some _ => bindM fe (fun d s1 => match lstC g s1 with
      | some ds => if lenOk ds.length then .ok (.d .none) { s1 with st := s1.st.set g (.lst (ds ++ [d])) } else .bad
      | none => .bad) s : Nat → DM RV) = appKC fe := by
    funext g s
    have h2 : ∀ s : S, lstC g s = lcl (cl? s.st g) := fun s => rfl
    unfold appKC appOC
    rw [h2]
    cases lcl (cl? s.st g) with
    | none => rfl
    | some ds =>
      show bindM fe _ s = _
      unfold bindM thenR appAC appBC
      cases fe s with
      | ok d s' =>
        dsimp only
        first | (rw [h2]; done) | (rw [h2]; cases lcl (cl? s'.st g) <;> rfl)
      | _ => rfl
  exact congrArg (fun k => bindM fo k s) key
theorem v_appKC : appKC fe g ⟨e, st⟩ = appOC g fe ⟨e, st⟩ (lcl (cl? st g)) := rfl
theorem v_appOC {ds : List D} : appOC g fe s (some ds) = thenR (fe s) (appAC g) := rfl
theorem v_appAC {d : D} : appAC g d ⟨e, st⟩ = appBC g d ⟨e, st⟩ (lcl (cl? st g)) := rfl
theorem v_appBC {d : D} {ds : List D} : appBC g d ⟨e, st⟩ (some ds) = if lenOk ds.length = true then .ok (.d .none) ⟨e, st.set g (.lst (ds ++ [d]))⟩ else .bad := rfl
def popR (g : Nat) (s : S) (o : Option (List D)) (l : Option D) : R RV := match o, l with
  | some ds, some d => .ok (.d d) ⟨s.env, s.st.set g (.lst ds.dropLast)⟩
  | _, _ => .bad
def popL (o : Option (List D)) : Option D := o.bind (·.getLast?)
def popK (g : Nat) (s : S) : R RV := popR g s (lcl (cl? s.st g)) (popL (lcl (cl? s.st g)))
theorem v_fPopC : fPopC fo s = thenR (fo s) popK := by
  have key : (fun g => fun s => match lstC g s with
    | some ds => (match ds.getLast? with
      | some d => .ok (.d d) { s with st := s.st.set g (.lst ds.dropLast) }
      | none => .bad)
    | none => .bad : Nat → DM RV) = popK := by
    funext g s
    have h2 : lstC g s = lcl (cl? s.st g) := rfl
    unfold popK popR popL
    rw [h2]
    cases lcl (cl? s.st g) with
    | none => rfl
    | some ds => dsimp only [Option.bind_some]; cases ds.getLast? <;> rfl
  exact congrArg (fun k => bindM fo k s) key
theorem v_popK : popK g ⟨e, st⟩ = popR g ⟨e, st⟩ (lcl (cl? st g)) (popL (lcl (cl? st g))) := rfl
theorem v_popL {ds : List D} : popL (some ds) = ds.getLast? := rfl
theorem v_popR {ds : List D} {d : D} : popR g ⟨e, st⟩ (some ds) (some d) = .ok (.d d) ⟨e, st.set g (.lst ds.dropLast)⟩ := rfl
def putB (g : Nat) (d k : D) (s : S) (o : Option (List (D × D))) : R Fl := match o with
  | some kvs => if (keyT k kvs || keyI k kvs) = true then if lenOk kvs.length = true then .ok .nx ⟨s.env, s.st.set g (.dic (dPut kvs k d))⟩ else .bad else .bad
  | none => .bad
def putA (g : Nat) (d : D) (k : D) (s : S) : R Fl := putB g d k s (dcl (cl? s.st g))
def putO (g : Nat) (d : D) (fi : DM D) (s : S) (o : Option (List (D × D))) : R Fl := match o with
  | some _ => thenR (fi s) (putA g d)
  | none => .bad
def putK2 (fi : DM D) (d : D) (g : Nat) (s : S) : R Fl := putO g d fi s (dcl (cl? s.st g))
def putKC (fo : DM Nat) (fi : DM D) (d : D) (s : S) : R Fl := thenR (fo s) (putK2 fi d)
theorem v_sPutC : sPutC fo fi fe s = thenR (fe s) (putKC fo fi) := by
  have key : ∀ d : D, (fun g => fun s => match dicC g s with
    | none => .bad
    | some _ => bindM fi (fun k s1 => match dicC g s1 with
      | some kvs => if (keyT k kvs || keyI k kvs) && lenOk kvs.length then .ok .nx { s1 with st := s1.st.set g (.dic (dPut kvs k d)) } else .bad
      | none => .bad) s : Nat → DM Fl) = putK2 fi d := by
    intro d
    funext g s
    have h2 : ∀ s : S, dicC g s = dcl (cl? s.st g) := fun s => rfl
    unfold putK2 putO
    rw [h2]
    cases dcl (cl? s.st g) with
    | none => rfl
    | some ds =>
      show bindM fi _ s = _
      unfold bindM thenR putA putB
      cases fi s with
      | ok k s' =>
        dsimp only
        rw [h2]
        cases dcl (cl? s'.st g) with
        | none => rfl
        | some kvs => dsimp only; cases (keyT k kvs || keyI k kvs) <;> cases lenOk kvs.length <;> rfl
      | _ => rfl
  have e1 : sPutC fo fi fe = bindM fe fun d => bindM fo (putK2 fi d) := by
    unfold sPutC
    congr 1
    funext d
    exact congrArg (fun k => bindM fo k) (key d)
  rw [e1]
  rfl
theorem v_putKC {d : D} : putKC fo fi d s = thenR (fo s) (putK2 fi d) := rfl
theorem v_putK2 {d : D} : putK2 fi d g ⟨e, st⟩ = putO g d fi ⟨e, st⟩ (dcl (cl? st g)) := rfl
theorem v_putO {d : D} {kvs : List (D × D)} : putO g d fi s (some kvs) = thenR (fi s) (putA g d) := rfl
theorem v_putA {d k : D} : putA g d k ⟨e, st⟩ = putB g d k ⟨e, st⟩ (dcl (cl? st g)) := rfl
theorem v_putB {d k : D} {kvs : List (D × D)} : putB g d k ⟨e, st⟩ (some kvs) = if (keyT k kvs || keyI k kvs) = true then if lenOk kvs.length = true then .ok .nx ⟨e, st.set g (.dic (dPut kvs k d))⟩ else .bad else .bad := rfl
/-! try -/
def tryR (i : Nat) (wh : Str → Option D) (r : R Fl) : R Fl := match r with
  | .exc c s' => if i < s'.env.length then (match wh c with
    | some d => .ok (.rt (.d d)) (setSl i .un s')
    | none => .bad) else .bad
  | r => r
theorem v_sTryW {wh : Str → Option D} {fb : DM Fl} : sTryW i wh fb s = tryR i wh (fb s) := rfl
theorem v_tryN {wh : Str → Option D} : tryR i wh (.ok .nx s) = .ok .nx s := rfl
theorem v_tryT {wh : Str → Option D} {r : RV} : tryR i wh (.ok (.rt r) s) = .ok (.rt r) s := rfl
def tryW (i : Nat) (e : List Sl) (st : List Cell) (o : Option D) : R Fl := match o with
  | some d => .ok (.rt (.d d)) ⟨e.set i .un, st⟩
  | none => .bad
theorem v_tryE {wh : Str → Option D} : tryR i wh (.exc c ⟨e, st⟩) = if i < e.length then tryW i e st (wh c) else .bad := by
  unfold tryR tryW
  dsimp only
  cases wh c <;> rfl
theorem v_tryWs {d : D} : tryW i e st (some d) = .ok (.rt (.d d)) ⟨e.set i .un, st⟩ := rfl
end
end DL

/-! DLR: code that is never come to; fs = [f, g]; fs.extend([h]); return fs[i](..). -/
namespace DL
open PySem PySem.Spec PyProof.Rows L2
section
variable {X : Cx} {W : WX} {k : Nat} {st : Stmt} {sts : List Stmt}
/-- a statement that the law never comes to -/
def sBad : DM Fl := fun _ => .bad
theorem ds_bad : DS X W st sBad := ⟨fun _ _ _ _ _ _ h => by obtain ⟨_, _, _, _, _, h⟩ := h; exact h.elim⟩
theorem dss_bad : DSs X W sts sBad := ⟨fun _ _ _ _ _ _ h => by obtain ⟨_, _, _, _, _, h⟩ := h; exact h.elim⟩
theorem df_bad {e : Expr} : DF X W e (fun _ => .bad) := ⟨fun _ _ _ _ _ _ h => by obtain ⟨_, _, _, _, _, h⟩ := h; exact h.elim⟩

/-! ### a list of defs in a variable -/
def tFns (X : Cx) (W : WX) (k i : Nat) (Gs : List (List D → PR)) (fi : DM D) (g : DM (List D)) : TE := fun σ H Q => ∃ (l : Addr) (fs : List Addr) (B Z : Hp) (as : List Addr) (s : S), Paired (FnAt X k) fs Gs ∧ σ[i]? = some (some (.ref l)) ∧ H l = some (.lst (fs.map V.ref)) ∧ Z l = none ∧ B l = none ∧ Free σ as s l ∧ SR (ctOf X) B Z σ H as s ∧
  After (ctOf X) W B Z as σ (fun r s' H' Z' as' => ∀ v, RVR (ctOf X) B Z' σ H' as' s' v r → Q v H') (callI Gs fi g s)
theorem pe_fns {i : Nat} {own : Str} {Gs : List (List D → PR)} {ix e : Expr} {es : List Expr} {p p2 pos : Pos} {fi : DM D} {g : DM (List D)} (b : Bd X W k) (hi : DE X W ix fi) (ha : DL X W (e :: es) g) (hpx : PlainIx ix := by exact fun _ _ => rfl)
    (hN : X.N[i]? = some own := by rfl) (hv : Vis X.env.scope own := by first | exact Or.inl rfl | exact Or.inr (Or.inl rfl) | exact Or.inr (Or.inr rfl)) (hd : (own == ("__debug__" : Str)) = false := by decide) (hcd : (own == ("__classdict__" : Str)) = false := by decide)
    (he : starEach (e :: es) X.env = (false, eval e X.env) :: starEach es X.env := by rfl) (hpl : (backTo pos (starEach es X.env)).any (·.1) = false := by rfl) :
    PE X (.Call (.Subscript (.Name own p) ix p2) (e :: es) [] pos) (tFns X W k i Gs fi g) := by
  have hf : PE X (.Subscript (.Name own p) ix p2) _ := pe_ix ix_seq (pe_var hN hv hd hcd) hi hpx
  refine ⟨fun pins s σ H Q I h => ?_⟩
  obtain ⟨l, fs, B, Z, as, st, hF, hs, hl, nz, nb, fr, J, h⟩ := h
  show wpAny _ _ (do callWith pos (← eval (.Subscript (.Name own p) ix p2) X.env) [] (backTo pos (starEach (e :: es) X.env)) (backToKw pos (keywordEach [] X.env))) _ _ _
  have hread := hf.run pins s σ H (fun v H1 => ∃ f G Z1 as1 s1, v = .ref f ∧ FnAt X k f G ∧ SR (ctOf X) B Z1 σ H1 as1 s1 ∧ Ext B Z Z1 ∧ as <+: as1 ∧
      After (ctOf X) W B Z1 as1 σ (fun r s' H' Z' as' => ∀ v, RVR (ctOf X) B Z' σ H' as' s' v r → Q v H') (callF G g s1)) I
  refine wpAny_bind (thn (hread ?_) fun v s1 hh => ?_)
  · have J2 := J.hold hl nz nb fr
    refine ⟨.ref l, hs, _, Z, as, st, J2, ((After.bind h).hold nz nb).imp fun d s1 H1 Z1 as1 I1 E1 P1 hh w rw' => ?_⟩
    obtain ⟨h1, I1', E1', _, _, hq, _⟩ := hh
    cases d with
    | int j =>
      cases rw'
      dsimp only at h1
      cases e1 : atI Gs j with
      | none => rw [e1] at h1; exact h1.elim
      | some G =>
        rw [e1] at h1
        obtain ⟨f, e2, hf2⟩ := paired_atI hF e1
        have e3 : atI (fs.map V.ref) j = some (V.ref f) := by
          unfold atI at e2 ⊢
          rw [List.length_map]
          cases e4 : ixN fs.length j with
          | none => rw [e4] at e2; cases e2
          | some m =>
            rw [e4] at e2
            show (fs.map V.ref)[m]? = _
            rw [List.getElem?_map, show fs[m]? = some f from e2]; rfl
        exact .inl ⟨l, fs.map V.ref, j, .ref f, rfl, rfl, .inl (.inl hq), e3, f, G, Z1, as1, s1, rfl, hf2, I1', E1', P1, h1⟩
    | _ => exact h1.elim
  · obtain ⟨x, H1, I1, r1, f, G, Z1, as1, st1, ex, hf2, J1, E1, P1, h1⟩ := hh
    subst ex
    obtain rfl : v = Value.ref f := r1
    obtain ⟨fd, ps, F1, kf, bn⟩ := hf2
    have hb : PA X (e :: es) (rL (ctOf X) W g) := ha
    refine PySem.W.callWith_K (h₀ := X.base) I1.ok.mod.kin kf (thn (hb.run pos pins s1 σ H1 (fun vs H2 => spP (ctOf X) G vs H2 Q (WE W σ)) I1 ⟨B, Z1, as1, st1, J1, (After.bind h1).imp fun ds s2 H2 Z2 as2 I2 E2 P2 h2 vs rvs => sp_call I2 rvs h2⟩) fun us s2 ⟨vs, H2, I2, r2, q2⟩ => ⟨I2.kIn, ?_⟩) he hpl
    exact run_fnS F1 b.hr bn (passAt b.tk σ) I2 r2 q2
theorem paired_append {α β : Type} {F : α → β → Prop} {l l' : List α} {m m' : List β} (h : Paired F l m) (h' : Paired F l' m') : Paired F (l ++ l') (m ++ m') := by
  induction h with
  | nil => exact h'
  | cons a _ ih => exact .cons a ih
/-- fs = [..]; fs.extend([..]); return fs[i](..) -/
def sFns (i : Nat) (Gs : List (List D → PR)) (fi : DM D) (g : DM (List D)) : DM Fl := fun s => if i < s.env.length then sRet (callI Gs fi g) (setSl i .un s) else .bad
theorem dss_fns (i : Nat) {own : Str} {ns ns2 : List Expr} {Gs Gs2 : List (List D → PR)} {ix e : Expr} {es : List Expr} {p p1 p2 p3 p4 p5 p6 ap pc pos pos2 pos3 : Pos} {fi : DM D} {g : DM (List D)} (b : Bd X W k) (hnd : X.N.Nodup) (hG : FnEs X k ns Gs) (hG2 : FnEs X k ns2 Gs2) (hi : DE X W ix fi) (ha : DL X W (e :: es) g)
    (hpx : PlainIx ix := by exact fun _ _ => rfl) (hlen : Gs.length + Gs2.length ≤ 1000 := by decide)
    (hN : X.N[i]? = some own := by rfl) (hv : Vis X.env.scope own := by first | exact Or.inl rfl | exact Or.inr (Or.inl rfl) | exact Or.inr (Or.inr rfl)) (hd : (own == ("__debug__" : Str)) = false := by decide) (hcd : (own == ("__classdict__" : Str)) = false := by decide)
    (hx : Loc X.env.scope own := by first | exact Or.inl rfl | exact Or.inr rfl)
    (hs : swapsWith (.List ns p1) (some (.Name own p)) pos.line X.env = pure false := by rfl) (hf : X.fn own = true ∨ X.env.scope.names.lookup own = some .local := by first | exact .inl rfl | exact .inr rfl)
    (hbase : attributeBase (.Name own p2) "extend" X.env (eval (.Name own p2) X.env) = eval (.Name own p2) X.env := by rfl)
    (hfew : ((backTo pos2 (starEach [.List ns2 p3] X.env)).all (fun x => !x.1) && (backToKw pos2 (keywordEach [] X.env)).all (fun x => x.1.isSome)
      && decide (([.List ns2 p3] : List Expr).length + ([] : List Keyword).length + (if ([] : List Keyword).isEmpty then 0 else 1) < 30)) = true := by rfl)
    (hline : (ap.endLine == pos2.line) = true := by rfl) (hs2 : starEach [.List ns2 p3] X.env = (false, eval (.List ns2 p3) X.env) :: starEach [] X.env := by rfl) (hplain : (backTo pos2 (starEach [] X.env)).any (·.1) = false := by rfl)
    (hsw : swapsWith (.Call (.Attribute (.Name own p2) "extend" ap) [.List ns2 p3] [] pos2) none p4.line X.env = pure false := by rfl)
    (he : starEach (e :: es) X.env = (false, eval e X.env) :: starEach es X.env := by rfl) (hpl : (backTo pc (starEach es X.env)).any (·.1) = false := by rfl) :
    DSs X W [.Assign [.Name own p] (.List ns p1) pos, .Expr (.Call (.Attribute (.Name own p2) "extend" ap) [.List ns2 p3] [] pos2) p4, .Return (some (.Call (.Subscript (.Name own p5) ix p6) (e :: es) [] pc)) pos3] (sFns i (Gs ++ Gs2) fi g) := by
  obtain ⟨fs, hp, hF⟩ := hG.at
  obtain ⟨fs2, hp2, hF2⟩ := hG2.at
  have hl1 := paired_length hF
  have hl2 := paired_length hF2
  refine pss_imp (pss_cons (ps_set (i := i) hnd hN hx (pe_lst hp) hs hf) (pss_cons (ps_expr (pe_bm PySem.F.plainAttrs_list PySem.F.slot_list_extend PySem.F.type_list_extend mt_extend (pe_var hN hv hd hcd) (pa_cons (pe_lst hp2) pa_nil hs2) hbase hfew hline hs2 hplain) hsw)
    (pss_one (ps_ret (pe_fns (W := W) (i := i) (Gs := Gs ++ Gs2) b hi ha hpx hN hv hd hcd he hpl))))) fun Dd σ H hh => ?_
  obtain ⟨B, Z, as, s, I, h⟩ := hh
  unfold sFns at h
  split at h
  · rename_i hil
    have hsl : i < σ.length := by rw [paired_length I.env]; exact hil
    refine ⟨small_line (by rw [List.length_map]; omega), fun l nl => ?_⟩
    have nz : Z l = none := I.zh.free nl
    have nb : B l = none := I.bh.free nl
    have I1 := I.fresh (o := .lst (fs.map V.ref)) nl
    refine ⟨.ref l, by rw [List.getElem?_set_self hsl], .inl ⟨rfl, _, .inl (.inl upd_same)⟩, small_line (by rw [List.length_map]; omega), fun q nq => ?_⟩
    have ne : l ≠ q := by
      rintro rfl
      rw [upd_same] at nq; cases nq
    have I2 := I1.fresh (o := .lst (fs2.map V.ref)) nq
    refine ⟨l, q, _, _, rfl, rfl, by rw [upd_ne ne, upd_same], upd_same, small_line (by rw [List.length_map, List.length_map]; omega), ?_⟩
    have I3 := I2.poke (p := l) (o := .lst ((fs ++ fs2).map V.ref)) nz nb (I.free_new nl)
    have I4 := I3.store (i := i) (v := .ref l) (sl := .un) trivial (fun z => nomatch z)
    refine ⟨l, fs ++ fs2, B, Z, as, setSl i .un s, paired_append hF hF2, by rw [List.getElem?_set_self hsl], by rw [upd_same, List.map_append], nz, nb, ⟨(I.free_new nl).1, fun j sl e1 e2 => ?_⟩, ?_, ?_⟩
    · by_cases hj : i = j
      · subst hj
        unfold setSl at e2
        dsimp only at e2
        rw [List.getElem?_set_self hil] at e2
        cases e2; rfl
      · unfold setSl at e2
        dsimp only at e2
        rw [List.getElem?_set_ne hj] at e1 e2
        exact (I.free_new nl).2 j sl e1 e2
    · rw [List.map_append] at I4
      exact I4
    · exact (AfterS.bind h).imp fun r s1 H1 Z1 as1 I1 E1 P1 h1 v rv => h1 v _ H1 Z1 as1 I1 .refl (List.prefix_refl _) rv
  · exact h.elim
end
end DL

/-! DLT: a desk: [x for x, y in cell], len(o) by an own __len__, return A if isinstance(error, C) else B, call().append(None). -/
namespace DL
open PySem PySem.Spec PyProof.Rows L2

/-! ### [x for x, y in cell] -/
def fstD : D → Option D
  | .tuple [a, _] => some a
  | _ => none
def fstsD : List D → Option (List D)
  | [] => some []
  | d :: ds => (fstD d).bind fun a => (fstsD ds).map fun as => a :: as
def eFst (i j : Nat) (fo : DM Nat) : DM RV := bindM fo fun g => fun s => match (lstC g s).bind fstsD with
  | some ds => if decide (ds.length ≤ 1000) && decide (i < s.env.length) && decide (j < s.env.length) then .ok (.fl ds) s else .bad
  | none => .bad
section
variable {C : Ct} {Z : Hp}
/-- the items: pairs -/
def PairsV (K : PySem.W.Frag) (Z : Hp) (xs fs : List V) : Prop := Paired (fun x a => ∃ q b, x = .ref q ∧ SqT K Z q [a, b]) xs fs
theorem fsts_rep : ∀ {xs : List V} {ds es : List D}, Reps C Z xs ds → fstsD ds = some es → ∃ fs, PairsV C.K Z xs fs ∧ Reps C Z fs es
  | _, _, _, .nil, h => by cases h; exact ⟨[], .nil, .nil⟩
  | _, _, _, .cons (d := d) (ds := ds) r t, h => by
    unfold fstsD at h
    obtain ⟨a, ha, h⟩ := Option.bind_eq_some_iff.mp h
    obtain ⟨as, has, rfl⟩ := Option.map_eq_some_iff.mp h
    obtain ⟨fs, h1, h2⟩ := fsts_rep t has
    unfold fstD at ha
    split at ha
    · cases ha
      cases r with
      | tup hq hr =>
        cases hr with
        | cons r1 hr =>
          cases hr with
          | cons r2 hr =>
            cases hr
            exact ⟨_ :: fs, .cons ⟨_, _, rfl, hq⟩ h1, .cons r1 h2⟩
    · cases ha
end
section
variable {X : Cx} {W : WX} {k : Nat} {scope : Scope} {pos : Pos}
theorem df_fst {own : List (Str × Nat)} (i j : Nat) {x y : Str} {iter : Expr} {p1 p2 p3 p4 : Pos} {kt} {fo : DM Nat} (b : Bd X W k) (hN : X.N.Nodup) (ho : DC X W iter fo) (ok : BlkOk X.N X.env.scope scope own) (hi : i ∈ own.map (·.2) := by decide) (hj : j ∈ own.map (·.2) := by decide) (hij : i ≠ j := by decide)
    (hx : X.N[i]? = some x := by rfl) (hy : X.N[j]? = some y := by rfl) (hd : (x == ("__debug__" : Str)) = false := by decide) (hcd : (x == ("__classdict__" : Str)) = false := by decide)
    (hv : ∀ (s : Shared) (H : Hp) (C : Addr) (cl : List (Str × Addr)) (fp : List Addr), Vis (X.blk s H scope (compEnvC scope cl C X.env) fp).env.scope x := by intros; first | exact Or.inl rfl | exact Or.inr (Or.inl rfl) | exact Or.inr (Or.inr rfl))
    (hlx : ∀ (s : Shared) (H : Hp) (C : Addr) (cl : List (Str × Addr)) (fp : List Addr), Loc (X.blk s H scope (compEnvC scope cl C X.env) fp).env.scope x := by intros; first | exact Or.inl rfl | exact Or.inr rfl)
    (hly : ∀ (s : Shared) (H : Hp) (C : Addr) (cl : List (Str × Addr)) (fp : List Addr), Loc (X.blk s H scope (compEnvC scope cl C X.env) fp).env.scope y := by intros; first | exact Or.inl rfl | exact Or.inr rfl)
    (hfx : ∀ (s : Shared) (H : Hp) (C : Addr) (cl : List (Str × Addr)) (fp : List Addr), (X.blk s H scope (compEnvC scope cl C X.env) fp).fn x = true ∨ (X.blk s H scope (compEnvC scope cl C X.env) fp).env.scope.names.lookup x = some .local := by intros; first | exact .inl rfl | exact .inr rfl)
    (hfy : ∀ (s : Shared) (H : Hp) (C : Addr) (cl : List (Str × Addr)) (fp : List Addr), (X.blk s H scope (compEnvC scope cl C X.env) fp).fn y = true ∨ (X.blk s H scope (compEnvC scope cl C X.env) fp).env.scope.names.lookup y = some .local := by intros; first | exact .inl rfl | exact .inr rfl)
    (hn : ∀ (s : Shared) (H : Hp) (C : Addr) (cl : List (Str × Addr)) (fp : List Addr), (assignEach [.Name x p2, .Name y p3] (X.blk s H scope (compEnvC scope cl C X.env) fp).env).length = 2 := by intros; rfl)
    (hst : ∀ (s : Shared) (H : Hp) (C : Addr) (cl : List (Str × Addr)) (fp : List Addr), (assignEach [.Name x p2, .Name y p3] (X.blk s H scope (compEnvC scope cl C X.env) fp).env).findIdx? (·.1) = none := by intros; rfl)
    (hs : ∀ z, foldedSetIterable iter X.env z = pure z := by intro _; rfl) :
    DF X W (.ListComp (.Name x p1) [⟨.Tuple [.Name x p2, .Name y p3] kt p4, iter, [], 0⟩] scope pos) (eFst i j fo) := by
  refine pe_imp (pe_lc (g := gTup X.K 2 (gCons (gName i) (gCons (gName j) gNil))) (tt := _) (te := tVar i) b.calm hN (pi_list ho) ok
    (fun s H C cl fp => pg_tup b.calm (pgs_cons (pg_name hN hx (hlx s H C cl fp) (hfx s H C cl fp)) (pgs_cons (pg_name hN hy (hly s H C cl fp) (hfy s H C cl fp)) pgs_nil)) (hn s H C cl fp) (hst s H C cl fp))
    (fun s H C cl fp => pts_nil) (fun s H C cl fp => pe_var hx (hv s H C cl fp) hd hcd) hs) fun σ H Q ⟨B, Z, as, s, I, h⟩ => ?_
  refine ⟨B, Z, as, s, I, (After.bind h).imp fun g s1 H1 Z1 as1 I1 E1 P1 h1 q hq => ?_⟩
  cases e0 : lstC g s1 with
  | none => rw [e0] at h1; exact h1.elim
  | some ds =>
    rw [e0] at h1
    cases e1 : fstsD ds with
    | none =>
      rw [show (some ds).bind fstsD = none from e1] at h1
      exact h1.elim
    | some es =>
      rw [show (some ds).bind fstsD = some es from e1] at h1
      dsimp only at h1
      split at h1
      · rename_i hc
        simp only [Bool.and_eq_true, decide_eq_true_eq] at hc
        obtain ⟨⟨hle, hil⟩, hjl⟩ := hc
        obtain ⟨xs, g1, g2, _⟩ := lstC_rep I1 hq e0
        obtain ⟨fs, f1, f2⟩ := fsts_rep g2 e1
        have hfl : fs.length = es.length := f2.length
        have hxl : xs.length = fs.length := paired_length f1
        have hsl : σ.length = s1.env.length := paired_length I1.env
        refine ⟨q, rfl, ⟨xs, .inl (.inl g1)⟩, fun D nD => ?_⟩
        have ne : q ≠ D := by rintro rfl; rw [g1] at nD; cases nD
        refine ⟨fun t m H => m = fs.length - t ∧ t ≤ fs.length ∧ H = upd H1 D (.lst (fs.take t)), ⟨fs.length, rfl, Nat.zero_le _, rfl⟩, ?_⟩
        rintro t m H2 ⟨rfl, ht, rfl⟩
        have hq2 : upd H1 D (.lst (fs.take t)) q = some (.lst xs) := by rw [upd_ne ne]; exact g1
        by_cases hlt : t < fs.length
        · refine .inr ⟨⟨xs, xs[t]'(by omega), .inl (.inl hq2), List.getElem?_eq_getElem (by omega)⟩, fun H' => H' = upd H1 D (.lst (fs.take (t + 1))), fun H' e => ⟨fs.length - (t + 1), by omega, rfl, hlt, e⟩, ?_⟩
          rintro v H' ⟨rfl, hv'⟩
          have hxt := hv' xs (.inl (.inl hq2))
          obtain ⟨a, ha, qa, bb, ea, hqa⟩ := paired_get f1 (List.getElem?_eq_getElem (l := fs) (i := t) hlt)
          rw [ha] at hxt
          cases hxt
          subst ea
          have sm : Same Z1 (upd H1 D (.lst (fs.take t))) := fun c o z => by rw [upd_ne (ne_of_none (I1.zh c o z) nD)]; exact I1.zh c o z
          refine ⟨qa, [fs[t], bb], rfl, sqT_mono sm hqa, rfl, _, _, rfl, _, _, rfl, rfl, ?_⟩
          have hwl : (wipe σ (own.map (·.2))).length = σ.length := wipe_length _ _
          refine ⟨wipe_upto ⟨by rw [List.length_set, List.length_set, hwl], fun m hm => ?_⟩, ?_⟩
          · rw [List.getElem?_set_ne (by rintro rfl; exact hm hj), List.getElem?_set_ne (by rintro rfl; exact hm hi)]
            exact (upto_wipe _ σ).2 m hm
          · unfold tYes
            dsimp only
            rw [if_pos rfl]
            refine ⟨fs[t], ?_, fs.take t, upd_same, ?_, ?_⟩
            · rw [List.getElem?_set_ne (by omega), List.getElem?_set_self (by omega)]
            · rw [List.length_take]; exact Nat.lt_of_lt_of_le (show min t fs.length < 1001 by omega) (by decide)
            · rw [L2.upd_upd, List.take_succ, List.getElem?_eq_getElem hlt]
              rfl
        · have e : t = fs.length := by omega
          subst e
          refine .inl ⟨⟨xs, .inl (.inl hq2), by omega⟩, ?_⟩
          rw [List.take_length]
          have I2 := I1.fresh (o := .lst fs) nD
          exact h1 _ _ _ I2 .refl (List.prefix_refl _) _ ⟨D, fs, rfl, I1.zh.free nD, I1.bh.free nD, I1.free_new nD, upd_same, f2⟩
      · exact h1.elim
end

/-! ### len(o), an own __len__ -/
def rLenO (C : Ct) (Ca : Addr) (G : List Sl → List Cell → FR) : List V → Hp → VK → Prop := fun xs H Q => ∃ a dx fs, xs = [.ref a] ∧ H a = some (.ins Ca dx fs) ∧ spM C G [.ref a] H (fun v H2 => ∃ n : Int, v = .int n ∧ 0 ≤ n ∧ n < 2 ^ 62 ∧ Q (.int n) H2) (WE W0 [])
section
variable {X : Cx} {W : WX} {k k' : Nat} {c : Str} {Ca f : Addr} {fd : FuncData} {ps : List Str} {G : List Sl → List Cell → FR} {o : Expr} {fo : DM Nat} {pos p : Pos}
theorem call_lenO (hm : Meth X.K Ca "__len__" f) (F : FnOk X.prog X.w X.K X.mg X.base (L2.CX X.prog X.w) k f fd ps (spM (ctOf X) G)) (hr : Room (k + 1) X.A) (bn : Binds X.K fd ps []) : CallR X (.builtin "len") (rLenO (ctOf X) Ca G) := by
  intro pins s σ H xs us Q I r h
  obtain ⟨a, dx, fs, rfl, ha, h⟩ := h
  obtain ⟨u, rfl, rx⟩ := Vals.one r
  obtain rfl : u = Value.ref a := rx
  obtain ⟨mA, J, _⟩ := ins_get I.hok ha
  obtain ⟨od, J, _⟩ := J.look
  refine Calls.call_function_entry kind_len plain_len entry_len (args_len1 _) ?_
  unfold Builtin.«len»
  refine wpAny_bind (m := oneArg "len" _) (wpAny_pure ?_)
  have hl : [Value.ref a].length = ps.length := F.len _ _ _ _ h
  have b := bn s [Value.ref a] I.kIn (by rw [List.append_nil]; exact hl)
  rw [List.append_nil] at b
  have hf : PySem.W.typeIn X.K (.ref f) = some (.type "function") := beq_iff_eq.mp hm.fn
  have hcall : wpAny (model X.prog X.w) X.A.in1 (call (.ref f) [.ref a]) (EP X pins σ (fun v H2 => ∃ n : Int, v = .int n ∧ 0 ≤ n ∧ n < 2 ^ 62 ∧ Q (.int n) H2)) X.xe s := by
    refine wpAny_call (codeAny_mono (F.run X.A.in1 X.stack s H ⟨[.ref a], []⟩ [.ref a] [.ref a] _ (WE W0 []) hr.in1 I.env0.in1 b (.cons rfl .nil) h) fun r s' hq => ?_)
    cases r with
    | error e => exact passAt takes0 σ pins H s e s' I hq
    | ok fl =>
      cases fl with
      | ret u => exact I.after hq
      | next => exact False.elim hq
      | brk => exact False.elim hq
      | cont => exact False.elim hq
  refine wpAny_bind (m := callSpecial? (.ref a) (Str.ofString "__len__")) (PySem.W.special_fn I.kIn J hm.at_ hf (wpAny_mono hcall (fun r s' hr => ?_) fun _ _ y => y))
  obtain ⟨v, H', I', rv, n, rfl, h0, h1, hq⟩ := hr
  obtain ⟨t, rfl⟩ := rv
  refine wpAny_bind (wpAny_holding (wpAny_pure ?_))
  refine wpAny_bind (wpAny_letGo ?_)
  show wpAny _ _ (if n < 0 then _ else _) _ _ _
  rw [if_neg (by omega)]
  show wpAny _ _ (if n ≥ 2 ^ 63 then _ else _) _ _ _
  rw [if_neg (by omega)]
  exact wpAny_bind (wpAny_mkInt (wpAny_pure ⟨_, rfl, .int n, H', I'.tok _, ⟨_, rfl⟩, hq⟩))
def lenOk2 (n : Int) : Bool := decide (0 ≤ n) && decide (n < 2 ^ 62)
def eLenO (c : Str) (G : List Sl → List Cell → FR) (fo : DM Nat) : DM D := bindM fo fun g => fun s => match insOf c g s with
  | some _ => (match G [.cell g] s.st with
    | .ok (.d (.int n)) st => if lenOk2 n then .ok (.int n) { s with st := st } else .bad
    | _ => .bad)
  | none => .bad
theorem de_lenO (b : Bd X W k) (M : MtM X.prog X.w X.K X.mg X.base c "__len__" k' G) (ho : DC X W o fo) (ml : X.mg "len" = none) (hk : k' + 1 ≤ k := by decide) (hg : Gl X "len" := by rfl)
    (he : starEach [o] X.env = (false, eval o X.env) :: starEach [] X.env := by rfl) (hpl : (backTo pos (starEach [] X.env)).any (·.1) = false := by rfl) : DE X W (.Call (.Name "len" p) [o] [] pos) (eLenO c G fo) := by
  obtain ⟨Ca, f, fd, ps, gc, cl, hm, F, bn⟩ := M.ex
  refine pe_imp (pe_callB (call_lenO hm F (b.hr.mono hk) bn) hg ml (by decide +kernel) (pa_cons ho pa_nil he) (by decide) (by decide) he hpl) fun σ H Q ⟨B, Z, as, s, I, h⟩ => ?_
  refine ⟨B, Z, as, s, I, (After.bind h).imp fun g s1 H1 Z1 as1 I1 E1 P1 h1 q hq => ?_⟩
  cases e1 : insOf c g s1 with
  | none => rw [e1] at h1; exact h1.elim
  | some fs =>
    rw [e1] at h1
    dsimp only at h1
    obtain ⟨Ca', dx, vs, z1, z2, z3⟩ := ins_rep I1 hq e1
    have : Value.ref Ca' = .ref Ca := Option.some.inj (z1.symm.trans gc)
    cases this
    refine ⟨q, dx, vs, rfl, z2, ?_⟩
    show spM (ctOf X) G [V.ref q] H1 _ (WE W0 σ)
    refine sp_callM (W := W0) (vs := [.ref q]) (args := [.cell g]) I1 (.cons hq .nil) (fun sl hm => by rw [List.mem_singleton.mp hm]; rfl) ?_
    unfold frR'
    cases e2 : G [.cell g] s1.st with
    | bad => rw [e2] at h1; exact h1.elim
    | exc c' st => rw [e2] at h1; exact h1.elim
    | ok r st =>
      rw [e2] at h1
      cases r with
      | d x =>
        cases x with
        | int n =>
          dsimp only at h1
          split at h1
          · rename_i hn
            unfold lenOk2 at hn
            simp only [Bool.and_eq_true, decide_eq_true_eq] at hn
            intro H2 Z2 as2 I2 E2 P2 v rv
            cases rv
            exact ⟨n, rfl, hn.1, hn.2, h1 H2 Z2 as2 I2 E2 P2 (.int n) (.int n)⟩
          · exact h1.elim
        | _ => exact h1.elim
      | _ => exact h1.elim
end

/-! ### except SumError as n: return False if isinstance(n, C) else None -/
def tIx (i : Nat) (a : Addr) (b : Bool) : TE := fun σ H Q => σ[i]? = some (some (.ref a)) ∧ Q (.bl b) H
section
variable {X : Cx} {a D : Addr} {oe : Obj} {b : Bool} {n y : Str} {p p1 p2 pos : Pos}
theorem pe_isX (i : Nat) {Cy : Addr} (h : Hand X a D oe) (mi : X.mg "isinstance" = none) (gy : X.mg y = some (.ref Cy)) (hk : PySem.W.kitOne X.K (.ref D) (.ref Cy) = some b) (hN : X.N[i]? = some n := by rfl) (hv : Vis X.env.scope n := by first | exact Or.inl rfl | exact Or.inr (Or.inl rfl) | exact Or.inr (Or.inr rfl)) (hd : (n == ("__debug__" : Str)) = false := by decide) (hcd : (n == ("__classdict__" : Str)) = false := by decide)
    (hg : Gl X "isinstance" := by rfl) (hgy : Gl X y := by rfl) (hdy : (y == ("__debug__" : Str)) = false := by decide)
    (hs1 : starEach [.Name n p1, .Name y p2] X.env = (false, eval (.Name n p1) X.env) :: starEach [.Name y p2] X.env := by rfl) (hs2 : starEach [.Name y p2] X.env = (false, eval (.Name y p2) X.env) :: starEach [] X.env := by rfl)
    (hpl : (backTo pos (starEach [.Name y p2] X.env)).any (·.1) = false := by rfl) : PE X (.Call (.Name "isinstance" p) [.Name n p1, .Name y p2] [] pos) (tIx i a b) := by
  refine pe_imp (pe_callB (call_isP h.C h.hp h.hz h.hf) hg mi (by decide +kernel) (pa_cons (pe_var hN hv hd hcd) (pa_cons (pe_glob hgy gy (v := .ref Cy) rfl hdy) pa_nil hs2) hs1) (by decide) (by decide) hs1 hpl) fun σ H Q h => ?_
  exact ⟨.ref a, h.1, .ref Cy, .ref Cy, b, rfl, fun u z => z, hk, h.2⟩
end
def isD (b : Bool) : D := if b then .bool false else .none
def whI (cs : List Str) (y c : Str) : Option D := if cs.contains c then some (isD (c == y)) else none
section
variable {X : Cx} {W : WX} {k : Nat}
theorem pss_retIs (i : Nat) {a : Addr} {oe : Obj} {pn : List (Addr × Obj)} {kn : List Str} {c x y : Str} {Ca : Addr} {p p1 p2 pos pos2 pa pb pi : Pos} {ja jb} (hx : XcOk X.K X.mg kn c Ca) (hy : y ∈ kn) (hz : Zc (.ref Ca) none oe) (hf : ∃ vs, oe.data = .fields vs) (mi : X.mg "isinstance" = none)
    (hN : X.N[i]? = some x := by rfl) (hv : Vis X.env.scope x := by first | exact Or.inl rfl | exact Or.inr (Or.inl rfl) | exact Or.inr (Or.inr rfl)) (hg : Gl X "isinstance" := by rfl) (hgy : Gl X y := by rfl) (hdx : (x == ("__debug__" : Str)) = false := by decide) (hcx : (x == ("__classdict__" : Str)) = false := by decide) (hdy : (y == ("__debug__" : Str)) = false := by decide)
    (hs1 : starEach [.Name x p1, .Name y p2] X.env = (false, eval (.Name x p1) X.env) :: starEach [.Name y p2] X.env := by rfl) (hs2 : starEach [.Name y p2] X.env = (false, eval (.Name y p2) X.env) :: starEach [] X.env := by rfl)
    (hpl : (backTo pos (starEach [.Name y p2] X.env)).any (·.1) = false := by rfl) :
    PSs (X.suite a ((a, oe) :: pn)) [.Return (some (.IfExp (.Call (.Name "isinstance" p) [.Name x p1, .Name y p2] [] pos) (.Constant (.bool false) ja pa) (.Constant .none jb pb) pi)) pos2] (tSu (ctOf X) i a (isD (c == y))) := by
  obtain ⟨Cy, gy, ky⟩ := hx.e y hy
  have hh : Hand (X.suite a ((a, oe) :: pn)) a Ca oe := ⟨hx.C, List.mem_cons_self, hz, hf⟩
  refine pss_imp (pss_one (ps_ret (pe_ifExp (pt_val (pe_isX (X := X.suite a ((a, oe) :: pn)) i hh mi gy ky hN hv hdx hcx hg hgy hdy hs1 hs2 hpl)) pe_bl pe_non))) fun Dd σ H h => ?_
  obtain ⟨h0, B, Z, as, s, I, h1⟩ := h
  refine ⟨h0, _, rfl, ?_⟩
  cases hc : (c == y) with
  | true =>
    rw [hc] at h1
    rw [if_pos rfl]
    exact h1 _ _ _ I .refl (.bl false)
  | false =>
    rw [hc] at h1
    rw [if_neg Bool.false_ne_true]
    exact h1 _ _ _ I .refl .non
/-- try: .. except SumError as n: return False if isinstance(n, y) else None -/
theorem ds_tryIs (i : Nat) (kn cs : List Str) {n y : Str} {body : List Stmt} {np p p1 p2 pc pa pb pi pos pos' pos2 : Pos} {ja jb} {fb : DM Fl} (b : Bd X W k) (hN : X.N.Nodup) (gs : ∃ Cs, X.mg "SumError" = some (.ref Cs)) (xc : ∀ c ∈ cs, ∃ Ca, XcOk X.K X.mg kn c Ca) (mi : X.mg "isinstance" = none)
    (hbody : ∀ (W : WX) (pn : List (Addr × Obj)) (xe : Value → Shared → Prop), Bd (X.tr pn xe) W k → DSs (X.tr pn xe) W body fb) (hy : y ∈ kn := by decide)
    (hi : X.N[i]? = some n := by rfl) (hs : X.stack = X.env :: X.outer := by rfl) (hf : X.env.frame = some X.env.locals := by rfl) (hln : X.env.kindOf n = some .local := by rfl) (hg : Gl X "SumError" := by rfl)
    (hv : Vis X.env.scope n := by first | exact Or.inl rfl | exact Or.inr (Or.inl rfl) | exact Or.inr (Or.inr rfl)) (hgi : Gl X "isinstance" := by rfl) (hgy : Gl X y := by rfl) (hdx : (n == ("__debug__" : Str)) = false := by decide) (hcx : (n == ("__classdict__" : Str)) = false := by decide) (hdy : (y == ("__debug__" : Str)) = false := by decide)
    (hs1 : starEach [.Name n p1, .Name y p2] X.env = (false, eval (.Name n p1) X.env) :: starEach [.Name y p2] X.env := by rfl) (hs2 : starEach [.Name y p2] X.env = (false, eval (.Name y p2) X.env) :: starEach [] X.env := by rfl)
    (hpl : (backTo pc (starEach [.Name y p2] X.env)).any (·.1) = false := by rfl) :
    DS X W (.Try body [.ExceptHandler (some (.Name "SumError" np)) (some n) [.Return (some (.IfExp (.Call (.Name "isinstance" p) [.Name n p1, .Name y p2] [] pc) (.Constant (.bool false) ja pa) (.Constant .none jb pb) pi)) pos2] pos'] [] [] pos) (sTryW i (whI cs y) fb) := by
  obtain ⟨Cs, gs⟩ := gs
  refine ds_tryW i (whI cs y) b hN gs hbody (fun c d Ca hw gc => ?_) hi hs hf hln hg
  unfold whI at hw
  split at hw
  · rename_i hcc
    cases hw
    have hc : c ∈ cs := by simpa using hcc
    obtain ⟨Ca', hx⟩ := xc c hc
    obtain rfl : Ca = Ca' := by
      have := gc.symm.trans hx.g
      cases this; rfl
    obtain ⟨Cs', g', ex⟩ := hx.s
    obtain rfl : Cs = Cs' := by
      have := gs.symm.trans g'
      cases this; rfl
    exact ⟨ex, fun a oe pn hz hfs => pss_retIs i hx hy hz hfs mi hi hv hgi hgy hdx hcx hdy hs1 hs2 hpl⟩
  · cases hw
end

/-! ### f().append(None): on a list that nobody keeps -/
def fAppTN (fv : DM RV) : DM RV := bindM fv fun r => match r with
  | .fl ds => if lenOk ds.length then pureM (.d .none) else badM
  | _ => badM
section
variable {X : Cx} {W : WX} {o : Expr} {fv : DM RV} {pos apos pn : Pos} {jn}
theorem df_appTN (ho : DF X W o fv)
    (hbase : attributeBase o "append" X.env (eval o X.env) = eval o X.env := by rfl)
    (hfew : ((backTo pos (starEach [.Constant .none jn pn] X.env)).all (fun x => !x.1) && (backToKw pos (keywordEach [] X.env)).all (fun x => x.1.isSome)
      && decide ([Expr.Constant .none jn pn].length + ([] : List Keyword).length + (if ([] : List Keyword).isEmpty then 0 else 1) < 30)) = true := by rfl)
    (hline : (apos.endLine == pos.line) = true := by rfl) (hs : starEach [.Constant .none jn pn] X.env = (false, eval (.Constant .none jn pn) X.env) :: starEach [] X.env := by rfl) (hplain : (backTo pos (starEach [] X.env)).any (·.1) = false := by rfl) :
    DF X W (.Call (.Attribute o "append" apos) [.Constant .none jn pn] [] pos) (fAppTN fv) := by
  refine pe_imp (pe_bm PySem.F.plainAttrs_list PySem.F.slot_list_append PySem.F.type_list_append mt_append ho (pa_cons pe_non pa_nil hs) hbase hfew hline hs hplain) fun σ H Q ⟨B, Z, as, s, I, h⟩ => ?_
  refine ⟨B, Z, as, s, I, (After.bind h).imp fun r s1 H1 Z1 as1 I1 E1 P1 h1 v rv => ?_⟩
  cases r with
  | fl ds =>
    obtain ⟨q, xs, rfl, nz, nb, fr, hH, hr⟩ := rv
    dsimp only at h1
    split at h1
    · rename_i hl
      have hlen : xs.length < sizeLine := by rw [hr.length]; exact lenOk_line hl
      exact ⟨.inl ⟨rfl, xs, .inl (.inl hH)⟩, q, xs, .non, rfl, rfl, hH, hlen, h1 _ _ _ (I1.poke nz nb fr) .refl (List.prefix_refl _) .non .non⟩
    · exact h1.elim
  | _ => exact h1.elim
end

/-! ### steps -/
section
variable {s : S} {e : List Sl} {st : List Cell} {c : Str} {fo : DM Nat} {fv : DM RV} {g i j : Nat} {G : List Sl → List Cell → FR}
def fstsO (o : Option (List D)) : Option (List D) := o.bind fstsD
theorem v_fstsO {ds : List D} : fstsO (some ds) = fstsD ds := rfl
def eFstr (i j : Nat) (o : Option (List D)) (s : S) : R RV := match o with
  | some ds => if decide (ds.length ≤ 1000) && decide (i < s.env.length) && decide (j < s.env.length) then .ok (.fl ds) s else .bad
  | none => .bad
def eFstk (i j g : Nat) (s : S) : R RV := eFstr i j (fstsO (lcl (cl? s.st g))) s
theorem v_eFst : eFst i j fo s = thenR (fo s) (eFstk i j) := rfl
theorem v_eFstk : eFstk i j g ⟨e, st⟩ = eFstr i j (fstsO (lcl (cl? st g))) ⟨e, st⟩ := rfl
theorem v_eFstr {ds : List D} : eFstr i j (some ds) ⟨e, st⟩ = if (decide (ds.length ≤ 1000) && decide (i < e.length) && decide (j < e.length)) = true then .ok (.fl ds) ⟨e, st⟩ else .bad := rfl
def lenOb (r : FR) (e : List Sl) : R D := match r with
  | .ok (.d (.int n)) st => if lenOk2 n then .ok (.int n) ⟨e, st⟩ else .bad
  | _ => .bad
def lenOc (G : List Sl → List Cell → FR) (g : Nat) (s : S) (b : Bool) : R D := match b with
  | true => lenOb (G [.cell g] s.st) s.env
  | false => .bad
def eLenOk (c : Str) (G : List Sl → List Cell → FR) (g : Nat) (s : S) : R D := lenOc G g s (fcl c (cl? s.st g)).isSome
theorem v_eLenO : eLenO c G fo s = thenR (fo s) (eLenOk c G) := by
  have key : ∀ g s, (match insOf c g s with
    | some _ => (match G [.cell g] s.st with
      | .ok (.d (.int n)) st => if lenOk2 n then R.ok (PyData.int n) { s with st := st } else .bad
      | _ => .bad)
    | none => .bad) = eLenOk c G g s := by
    intro g s
    unfold eLenOk lenOc lenOb
    show _ = (match (insOf c g s).isSome with
      | true => _
      | false => _)
    cases insOf c g s <;> rfl
  unfold eLenO bindM thenR
  cases fo s with
  | ok g s' => exact key g s'
  | _ => rfl
theorem v_eLenOk : eLenOk c G g ⟨e, st⟩ = lenOc G g ⟨e, st⟩ (fcl c (cl? st g)).isSome := rfl
theorem v_lenOc : lenOc G g ⟨e, st⟩ true = lenOb (G [.cell g] st) e := rfl
theorem v_lenOb {n : Int} : lenOb (.ok (.d (.int n)) st) e = if lenOk2 n = true then .ok (.int n) ⟨e, st⟩ else .bad := rfl
def appTNk (r : RV) (s : S) : R RV := match r with
  | .fl ds => if lenOk ds.length then .ok (.d .none) s else .bad
  | _ => .bad
theorem v_fAppTN : fAppTN fv s = thenR (fv s) appTNk := by
  unfold fAppTN bindM thenR
  cases fv s with
  | ok r s' =>
    cases r with
    | fl ds => unfold appTNk; by_cases h : lenOk ds.length = true <;> simp only [h, if_true, if_false] <;> rfl
    | _ => rfl
  | _ => rfl
theorem v_appTNk {ds : List D} : appTNk (.fl ds) s = if lenOk ds.length = true then .ok (.d .none) s else .bad := rfl
end
end DL

/-! DLU: d.get(k, c). -/
namespace DL
open PySem PySem.Spec PyProof.Rows L2
section
variable {X : Cx} {W : WX}
def tDGetD2 (C : Ct) (td ty tz : TE) : TE := fun σ H Q => td σ H fun x H1 => (∃ p Z kvs, x = .ref p ∧ DicR C Z H1 p kvs) ∧ ty σ H1 fun y H2 => tz σ H2 fun z H3 => ∃ Z p kvs k c, Same Z H3 ∧ x = .ref p ∧ DicR C Z H3 p kvs ∧ Rep C Z y k ∧ Rep C Z z c ∧ (keyT k kvs = true ∨ keyI k kvs = true) ∧ ∀ v, Rep C Z v ((dGet kvs k).getD c) → Q v H3
theorem pe_dgetD2 {o e f : Expr} {apos cpos : Pos} {td ty tz : TE} (hu : X.A.units + 64 < cLine) (ho : PE X o td) (he : PE X e ty) (hf : PE X f tz) (m : M2 X o "get" apos e f cpos) : PE X (.Call (.Attribute o "get" apos) [e, f] [] cpos) (tDGetD2 (ctOf X) td ty tz) := by
  refine ⟨fun pins s σ H Q I h => ?_⟩
  refine wpAny_Call_method m.base m.few m.line PySem.F.plainAttrs_dict PySem.F.slot_dict_get PySem.F.type_dict_get (thn (ho.run pins s σ H _ I h) fun u s1 ⟨x, H1, I1, rx, ⟨p, Z1, kvs1, ex, hd1⟩, q1⟩ => ?_)
  subst ex
  obtain rfl : u = Value.ref p := rx
  obtain ⟨_, ⟨o1, es1, ep1, e1, ex1, edat1, _⟩, _⟩ := hd1
  have e1 := dict_obj I1 e1
  refine ⟨⟨o1, e1, ex1.1⟩, fun b q => ?_, ?_⟩
  · cases q
    exact ⟨o1, e1, ex1.2.1⟩
  rw [m.trees]
  refine Calls.callWith_builtin rfl (Calls.evalArgs_plain (Calls.spliced_cons (thn (he.run pins s1 σ H1 _ I1 q1) fun iv s2 ⟨y, H2, I2, ry, q2⟩ =>
    Calls.spliced_cons (thn (hf.run pins s2 σ H2 _ I2 q2) fun fv s3 ⟨z, H3, I3, rz, Z, p', kvs, k, c, zh, ep, hd, rk, rc, hk, q⟩ => Calls.spliced_nil ?_))))
  cases ep
  rcases hk with hk | hk
  · obtain ⟨a, nk, xs, rfl, hkey, hm, e, hp, _⟩ := sees_T I3 zh hd hk (.f rk) ry
    refine call_meetsIn PySem.F.slot_dict_get hm.typeIs PySem.F.entry_dict_get (PySem.F.args_dict_get_3 _ _ _) (meetsH_dict_get_default (nestedKind X.prog X.w) p a hd.ns fv) ⟨room_T hu, nk, xs, hkey, hm, ?_⟩
    have hg := atKey_get e hp
    cases e1 : atKey xs nk with
    | none =>
      cases e2 : dGet kvs k with
      | none => exact ⟨z, H3, I3.tok _, rz, q _ (by rw [e2]; exact rc)⟩
      | some d => rw [e1, e2] at hg; exact hg.elim
    | some pr =>
      cases e2 : dGet kvs k with
      | none => rw [e1, e2] at hg; exact hg.elim
      | some d =>
        rw [e1, e2] at hg
        obtain ⟨vv, h1, h2⟩ := hg
        exact ⟨vv, H3, I3.tok _, h1, q _ (by rw [e2]; exact h2)⟩
  · obtain ⟨i, rfl, rfl, ht⟩ := key_I (H := H3) hk (.f rk)
    obtain ⟨xs, hm, hp⟩ := view_I I3 hd ht
    refine call_meetsIn PySem.F.slot_dict_get hm.typeIs PySem.F.entry_dict_get (PySem.F.args_dict_get_3 _ _ _) (meets_dict_get_default (kiKind X.prog X.w) p (rel_kiIs ry) hd.ns fv) ⟨_, hm.mapOf, ?_⟩
    have hg := get_I (i := i) hp
    cases e1 : valueAt xs i with
    | none =>
      cases e2 : dGet kvs (kiD i) with
      | none => exact ⟨z, H3, I3.tok _, rz, q _ (by rw [e2]; exact rc)⟩
      | some d => rw [e1, e2] at hg; exact hg.elim
    | some pr =>
      cases e2 : dGet kvs (kiD i) with
      | none => rw [e1, e2] at hg; exact hg.elim
      | some d =>
        rw [e1, e2] at hg
        obtain ⟨vv, h1, h2⟩ := hg
        exact ⟨vv, H3, I3.tok _, h1, q _ (by rw [e2]; exact h2)⟩
def eGetM2 (oa : Opd) (fb fc : DM D) : DM D := bindM (evO oa) fun x => fun s => match res s x with
  | some (.dict _) => bindM fb (fun k => bindM fc (fun c => fun s2 => match res s2 x with
    | some (.dict kvs) => if keyT k kvs || keyI k kvs then .ok ((dGet kvs k).getD c) s2 else .bad
    | _ => .bad)) s
  | _ => .bad
theorem de_getM2 {a b c : Expr} {oa : Opd} {fb fc : DM D} {apos cpos : Pos} (hu : X.A.units + 64 < cLine) (ha : DO X W a oa) (hb : DE X W b fb) (hc : DE X W c fc) (m : M2 X a "get" apos b c cpos) : DE X W (.Call (.Attribute a "get" apos) [b, c] [] cpos) (eGetM2 oa fb fc) :=
  pe_imp (pe_dgetD2 hu ha hb hc m) fun σ H Q ⟨B, Z, as, s, I, h⟩ => by
    refine rO_mono (rO_ev I (After.bind h)) fun v H1 ⟨Z1, as1, s1, x, I1, E1, P1, rx, h1⟩ => ?_
    split at h1
    · rename_i kvs0 ex0
      have hb0 := res_rep I1 rx ex0
      obtain ⟨p, rfl, hd0⟩ := hb0.dict I1.zh
      refine ⟨⟨p, Z1, kvs0, rfl, hd0⟩, B, Z1, as1, s1, I1, (After.bind h1).imp fun k s2 H2 Z2 as2 I2 E2 P2 h2 y ry => ?_⟩
      refine ⟨B, Z2, as2, s2, I2, (After.bind h2).imp fun c s3 H3 Z3 as3 I3 E3 P3 h3 z rz => ?_⟩
      split at h3
      · rename_i kvs ex
        have hb1 := res_rep I3 ((rx.mono E2.same P2).mono E3.same P3) ex
        obtain ⟨p', e, hd⟩ := hb1.dict I3.zh
        cases e
        split at h3
        · rename_i hk
          exact ⟨Z3, p, kvs, k, c, I3.zh, rfl, hd, ry.mono E3.same, rz, by simpa using hk, fun v rv => h3 _ _ _ I3 .refl (List.prefix_refl _) v rv⟩
        · exact h3.elim
      · exact h3.elim
    · exact h1.elim
end

/-! ### tuples compared by < -/
section
open PySem.W (alike dataLt)
variable {X : Cx}
def rLtD (X : Cx) : R2 := fun x y H Q => ∃ Z dx dy, Same Z H ∧ Rep (ctOf X) Z x dx ∧ Rep (ctOf X) Z y dy ∧ alike dx dx = true ∧ alike dy dy = true ∧ alike dx dy = true ∧ dx ≠ .none ∧ dx.depth ≤ 60 ∧ Q (.bl (dataLt dx dy)) H
theorem op_ltD (hu : X.A.units + 64 < cLine) : OpR X (compareOp .Lt) (rLtD X) := by
  intro pins s σ H x y v u Q I rx ry h
  obtain ⟨Z, dx, dy, zh, r1, r2, a1, a2, al, hn, hd, q⟩ := h
  obtain ⟨as, ra, _⟩ := reads_of I (r1.mono zh) a1 rx
  obtain ⟨bs, rb, _⟩ := reads_of I (r2.mono zh) a2 ry
  exact PySem.W.rcLt_alike dx dy X.A s v u as bs ra rb al hn (by omega) _ _ _ _ ⟨.bl _, H, I, rfl, q⟩
def gLtD : D → D → Option D
  | .tuple xs, .tuple ys => if alike (.tuple xs) (.tuple xs) && alike (.tuple ys) (.tuple ys) && alike (.tuple xs) (.tuple ys) && decide ((PyData.tuple xs).depth ≤ 60) then some (.bool (dataLt (.tuple xs) (.tuple ys))) else none
  | _, _ => none
theorem of_ltD : Of2 (ctOf X) (rLtD X) gLtD := by
  intro Z H x y dx dy d Q rx ry zh e q
  cases dx with
  | tuple xs =>
    cases dy with
    | tuple ys =>
      unfold gLtD at e
      dsimp only at e
      split at e
      · rename_i hk
        simp only [Bool.and_eq_true, decide_eq_true_eq] at hk
        obtain ⟨⟨⟨h1, h2⟩, h3⟩, h4⟩ := hk
        cases e
        cases rx with
        | f r1 =>
          cases ry with
          | f r2 => exact ⟨Z, _, _, zh, r1, r2, h1, h2, h3, (fun z => nomatch z), h4, q _ (.bl _)⟩
      · cases e
    | _ => cases e
  | _ => cases dy <;> cases e
end

/-! ### xs.extend(a list that is read) -/
theorem list_extendQ (l : Addr) (items : Array Value) (n : Nat) (b : Addr) (items2 : Array Value) (n2 : Nat) (sl : Array (Option Value)) (hc0 : ¬(!items.isEmpty && Builtin.List.listTooLong (items.size + items2.size)) = true) (hc1 : items.size ≤ sizeLine) (hs2 : items.size + items2.size ≤ sizeLine + 1) :
    Meets (Builtin.«list.extend» ⟨[.ref l, .ref b], []⟩) (fun _ R s => s.heap.get? l = some { cls := .type "list", dict := none, data := .seq items n, slots := #[] } ∧ s.heap.get? b = some { cls := .type "list", dict := none, data := .seq items2 n2, slots := sl } ∧ R (.ok (.ret Value.none)) { s with heap := s.heap.update l (Obj.mapSeq fun x => x ++ items2), toks := s.toks }) :=
  .of_wp fun prog w A R s h => by
    obtain ⟨hp, g, d, tk, os⟩ := s; obtain ⟨hl, hb, h⟩ := h; have f1 := AutoSeq1.idx_int; have f2 := AutoSeq1.sub_tuple_tuple; have f3 := AutoSeq1.sub_list_list; have f4 := AutoSeq1.sub_tuple_list; have f5 := AutoSeq1.sub_list_tuple;
    have hz' : (items ++ items2).size ≤ sizeLine + 1 := by rw [Array.size_append]; exact hs2
    wp_walk using (wpAny_updateSeq hl rfl (hz := hc1) (_hz' := hz')), wpAny_loadPart' hl, wpAny_loadPart' hb; exact ⟨_, rfl, h⟩
def rExtendQ (K : PySem.W.Frag) : V → List V → Hp → VK → Prop := fun x vs H Q => ∃ l b xs zs, x = .ref l ∧ vs = [.ref b] ∧ H l = some (.lst xs) ∧ SqL K H b zs ∧ xs.length + zs.length ≤ sizeLine ∧ Q .non (upd H l (.lst (xs ++ zs)))
section
variable {X : Cx} {W : WX} {e : Expr} {fe : DM D} {pos apos px : Pos}
theorem mt_extendQ : MtR X "list.extend" (rExtendQ X.K) := by
  intro pins s σ H x vs v us Q I rx rv h
  obtain ⟨l, b, xs, zs, rfl, rfl, hH, hB, hz, q⟩ := h
  cases rx
  obtain ⟨u, rfl, ru⟩ := rv.one
  cases ru
  obtain ⟨z, its, n, r, hl, e⟩ := I.lstM hH
  obtain ⟨its2, r2, ⟨⟨k1, k2, k3, k4⟩, n2, e2, c1, c2, c3⟩, hl2⟩ := I.list hB
  dsimp only at c1 c2 c3
  subst c1 c2 c3
  have h1 := r.length
  have h2 := r2.length
  have hsz : its.toArray.size + its2.toArray.size ≤ sizeLine := by rw [List.size_toArray, List.size_toArray]; omega
  have hlong : ¬ (!its.toArray.isEmpty && Builtin.List.listTooLong (its.toArray.size + its2.toArray.size)) = true := by
    rw [notLongL hsz, Bool.and_false]
    exact Bool.false_ne_true
  refine call_meets PySem.F.slot_list_extend ⟨_, e, rfl⟩ PySem.F.entry_list_extend (PySem.F.args_list_extend_2 _ _)
    (list_extendQ l its.toArray n b its2.toArray n2 k4 hlong (by rw [List.size_toArray]; omega) (by omega)) ⟨e, e2, ?_⟩
  refine ⟨.non, _, I.lset (its' := its ++ its2) hH e (by simp) (r.append r2) ?_, rfl, q⟩
  rw [List.length_append]
  omega
def fExtendD (i : Nat) (fe : DM D) : DM RV := fun s => match listAt i s with
  | none => .bad
  | some _ => bindM fe (fun r s1 => match listAt i s1, r with
    | some ds, .list es => if lenOk (ds.length + es.length) then .ok (.d .none) (putList i (ds ++ es) s1) else .bad
    | _, _ => .bad) s
theorem df_extendD (i : Nat) {x : Str} (he : DE X W e fe) (hN : X.N[i]? = some x := by rfl) (hv : Vis X.env.scope x := by first | exact Or.inl rfl | exact Or.inr (Or.inl rfl) | exact Or.inr (Or.inr rfl)) (hd : (x == ("__debug__" : Str)) = false := by decide)
    (hcd : (x == ("__classdict__" : Str)) = false := by decide) (hbase : attributeBase (.Name x px) "extend" X.env (eval (.Name x px) X.env) = eval (.Name x px) X.env := by rfl)
    (hfew : ((backTo pos (starEach [e] X.env)).all (fun x => !x.1) && (backToKw pos (keywordEach [] X.env)).all (fun x => x.1.isSome)
      && decide ([e].length + ([] : List Keyword).length + (if ([] : List Keyword).isEmpty then 0 else 1) < 30)) = true := by rfl)
    (hline : (apos.endLine == pos.line) = true := by rfl) (hs : starEach [e] X.env = (false, eval e X.env) :: starEach [] X.env := by rfl) (hplain : (backTo pos (starEach [] X.env)).any (·.1) = false := by rfl) :
    DF X W (.Call (.Attribute (.Name x px) "extend" apos) [e] [] pos) (fExtendD i fe) := by
  refine pe_imp (pe_bm PySem.F.plainAttrs_list PySem.F.slot_list_extend PySem.F.type_list_extend mt_extendQ (pe_var hN hv hd hcd) (pa_cons he pa_nil hs) hbase hfew hline hs hplain) fun σ H Q ⟨B, Z, as, s, I, h⟩ => ?_
  unfold fExtendD at h
  cases e0 : listAt i s with
  | none => rw [e0] at h; exact h.elim
  | some ds0 =>
    rw [e0] at h
    dsimp only at h
    obtain ⟨p, xs, h1, h2, _⟩ := listAt_rep I e0
    refine ⟨.ref p, h1, .inl ⟨rfl, xs, .inl (.inl h2)⟩, B, Z, as, s, I, (After.bind h).imp fun r s1 H1 Z1 as1 I1 E1 P1 h3 v rv => ?_⟩
    cases e1 : listAt i s1 with
    | none => rw [e1] at h3; cases r <;> exact h3.elim
    | some ds =>
      rw [e1] at h3
      cases r with
      | list es =>
        dsimp only at h3
        split at h3
        · rename_i hl
          obtain ⟨p', xs', q1, q2, q3, q4, q5, q6⟩ := listAt_rep I1 e1
          rw [h1] at q1; cases q1
          cases rv with
          | lst hq hr =>
            refine ⟨p, _, xs', _, rfl, rfl, q2, I1.zh.seq hq, by rw [q3.length, hr.length]; exact Nat.le_of_lt (lenOk_line hl), ?_⟩
            exact h3 _ _ _ (q6 _ _ (Reps.app q3 hr)) .refl (List.prefix_refl _) _ .non
        · exact h3.elim
      | _ => exact h3.elim
end
end DL

/-! DLAA: len(d), list(d), max of alike data. -/
namespace DL
open PySem PySem.Spec PyProof.Rows L2 PySem.Calls
section
variable {X : Cx} {pins : List (Addr × Obj)} {σ : St} {H : Hp} {s : Shared}
/-! ### len(d) -/
def rLenDc (X : Cx) : List V → Hp → VK → Prop := fun vs H Q => ∃ Z p kvs, vs = [V.ref p] ∧ DicR (ctOf X) Z H p kvs ∧ kvs.length ≤ sizeLine ∧ Q (.int kvs.length) H
theorem ents_len {C : Ct} {Z : Hp} : ∀ {es : List DictEntry} {kvs : List (D × D)}, Ents C Z es kvs → es.length = kvs.length
  | _, _, .nil => rfl
  | _, _, .cons _ _ _ _ _ _ _ t => by rw [List.length_cons, List.length_cons, ents_len t]
theorem call_lenDc : CallR X (.builtin "len") (rLenDc X) := by
  intro pins s σ H vs us Q I r h
  obtain ⟨Z, p, kvs, rfl, hd, hl, q⟩ := h
  obtain ⟨u, rfl, ru⟩ := vals1 r
  obtain rfl : u = Value.ref p := ru
  obtain ⟨hn, ⟨o, es, ep, e0, ex, edat, hents⟩, nd⟩ := hd
  have hraw : s.heap.DictRaw p es ep := ⟨o, dict_obj I e0, ex, edat⟩
  have hz : es.size = kvs.length := by rw [← Array.length_toList]; exact ents_len hents
  have ht : s.TypeIs (.ref p) "dict" := ⟨o, dict_obj I e0, ex.1⟩
  refine PyProof.Rows.call_len_slot (n := kvs.length) ht PySem.F.slot_dict_len (fun Q' hq => PySem.call_len_raw hn hraw (by rw [hz]; exact hq)) (by omega) (by rw [sizeLine_eq] at hl; omega) ?_
  exact ⟨.int kvs.length, H, I.tok _, ⟨_, rfl⟩, q⟩
def gLenDc : D → Option D
  | .dict kvs => if lenOk kvs.length then some (.int kvs.length) else none
  | _ => none
theorem of_lenDc : OfC1 (ctOf X) (rLenDc X) gLenDc := by
  intro Z H x dx d Q rx zh e q
  cases dx with
  | dict kvs =>
    unfold gLenDc at e
    dsimp only at e
    split at e
    · rename_i hk
      cases e
      obtain ⟨p, rfl, hd⟩ := rx.dict zh
      exact ⟨Z, p, kvs, rfl, hd, Nat.le_of_lt (lenOk_line hk), q _ (.int _)⟩
    · cases e
  | _ => cases e
/-! ### list(d) -/
def rListDc (X : Cx) : List V → Hp → VK → Prop := fun vs H Q => ∃ Z p kvs, vs = [V.ref p] ∧ DicR (ctOf X) Z H p kvs ∧ kvs.length ≤ sizeLine ∧ ∀ ys l, Reps (ctOf X) Z ys (kvs.map (·.1)) → H l = none → Q (.ref l) (upd H l (.lst ys))
theorem call_listDc (hc : X.calm = true) : CallR X (.type "list") (rListDc X) := by
  intro pins s σ H vs us Q I r h
  obtain ⟨Z, p, kvs, rfl, hd, hl, q⟩ := h
  obtain ⟨u, rfl, ru⟩ := vals1 r
  obtain rfl : u = Value.ref p := ru
  obtain ⟨hn, ⟨o, es, ep, e0, ex, edat, hents⟩, nd⟩ := hd
  have hraw : s.heap.DictRaw p es ep := ⟨o, dict_obj I e0, ex, edat⟩
  have hz : es.size = kvs.length := by rw [← Array.length_toList]; exact ents_len hents
  obtain ⟨xs, rv, rr⟩ := ents_V hents
  refine PySem.W.kdl_call (PySem.KdlSrc.rawDict hn) (I.ok.hd hc) hraw (by rw [hz]; exact hl) fun h' tk acc c' hk hS hacc => ?_
  have hal : acc.toList = es.toList.map (·.key) := by
    refine List.ext_getElem? fun i => ?_
    rw [List.getElem?_map]
    by_cases hi : i < acc.size
    · have e1 : acc[i]? = some acc[i] := Array.getElem?_eq_getElem hi
      obtain ⟨hi2, e2⟩ := hacc.2 i _ e1
      rw [Array.getElem?_toList, e1, e2, Array.getElem?_toList, Array.getElem?_eq_getElem hi2]
      rfl
    · rw [List.getElem?_eq_none (by rw [Array.length_toList]; omega), List.getElem?_eq_none (by rw [Array.length_toList, ← hacc.1]; omega)]
      rfl
  have hxl : xs.length = kvs.length := by rw [rr.length, List.length_map]
  have hS' : h'.get? s.heap.objs.size = some { cls := .type "list", dict := none, data := .seq (es.toList.map (·.key)).toArray c', slots := #[] } := by
    rw [← hal]
    simpa using hS
  exact ⟨.ref s.heap.objs.size, _, I.laid (t' := tk) hk (Nat.le_refl _) (show ObjOk X.prog X.w _ h' _ (.lst xs) from ⟨by rw [hxl]; exact hl, _, c', rv, hS'⟩), rfl, q xs _ rr (I.hok.fresh (Nat.le_refl _))⟩
def gListDc : D → Option (List D)
  | .dict kvs => if lenOk kvs.length then some (kvs.map (·.1)) else none
  | _ => none
theorem of_listDc : OfL1 (ctOf X) (rListDc X) gListDc := by
  intro Z H x dx ds Q rx zh e q
  cases dx with
  | dict kvs =>
    unfold gListDc at e
    dsimp only at e
    split at e
    · rename_i hk
      cases e
      obtain ⟨p, rfl, hd⟩ := rx.dict zh
      exact ⟨Z, p, kvs, rfl, hd, Nat.le_of_lt (lenOk_line hk), fun ys l hy np => q l ys np hy⟩
    · cases e
  | _ => cases e
end
/-! ### max of alike data -/
section
open PySem.W (alike alikeAll AllAlike Sortable dataLe dataLt EachIs)
def rMaxDD (X : Cx) : List V → Hp → VK → Prop := fun vs H Q => ∃ Z a xs d ds, Same Z H ∧ vs = [V.ref a] ∧ SqL X.K H a xs ∧ Reps (ctOf X) Z xs (d :: ds) ∧ minOk (d :: ds) = true ∧ ∀ v, Rep (ctOf X) Z v (PySem.W.maxD d ds) → Q v H
theorem cr_maxDD {X : Cx} (hc : X.calm = true) (hu : X.A.units + 64 < cLine) : CallR X (.builtin "max") (rMaxDD X) := by
  intro pins s σ H vs us Q I r h
  obtain ⟨Z, a, xs, d, ds, zh, rfl, hs, hr, hok, q⟩ := h
  obtain ⟨its, rv, hl, hz⟩ := I.list hs
  obtain ⟨u, rfl, ru⟩ := vals1 r
  obtain rfl : u = Value.ref a := ru
  unfold minOk at hok
  rw [Bool.and_eq_true, Bool.and_eq_true, decide_eq_true_iff] at hok
  obtain ⟨⟨h1, h0⟩, h2⟩ := hok
  rw [List.all_eq_true] at h1 h0
  have hal : AllAlike (d :: ds) := fun x hx y hy => List.all_eq_true.mp (h1 x hx) y hy
  have hself : alikeAll (d :: ds) (d :: ds) = true := alike_self fun x hx => hal x hx x hx
  have hnn : ∀ x, x ∈ d :: ds → x ≠ .none := fun x hx e => by have := h0 x hx; rw [e] at this; cases this
  obtain ⟨as, hra, _⟩ := readsAll_of I (hr.mono zh) hself rv
  refine PySem.W.max_list_data (I.ok.hd hc) hl.isList (by simpa using hra) ⟨hal, hnn⟩ (by omega) fun i v h' tk bs hv hrd hk => ?_
  have hv' : its[i]? = some v := by simpa using hv
  obtain ⟨d1, bs1, e1, e2⟩ := reads_get hra hv'
  have hd1 : d1 ∈ d :: ds := List.mem_of_getElem? e1
  have hdd := reads_det (Reads.keeps hk e2) hrd (hal d1 hd1 d1 hd1)
  obtain ⟨x, hx, rx'⟩ := hr.get e1
  obtain ⟨u, hu', rx⟩ := rv.get hx
  rw [hv'] at hu'; cases hu'
  exact ⟨x, H, I.kept hk, rx, q x (by rw [← hdd]; exact rx')⟩
def gMaxDD : D → Option D
  | .list (d :: ds) => if minOk (d :: ds) then some (PySem.W.maxD d ds) else none
  | _ => none
theorem of_maxDD {X : Cx} : OfC1 (ctOf X) (rMaxDD X) gMaxDD := by
  intro Z H x dx d Q rx zh e q
  cases dx with
  | list xs =>
    cases xs with
    | nil => cases e
    | cons y ys =>
      unfold gMaxDD at e
      dsimp only at e
      split at e
      · rename_i hok
        cases e
        obtain ⟨p, vs, rfl, h1, h2⟩ := rx.list zh
        exact ⟨Z, p, vs, y, ys, zh, rfl, h1, h2, hok, q⟩
      · cases e
  | _ => cases e
end
end DL

/-! DLAB: == and != of dicts whose keys are tuples. -/
namespace DL
open PySem PySem.Spec PyProof.Rows L2 PySem.Calls
section
variable {prog : Program} {w : World} {K : Type} [DecidableEq K] {knd : HeapKind prog w K} {A : Around} {E : Value → Shared → Prop} {s : Shared}
/-- what is said of an entry (k, _, v) against the table ys -/
def Verdict (A : Around) (s : Shared) (ys : List (K × Addr × Value)) (x : K × Addr × Value) (t : Bool) : Prop := match atKey ys x.1 with
  | none => t = false
  | some p => SeqAt.EqAt A s x.2.2 p.2 t
/-- the first n turns say yes -/
def yes (t : Nat → Bool) (n : Nat) : Bool := (List.range n).all t
theorem yes_iff {t : Nat → Bool} {n : Nat} : yes t n = true ↔ ∀ i, i < n → t i = true := by
  unfold yes
  rw [List.all_eq_true]
  exact ⟨fun h i hi => h i (List.mem_range.mpr hi), fun h i hi => h i (List.mem_range.mp hi)⟩
theorem yes_no {t : Nat → Bool} {n i : Nat} (hi : i < n) (h : t i = false) : yes t n = false := by
  cases e : yes t n with
  | false => rfl
  | true => rw [yes_iff.mp e i hi] at h; cases h
/-- the turns of the comparison: tables of one length -/
theorem turns_said {id : String} {a b : Addr} {xs ys : List (K × Addr × Value)} {t : Nat → Bool} {Q : Bool → Shared → Prop} (room : knd.room A) (na : (a == sysModules) = false) (nb : (b == sysModules) = false)
    (ta : s.heap.DictOfH knd a xs) (tb : s.heap.DictOfH knd b ys) (len : xs.length = ys.length) (said : ∀ i x, xs[i]? = some x → Verdict A s ys x (t i)) (q : Q (yes t xs.length) s) :
    wpAny (model prog w) A (Builtin.Dict.samePairs id a b) Q E s := by
  obtain ⟨o1, es1, ep1, g1, _, d1, l1, i1, _⟩ := ta
  obtain ⟨o2, es2, ep2, g2, _, d2, l2, i2, u2⟩ := tb
  have n1 : es1.size = xs.length := size_of_entries l1
  have n2 : es2.size = xs.length := (size_of_entries l2).trans len.symm
  have ask : ∀ {Q' : Array DictEntry → Shared → Prop}, Q' es1 s → wpAny (model prog w) A (dictEntries a) Q' E s := fun h => wpAny_dictEntries g1 d1 h
  have ask2 : ∀ {Q' : Array DictEntry → Shared → Prop}, Q' es2 s → wpAny (model prog w) A (dictEntries b) Q' E s := fun h => wpAny_dictEntries g2 d2 h
  unfold Builtin.Dict.samePairs Builtin.Dict.showsAll
  simp only [na, nb, Bool.false_eq_true, if_false]
  iterate 2 refine wpAny_bind (wpAny_pure ?_)
  refine wpAny_bind (ask (wpAny_bind (ask2 ?_)))
  simp only [n1, n2, bne_self_eq_false, Bool.false_eq_true, if_false]
  refine wpAny_bind (wpAny_dictEpoch g1 d1 (wpAny_bind ?_))
  rw [Std.Legacy.Range.forIn_eq_forIn_range']
  simp only [Std.Legacy.Range.size, Nat.sub_zero, Nat.add_sub_cancel, Nat.div_one]
  refine wpAny_forIn_list _ (fun rest out s' => s' = s ∧ out = (none, ()) ∧ ∃ i, i ≤ xs.length ∧ rest = List.range' i (xs.length - i) ∧ ∀ j, j < i → t j = true) _ (fun i rest out s' hinv => ?_) (fun out s' hinv => ?_) _ _ ⟨rfl, rfl, 0, Nat.zero_le _, by rw [Nat.sub_zero], fun j hj => absurd hj (Nat.not_lt_zero _)⟩
  · obtain ⟨rfl, rfl, i', hle, hrest, before⟩ := hinv
    have hlt : i' < xs.length := by
      refine Nat.lt_of_le_of_ne hle fun e => ?_
      rw [e, Nat.sub_self] at hrest
      cases hrest
    rw [show xs.length - i' = (xs.length - (i' + 1)) + 1 by omega, List.range'_succ] at hrest
    cases hrest
    obtain ⟨x, hx⟩ : ∃ x, xs[i]? = some x := ⟨_, List.getElem?_eq_getElem hlt⟩
    have he : es1[i]? = some (entryOfKey knd x) := by rw [entry_at l1, hx]; rfl
    refine wpAny_bind (ask ?_)
    rw [he]
    have verdict := said i x hx
    obtain ⟨k, c, v⟩ := x
    have next : t i = true → ∀ out', out' = (none, ()) → (s' = s' ∧ out' = ((none, ()) : Option Bool × Unit) ∧ ∃ m, m ≤ xs.length ∧ List.range' (i + 1) (xs.length - (i + 1)) = List.range' m (xs.length - m) ∧ ∀ j, j < m → t j = true) := fun ht out' eo => ⟨rfl, eo, i + 1, hlt, rfl, fun j hj => by
      rcases Nat.lt_succ_iff_lt_or_eq.mp hj with h | h
      · exact before j h
      · rw [h]; exact ht⟩
    refine wpAny_bind (wpAny_holding (wpAny_bind (wpAny_dictFind_heap (k := k) room (i1 _ (List.mem_of_getElem? hx)) g2 d2 l2 i2 u2 (fun none => ?_) fun j p hj => ?_)))
    · unfold Verdict at verdict
      rw [atKey_none_of_get none] at verdict
      rw [yes_no hlt verdict] at q
      exact wpAny_pure (wpAny_pure (wpAny_pure q))
    · unfold Verdict at verdict
      rw [atKey_of_get u2 hj] at verdict
      have hf : es2[j]? = some (entryOfKey knd (k, p)) := by rw [entry_at l2, hj]; rfl
      refine wpAny_bind (ask2 ?_)
      rw [hf]
      refine wpAny_holding (verdict _ _ _ _ ?_)
      cases ht : t i with
      | false =>
        rw [yes_no hlt ht] at q
        exact wpAny_pure (wpAny_pure q)
      | true => exact wpAny_bind (wpAny_dictEpoch g1 d1 (by rw [if_neg (by simp)]; exact wpAny_pure (next ht _ rfl)))
  · obtain ⟨rfl, rfl, i', hle, hrest, before⟩ := hinv
    have hi : xs.length ≤ i' := by
      have := congrArg List.length hrest
      rw [List.length_range'] at this
      exact Nat.sub_eq_zero_iff_le.mp this.symm
    rw [yes_iff.mpr fun j hj => before j (by omega)] at q
    exact wpAny_pure q
/-- tables of two lengths -/
theorem sizes_said {id : String} {a b : Addr} {xs ys : List (K × Addr × Value)} {Q : Bool → Shared → Prop} (na : (a == sysModules) = false) (nb : (b == sysModules) = false)
    (ta : s.heap.DictOfH knd a xs) (tb : s.heap.DictOfH knd b ys) (len : xs.length ≠ ys.length) (q : Q false s) : wpAny (model prog w) A (Builtin.Dict.samePairs id a b) Q E s := by
  obtain ⟨o1, es1, ep1, g1, _, d1, l1, _⟩ := ta
  obtain ⟨o2, es2, ep2, g2, _, d2, l2, _⟩ := tb
  have n1 : es1.size = xs.length := size_of_entries l1
  have n2 : es2.size = ys.length := size_of_entries l2
  unfold Builtin.Dict.samePairs Builtin.Dict.showsAll
  simp only [na, nb, Bool.false_eq_true, if_false]
  iterate 2 refine wpAny_bind (wpAny_pure ?_)
  refine wpAny_bind (wpAny_dictEntries g1 d1 (wpAny_bind (wpAny_dictEntries g2 d2 ?_)))
  rw [n1, n2, if_pos (bne_iff_ne.mpr len)]
  exact wpAny_bind (wpAny_rule (wpAny_pure q))
/-- of any two tables -/
theorem pairs_said {id : String} {a b : Addr} {xs ys : List (K × Addr × Value)} {t : Nat → Bool} {Q : Bool → Shared → Prop} (room : knd.room A) (na : (a == sysModules) = false) (nb : (b == sysModules) = false)
    (ta : s.heap.DictOfH knd a xs) (tb : s.heap.DictOfH knd b ys) (said : ∀ i x, xs[i]? = some x → Verdict A s ys x (t i)) (q : Q (decide (xs.length = ys.length) && yes t xs.length) s) :
    wpAny (model prog w) A (Builtin.Dict.samePairs id a b) Q E s := by
  by_cases len : xs.length = ys.length
  · rw [decide_eq_true len, Bool.true_and] at q
    exact turns_said room na nb ta tb len said q
  · rw [decide_eq_false len, Bool.false_and] at q
    exact sizes_said na nb ta tb len q
theorem dicts_eq {a b : Addr} {xs ys : List (K × Addr × Value)} {t : Nat → Bool} {Q : Value → Shared → Prop} (room : knd.room A.in1) (hu : A.units < cLine) (na : (a == sysModules) = false) (nb : (b == sysModules) = false)
    (ta : s.heap.DictOfH knd a xs) (tb : s.heap.DictOfH knd b ys) (said : ∀ i x, xs[i]? = some x → Verdict A.in1 s ys x (t i)) (q : Q (.bool (decide (xs.length = ys.length) && yes t xs.length)) s) :
    wpAny (model prog w) A (compareOp .Eq (.ref a) (.ref b)) Q E s := by
  have isD : ∀ {Q' : Bool → Shared → Prop} {A' : Around}, Q' true s → wpAny (model prog w) A' (isInstance (.ref b) (.type "dict")) Q' E s := fun h => wpAny_isInstance (T := "dict") tb.typeIs PySem.F.sub_dict_dict h
  refine wpAny_richCompare_same_room (op := .Eq) ta.typeIs tb.typeIs PySem.F.slot_dict_eq (wpAny_call_entry PySem.F.slot_dict_eq ta.typeIs PySem.F.entry_dict_eq ?_ (PySem.F.args_dict_eq_2 _ _)) hu
  refine wpAny_bind (m := Builtin.Dict.dictSlotArgs "__eq__" ⟨[.ref a, .ref b], []⟩) ?_
  unfold Builtin.Dict.dictSlotArgs
  refine wpAny_bind (wpAny_notOrdered_dict ta.typeIs (wpAny_pure (wpAny_bind (isD ?_))))
  simp only [Bool.not_true, Bool.false_eq_true, if_false]
  iterate 2 refine wpAny_bind (wpAny_pure ?_)
  exact wpAny_bind (pairs_said room na nb ta tb said (wpAny_pure ⟨_, rfl, (fun z => nomatch z), by simpa using q⟩))
theorem dicts_ne {a b : Addr} {xs ys : List (K × Addr × Value)} {t : Nat → Bool} {Q : Value → Shared → Prop} (room : knd.room A.in1) (hu : A.units < cLine) (na : (a == sysModules) = false) (nb : (b == sysModules) = false)
    (ta : s.heap.DictOfH knd a xs) (tb : s.heap.DictOfH knd b ys) (said : ∀ i x, xs[i]? = some x → Verdict A.in1 s ys x (t i)) (q : Q (.bool (!(decide (xs.length = ys.length) && yes t xs.length))) s) :
    wpAny (model prog w) A (compareOp .NotEq (.ref a) (.ref b)) Q E s := by
  have isD : ∀ {Q' : Bool → Shared → Prop} {A' : Around}, Q' true s → wpAny (model prog w) A' (isInstance (.ref b) (.type "dict")) Q' E s := fun h => wpAny_isInstance (T := "dict") tb.typeIs PySem.F.sub_dict_dict h
  refine wpAny_richCompare_same_room (op := .NotEq) ta.typeIs tb.typeIs PySem.F.slot_dict_ne (wpAny_call_entry PySem.F.slot_dict_ne ta.typeIs PySem.F.entry_dict_ne ?_ (PySem.F.args_dict_ne_2 _ _)) hu
  refine wpAny_bind (m := Builtin.Dict.dictSlotArgs "__ne__" ⟨[.ref a, .ref b], []⟩) ?_
  unfold Builtin.Dict.dictSlotArgs
  refine wpAny_bind (wpAny_notOrdered_dict ta.typeIs (wpAny_pure (wpAny_bind (isD ?_))))
  simp only [Bool.not_true, Bool.false_eq_true, if_false]
  iterate 2 refine wpAny_bind (wpAny_pure ?_)
  exact wpAny_bind (pairs_said room na nb ta tb said (wpAny_pure ⟨_, rfl, (fun z => nomatch z), by simpa using q⟩))
end
/-! ### over data -/
/-- an entry is found again with an equal value -/
def hasE (lvs : List (D × D)) (p : D × D) : Bool := match dGet lvs p.1 with
  | some d => PyData.eqv p.2 d
  | none => false
def eqDict (kvs lvs : List (D × D)) : Bool := decide (kvs.length = lvs.length) && kvs.all (hasE lvs)
def shD (kvs : List (D × D)) : Bool := kvs.all fun p => isTup p.1 && SeqAt.shaped p.2
theorem shD_of {kvs : List (D × D)} (h : shD kvs = true) : (∀ q ∈ kvs, isTup q.1 = true) ∧ ∀ q ∈ kvs, SeqAt.shaped q.2 = true := by
  unfold shD at h
  rw [List.all_eq_true] at h
  exact ⟨fun q hq => (Bool.and_eq_true_iff.mp (h q hq)).1, fun q hq => (Bool.and_eq_true_iff.mp (h q hq)).2⟩
def turn (kvs lvs : List (D × D)) (i : Nat) : Bool := (kvs[i]?.map (hasE lvs)).getD false
theorem yes_all {kvs lvs : List (D × D)} : yes (turn kvs lvs) kvs.length = kvs.all (hasE lvs) := by
  refine Bool.eq_iff_iff.mpr ?_
  rw [yes_iff, List.all_eq_true]
  constructor
  · intro h p hp
    obtain ⟨i, hi, rfl⟩ := List.mem_iff_getElem.mp hp
    have := h i hi
    unfold turn at this
    rw [List.getElem?_eq_getElem hi] at this
    exact this
  · intro h i hi
    unfold turn
    rw [List.getElem?_eq_getElem hi]
    exact h _ (List.getElem_mem hi)
section
variable {X : Cx} {pins : List (Addr × Obj)} {σ : St} {H : Hp} {s : Shared}
theorem turn_said (hu : X.A.units + 65 < cLine) (I : Inv X pins σ H s) {Z : Hp} (zh : Same Z H) {xs ys : List (NestedKey × Addr × Value)} {kvs lvs : List (D × D)} (hx : Paired (EntT (ctOf X) Z) xs kvs) (hy : Paired (EntT (ctOf X) Z) ys lvs)
    (sk : ∀ p ∈ kvs, SeqAt.shaped p.2 = true) (sl : ∀ p ∈ lvs, SeqAt.shaped p.2 = true) (i : Nat) (x : NestedKey × Addr × Value) (e : xs[i]? = some x) : Verdict X.A.in1 s ys x (turn kvs lvs i) := by
  obtain ⟨kv, ek, h⟩ := paired_getL hx e
  have hg := atKey_get h.1 hy
  unfold Verdict turn hasE
  rw [ek]
  cases e1 : atKey ys x.1 with
  | none =>
    cases e2 : dGet lvs kv.1 with
    | none => show (match dGet lvs kv.1 with | some d => PyData.eqv kv.2 d | none => false) = false; rw [e2]
    | some d => rw [e1, e2] at hg; exact hg.elim
  | some p =>
    cases e2 : dGet lvs kv.1 with
    | none => rw [e1, e2] at hg; exact hg.elim
    | some d =>
      rw [e1, e2] at hg
      obtain ⟨vv', rv', rd'⟩ := hg
      obtain ⟨vv, rv, rd⟩ := h.2.2.2
      have s1 := sk kv (List.mem_of_getElem? ek)
      have s2 : SeqAt.shaped d = true := by
        unfold dGet at e2
        obtain ⟨q, hq, rfl⟩ := Option.map_eq_some_iff.mp e2
        exact sl q (List.mem_of_find?_eq_some hq)
      obtain ⟨as, r1⟩ := Dp.reads I _ _ _ ((rd.mono zh).dp (shaped_lay s1)) rv
      obtain ⟨bs, r2⟩ := Dp.reads I _ _ _ ((rd'.mono zh).dp (shaped_lay s2)) rv'
      show SeqAt.EqAt X.A.in1 s x.2.2 p.2 (match dGet lvs kv.1 with | some d => PyData.eqv kv.2 d | none => false)
      rw [e2]
      exact SeqAt.eqAt_reads _ _ X.A.in1 s _ _ as bs r1 r2 (SeqAt.canLay_of_shaped s1) (SeqAt.canLay_of_shaped s2) (SeqAt.room_of_shaped s1 (by show X.A.units + 1 + 64 < cLine; omega))
def rEqDc (X : Cx) (f : Bool → Bool) : R2 := fun x y H Q => ∃ Z p q kvs lvs, Same Z H ∧ x = .ref p ∧ y = .ref q ∧ DicR (ctOf X) Z H p kvs ∧ DicR (ctOf X) Z H q lvs ∧ shD kvs = true ∧ shD lvs = true ∧ Q (.bl (f (eqDict kvs lvs))) H
theorem op_eqDc (hu : X.A.units + 65 < cLine) : OpR X (compareOp .Eq) (rEqDc X id) := by
  intro pins s σ H x y v u Q I rx ry h
  obtain ⟨Z, p, q, kvs, lvs, zh, rfl, rfl, hd, he, s1, s2, q⟩ := h
  cases (show v = Value.ref p from rx)
  cases (show u = Value.ref _ from ry)
  obtain ⟨xs, m1, p1⟩ := view_T I zh hd (shD_of s1).1
  obtain ⟨ys, m2, p2⟩ := view_T I zh he (shD_of s2).1
  refine dicts_eq (knd := nestedKind X.prog X.w) (room_T (by omega)) (by omega) hd.1 he.1 m1 m2 (turn_said hu I zh p1 p2 (shD_of s1).2 (shD_of s2).2) ⟨.bl _, H, I, rfl, ?_⟩
  rw [paired_length p1, paired_length p2, yes_all]
  exact q
theorem op_neDc (hu : X.A.units + 65 < cLine) : OpR X (compareOp .NotEq) (rEqDc X not) := by
  intro pins s σ H x y v u Q I rx ry h
  obtain ⟨Z, p, q, kvs, lvs, zh, rfl, rfl, hd, he, s1, s2, q⟩ := h
  cases (show v = Value.ref p from rx)
  cases (show u = Value.ref _ from ry)
  obtain ⟨xs, m1, p1⟩ := view_T I zh hd (shD_of s1).1
  obtain ⟨ys, m2, p2⟩ := view_T I zh he (shD_of s2).1
  refine dicts_ne (knd := nestedKind X.prog X.w) (room_T (by omega)) (by omega) hd.1 he.1 m1 m2 (turn_said hu I zh p1 p2 (shD_of s1).2 (shD_of s2).2) ⟨.bl _, H, I, rfl, ?_⟩
  rw [paired_length p1, paired_length p2, yes_all]
  exact q
def gEqDc : D → D → Option D
  | .dict kvs, .dict lvs => if shD kvs && shD lvs then some (.bool (eqDict kvs lvs)) else none
  | _, _ => none
def gNeDc : D → D → Option D
  | .dict kvs, .dict lvs => if shD kvs && shD lvs then some (.bool (!eqDict kvs lvs)) else none
  | _, _ => none
theorem dicts_of {f : Bool → Bool} {g : D → D → Option D} (hg : ∀ kvs lvs d, g (.dict kvs) (.dict lvs) = some d → (shD kvs && shD lvs) = true ∧ d = .bool (f (eqDict kvs lvs))) (hn : ∀ x y d, g x y = some d → ∃ kvs lvs, x = .dict kvs ∧ y = .dict lvs) : Of2 (ctOf X) (rEqDc X f) g := by
  intro Z H x y dx dy d Q rx ry zh e q
  obtain ⟨kvs, lvs, rfl, rfl⟩ := hn _ _ _ e
  obtain ⟨hk, rfl⟩ := hg _ _ _ e
  rw [Bool.and_eq_true] at hk
  obtain ⟨p, rfl, hd⟩ := rx.dict zh
  obtain ⟨p', rfl, he⟩ := ry.dict zh
  exact ⟨Z, p, p', kvs, lvs, zh, rfl, rfl, hd, he, hk.1, hk.2, q _ (.bl _)⟩
theorem of_eqDc : Of2 (ctOf X) (rEqDc X id) gEqDc := dicts_of (fun kvs lvs d e => by
    unfold gEqDc at e
    dsimp only at e
    split at e
    · rename_i hk; cases e; exact ⟨hk, rfl⟩
    · cases e) fun x y d e => by
  unfold gEqDc at e
  split at e
  · exact ⟨_, _, rfl, rfl⟩
  · cases e
theorem of_neDc : Of2 (ctOf X) (rEqDc X not) gNeDc := dicts_of (fun kvs lvs d e => by
    unfold gNeDc at e
    dsimp only at e
    split at e
    · rename_i hk; cases e; exact ⟨hk, rfl⟩
    · cases e) fun x y d e => by
  unfold gNeDc at e
  split at e
  · exact ⟨_, _, rfl, rfl⟩
  · cases e
end
end DL

/-! DLAC: {k: 0 for k in d}. -/
namespace DL
open PySem PySem.Spec PyProof.Rows L2
def zeros (kvs : List (D × D)) : List (D × D) := kvs.map fun p => (p.1, PyData.int 0)
def fDc0 (f : DM D) : DM RV := bindM f fun d => fun s => match d with
  | .dict kvs => if (kvs.all fun p => isTup p.1) && lenOk kvs.length then .ok (.fd (zeros kvs)) s else .bad
  | _ => .bad
/-- entries with the keys of xs and a 0 each -/
def ZeroE (z x : NestedKey × Addr × Value) : Prop := z.1 = x.1 ∧ z.2.1 = x.2.1 ∧ ∃ t, z.2.2 = .int 0 t
theorem zero_keys {zs xs : List (NestedKey × Addr × Value)} (h : Paired ZeroE zs xs) : zs.map (·.1) = xs.map (·.1) := by
  induction h with
  | nil => rfl
  | cons h _ ih => rw [List.map_cons, List.map_cons, ih, h.1]
theorem zero_ent {C : Ct} {Z : Hp} {zs xs : List (NestedKey × Addr × Value)} (h : Paired ZeroE zs xs) : ∀ {kvs : List (D × D)}, Paired (EntT C Z) xs kvs → Paired (EntT C Z) zs (zeros kvs) := by
  induction h with
  | nil => intro kvs h; cases h; exact .nil
  | @cons z x zs xs h t ih =>
    intro kvs hk
    cases hk with
    | @cons _ kv _ kvs hx ht =>
      obtain ⟨h1, h2, h3, _⟩ := hx
      obtain ⟨z1, z2, t0, z3⟩ := h
      exact .cons ⟨by rw [z1]; exact h1, by rw [z2]; exact h2, by rw [z1]; exact h3, .int 0, ⟨t0, z3⟩, .int 0⟩ (ih ht)
/-- where the comprehension stands after i turns -/
structure ZG (prog : Program) (w : World) (s1 : Shared) (xs : List (NestedKey × Addr × Value)) (D C : Addr) (i : Nat) (s : Shared) : Prop where
  st : ∃ h tk, s = { s1 with heap := h, toks := tk }
  old : ∀ b o, s1.heap.get? b = some o → s.heap.get? b = some o
  dic : ∃ zs, s.heap.DictOfH (nestedKind prog w) D zs ∧ Paired ZeroE zs (xs.take i)
  ns : ∃ m, s.heap.Ns C m
theorem nest_keeps {prog : Program} {w : World} {h h' : Heap} {k : NestedKey} {a : Addr} (x : (nestedKind prog w).is h k a) (e : ∀ b o, h.get? b = some o → h'.get? b = some o) : (nestedKind prog w).is h' k a :=
  ⟨NestedIs.at (fun b o _ _ q _ => e b o q) k _ x.1, x.2⟩
theorem ZG.is {prog : Program} {w : World} {s1 : Shared} {xs : List (NestedKey × Addr × Value)} {h' : Heap} (his : ∀ x ∈ xs, (nestedKind prog w).is s1.heap x.1 x.2.1) (old : ∀ b o, s1.heap.get? b = some o → h'.get? b = some o) {i : Nat} {zs : List (NestedKey × Addr × Value)} (hp : Paired ZeroE zs (xs.take i)) : ∀ z ∈ zs, (nestedKind prog w).is h' z.1 z.2.1 := by
  intro z hz
  obtain ⟨j, hj, rfl⟩ := List.mem_iff_getElem.mp hz
  obtain ⟨x, hx, z1, z2, _⟩ := paired_getL hp (List.getElem?_eq_getElem hj)
  rw [z1, z2]
  have hm : x ∈ xs := List.mem_of_mem_take (List.mem_of_getElem? hx)
  exact nest_keeps (his x hm) old
section
variable {X : Cx} {W : WX} {k : Nat} {scope : Scope} {pos : Pos}
theorem df_dc0 {x : Str} {iter : Expr} {p1 p2 p3 : Pos} {j} {f : DM D} (hu : X.A.units + 64 < cLine) (b : Bd X W k) (hi : DE X W iter f)
    (hclos : closureFor scope X.env = pure [] := by rfl) (hkind : scope.kind = .function := by rfl) (hcell : ∀ y ∈ scope.names, y.2 ≠ .cell := by decide) (hnames : ∀ y ∈ scope.names, y.2 = .local → scope.names.lookup y.1 = some .local := by decide)
    (hkx : ∀ C, (compEnvC scope [] C X.env).kindOf x = some .local := by intro _; rfl) (hd : (x == ("__debug__" : Str)) = false := by decide)
    (hs : ∀ z, foldedSetIterable iter X.env z = pure z := by intro _; rfl) :
    DF X W (.DictComp (.Name x p1) (.Constant (.int 0) j p2) [⟨.Name x p3, iter, [], 0⟩] scope pos) (fDc0 f) := by
  have hkf : ∀ C, (compEnvC scope [] C X.env).scope.kind = .function := fun _ => hkind
  refine ⟨fun pins s σ H Q I h => ?_⟩
  obtain ⟨B, Z, as, st, J, h⟩ := h
  refine DictComp_goes hclos hcell hkind hnames (thn (hi.run pins s σ H (fun v H1 => ∃ p Z1 kvs, v = .ref p ∧ Same Z1 H1 ∧ DicR (ctOf X) Z1 H1 p kvs ∧ (∀ q ∈ kvs, isTup q.1 = true) ∧ kvs.length ≤ sizeLine ∧ ∀ D o, H1 D = none → DicR (ctOf X) Z1 (upd H1 D (dictHO D o)) D (zeros kvs) → Q (.ref D) (upd H1 D (dictHO D o))) I ⟨B, Z, as, st, J, (After.bind h).imp fun d s1 H1 Z1 as1 I1 E1 P1 h1 v rv => ?_⟩) fun xv s1 hx => ?_) hs
  · cases d with
    | dict kvs =>
      dsimp only at h1
      split at h1
      · rename_i hk
        rw [Bool.and_eq_true] at hk
        obtain ⟨p, rfl, hp⟩ := (BRep.f rv : BRep (ctOf X) Z1 H1 v (.dict kvs)).dict I1.zh
        refine ⟨p, Z1, kvs, rfl, I1.zh, hp, fun q hq => List.all_eq_true.mp hk.1 q hq, Nat.le_of_lt (lenOk_line hk.2), fun D o nD hD => ?_⟩
        exact h1 _ _ _ (I1.fresh nD) .refl (List.prefix_refl _) _ ⟨D, rfl, I1.zh.free nD, I1.bh.free nD, I1.free_new nD, hD⟩
      · exact h1.elim
    | _ => exact h1.elim
  · obtain ⟨v, H1, I1, rv, p, Z1, kvs, rfl, zh, hp, ht, hl, q⟩ := hx
    obtain rfl : xv = Value.ref p := rv
    obtain ⟨xs, hm, hpx⟩ := view_T I1 zh hp ht
    have hnd := hm.nodup
    have his : ∀ x ∈ xs, (nestedKind X.prog X.w).is s1.heap x.1 x.2.1 := hm.choose_spec.choose_spec.choose_spec.2.2.2.2.1
    obtain ⟨es, ep, hraw, hsz, hes⟩ := hm.raw
    have hpl : p < s1.heap.objs.size := hm.lt_size
    refine wpAny_pyIter_dict_raw hp.1 hraw ?_
    have hne : p ≠ s1.heap.objs.size := Nat.ne_of_lt hpl
    have hll : xs.length ≤ sizeLine := by rw [paired_length hpx]; exact hl
    refine ⟨s1.heap.objs.size, [s1.heap.objs.size, p], [s1.heap.objs.size], es.size, _, _, rfl, Goes.rawKeys (I1.ok.hd b.calm) s1.heap.objs.size p hne es ep, ⟨⟨_, Heap.get?_push_size _ rfl, rfl, rfl⟩, hraw.push _⟩, fun D C s3 cb hD => ?_⟩
    have hnD : s1.heap.objs.size < D := Nat.lt_of_lt_of_le (by rw [Heap.size_push]; exact Nat.lt_succ_self _) cb.newD
    have hnC : s1.heap.objs.size < C := Nat.lt_of_lt_of_le (by rw [Heap.size_push]; exact Nat.lt_succ_self _) cb.newC
    have lowD : ∀ b, b < s1.heap.objs.size → b ≠ D := fun b hb => Nat.ne_of_lt (Nat.lt_trans hb hnD)
    have lowC : ∀ b, b < s1.heap.objs.size → b ≠ C := fun b hb => Nat.ne_of_lt (Nat.lt_trans hb hnC)
    refine ⟨fun i s => ZG X.prog X.w s1 xs D C i s, ⟨?_, ?_, ⟨[], ⟨_, #[], 0, hD, ⟨rfl, rfl, rfl⟩, rfl, rfl, (by intro _ hx; cases hx), List.nodup_nil⟩, .nil⟩, ⟨_, cb.names⟩⟩, ?_, ?_, ?_⟩
    · obtain ⟨h, tk, rfl⟩ := cb.only
      exact ⟨h, tk, rfl⟩
    · exact fun b o e => cb.old b o (Heap.get?_push_of_some _ e)
    · rintro i s h' tk ⟨⟨h, t0, rfl⟩, old, ⟨zs, hz, hp⟩, ⟨m, hns⟩⟩ keep _
      have old' : ∀ b o, s1.heap.get? b = some o → h'.get? b = some o := fun b o e => keep b o (by simpa using Nat.ne_of_lt (Heap.lt_size e)) (old b o e)
      have kD : ∀ o, h.get? D = some o → h'.get? D = some o := fun o e => keep D o (by simpa using Nat.ne_of_gt hnD) e
      have kC : ∀ o, h.get? C = some o → h'.get? C = some o := fun o e => keep C o (by simpa using Nat.ne_of_gt hnC) e
      exact ⟨⟨h', tk, rfl⟩, old', ⟨zs, hz.at' kD (ZG.is his old' hp), hp⟩, ⟨m, let ⟨o, es, ep, e, r⟩ := hns; ⟨o, es, ep, kC _ e, r⟩⟩⟩
    · rintro i v s hi ⟨hi', rfl⟩ hst ⟨⟨h, t0, rfl⟩, old, ⟨zs, hz, hp⟩, ⟨m, hns⟩⟩
      obtain ⟨y, hy, ey, _, _⟩ := hes i hi
      rw [ey]
      refine wpAny_assign_Name (wpAny_storeName_local (hkx C) hns (fun h4 hn4 hs4 => ?_) (by rw [hkf C]; rfl))
      have old4 : ∀ b o, s1.heap.get? b = some o → h4.get? b = some o := fun b o e => hs4.extBut b o (lowC b (Heap.lt_size e)) (old b o e)
      have hz4 : h4.DictOfH (nestedKind X.prog X.w) D zs := hz.at' (fun o e => hs4.extBut D o cb.ne e) (ZG.is his old4 hp)
      refine wpAny_pure ?_
      rw [if_pos rfl]
      refine wpAny_Name (wpAny_loadName_local (hkf C) (hkx C) hn4 (if_pos rfl) ?_) hd
      refine wpAny_Constant_int ?_
      have hyx : y ∈ xs := List.mem_of_getElem? hy
      have hlen : zs.length = i := by rw [paired_length hp, List.length_take]; omega
      have hnew : atKey zs y.1 = none := by
        refine atKey_none_of_get fun j q e => ?_
        obtain ⟨x', hx', z1, _⟩ := paired_getL hp e
        have hji : j < i := by have := (List.getElem?_eq_some_iff.mp e).1; omega
        rw [List.getElem?_take_of_lt hji] at hx'
        have := idxH_unique hnd (p := x'.2) (q := y.2) (k := y.1) (by rw [hx', z1]) hy
        omega
      refine wpAny_dictSet_heap (hsz := by omega) (show X.A.units + 8 < cLine by omega) (nest_keeps (his y hyx) old4) hz4 fun h5 hz5 hs5 => ?_
      have old5 : ∀ b o, s1.heap.get? b = some o → h5.get? b = some o := fun b o e => hs5.extBut b o (lowD b (Heap.lt_size e)) (old4 b o e)
      refine ⟨⟨⟨h5, _, rfl⟩, old5, ⟨_, hz5, ?_⟩, ⟨_, hn4.sameBut hs5 (Ne.symm cb.ne)⟩⟩, ?_⟩
      · rw [storedH_new hnew]
        have : xs.take (i + 1) = xs.take i ++ [y] := by rw [List.take_succ, hy]; rfl
        rw [this]
        exact hp.snoc ⟨rfl, rfl, _, rfl⟩
      · refine (Goes.rawKeys (I1.ok.hd b.calm) s1.heap.objs.size p hne es ep (target := .Name x p3) (prog := X.prog) (w := X.w)).frame _ _ _ hst fun b hb o e => hs5.extBut b o ?_ (hs4.extBut b o ?_ e)
        · rcases List.mem_cons.mp hb with rfl | hb
          · exact Nat.ne_of_lt hnD
          · exact lowD b (by rw [List.mem_singleton.mp hb]; exact hpl)
        · rcases List.mem_cons.mp hb with rfl | hb
          · exact Nat.ne_of_lt hnC
          · exact lowC b (by rw [List.mem_singleton.mp hb]; exact hpl)
    · rintro s ⟨⟨h, t0, rfl⟩, old, ⟨zs, hz, hp⟩, ⟨m, hns⟩⟩
      refine ⟨m, hns, fun h' hs' => ?_⟩
      have old' : ∀ b o, s1.heap.get? b = some o → h'.get? b = some o := fun b o e => hs'.extBut b o (lowC b (Heap.lt_size e)) (old b o e)
      have hz' : h'.DictOfH (nestedKind X.prog X.w) D zs := hz.at' (fun o e => hs'.extBut D o cb.ne e) (ZG.is his old' hp)
      rw [List.take_of_length_le (by omega)] at hp
      obtain ⟨o, es1, ep1, ho, hc, hdat, hents, _, hnd1⟩ := hz'
      have hDn : H1 D = none := I1.hok.fresh (Nat.le_of_lt hnD)
      have hsz' : s1.heap.objs.size ≤ h'.objs.size := Nat.le_of_lt (Nat.lt_trans hnD (Heap.lt_size ho))
      refine ⟨.ref D, _, I1.laid (a := D) (o := dictHO D o) (h' := h') (t' := t0) old' (Nat.le_of_lt hnD) ⟨ho, ⟨_, ho⟩, fun _ _ q k => k _ q⟩, rfl, q D o hDn ⟨?_, ⟨o, es1, ep1, upd_same, hc, hdat, ?_⟩, ?_⟩⟩
      · exact beq_eq_false_iff_ne.mpr (Nat.ne_of_gt (Nat.lt_trans I1.big hnD))
      · rw [hents]
        exact ents_back (zero_ent hp hpx)
      · rw [paired_keys (zero_ent hp hpx), nodup_some]
        exact hnd1
end
end DL

/-! DL11: the head's facts where exceptions are caught. -/
namespace DL
open PySem PySem.Spec PyProof.Rows L2
theorem xcB_ok {K : PySem.W.Frag} {h : Heap} {mg : Str → Option Value} (X : K.In h) (G : h.Ns mainGlobals mg) {kn : List Str} {c : Str} (q : xcB K kn c = true) : XcOk K mg kn c (He.ga K c) := by
  unfold xcB at q
  obtain ⟨q1, q4⟩ := He.ba q
  obtain ⟨q1, q3⟩ := He.ba q1
  obtain ⟨q1, q2⟩ := He.ba q1
  obtain ⟨q0, q1⟩ := He.ba q1
  obtain ⟨v1, v2⟩ := He.ba q3
  obtain ⟨w1, w4⟩ := He.ba q4
  obtain ⟨w1, w3⟩ := He.ba w1
  obtain ⟨w1, w2⟩ := He.ba w1
  obtain ⟨a1, a2⟩ := He.ba w1
  obtain ⟨b1, b2⟩ := He.ba w2
  obtain ⟨c1, c2⟩ := He.ba w3
  obtain ⟨d1, d2⟩ := He.ba w4
  refine ⟨He.glo_ok X G q0, ⟨He.eqO_ok a1, He.eqO_ok a2, of_decide_eq_true b1, b2, He.eqO_ok c1, He.eqO_ok c2, of_decide_eq_true d1, of_decide_eq_true d2⟩, of_decide_eq_true v1, fun y hy => ?_, ⟨_, He.glo_ok X G q1, of_decide_eq_true v2⟩⟩
  obtain ⟨z1, z2⟩ := He.ba (List.all_eq_true.mp q2 y hy)
  exact ⟨_, He.glo_ok X G z1, of_decide_eq_true z2⟩
section
variable {a : AskD} {K : PySem.W.Frag} {h : Heap} {mg : Str → Option Value} {w : World}
theorem SaysY.x (c : SaysY a K) : SaysX a.fa a.tu a.fn K ∧ a.xc.all (xcB K a.kn) = true := by
  have c1 : a.one K = true := congrArg (fun z : He.AlD => z.1) c
  have c2 : a.fn.map (fun d => He.fnW K d.at_) = a.fn.map He.DefD.val := congrArg (fun z : He.AlD => z.2) c
  unfold AskD.one at c1
  obtain ⟨c3, c4⟩ := He.ba c1
  obtain ⟨c4, c5⟩ := He.ba c4
  refine ⟨?_, c4⟩
  show ((((a.fa.all fun f => f.ok K) && a.tu.all (tuOk K)) && a.fn.all fun d => d.ok K), a.fn.map fun d => He.fnW K d.at_) = He.valD a.fn
  rw [c3, c5, c2]
  rfl
theorem SaysY.xc (c : SaysY a K) (X : K.In h) (G : h.Ns mainGlobals mg) {x : Str} (hx : x ∈ a.xc) : XcOk K mg a.kn x (He.ga K x) := xcB_ok X G (List.all_eq_true.mp c.x.2 x hx)
end

/-! ### classes -/
section
variable {fa : List He.Fa} {tu : TuD} {fn : List He.DefD} {K : PySem.W.Frag} {h : Heap} {mg : Str → Option Value} {w : World}
theorem fun_ofQ {x q : Str} {st : Stmt} {f : Addr} {fd : FuncData} (F : FunD K x q (defArgs st) (defBody st) (defScope st) [] [] f fd) : L2.Fun K x q st f fd := by
  obtain ⟨oc, od, dV, kV, doc, pm, an, cdv, ct, osl, h1, h2, h3, h4, h5⟩ := F.ex
  refine ⟨⟨oc, od, kV, doc, pm, an, cdv, ct, osl, ?_, h2, h3⟩, F.kp⟩
  rcases h4 with ⟨_, h4⟩ | ⟨h4, _⟩
  · rw [h1, h4]
  · exact absurd rfl h4
theorem SaysX.fnQ_ (c' : SaysX fa tu fn K) (i : Nat) {c m q : Str} {st : Stmt} (hd : fn[i]? = some (dOfQ c m q st)) : ∃ fd, L2.Fun K m q st (He.ma K (He.ga K c) m) fd := by
  obtain ⟨fd, F⟩ := c'.def_ i hd
  exact ⟨fd, fun_ofQ F⟩
theorem clP_of (X : K.In h) (G : h.Ns mainGlobals mg) {c : Str} {fs : List Str} (c1 : (He.Fa.glo c).ok K = true) (c2 : (He.Fa.cls c).ok K = true) (c3 : ∀ f ∈ fs, NoAttr K (He.ga K c) f) : ClP K mg c fs := ⟨_, He.glo_ok X G c1, He.cls_ok c2, c3⟩
theorem mtF_of (X : K.In h) (G : h.Ns mainGlobals mg) {c m : Str} (c1 : (He.Fa.glo c).ok K = true) (c2 : (He.Fa.cls c).ok K = true) (c3 : (He.Fa.meth c m).ok K = true) : MtF K mg c m (He.ma K (He.ga K c) m) := ⟨_, He.glo_ok X G c1, He.cls_ok c2, He.meth_ok c3⟩
theorem mkF_of (X : K.In h) (G : h.Ns mainGlobals mg) {c : Str} (c1 : (He.Fa.glo c).ok K = true) (c2 : (He.Fa.mkr c).ok K = true) : MkF K mg c (He.ma K (He.ga K c) "__init__") := ⟨_, He.glo_ok X G c1, He.mkr_ok c2⟩
end
end DL

local macro_rules | `(tactic| walk_at "ev") => `(tactic| simp -implicitDefEqProofs only [DL.v_ok, DL.v_exc, DL.v_bad, DL.v_ite, DL.v_some, DL.v_none, DL.v_optIte, DL.v_peek0, DL.v_peek0l, DL.v_peek0k, DL.v_peekS, DL.v_evOn, DL.v_evOk, DL.v_evOg, DL.v_evOgk, DL.v_resd, DL.v_resn, DL.v_with2, DL.v_w2, DL.v_with1, DL.v_w1, DL.v_e2, DL.v_e2a, DL.v_e2b, DL.v_e1, DL.v_e1a, DL.v_eC, DL.v_pure, DL.v_badM, DL.v_sl0, DL.v_slS, DL.v_eVar, DL.v_eVarv, DL.v_eVarl, DL.v_eVark, DL.v_fVar, DL.v_fVarv, DL.v_fVarl, DL.v_fVark, DL.v_fVarc, DL.v_aVar, DL.v_aVarv, DL.v_aVarl, DL.v_aVarc, DL.v_asRV, DL.v_asRVk, DL.v_asD, DL.v_asDd, DL.v_asDl, DL.v_asDk, DL.v_asDite, DL.v_tB1, DL.v_tB1k, DL.v_bNot, DL.v_bNotk, DL.v_bAnd, DL.v_bAndk, DL.v_bOr, DL.v_bOrk, DL.v_vAnd, DL.v_vAndk, DL.v_vOr, DL.v_vOrk, DL.v_vNot, DL.v_vNotk, DL.v_eIf, DL.v_eIfk, DL.v_chain, DL.v_cha, DL.v_chb, DL.v_chk, DL.v_chc, DL.v_eNil, DL.v_eCons, DL.v_eConsk, DL.v_eConsb, DL.v_eTup, DL.v_eTupk, DL.v_eLst, DL.v_eLstk, DL.v_fNil, DL.v_fCons, DL.v_fConsk, DL.v_fConsb, DL.v_aNil, DL.v_aCons, DL.v_aConsk, DL.v_aConsb, DL.v_aOf, DL.v_aOfk, DL.v_prok, DL.v_prexc, DL.v_prite, DL.v_callF, DL.v_callFk, DL.v_callB, DL.v_callBk, DL.v_optB, DL.v_prBok, DL.v_prBexc, DL.v_prBite, DL.v_evOsn, DL.v_evOsc, DL.v_evOsk, DL.v_evOsb, DL.v_ress0, DL.v_ress1, DL.v_consO, DL.v_frok, DL.v_frexc, DL.v_callM, DL.v_callMk, DL.v_seq, DL.v_nx, DL.v_rt, DL.v_ct, DL.v_bk, DL.v_sexc, DL.v_sbad, DL.v_site, DL.v_sRet, DL.v_sRetk, DL.v_sSet, DL.v_sSetk, DL.v_setSl, DL.v_slOfd, DL.v_slOfl, DL.v_slOfk, DL.v_slOfc, DL.v_sDrop, DL.v_sDropk, DL.v_sIf, DL.v_sIfk, DL.v_sRaise, DL.v_stR, DL.v_sPar, DL.v_sPark, DL.v_setAll0, DL.v_setAll1, DL.v_sUnp, DL.v_sUnpk, DL.v_tName, DL.v_tTup, DL.v_tCons, DL.v_tNil, DL.v_tbind, DL.v_sAug, DL.v_sAugk, DL.v_sAugb, DL.v_sAugo, DL.v_sAugi, DL.v_sAugn, DL.v_kill0, DL.v_killS, DL.v_forT, DL.v_forBn, DL.v_forBc, DL.v_forBb, DL.v_forBr, DL.v_forBe, DL.v_forBi, DL.v_sFor, DL.v_sFork, DL.v_iRng1, DL.v_iRng1k, DL.v_iRng2, DL.v_iRng2k, DL.v_iSeq, DL.v_iSeql, DL.v_iSeqt, DL.v_whBn, DL.v_sWhile, DL.v_compM, DL.v_compO, DL.v_compT, DL.v_compE, DL.v_eLcb, DL.v_eLc, DL.v_eLck, DL.v_append, DL.v_appA, DL.v_appK, DL.v_appO, DL.v_listAt, DL.v_listKo, DL.v_putList, DL.v_putKo, DL.v_putKc, DL.v_sCell, DL.v_sCellk, DL.v_cl0, DL.v_clS, DL.v_ckDl, DL.v_ckDk, DL.v_peekc, DL.v_ckL, DL.v_listKg, DL.v_stIx, DL.v_stIn, DL.v_stL, DL.v_stI, DL.v_stO, DL.v_stK, DL.v_setIx, DL.v_ixN0, DL.v_ixN1, DL.v_agZ, DL.v_agD, DL.v_nth0, DL.v_nthS, DL.v_agL, DL.v_augIx, DL.v_gAdd, DL.v_gSub, DL.v_gMul, DL.v_gDiv, DL.v_gMod, DL.v_gPow, DL.v_gLt, DL.v_gLe, DL.v_gGt, DL.v_gGe, DL.v_gNeg, DL.v_gAbs, DL.v_gMax, DL.v_gMin, DL.v_gLenl, DL.v_gLent, DL.v_gIxl, DL.v_gIxt, DL.v_gEqi, DL.v_gNei, DL.v_isN0, DL.v_isN1, DL.v_isN2, DL.v_isN3, DL.v_isN4, DL.v_isN5, DL.v_gIsN, DL.v_gNotN, DL.v_gIsB, DL.v_gNotB, DL.v_atI0, DL.v_atI1, DL.v_atIm, DL.v_isii, DL.v_isib, DL.v_isis, DL.v_isit, DL.v_isil, DL.v_isin, DL.v_runF, DL.v_outd, DL.v_outl, DL.v_outk, DL.v_outn, DL.v_oute, DL.v_outi, DL.v_runM, DL.v_moutr, DL.v_moutn, DL.v_moute, DL.v_mouti, DL.v_envOf, DL.v_envM, DL.v_eqvii, DL.v_eqvbb, DL.v_eqvss, DL.v_eqvnn, DL.v_eqvni, DL.v_eqvin, DL.v_eqvns, DL.v_eqvsn, DL.v_eqvnt, DL.v_eqvtn, DL.v_eqvnl, DL.v_eqvln, DL.v_eqvis, DL.v_eqvsi, DL.v_eqvtt, DL.v_eqvll, DL.v_eqvA0, DL.v_eqvA1, DL.v_eqvA2, DL.v_eqvA3, DL.v_gEqnone, DL.v_gEqsl, DL.v_gNesl, DL.v_gEqt2, DL.v_gNet2, DL.v_gEqo, DL.v_gNeo, DL.v_gEqoi, DL.v_gNeoi, DL.v_isNo, DL.v_oDs, DL.v_oDn, DL.v_oDi, DL.v_flI, DL.v_flS, DL.v_flN, DL.v_flO, DL.v_eqvon, DL.v_gInT, DL.v_gNotInT, DL.v_okTs, DL.v_okFn, DL.v_okFc, DL.v_okFr, DL.v_okFi, DL.v_noA, DL.v_okB, DL.v_okBi, DL.v_fIf, DL.v_fIfk, DL.v_fNew, DL.v_fNewk, DL.v_eNewT, DL.v_eNewTk, DL.v_dZip, DL.v_dZipk, DL.v_asSeql, DL.v_asSeqt, DL.v_fRep, DL.v_repK, DL.v_repK2, DL.v_eVals0, DL.v_eVals1, DL.v_eValsk, DL.v_eValsk2, DL.v_dgetK, DL.v_dgK1, DL.v_dgK2, DL.v_dgK3, DL.v_lookL0, DL.v_lookL1, DL.v_dgetK1, DL.v_dgJ1, DL.v_dgJ2, DL.v_gEqlo, DL.v_gNelo, DL.v_gEqli, DL.v_gNeli, DL.v_gEqll0, DL.v_tLstG, DL.v_extend, DL.v_extA, DL.v_extk, DL.v_extB, DL.v_gInli, DL.v_gNotInli, DL.v_gNebb, DL.v_gEqbb, DL.v_gNenn, DL.v_gEqnn, DL.v_gCatl, DL.v_gCutLl, DL.v_gCutUl, DL.v_gCutLt, DL.v_gCutUt, DL.v_eLc2, DL.v_eLc2k, DL.v_dZipkT, DL.v_gCatTt, DL.v_fDict0, DL.v_dictAt, DL.v_dictKo, DL.v_putDict, DL.v_ptL, DL.v_ptI, DL.v_ptO, DL.v_ptK, DL.v_sPutD, DL.v_gInD, DL.v_gNotInD, DL.v_gGetD, DL.v_d1L, DL.v_d1K, DL.v_fDict1, DL.v_gSumT, DL.v_gmL, DL.v_gmJ, DL.v_gmI, DL.v_gmK, DL.v_eGetM, DL.v_gSortD, DL.v_gSortK, DL.v_gMinD, DL.v_iKeysk, DL.v_iKeys, DL.v_dEnumTk, DL.v_dEnumT, DL.v_gUsortT, DL.v_fListRg, DL.v_fListRgk, DL.v_eTupDn, DL.v_eTupDnk, DL.v_eCutB, DL.v_eCutBa, DL.v_eCutBb, DL.v_eCutBc, DL.v_gCutIJ, DL.v_gSortTI, DL.v_asI, DL.v_strbeq, DL.v_peekC, DL.v_pkCl, DL.v_pkCd, DL.v_evOc, DL.v_evOck, DL.v_resc, DL.v_oVar, DL.v_oVark, DL.v_fcl, DL.v_lkF, DL.v_lkI, DL.v_lk0, DL.v_lk1, DL.v_eFld, DL.v_eFldk, DL.v_eFldR, DL.v_cFld, DL.v_cFldk, DL.v_cFldR, DL.v_asC, DL.v_asCk, DL.v_fOfC, DL.v_fOfCk, DL.v_aOfC, DL.v_aOfCk, DL.v_putS0, DL.v_putS1, DL.v_sFldP, DL.v_sFldkd, DL.v_sFldkc, DL.v_sFldkl, DL.v_sFldkk, DL.v_sFldO, DL.v_stR2n, DL.v_stR2s, DL.v_stR2i, DL.v_callO, DL.v_callOk, DL.v_callOb, DL.v_callOa, DL.v_iss, DL.v_isS, DL.v_mkO, DL.v_mkOk, DL.v_mkRok, DL.v_mkRx, DL.v_lcl, DL.v_dcl, DL.v_fAppC, DL.v_appKC, DL.v_appOC, DL.v_appAC, DL.v_appBC, DL.v_fPopC, DL.v_popK, DL.v_popL, DL.v_popR, DL.v_sPutC, DL.v_putKC, DL.v_putK2, DL.v_putO, DL.v_putA, DL.v_putB, DL.v_sTryW, DL.v_tryN, DL.v_tryT, DL.v_tryE, DL.v_tryWs, DL.v_fstsO, DL.v_eFst, DL.v_eFstk, DL.v_eFstr, DL.v_eLenO, DL.v_eLenOk, DL.v_lenOc, DL.v_lenOb, DL.v_fAppTN, DL.v_appTNk, List.map_cons, List.map_nil, List.replicate, List.set_cons_zero, List.set_cons_succ, List.length_cons, List.length_nil, List.nil_append, List.cons_append, List.append_nil, Nat.reduceAdd, Nat.reduceSub, Nat.reduceLeDiff, Nat.reduceBEq, Nat.reduceEqDiff, Nat.reduceLT, Int.reduceNeg, String.reduceBEq, String.reduceEq, DL.ofString_inj, List.all_cons, List.any_cons, List.all_nil, List.any_nil, decide_eq_true_eq, decide_true, decide_false, Bool.not_eq_true', Bool.not_true, Bool.not_false, Bool.true_or, Bool.or_true, Bool.false_or, Bool.or_false, Bool.and_true, Bool.true_and, Bool.and_false, Bool.false_and, reduceIte, if_true, if_false, Bool.false_eq_true, Bool.true_eq_false, beq_self_eq_true, Nat.le_refl, Nat.zero_le, Nat.zero_add, Nat.add_zero, Int.cast_ofNat_Int, Int.natCast_add, Int.natCast_zero, Option.isNone_none, Option.isNone_some, DL.mulOkR, DL.mulOkL, DL.divOkR, DL.powOkL, DL.rangeOkL, Int.reducePow, Int.reduceToNat, Int.reduceMul, Int.reduceAdd, Int.reduceSub, Int.reduceLT, Int.reduceLE, Int.reduceDiv, Int.reduceMod, Int.reduceEq])
local macro_rules | `(tactic| walk_at "evfor") => `(tactic| simp -implicitDefEqProofs only [DL.v_for1, DL.v_for0, DL.v_ok, DL.v_exc, DL.v_bad, DL.v_ite, DL.v_some, DL.v_none, DL.v_optIte, DL.v_peek0, DL.v_peek0l, DL.v_peek0k, DL.v_peekS, DL.v_evOn, DL.v_evOk, DL.v_evOg, DL.v_evOgk, DL.v_resd, DL.v_resn, DL.v_with2, DL.v_w2, DL.v_with1, DL.v_w1, DL.v_e2, DL.v_e2a, DL.v_e2b, DL.v_e1, DL.v_e1a, DL.v_eC, DL.v_pure, DL.v_badM, DL.v_sl0, DL.v_slS, DL.v_eVar, DL.v_eVarv, DL.v_eVarl, DL.v_eVark, DL.v_fVar, DL.v_fVarv, DL.v_fVarl, DL.v_fVark, DL.v_fVarc, DL.v_aVar, DL.v_aVarv, DL.v_aVarl, DL.v_aVarc, DL.v_asRV, DL.v_asRVk, DL.v_asD, DL.v_asDd, DL.v_asDl, DL.v_asDk, DL.v_asDite, DL.v_tB1, DL.v_tB1k, DL.v_bNot, DL.v_bNotk, DL.v_bAnd, DL.v_bAndk, DL.v_bOr, DL.v_bOrk, DL.v_vAnd, DL.v_vAndk, DL.v_vOr, DL.v_vOrk, DL.v_vNot, DL.v_vNotk, DL.v_eIf, DL.v_eIfk, DL.v_chain, DL.v_cha, DL.v_chb, DL.v_chk, DL.v_chc, DL.v_eNil, DL.v_eCons, DL.v_eConsk, DL.v_eConsb, DL.v_eTup, DL.v_eTupk, DL.v_eLst, DL.v_eLstk, DL.v_fNil, DL.v_fCons, DL.v_fConsk, DL.v_fConsb, DL.v_aNil, DL.v_aCons, DL.v_aConsk, DL.v_aConsb, DL.v_aOf, DL.v_aOfk, DL.v_prok, DL.v_prexc, DL.v_prite, DL.v_callF, DL.v_callFk, DL.v_callB, DL.v_callBk, DL.v_optB, DL.v_prBok, DL.v_prBexc, DL.v_prBite, DL.v_evOsn, DL.v_evOsc, DL.v_evOsk, DL.v_evOsb, DL.v_ress0, DL.v_ress1, DL.v_consO, DL.v_frok, DL.v_frexc, DL.v_callM, DL.v_callMk, DL.v_seq, DL.v_nx, DL.v_rt, DL.v_ct, DL.v_bk, DL.v_sexc, DL.v_sbad, DL.v_site, DL.v_sRet, DL.v_sRetk, DL.v_sSet, DL.v_sSetk, DL.v_setSl, DL.v_slOfd, DL.v_slOfl, DL.v_slOfk, DL.v_slOfc, DL.v_sDrop, DL.v_sDropk, DL.v_sIf, DL.v_sIfk, DL.v_sRaise, DL.v_stR, DL.v_sPar, DL.v_sPark, DL.v_setAll0, DL.v_setAll1, DL.v_sUnp, DL.v_sUnpk, DL.v_tName, DL.v_tTup, DL.v_tCons, DL.v_tNil, DL.v_tbind, DL.v_sAug, DL.v_sAugk, DL.v_sAugb, DL.v_sAugo, DL.v_sAugi, DL.v_sAugn, DL.v_kill0, DL.v_killS, DL.v_forT, DL.v_forBn, DL.v_forBc, DL.v_forBb, DL.v_forBr, DL.v_forBe, DL.v_forBi, DL.v_sFor, DL.v_sFork, DL.v_iRng1, DL.v_iRng1k, DL.v_iRng2, DL.v_iRng2k, DL.v_iSeq, DL.v_iSeql, DL.v_iSeqt, DL.v_whBn, DL.v_sWhile, DL.v_compM, DL.v_compO, DL.v_compT, DL.v_compE, DL.v_eLcb, DL.v_eLc, DL.v_eLck, DL.v_append, DL.v_appA, DL.v_appK, DL.v_appO, DL.v_listAt, DL.v_listKo, DL.v_putList, DL.v_putKo, DL.v_putKc, DL.v_sCell, DL.v_sCellk, DL.v_cl0, DL.v_clS, DL.v_ckDl, DL.v_ckDk, DL.v_peekc, DL.v_ckL, DL.v_listKg, DL.v_stIx, DL.v_stIn, DL.v_stL, DL.v_stI, DL.v_stO, DL.v_stK, DL.v_setIx, DL.v_ixN0, DL.v_ixN1, DL.v_agZ, DL.v_agD, DL.v_nth0, DL.v_nthS, DL.v_agL, DL.v_augIx, DL.v_gAdd, DL.v_gSub, DL.v_gMul, DL.v_gDiv, DL.v_gMod, DL.v_gPow, DL.v_gLt, DL.v_gLe, DL.v_gGt, DL.v_gGe, DL.v_gNeg, DL.v_gAbs, DL.v_gMax, DL.v_gMin, DL.v_gLenl, DL.v_gLent, DL.v_gIxl, DL.v_gIxt, DL.v_gEqi, DL.v_gNei, DL.v_isN0, DL.v_isN1, DL.v_isN2, DL.v_isN3, DL.v_isN4, DL.v_isN5, DL.v_gIsN, DL.v_gNotN, DL.v_gIsB, DL.v_gNotB, DL.v_atI0, DL.v_atI1, DL.v_atIm, DL.v_isii, DL.v_isib, DL.v_isis, DL.v_isit, DL.v_isil, DL.v_isin, DL.v_runF, DL.v_outd, DL.v_outl, DL.v_outk, DL.v_outn, DL.v_oute, DL.v_outi, DL.v_runM, DL.v_moutr, DL.v_moutn, DL.v_moute, DL.v_mouti, DL.v_envOf, DL.v_envM, DL.v_eqvii, DL.v_eqvbb, DL.v_eqvss, DL.v_eqvnn, DL.v_eqvni, DL.v_eqvin, DL.v_eqvns, DL.v_eqvsn, DL.v_eqvnt, DL.v_eqvtn, DL.v_eqvnl, DL.v_eqvln, DL.v_eqvis, DL.v_eqvsi, DL.v_eqvtt, DL.v_eqvll, DL.v_eqvA0, DL.v_eqvA1, DL.v_eqvA2, DL.v_eqvA3, DL.v_gEqnone, DL.v_gEqsl, DL.v_gNesl, DL.v_gEqt2, DL.v_gNet2, DL.v_gEqo, DL.v_gNeo, DL.v_gEqoi, DL.v_gNeoi, DL.v_isNo, DL.v_oDs, DL.v_oDn, DL.v_oDi, DL.v_flI, DL.v_flS, DL.v_flN, DL.v_flO, DL.v_eqvon, DL.v_gInT, DL.v_gNotInT, DL.v_okTs, DL.v_okFn, DL.v_okFc, DL.v_okFr, DL.v_okFi, DL.v_noA, DL.v_okB, DL.v_okBi, DL.v_fIf, DL.v_fIfk, DL.v_fNew, DL.v_fNewk, DL.v_eNewT, DL.v_eNewTk, DL.v_dZip, DL.v_dZipk, DL.v_asSeql, DL.v_asSeqt, DL.v_fRep, DL.v_repK, DL.v_repK2, DL.v_eVals0, DL.v_eVals1, DL.v_eValsk, DL.v_eValsk2, DL.v_dgetK, DL.v_dgK1, DL.v_dgK2, DL.v_dgK3, DL.v_lookL0, DL.v_lookL1, DL.v_dgetK1, DL.v_dgJ1, DL.v_dgJ2, DL.v_gEqlo, DL.v_gNelo, DL.v_gEqli, DL.v_gNeli, DL.v_gEqll0, DL.v_tLstG, DL.v_extend, DL.v_extA, DL.v_extk, DL.v_extB, DL.v_gInli, DL.v_gNotInli, DL.v_gNebb, DL.v_gEqbb, DL.v_gNenn, DL.v_gEqnn, DL.v_gCatl, DL.v_gCutLl, DL.v_gCutUl, DL.v_gCutLt, DL.v_gCutUt, DL.v_eLc2, DL.v_eLc2k, DL.v_dZipkT, DL.v_gCatTt, DL.v_fDict0, DL.v_dictAt, DL.v_dictKo, DL.v_putDict, DL.v_ptL, DL.v_ptI, DL.v_ptO, DL.v_ptK, DL.v_sPutD, DL.v_gInD, DL.v_gNotInD, DL.v_gGetD, DL.v_d1L, DL.v_d1K, DL.v_fDict1, DL.v_gSumT, DL.v_gmL, DL.v_gmJ, DL.v_gmI, DL.v_gmK, DL.v_eGetM, DL.v_gSortD, DL.v_gSortK, DL.v_gMinD, DL.v_iKeysk, DL.v_iKeys, DL.v_dEnumTk, DL.v_dEnumT, DL.v_gUsortT, DL.v_fListRg, DL.v_fListRgk, DL.v_eTupDn, DL.v_eTupDnk, DL.v_eCutB, DL.v_eCutBa, DL.v_eCutBb, DL.v_eCutBc, DL.v_gCutIJ, DL.v_gSortTI, DL.v_asI, DL.v_strbeq, DL.v_peekC, DL.v_pkCl, DL.v_pkCd, DL.v_evOc, DL.v_evOck, DL.v_resc, DL.v_oVar, DL.v_oVark, DL.v_fcl, DL.v_lkF, DL.v_lkI, DL.v_lk0, DL.v_lk1, DL.v_eFld, DL.v_eFldk, DL.v_eFldR, DL.v_cFld, DL.v_cFldk, DL.v_cFldR, DL.v_asC, DL.v_asCk, DL.v_fOfC, DL.v_fOfCk, DL.v_aOfC, DL.v_aOfCk, DL.v_putS0, DL.v_putS1, DL.v_sFldP, DL.v_sFldkd, DL.v_sFldkc, DL.v_sFldkl, DL.v_sFldkk, DL.v_sFldO, DL.v_stR2n, DL.v_stR2s, DL.v_stR2i, DL.v_callO, DL.v_callOk, DL.v_callOb, DL.v_callOa, DL.v_iss, DL.v_isS, DL.v_mkO, DL.v_mkOk, DL.v_mkRok, DL.v_mkRx, DL.v_lcl, DL.v_dcl, DL.v_fAppC, DL.v_appKC, DL.v_appOC, DL.v_appAC, DL.v_appBC, DL.v_fPopC, DL.v_popK, DL.v_popL, DL.v_popR, DL.v_sPutC, DL.v_putKC, DL.v_putK2, DL.v_putO, DL.v_putA, DL.v_putB, DL.v_sTryW, DL.v_tryN, DL.v_tryT, DL.v_tryE, DL.v_tryWs, DL.v_fstsO, DL.v_eFst, DL.v_eFstk, DL.v_eFstr, DL.v_eLenO, DL.v_eLenOk, DL.v_lenOc, DL.v_lenOb, DL.v_fAppTN, DL.v_appTNk, List.map_cons, List.map_nil, List.replicate, List.set_cons_zero, List.set_cons_succ, List.length_cons, List.length_nil, List.nil_append, List.cons_append, List.append_nil, Nat.reduceAdd, Nat.reduceSub, Nat.reduceLeDiff, Nat.reduceBEq, Nat.reduceEqDiff, Nat.reduceLT, Int.reduceNeg, String.reduceBEq, String.reduceEq, DL.ofString_inj, List.all_cons, List.any_cons, List.all_nil, List.any_nil, decide_eq_true_eq, decide_true, decide_false, Bool.not_eq_true', Bool.not_true, Bool.not_false, Bool.true_or, Bool.or_true, Bool.false_or, Bool.or_false, Bool.and_true, Bool.true_and, Bool.and_false, Bool.false_and, reduceIte, if_true, if_false, Bool.false_eq_true, Bool.true_eq_false, beq_self_eq_true, Nat.le_refl, Nat.zero_le, Nat.zero_add, Nat.add_zero, Int.cast_ofNat_Int, Int.natCast_add, Int.natCast_zero, Option.isNone_none, Option.isNone_some, DL.mulOkR, DL.mulOkL, DL.divOkR, DL.powOkL, DL.rangeOkL, Int.reducePow, Int.reduceToNat, Int.reduceMul, Int.reduceAdd, Int.reduceSub, Int.reduceLT, Int.reduceLE, Int.reduceDiv, Int.reduceMod, Int.reduceEq])
local macro_rules | `(tactic| walk_at "evwh") => `(tactic| simp -implicitDefEqProofs only [DL.w_step, DL.w_c, DL.v_ok, DL.v_exc, DL.v_bad, DL.v_ite, DL.v_some, DL.v_none, DL.v_optIte, DL.v_peek0, DL.v_peek0l, DL.v_peek0k, DL.v_peekS, DL.v_evOn, DL.v_evOk, DL.v_evOg, DL.v_evOgk, DL.v_resd, DL.v_resn, DL.v_with2, DL.v_w2, DL.v_with1, DL.v_w1, DL.v_e2, DL.v_e2a, DL.v_e2b, DL.v_e1, DL.v_e1a, DL.v_eC, DL.v_pure, DL.v_badM, DL.v_sl0, DL.v_slS, DL.v_eVar, DL.v_eVarv, DL.v_eVarl, DL.v_eVark, DL.v_fVar, DL.v_fVarv, DL.v_fVarl, DL.v_fVark, DL.v_fVarc, DL.v_aVar, DL.v_aVarv, DL.v_aVarl, DL.v_aVarc, DL.v_asRV, DL.v_asRVk, DL.v_asD, DL.v_asDd, DL.v_asDl, DL.v_asDk, DL.v_asDite, DL.v_tB1, DL.v_tB1k, DL.v_bNot, DL.v_bNotk, DL.v_bAnd, DL.v_bAndk, DL.v_bOr, DL.v_bOrk, DL.v_vAnd, DL.v_vAndk, DL.v_vOr, DL.v_vOrk, DL.v_vNot, DL.v_vNotk, DL.v_eIf, DL.v_eIfk, DL.v_chain, DL.v_cha, DL.v_chb, DL.v_chk, DL.v_chc, DL.v_eNil, DL.v_eCons, DL.v_eConsk, DL.v_eConsb, DL.v_eTup, DL.v_eTupk, DL.v_eLst, DL.v_eLstk, DL.v_fNil, DL.v_fCons, DL.v_fConsk, DL.v_fConsb, DL.v_aNil, DL.v_aCons, DL.v_aConsk, DL.v_aConsb, DL.v_aOf, DL.v_aOfk, DL.v_prok, DL.v_prexc, DL.v_prite, DL.v_callF, DL.v_callFk, DL.v_callB, DL.v_callBk, DL.v_optB, DL.v_prBok, DL.v_prBexc, DL.v_prBite, DL.v_evOsn, DL.v_evOsc, DL.v_evOsk, DL.v_evOsb, DL.v_ress0, DL.v_ress1, DL.v_consO, DL.v_frok, DL.v_frexc, DL.v_callM, DL.v_callMk, DL.v_seq, DL.v_nx, DL.v_rt, DL.v_ct, DL.v_bk, DL.v_sexc, DL.v_sbad, DL.v_site, DL.v_sRet, DL.v_sRetk, DL.v_sSet, DL.v_sSetk, DL.v_setSl, DL.v_slOfd, DL.v_slOfl, DL.v_slOfk, DL.v_slOfc, DL.v_sDrop, DL.v_sDropk, DL.v_sIf, DL.v_sIfk, DL.v_sRaise, DL.v_stR, DL.v_sPar, DL.v_sPark, DL.v_setAll0, DL.v_setAll1, DL.v_sUnp, DL.v_sUnpk, DL.v_tName, DL.v_tTup, DL.v_tCons, DL.v_tNil, DL.v_tbind, DL.v_sAug, DL.v_sAugk, DL.v_sAugb, DL.v_sAugo, DL.v_sAugi, DL.v_sAugn, DL.v_kill0, DL.v_killS, DL.v_forT, DL.v_forBn, DL.v_forBc, DL.v_forBb, DL.v_forBr, DL.v_forBe, DL.v_forBi, DL.v_sFor, DL.v_sFork, DL.v_iRng1, DL.v_iRng1k, DL.v_iRng2, DL.v_iRng2k, DL.v_iSeq, DL.v_iSeql, DL.v_iSeqt, DL.v_whBn, DL.v_sWhile, DL.v_compM, DL.v_compO, DL.v_compT, DL.v_compE, DL.v_eLcb, DL.v_eLc, DL.v_eLck, DL.v_append, DL.v_appA, DL.v_appK, DL.v_appO, DL.v_listAt, DL.v_listKo, DL.v_putList, DL.v_putKo, DL.v_putKc, DL.v_sCell, DL.v_sCellk, DL.v_cl0, DL.v_clS, DL.v_ckDl, DL.v_ckDk, DL.v_peekc, DL.v_ckL, DL.v_listKg, DL.v_stIx, DL.v_stIn, DL.v_stL, DL.v_stI, DL.v_stO, DL.v_stK, DL.v_setIx, DL.v_ixN0, DL.v_ixN1, DL.v_agZ, DL.v_agD, DL.v_nth0, DL.v_nthS, DL.v_agL, DL.v_augIx, DL.v_gAdd, DL.v_gSub, DL.v_gMul, DL.v_gDiv, DL.v_gMod, DL.v_gPow, DL.v_gLt, DL.v_gLe, DL.v_gGt, DL.v_gGe, DL.v_gNeg, DL.v_gAbs, DL.v_gMax, DL.v_gMin, DL.v_gLenl, DL.v_gLent, DL.v_gIxl, DL.v_gIxt, DL.v_gEqi, DL.v_gNei, DL.v_isN0, DL.v_isN1, DL.v_isN2, DL.v_isN3, DL.v_isN4, DL.v_isN5, DL.v_gIsN, DL.v_gNotN, DL.v_gIsB, DL.v_gNotB, DL.v_atI0, DL.v_atI1, DL.v_atIm, DL.v_isii, DL.v_isib, DL.v_isis, DL.v_isit, DL.v_isil, DL.v_isin, DL.v_runF, DL.v_outd, DL.v_outl, DL.v_outk, DL.v_outn, DL.v_oute, DL.v_outi, DL.v_runM, DL.v_moutr, DL.v_moutn, DL.v_moute, DL.v_mouti, DL.v_envOf, DL.v_envM, DL.v_eqvii, DL.v_eqvbb, DL.v_eqvss, DL.v_eqvnn, DL.v_eqvni, DL.v_eqvin, DL.v_eqvns, DL.v_eqvsn, DL.v_eqvnt, DL.v_eqvtn, DL.v_eqvnl, DL.v_eqvln, DL.v_eqvis, DL.v_eqvsi, DL.v_eqvtt, DL.v_eqvll, DL.v_eqvA0, DL.v_eqvA1, DL.v_eqvA2, DL.v_eqvA3, DL.v_gEqnone, DL.v_gEqsl, DL.v_gNesl, DL.v_gEqt2, DL.v_gNet2, DL.v_gEqo, DL.v_gNeo, DL.v_gEqoi, DL.v_gNeoi, DL.v_isNo, DL.v_oDs, DL.v_oDn, DL.v_oDi, DL.v_flI, DL.v_flS, DL.v_flN, DL.v_flO, DL.v_eqvon, DL.v_gInT, DL.v_gNotInT, DL.v_okTs, DL.v_okFn, DL.v_okFc, DL.v_okFr, DL.v_okFi, DL.v_noA, DL.v_okB, DL.v_okBi, DL.v_fIf, DL.v_fIfk, DL.v_fNew, DL.v_fNewk, DL.v_eNewT, DL.v_eNewTk, DL.v_dZip, DL.v_dZipk, DL.v_asSeql, DL.v_asSeqt, DL.v_fRep, DL.v_repK, DL.v_repK2, DL.v_eVals0, DL.v_eVals1, DL.v_eValsk, DL.v_eValsk2, DL.v_dgetK, DL.v_dgK1, DL.v_dgK2, DL.v_dgK3, DL.v_lookL0, DL.v_lookL1, DL.v_dgetK1, DL.v_dgJ1, DL.v_dgJ2, DL.v_gEqlo, DL.v_gNelo, DL.v_gEqli, DL.v_gNeli, DL.v_gEqll0, DL.v_tLstG, DL.v_extend, DL.v_extA, DL.v_extk, DL.v_extB, DL.v_gInli, DL.v_gNotInli, DL.v_gNebb, DL.v_gEqbb, DL.v_gNenn, DL.v_gEqnn, DL.v_gCatl, DL.v_gCutLl, DL.v_gCutUl, DL.v_gCutLt, DL.v_gCutUt, DL.v_eLc2, DL.v_eLc2k, DL.v_dZipkT, DL.v_gCatTt, DL.v_fDict0, DL.v_dictAt, DL.v_dictKo, DL.v_putDict, DL.v_ptL, DL.v_ptI, DL.v_ptO, DL.v_ptK, DL.v_sPutD, DL.v_gInD, DL.v_gNotInD, DL.v_gGetD, DL.v_d1L, DL.v_d1K, DL.v_fDict1, DL.v_gSumT, DL.v_gmL, DL.v_gmJ, DL.v_gmI, DL.v_gmK, DL.v_eGetM, DL.v_gSortD, DL.v_gSortK, DL.v_gMinD, DL.v_iKeysk, DL.v_iKeys, DL.v_dEnumTk, DL.v_dEnumT, DL.v_gUsortT, DL.v_fListRg, DL.v_fListRgk, DL.v_eTupDn, DL.v_eTupDnk, DL.v_eCutB, DL.v_eCutBa, DL.v_eCutBb, DL.v_eCutBc, DL.v_gCutIJ, DL.v_gSortTI, DL.v_asI, DL.v_strbeq, DL.v_peekC, DL.v_pkCl, DL.v_pkCd, DL.v_evOc, DL.v_evOck, DL.v_resc, DL.v_oVar, DL.v_oVark, DL.v_fcl, DL.v_lkF, DL.v_lkI, DL.v_lk0, DL.v_lk1, DL.v_eFld, DL.v_eFldk, DL.v_eFldR, DL.v_cFld, DL.v_cFldk, DL.v_cFldR, DL.v_asC, DL.v_asCk, DL.v_fOfC, DL.v_fOfCk, DL.v_aOfC, DL.v_aOfCk, DL.v_putS0, DL.v_putS1, DL.v_sFldP, DL.v_sFldkd, DL.v_sFldkc, DL.v_sFldkl, DL.v_sFldkk, DL.v_sFldO, DL.v_stR2n, DL.v_stR2s, DL.v_stR2i, DL.v_callO, DL.v_callOk, DL.v_callOb, DL.v_callOa, DL.v_iss, DL.v_isS, DL.v_mkO, DL.v_mkOk, DL.v_mkRok, DL.v_mkRx, DL.v_lcl, DL.v_dcl, DL.v_fAppC, DL.v_appKC, DL.v_appOC, DL.v_appAC, DL.v_appBC, DL.v_fPopC, DL.v_popK, DL.v_popL, DL.v_popR, DL.v_sPutC, DL.v_putKC, DL.v_putK2, DL.v_putO, DL.v_putA, DL.v_putB, DL.v_sTryW, DL.v_tryN, DL.v_tryT, DL.v_tryE, DL.v_tryWs, DL.v_fstsO, DL.v_eFst, DL.v_eFstk, DL.v_eFstr, DL.v_eLenO, DL.v_eLenOk, DL.v_lenOc, DL.v_lenOb, DL.v_fAppTN, DL.v_appTNk, List.map_cons, List.map_nil, List.replicate, List.set_cons_zero, List.set_cons_succ, List.length_cons, List.length_nil, List.nil_append, List.cons_append, List.append_nil, Nat.reduceAdd, Nat.reduceSub, Nat.reduceLeDiff, Nat.reduceBEq, Nat.reduceEqDiff, Nat.reduceLT, Int.reduceNeg, String.reduceBEq, String.reduceEq, DL.ofString_inj, List.all_cons, List.any_cons, List.all_nil, List.any_nil, decide_eq_true_eq, decide_true, decide_false, Bool.not_eq_true', Bool.not_true, Bool.not_false, Bool.true_or, Bool.or_true, Bool.false_or, Bool.or_false, Bool.and_true, Bool.true_and, Bool.and_false, Bool.false_and, reduceIte, if_true, if_false, Bool.false_eq_true, Bool.true_eq_false, beq_self_eq_true, Nat.le_refl, Nat.zero_le, Nat.zero_add, Nat.add_zero, Int.cast_ofNat_Int, Int.natCast_add, Int.natCast_zero, Option.isNone_none, Option.isNone_some, DL.mulOkR, DL.mulOkL, DL.divOkR, DL.powOkL, DL.rangeOkL, Int.reducePow, Int.reduceToNat, Int.reduceMul, Int.reduceAdd, Int.reduceSub, Int.reduceLT, Int.reduceLE, Int.reduceDiv, Int.reduceMod, Int.reduceEq])
local macro_rules | `(tactic| walk_at "evcomp") => `(tactic| simp -implicitDefEqProofs only [DL.v_comp1, DL.v_comp0, DL.v_ok, DL.v_exc, DL.v_bad, DL.v_ite, DL.v_some, DL.v_none, DL.v_optIte, DL.v_peek0, DL.v_peek0l, DL.v_peek0k, DL.v_peekS, DL.v_evOn, DL.v_evOk, DL.v_evOg, DL.v_evOgk, DL.v_resd, DL.v_resn, DL.v_with2, DL.v_w2, DL.v_with1, DL.v_w1, DL.v_e2, DL.v_e2a, DL.v_e2b, DL.v_e1, DL.v_e1a, DL.v_eC, DL.v_pure, DL.v_badM, DL.v_sl0, DL.v_slS, DL.v_eVar, DL.v_eVarv, DL.v_eVarl, DL.v_eVark, DL.v_fVar, DL.v_fVarv, DL.v_fVarl, DL.v_fVark, DL.v_fVarc, DL.v_aVar, DL.v_aVarv, DL.v_aVarl, DL.v_aVarc, DL.v_asRV, DL.v_asRVk, DL.v_asD, DL.v_asDd, DL.v_asDl, DL.v_asDk, DL.v_asDite, DL.v_tB1, DL.v_tB1k, DL.v_bNot, DL.v_bNotk, DL.v_bAnd, DL.v_bAndk, DL.v_bOr, DL.v_bOrk, DL.v_vAnd, DL.v_vAndk, DL.v_vOr, DL.v_vOrk, DL.v_vNot, DL.v_vNotk, DL.v_eIf, DL.v_eIfk, DL.v_chain, DL.v_cha, DL.v_chb, DL.v_chk, DL.v_chc, DL.v_eNil, DL.v_eCons, DL.v_eConsk, DL.v_eConsb, DL.v_eTup, DL.v_eTupk, DL.v_eLst, DL.v_eLstk, DL.v_fNil, DL.v_fCons, DL.v_fConsk, DL.v_fConsb, DL.v_aNil, DL.v_aCons, DL.v_aConsk, DL.v_aConsb, DL.v_aOf, DL.v_aOfk, DL.v_prok, DL.v_prexc, DL.v_prite, DL.v_callF, DL.v_callFk, DL.v_callB, DL.v_callBk, DL.v_optB, DL.v_prBok, DL.v_prBexc, DL.v_prBite, DL.v_evOsn, DL.v_evOsc, DL.v_evOsk, DL.v_evOsb, DL.v_ress0, DL.v_ress1, DL.v_consO, DL.v_frok, DL.v_frexc, DL.v_callM, DL.v_callMk, DL.v_seq, DL.v_nx, DL.v_rt, DL.v_ct, DL.v_bk, DL.v_sexc, DL.v_sbad, DL.v_site, DL.v_sRet, DL.v_sRetk, DL.v_sSet, DL.v_sSetk, DL.v_setSl, DL.v_slOfd, DL.v_slOfl, DL.v_slOfk, DL.v_slOfc, DL.v_sDrop, DL.v_sDropk, DL.v_sIf, DL.v_sIfk, DL.v_sRaise, DL.v_stR, DL.v_sPar, DL.v_sPark, DL.v_setAll0, DL.v_setAll1, DL.v_sUnp, DL.v_sUnpk, DL.v_tName, DL.v_tTup, DL.v_tCons, DL.v_tNil, DL.v_tbind, DL.v_sAug, DL.v_sAugk, DL.v_sAugb, DL.v_sAugo, DL.v_sAugi, DL.v_sAugn, DL.v_kill0, DL.v_killS, DL.v_forT, DL.v_forBn, DL.v_forBc, DL.v_forBb, DL.v_forBr, DL.v_forBe, DL.v_forBi, DL.v_sFor, DL.v_sFork, DL.v_iRng1, DL.v_iRng1k, DL.v_iRng2, DL.v_iRng2k, DL.v_iSeq, DL.v_iSeql, DL.v_iSeqt, DL.v_whBn, DL.v_sWhile, DL.v_compM, DL.v_compO, DL.v_compT, DL.v_compE, DL.v_eLcb, DL.v_eLc, DL.v_eLck, DL.v_append, DL.v_appA, DL.v_appK, DL.v_appO, DL.v_listAt, DL.v_listKo, DL.v_putList, DL.v_putKo, DL.v_putKc, DL.v_sCell, DL.v_sCellk, DL.v_cl0, DL.v_clS, DL.v_ckDl, DL.v_ckDk, DL.v_peekc, DL.v_ckL, DL.v_listKg, DL.v_stIx, DL.v_stIn, DL.v_stL, DL.v_stI, DL.v_stO, DL.v_stK, DL.v_setIx, DL.v_ixN0, DL.v_ixN1, DL.v_agZ, DL.v_agD, DL.v_nth0, DL.v_nthS, DL.v_agL, DL.v_augIx, DL.v_gAdd, DL.v_gSub, DL.v_gMul, DL.v_gDiv, DL.v_gMod, DL.v_gPow, DL.v_gLt, DL.v_gLe, DL.v_gGt, DL.v_gGe, DL.v_gNeg, DL.v_gAbs, DL.v_gMax, DL.v_gMin, DL.v_gLenl, DL.v_gLent, DL.v_gIxl, DL.v_gIxt, DL.v_gEqi, DL.v_gNei, DL.v_isN0, DL.v_isN1, DL.v_isN2, DL.v_isN3, DL.v_isN4, DL.v_isN5, DL.v_gIsN, DL.v_gNotN, DL.v_gIsB, DL.v_gNotB, DL.v_atI0, DL.v_atI1, DL.v_atIm, DL.v_isii, DL.v_isib, DL.v_isis, DL.v_isit, DL.v_isil, DL.v_isin, DL.v_runF, DL.v_outd, DL.v_outl, DL.v_outk, DL.v_outn, DL.v_oute, DL.v_outi, DL.v_runM, DL.v_moutr, DL.v_moutn, DL.v_moute, DL.v_mouti, DL.v_envOf, DL.v_envM, DL.v_eqvii, DL.v_eqvbb, DL.v_eqvss, DL.v_eqvnn, DL.v_eqvni, DL.v_eqvin, DL.v_eqvns, DL.v_eqvsn, DL.v_eqvnt, DL.v_eqvtn, DL.v_eqvnl, DL.v_eqvln, DL.v_eqvis, DL.v_eqvsi, DL.v_eqvtt, DL.v_eqvll, DL.v_eqvA0, DL.v_eqvA1, DL.v_eqvA2, DL.v_eqvA3, DL.v_gEqnone, DL.v_gEqsl, DL.v_gNesl, DL.v_gEqt2, DL.v_gNet2, DL.v_gEqo, DL.v_gNeo, DL.v_gEqoi, DL.v_gNeoi, DL.v_isNo, DL.v_oDs, DL.v_oDn, DL.v_oDi, DL.v_flI, DL.v_flS, DL.v_flN, DL.v_flO, DL.v_eqvon, DL.v_gInT, DL.v_gNotInT, DL.v_okTs, DL.v_okFn, DL.v_okFc, DL.v_okFr, DL.v_okFi, DL.v_noA, DL.v_okB, DL.v_okBi, DL.v_fIf, DL.v_fIfk, DL.v_fNew, DL.v_fNewk, DL.v_eNewT, DL.v_eNewTk, DL.v_dZip, DL.v_dZipk, DL.v_asSeql, DL.v_asSeqt, DL.v_fRep, DL.v_repK, DL.v_repK2, DL.v_eVals0, DL.v_eVals1, DL.v_eValsk, DL.v_eValsk2, DL.v_dgetK, DL.v_dgK1, DL.v_dgK2, DL.v_dgK3, DL.v_lookL0, DL.v_lookL1, DL.v_dgetK1, DL.v_dgJ1, DL.v_dgJ2, DL.v_gEqlo, DL.v_gNelo, DL.v_gEqli, DL.v_gNeli, DL.v_gEqll0, DL.v_tLstG, DL.v_extend, DL.v_extA, DL.v_extk, DL.v_extB, DL.v_gInli, DL.v_gNotInli, DL.v_gNebb, DL.v_gEqbb, DL.v_gNenn, DL.v_gEqnn, DL.v_gCatl, DL.v_gCutLl, DL.v_gCutUl, DL.v_gCutLt, DL.v_gCutUt, DL.v_eLc2, DL.v_eLc2k, DL.v_dZipkT, DL.v_gCatTt, DL.v_fDict0, DL.v_dictAt, DL.v_dictKo, DL.v_putDict, DL.v_ptL, DL.v_ptI, DL.v_ptO, DL.v_ptK, DL.v_sPutD, DL.v_gInD, DL.v_gNotInD, DL.v_gGetD, DL.v_d1L, DL.v_d1K, DL.v_fDict1, DL.v_gSumT, DL.v_gmL, DL.v_gmJ, DL.v_gmI, DL.v_gmK, DL.v_eGetM, DL.v_gSortD, DL.v_gSortK, DL.v_gMinD, DL.v_iKeysk, DL.v_iKeys, DL.v_dEnumTk, DL.v_dEnumT, DL.v_gUsortT, DL.v_fListRg, DL.v_fListRgk, DL.v_eTupDn, DL.v_eTupDnk, DL.v_eCutB, DL.v_eCutBa, DL.v_eCutBb, DL.v_eCutBc, DL.v_gCutIJ, DL.v_gSortTI, DL.v_asI, DL.v_strbeq, DL.v_peekC, DL.v_pkCl, DL.v_pkCd, DL.v_evOc, DL.v_evOck, DL.v_resc, DL.v_oVar, DL.v_oVark, DL.v_fcl, DL.v_lkF, DL.v_lkI, DL.v_lk0, DL.v_lk1, DL.v_eFld, DL.v_eFldk, DL.v_eFldR, DL.v_cFld, DL.v_cFldk, DL.v_cFldR, DL.v_asC, DL.v_asCk, DL.v_fOfC, DL.v_fOfCk, DL.v_aOfC, DL.v_aOfCk, DL.v_putS0, DL.v_putS1, DL.v_sFldP, DL.v_sFldkd, DL.v_sFldkc, DL.v_sFldkl, DL.v_sFldkk, DL.v_sFldO, DL.v_stR2n, DL.v_stR2s, DL.v_stR2i, DL.v_callO, DL.v_callOk, DL.v_callOb, DL.v_callOa, DL.v_iss, DL.v_isS, DL.v_mkO, DL.v_mkOk, DL.v_mkRok, DL.v_mkRx, DL.v_lcl, DL.v_dcl, DL.v_fAppC, DL.v_appKC, DL.v_appOC, DL.v_appAC, DL.v_appBC, DL.v_fPopC, DL.v_popK, DL.v_popL, DL.v_popR, DL.v_sPutC, DL.v_putKC, DL.v_putK2, DL.v_putO, DL.v_putA, DL.v_putB, DL.v_sTryW, DL.v_tryN, DL.v_tryT, DL.v_tryE, DL.v_tryWs, DL.v_fstsO, DL.v_eFst, DL.v_eFstk, DL.v_eFstr, DL.v_eLenO, DL.v_eLenOk, DL.v_lenOc, DL.v_lenOb, DL.v_fAppTN, DL.v_appTNk, List.map_cons, List.map_nil, List.replicate, List.set_cons_zero, List.set_cons_succ, List.length_cons, List.length_nil, List.nil_append, List.cons_append, List.append_nil, Nat.reduceAdd, Nat.reduceSub, Nat.reduceLeDiff, Nat.reduceBEq, Nat.reduceEqDiff, Nat.reduceLT, Int.reduceNeg, String.reduceBEq, String.reduceEq, DL.ofString_inj, List.all_cons, List.any_cons, List.all_nil, List.any_nil, decide_eq_true_eq, decide_true, decide_false, Bool.not_eq_true', Bool.not_true, Bool.not_false, Bool.true_or, Bool.or_true, Bool.false_or, Bool.or_false, Bool.and_true, Bool.true_and, Bool.and_false, Bool.false_and, reduceIte, if_true, if_false, Bool.false_eq_true, Bool.true_eq_false, beq_self_eq_true, Nat.le_refl, Nat.zero_le, Nat.zero_add, Nat.add_zero, Int.cast_ofNat_Int, Int.natCast_add, Int.natCast_zero, Option.isNone_none, Option.isNone_some, DL.mulOkR, DL.mulOkL, DL.divOkR, DL.powOkL, DL.rangeOkL, Int.reducePow, Int.reduceToNat, Int.reduceMul, Int.reduceAdd, Int.reduceSub, Int.reduceLT, Int.reduceLE, Int.reduceDiv, Int.reduceMod, Int.reduceEq])
local macro_rules | `(tactic| walk_at "evs") => `(tactic| simp -implicitDefEqProofs only [DL.v_ok, DL.v_exc, DL.v_bad, DL.v_some, DL.v_none, DL.v_peek0, DL.v_peek0l, DL.v_peek0k, DL.v_peekS, DL.v_evOn, DL.v_evOk, DL.v_evOg, DL.v_evOgk, DL.v_resd, DL.v_resn, DL.v_with2, DL.v_w2, DL.v_with1, DL.v_w1, DL.v_e2, DL.v_e2a, DL.v_e2b, DL.v_e1, DL.v_e1a, DL.v_eC, DL.v_pure, DL.v_badM, DL.v_sl0, DL.v_slS, DL.v_eVar, DL.v_eVarv, DL.v_eVarl, DL.v_eVark, DL.v_fVar, DL.v_fVarv, DL.v_fVarl, DL.v_fVark, DL.v_fVarc, DL.v_aVar, DL.v_aVarv, DL.v_aVarl, DL.v_aVarc, DL.v_asRV, DL.v_asRVk, DL.v_asD, DL.v_asDd, DL.v_asDl, DL.v_asDk, DL.v_tB1, DL.v_tB1k, DL.v_bNot, DL.v_bNotk, DL.v_bAnd, DL.v_bAndk, DL.v_bOr, DL.v_bOrk, DL.v_vAnd, DL.v_vAndk, DL.v_vOr, DL.v_vOrk, DL.v_vNot, DL.v_vNotk, DL.v_eIf, DL.v_eIfk, DL.v_chain, DL.v_cha, DL.v_chb, DL.v_chk, DL.v_chc, DL.v_eNil, DL.v_eCons, DL.v_eConsk, DL.v_eConsb, DL.v_eTup, DL.v_eTupk, DL.v_eLst, DL.v_eLstk, DL.v_fNil, DL.v_fCons, DL.v_fConsk, DL.v_fConsb, DL.v_aNil, DL.v_aCons, DL.v_aConsk, DL.v_aConsb, DL.v_aOf, DL.v_aOfk, DL.v_prok, DL.v_prexc, DL.v_callF, DL.v_callFk, DL.v_callB, DL.v_callBk, DL.v_optB, DL.v_prBok, DL.v_prBexc, DL.v_evOsn, DL.v_evOsc, DL.v_evOsk, DL.v_evOsb, DL.v_ress0, DL.v_ress1, DL.v_consO, DL.v_frok, DL.v_frexc, DL.v_callM, DL.v_callMk, DL.v_seq, DL.v_nx, DL.v_rt, DL.v_ct, DL.v_bk, DL.v_sexc, DL.v_sbad, DL.v_sRet, DL.v_sRetk, DL.v_sSet, DL.v_sSetk, DL.v_setSl, DL.v_slOfd, DL.v_slOfl, DL.v_slOfk, DL.v_slOfc, DL.v_sDrop, DL.v_sDropk, DL.v_sIf, DL.v_sIfk, DL.v_sRaise, DL.v_stR, DL.v_sPar, DL.v_sPark, DL.v_setAll0, DL.v_setAll1, DL.v_sUnp, DL.v_sUnpk, DL.v_tName, DL.v_tTup, DL.v_tCons, DL.v_tNil, DL.v_tbind, DL.v_sAug, DL.v_sAugk, DL.v_sAugb, DL.v_sAugo, DL.v_sAugn, DL.v_kill0, DL.v_killS, DL.v_forT, DL.v_forBn, DL.v_forBc, DL.v_forBb, DL.v_forBr, DL.v_forBe, DL.v_sFor, DL.v_sFork, DL.v_iRng1, DL.v_iRng1k, DL.v_iRng2, DL.v_iRng2k, DL.v_iSeq, DL.v_iSeql, DL.v_iSeqt, DL.v_whBn, DL.v_sWhile, DL.v_compM, DL.v_compO, DL.v_compT, DL.v_compE, DL.v_eLcb, DL.v_eLc, DL.v_eLck, DL.v_append, DL.v_appA, DL.v_appK, DL.v_appO, DL.v_listAt, DL.v_listKo, DL.v_putList, DL.v_putKo, DL.v_putKc, DL.v_sCell, DL.v_sCellk, DL.v_cl0, DL.v_clS, DL.v_ckDl, DL.v_ckDk, DL.v_peekc, DL.v_ckL, DL.v_listKg, DL.v_stIx, DL.v_stIn, DL.v_stL, DL.v_stI, DL.v_stO, DL.v_stK, DL.v_setIx, DL.v_ixN0, DL.v_ixN1, DL.v_agZ, DL.v_agD, DL.v_nth0, DL.v_nthS, DL.v_agL, DL.v_augIx, DL.v_gAdd, DL.v_gSub, DL.v_gMul, DL.v_gDiv, DL.v_gMod, DL.v_gPow, DL.v_gLt, DL.v_gLe, DL.v_gGt, DL.v_gGe, DL.v_gNeg, DL.v_gAbs, DL.v_gMax, DL.v_gMin, DL.v_gLenl, DL.v_gLent, DL.v_gIxl, DL.v_gIxt, DL.v_gEqi, DL.v_gNei, DL.v_isN0, DL.v_isN1, DL.v_isN2, DL.v_isN3, DL.v_isN4, DL.v_isN5, DL.v_gIsN, DL.v_gNotN, DL.v_gIsB, DL.v_gNotB, DL.v_atI0, DL.v_atI1, DL.v_atIm, DL.v_isii, DL.v_isib, DL.v_isis, DL.v_isit, DL.v_isil, DL.v_isin, DL.v_runF, DL.v_outd, DL.v_outl, DL.v_outk, DL.v_outn, DL.v_oute, DL.v_runM, DL.v_moutr, DL.v_moutn, DL.v_moute, DL.v_envOf, DL.v_envM, DL.v_eqvii, DL.v_eqvbb, DL.v_eqvss, DL.v_eqvnn, DL.v_eqvni, DL.v_eqvin, DL.v_eqvns, DL.v_eqvsn, DL.v_eqvnt, DL.v_eqvtn, DL.v_eqvnl, DL.v_eqvln, DL.v_eqvis, DL.v_eqvsi, DL.v_eqvtt, DL.v_eqvll, DL.v_eqvA0, DL.v_eqvA1, DL.v_eqvA2, DL.v_eqvA3, DL.v_gEqnone, DL.v_gEqsl, DL.v_gNesl, DL.v_gEqt2, DL.v_gNet2, DL.v_gEqo, DL.v_gNeo, DL.v_gEqoi, DL.v_gNeoi, DL.v_isNo, DL.v_oDs, DL.v_oDn, DL.v_flI, DL.v_flS, DL.v_flN, DL.v_flO, DL.v_eqvon, DL.v_gInT, DL.v_gNotInT, DL.v_okTs, DL.v_okFn, DL.v_okFc, DL.v_okFr, DL.v_noA, DL.v_okB, DL.v_fIf, DL.v_fIfk, DL.v_fNew, DL.v_fNewk, DL.v_eNewT, DL.v_eNewTk, DL.v_dZip, DL.v_dZipk, DL.v_asSeql, DL.v_asSeqt, DL.v_fRep, DL.v_repK, DL.v_repK2, DL.v_eVals0, DL.v_eVals1, DL.v_eValsk, DL.v_eValsk2, DL.v_dgetK, DL.v_dgK1, DL.v_dgK2, DL.v_dgK3, DL.v_lookL0, DL.v_lookL1, DL.v_dgetK1, DL.v_dgJ1, DL.v_dgJ2, DL.v_gEqlo, DL.v_gNelo, DL.v_gEqli, DL.v_gNeli, DL.v_gEqll0, DL.v_tLstG, DL.v_extend, DL.v_extA, DL.v_extk, DL.v_extB, DL.v_gInli, DL.v_gNotInli, DL.v_gNebb, DL.v_gEqbb, DL.v_gNenn, DL.v_gEqnn, DL.v_gCatl, DL.v_gCutLl, DL.v_gCutUl, DL.v_gCutLt, DL.v_gCutUt, DL.v_eLc2, DL.v_eLc2k, DL.v_dZipkT, DL.v_gCatTt, DL.v_fDict0, DL.v_dictAt, DL.v_dictKo, DL.v_putDict, DL.v_ptL, DL.v_ptI, DL.v_ptO, DL.v_ptK, DL.v_sPutD, DL.v_gInD, DL.v_gNotInD, DL.v_gGetD, DL.v_d1L, DL.v_d1K, DL.v_fDict1, DL.v_gSumT, DL.v_gmL, DL.v_gmJ, DL.v_gmI, DL.v_gmK, DL.v_eGetM, DL.v_gSortD, DL.v_gSortK, DL.v_gMinD, DL.v_iKeysk, DL.v_iKeys, DL.v_dEnumTk, DL.v_dEnumT, DL.v_gUsortT, DL.v_fListRg, DL.v_fListRgk, DL.v_eTupDn, DL.v_eTupDnk, DL.v_eCutB, DL.v_eCutBa, DL.v_eCutBb, DL.v_eCutBc, DL.v_gCutIJ, DL.v_gSortTI, DL.v_asI, DL.v_strbeq, DL.v_peekC, DL.v_pkCl, DL.v_pkCd, DL.v_evOc, DL.v_evOck, DL.v_resc, DL.v_oVar, DL.v_oVark, DL.v_fcl, DL.v_lkF, DL.v_lk0, DL.v_lk1, DL.v_eFld, DL.v_eFldk, DL.v_eFldR, DL.v_cFld, DL.v_cFldk, DL.v_cFldR, DL.v_asC, DL.v_asCk, DL.v_fOfC, DL.v_fOfCk, DL.v_aOfC, DL.v_aOfCk, DL.v_putS0, DL.v_putS1, DL.v_sFldP, DL.v_sFldkd, DL.v_sFldkc, DL.v_sFldkl, DL.v_sFldkk, DL.v_sFldO, DL.v_stR2n, DL.v_stR2s, DL.v_callO, DL.v_callOk, DL.v_callOb, DL.v_callOa, DL.v_isS, DL.v_mkO, DL.v_mkOk, DL.v_mkRok, DL.v_mkRx, DL.v_lcl, DL.v_dcl, DL.v_fAppC, DL.v_appKC, DL.v_appOC, DL.v_appAC, DL.v_appBC, DL.v_fPopC, DL.v_popK, DL.v_popL, DL.v_popR, DL.v_sPutC, DL.v_putKC, DL.v_putK2, DL.v_putO, DL.v_putA, DL.v_putB, DL.v_sTryW, DL.v_tryN, DL.v_tryT, DL.v_tryE, DL.v_tryWs, DL.v_fstsO, DL.v_eFst, DL.v_eFstk, DL.v_eFstr, DL.v_eLenO, DL.v_eLenOk, DL.v_lenOc, DL.v_lenOb, DL.v_fAppTN, DL.v_appTNk, List.map_cons, List.map_nil, List.replicate, List.set_cons_zero, List.set_cons_succ, List.length_cons, List.length_nil, List.nil_append, List.cons_append, List.append_nil, Nat.reduceAdd, Nat.reduceSub, Nat.reduceLeDiff, Nat.reduceBEq, Nat.reduceEqDiff, Nat.reduceLT, Int.reduceNeg, String.reduceBEq, String.reduceEq, DL.ofString_inj, List.all_cons, List.any_cons, List.all_nil, List.any_nil, decide_eq_true_eq, decide_true, decide_false, Bool.not_eq_true', Bool.not_true, Bool.not_false, Bool.true_or, Bool.or_true, Bool.false_or, Bool.or_false, Bool.and_true, Bool.true_and, Bool.and_false, Bool.false_and, reduceIte, if_true, if_false, Bool.false_eq_true, Bool.true_eq_false, beq_self_eq_true, Nat.le_refl, Nat.zero_le, Nat.zero_add, Nat.add_zero, Int.cast_ofNat_Int, Int.natCast_add, Int.natCast_zero, Option.isNone_none, Option.isNone_some, DL.mulOkR, DL.mulOkL, DL.divOkR, DL.powOkL, DL.rangeOkL, Int.reducePow, Int.reduceToNat, Int.reduceMul, Int.reduceAdd, Int.reduceSub, Int.reduceLT, Int.reduceLE, Int.reduceDiv, Int.reduceMod, Int.reduceEq])

namespace DL
open PySem PySem.Spec PyProof.Rows L2
def K_LONGEST : D := (.int 40)
def K_ROUNDINGS : D := (.tuple [(.str "away"), (.str "down"), (.str "even"), (.str "up"), (.str "zero")])
def K_WAYS : D := (.tuple [(.str "beside"), (.str "kept"), (.str "plain"), (.str "signs"), (.str "wide1"), (.str "wide2")])
def F_l_draw : DM Fl :=
    (seqM (sIf (tB1 (e2 gGt (.g (e2 gIx (.n 1) (.g (eC (.int 1))))) (.g (eC (.int 0))))) (seqM (sSet 3 (asRV (e2 gMod (.g (e2 gIx (.n 1) (.g (eC (.int 1))))) (.n 2))))
    (seqM (sSetIx 1 (eC (.int 1)) (e2 gDiv (.g (e2 gIx (.n 1) (.g (eC (.int 1))))) (.n 2)))
    (sRet (fVar 3)))) (pureM .nx))
    (seqM (sSet 4 (asRV (e2 gIx (.n 1) (.g (eC (.int 0))))))
    (seqM (sAugIx 1 0 gAdd (.int 1))
    (seqM (sIf (tB1 (e2 gEq (.n 0) (.g (asD (eLst eNil))))) (sRet (asRV (e2 gMod (.n 4) (.n 2)))) (pureM .nx))
    (seqM (sIf (bAnd (tB1 (e2 gLt (.n 4) (.g (e1 gLen (.n 0))))) (tB1 (e2 gGe (.g (e2 gIx (.n 0) (.n 4))) (.g (e2 gPow (.g (eC (.int 10))) (.g (eC (.int 18)))))))) (seqM (sSetIx 1 (eC (.int 1)) (e2 gMod (.g (e2 gDiv (.g (e2 gIx (.n 0) (.n 4))) (.n 2))) (.g (e2 gMulW (.g (e2 gPow (.g (eC (.int 10))) (.g (eC (.int 60))))) (.g (e2 gPow (.g (eC (.int 10))) (.g (eC (.int 60)))))))))
    (sRet (asRV (e2 gMod (.g (e2 gIx (.n 0) (.n 4))) (.n 2))))) (pureM .nx))
    (seqM (sSet 5 (asRV (e2 gMod (.g (e2 gAdd (.g (e2 gAdd (.g (e2 gMul (.g (e2 gIx (.n 0) (.g (e2 gMod (.n 4) (.g (e1 gLen (.n 0))))))) (.g (eC (.int 1103515245))))) (.g (e2 gMul (.g (eC (.int 7919))) (.n 4))))) (.g (eC (.int 12345))))) (.g (eC (.int 2147483647))))))
    (sRet (asRV (e2 gMod (.g (e2 gMod (.g (e2 gMod (.g (e2 gPow (.n 5) (.g (eC (.int 5))))) (.g (eC (.int 2147483647))))) (.g (eC (.int 999983))))) (.n 2))))))))))
def G_l_draw (args : List Sl) (st : List Cell) : FR := if args.length == 3 then runM F_l_draw 6 args st else .bad

def F_l_pick : DM Fl :=
    (sRet (asRV (e2 gIx (.n 2) (.g (asD (callM G_l_draw (aCons (aVar 0) (aCons (aVar 1) (aCons (aOf (e1 gLen (.n 2))) aNil)))))))))
def G_l_pick (args : List Sl) (st : List Cell) : FR := if args.length == 3 then runM F_l_pick 3 args st else .bad

def F_l_mode : DM Fl :=
    (sRet (callM G_l_pick (aCons (aVar 0) (aCons (aVar 1) (aCons (aOf (asD (eLst (eCons (eC (.str "away")) (eCons (eC (.str "down")) (eCons (eC (.str "even")) (eCons (eC (.str "even")) (eCons (eC (.str "up")) (eCons (eC (.str "zero")) eNil))))))))) aNil)))))
def G_l_mode (args : List Sl) (st : List Cell) : FR := if args.length == 2 then runM F_l_mode 2 args st else .bad

def F_l_top : DM Fl :=
    (seqM (sSet 1 (asRV (eC (.int 1))))
    (seqM (sFor [2] (iRng1 (eCons (e2 gIx (.n 0) (.g (eC (.int 0)))) eNil)) (tName 2) (sSet 1 (asRV (e2 gMul (.n 1) (.g (eC (.int 2)))))))
    (seqM (sSet 1 (asRV (e2 gSub (.n 1) (.g (eC (.int 1))))))
    (seqM (sFor [2] (iRng1 (eCons (e2 gIx (.n 0) (.g (eC (.int 1)))) eNil)) (tName 2) (sSet 1 (asRV (e2 gMul (.n 1) (.g (eC (.int 2)))))))
    (sRet (fVar 1))))))
def G_l_top (ds : List D) : PR := if ds.length == 1 then runF F_l_top 3 ds else .bad

def F_is_int : DM Fl :=
    (sRet (asRV (vAnd (e1 (gIsi "int") (.n 0)) (vAnd (vNot (e1 (gIsi "bool") (.n 0))) (chain2 gLe gLe (.n 1) (.n 0) (.n 2))))))
def G_is_int (ds : List D) : PR := if ds.length == 3 then runF F_is_int 3 ds else .bad

def F_is_format : DM Fl :=
    (seqM (sIf (bOr (bNot (tB1 (e1 (gIsi "tuple") (.n 0)))) (tB1 (e2 gNe (.g (e1 gLen (.n 0))) (.g (eC (.int 2)))))) (sRet (asRV (eC (.bool false)))) (pureM .nx))
    (sRet (asRV (vAnd (asD (callF G_is_int (eCons (e2 gIx (.n 0) (.g (eC (.int 0)))) (eCons (eC (.int 2)) (eCons (eC (.int 4)) eNil))))) (asD (callF G_is_int (eCons (e2 gIx (.n 0) (.g (eC (.int 1)))) (eCons (eC (.int 0)) (eCons (eC (.int 3)) eNil)))))))))
def G_is_format (ds : List D) : PR := if ds.length == 1 then runF F_is_format 1 ds else .bad

def F_need_few : DM Fl :=
    (sIf (bOr (bNot (tB1 (asD (callF G_is_format (eCons (eVar 0) eNil))))) (tB1 (e2 gGt (.g (e2 gAdd (.g (e2 gIx (.n 0) (.g (eC (.int 0))))) (.g (e2 gIx (.n 0) (.g (eC (.int 1))))))) (.g (eC (.int 4)))))) (sRaise "InvalidFormat") (pureM .nx))
def G_need_few (ds : List D) : PR := if ds.length == 1 then runF F_need_few 1 ds else .bad

def F_need_format : DM Fl :=
    (sIf (bNot (tB1 (asD (callF G_is_format (eCons (eVar 0) eNil))))) (sRaise "InvalidFormat") (pureM .nx))
def G_need_format (ds : List D) : PR := if ds.length == 1 then runF F_need_format 1 ds else .bad

def F_is_machine : DM Fl :=
    (seqM (sIf (bOr (bNot (tB1 (e1 (gIsi "tuple") (.n 0)))) (bOr (tB1 (e2 gNe (.g (e1 gLen (.n 0))) (.g (eC (.int 2))))) (bNot (tB1 (e1 gAll (.g (asD (eLc [1] (iSeq (eVar 0)) (tName 1) (pureM true) (e1 (gIsi "str") (.n 1)))))))))) (sRet (asRV (eC (.bool false)))) (pureM .nx))
    (sRet (asRV (vAnd (e2 gInT (.g (e2 gIx (.n 0) (.g (eC (.int 0))))) (.g (eC K_WAYS))) (e2 gInT (.g (e2 gIx (.n 0) (.g (eC (.int 1))))) (.g (eC K_ROUNDINGS)))))))
def G_is_machine (ds : List D) : PR := if ds.length == 1 then runF F_is_machine 2 ds else .bad

def F_need_machine : DM Fl :=
    (seqM (sDrop (callF G_need_format (eCons (eVar 0) eNil)))
    (sIf (bNot (tB1 (asD (callF G_is_machine (eCons (eVar 1) eNil))))) (sRaise "InvalidMachine") (pureM .nx)))
def G_need_machine (ds : List D) : PR := if ds.length == 2 then runF F_need_machine 2 ds else .bad

def F_doubled : DM Fl :=
    (seqM (sFor [2] (iRng1 (eCons (eVar 1) eNil)) (tName 2) (sAug 0 gMul (eC (.int 2))))
    (sRet (fVar 0)))
def G_doubled (ds : List D) : PR := if ds.length == 2 then runF F_doubled 3 ds else .bad

def F_greatest_of : DM Fl :=
    (sRet (callF G_doubled (eCons (e2 gSub (.g (asD (callF G_doubled (eCons (eC (.int 1)) (eCons (e2 gIx (.n 0) (.g (eC (.int 0)))) eNil))))) (.g (eC (.int 1)))) (eCons (e2 gIx (.n 0) (.g (eC (.int 1)))) eNil))))
def G_greatest_of (ds : List D) : PR := if ds.length == 1 then runF F_greatest_of 1 ds else .bad

def F_distance : DM Fl :=
    (seqM (sPar [2, 3] (fCons (asRV (eC (.int 1))) (fCons (callF G_doubled (eCons (eC (.int 1)) (eCons (eVar 0) eNil))) fNil)))
    (seqM (sWhile [] 40 (tB1 (e2 gGe (.n 1) (.g (e2 gMul (.n 2) (.n 3))))) (sAug 2 gMul (eC (.int 2))))
    (sRet (fVar 2))))
def G_distance (ds : List D) : PR := if ds.length == 2 then runF F_distance 4 ds else .bad

def F_fits : DM Fl :=
    (sRet (asRV (vAnd (e2 gLe (.g (e1 gAbs (.n 1))) (.g (asD (callF G_greatest_of (eCons (eVar 0) eNil))))) (e2 gEq (.g (e2 gMod (.n 1) (.g (asD (callF G_distance (eCons (e2 gIx (.n 0) (.g (eC (.int 0)))) (eCons (e1 gAbs (.n 1)) eNil))))))) (.g (eC (.int 0)))))))
def G_fits (ds : List D) : PR := if ds.length == 2 then runF F_fits 2 ds else .bad

def F_is_number_of : DM Fl :=
    (sRet (asRV (vAnd (asD (callF G_is_int (eCons (eVar 1) (eCons (e1 gNeg (.g (eC (.int 1000)))) (eCons (eC (.int 1000)) eNil))))) (asD (callB G_fits (.cons (.n 0) (.cons (.n 1) .nil)))))))
def G_is_number_of (ds : List D) : PR := if ds.length == 2 then runF F_is_number_of 2 ds else .bad

def F_is_lot_of : DM Fl :=
    (seqM (sIf (bOr (bNot (tB1 (e1 (gIsi "tuple") (.n 1)))) (bOr (bNot (tB1 (chain2 gLe gLe (.g (eC (.int 1))) (.g (e1 gLen (.n 1))) (.g (eC (.int 4)))))) (bNot (tB1 (e1 gAll (.g (asD (eLc [2] (iSeq (eVar 1)) (tName 2) (pureM true) (asD (callB G_is_number_of (.cons (.n 0) (.cons (.n 2) .nil)))))))))))) (sRet (asRV (eC (.bool false)))) (pureM .nx))
    (sRet (asRV (e1 gAll (.g (asD (eLc [2, 3] (dZip (eCons (eVar 1) (eCons (eNewT (e2 gCutLT (.n 1) (.g (eC (.int 1))))) eNil))) (tTupG 2 (tConsG (tName 2) (tConsG (tName 3) tNilG))) (pureM true) (e2 gLt (.n 2) (.n 3)))))))))
def G_is_lot_of (ds : List D) : PR := if ds.length == 2 then runF F_is_lot_of 4 ds else .bad

def F_need_lot : DM Fl :=
    (sIf (bNot (tB1 (asD (callF G_is_lot_of (eCons (eVar 0) (eCons (eVar 1) eNil)))))) (sRaise "InvalidLot") (pureM .nx))
def G_need_lot (ds : List D) : PR := if ds.length == 2 then runF F_need_lot 2 ds else .bad

def F_need_summed : DM Fl :=
    (seqM (sDrop (callF G_need_machine (eCons (eVar 0) (eCons (eVar 1) eNil))))
    (sDrop (callF G_need_lot (eCons (eVar 0) (eCons (eVar 2) eNil)))))
def G_need_summed (ds : List D) : PR := if ds.length == 3 then runF F_need_summed 3 ds else .bad

def F_need_endless : DM Fl :=
    (seqM (sDrop (callF G_need_few (eCons (eVar 0) eNil)))
    (sDrop (callF G_need_summed (eCons (eVar 0) (eCons (eVar 1) (eCons (eVar 2) eNil))))))
def G_need_endless (ds : List D) : PR := if ds.length == 3 then runF F_need_endless 3 ds else .bad

def F_with_rings : DM Fl :=
    (seqM (sPar [1, 2] (fCons (fVar 0) (fCons (asRV (eC (.bool true))) fNil)))
    (seqM (sWhile [3, 4, 5] 100000 (tB1 (eVar 2)) (seqM (sSet 3 fDict0)
    (seqM (sFor [4, 5] (iKeys (eVar 1)) (tName 4) (seqM (sSet 5 (eLc [6] (iSeq (e2 gGetD (.n 1) (.n 4))) (tName 6) (tB1 (e2 gInD (.g (e2 gIx (.n 6) (.g (eC (.int 1))))) (.n 1))) (eVar 6)))
    (sIf (tB1 (e2 gNe (.n 5) (.g (asD (eLst eNil))))) (sPutD 3 (eVar 4) (eVar 5)) (pureM .nx))))
    (seqM (sSet 2 (asRV (e2 gNeDc (.n 3) (.n 1))))
    (sSet 1 (fVar 3))))))
    (sRet (fVar 1))))
def G_with_rings (ds : List D) : PR := if ds.length == 1 then runF F_with_rings 7 ds else .bad

def F_Rests___init__ : DM Fl :=
    (seqM (sFldP 0 "Rests" "form" (fVar 1))
    (seqM (sFldP 0 "Rests" "machine" (fVar 2))
    (seqM (sFldP 0 "Rests" "lot" (fVar 3))
    (sFldP 0 "Rests" "known" fDict0))))
def G_Rests___init__ (args : List Sl) (st : List Cell) : FR := if args.length == 4 then runM F_Rests___init__ 4 args st else .bad

def F_begun : DM Fl :=
    (sRet (asRV (eIf (tB1 (e2 gInT (.g (e2 gIx (.n 0) (.g (eC (.int 0))))) (.g (eTup (eCons (eC (.str "beside")) (eCons (eC (.str "kept")) (eCons (eC (.str "signs")) eNil))))))) (eTup (eCons (eC (.int 0)) (eCons (eC (.int 0)) eNil))) (eTup (eCons (eC (.int 0)) eNil)))))
def G_begun (ds : List D) : PR := if ds.length == 1 then runF F_begun 1 ds else .bad

def F_sides : DM Fl :=
    (seqM (sSet 2 (callF G_distance (eCons (eVar 0) (eCons (e1 gAbs (.n 1)) eNil))))
    (seqM (sSet 3 (asRV (e2 gMul (.g (e2 gDiv (.n 1) (.n 2))) (.n 2))))
    (sRet (asRV (eTup (eCons (eVar 3) (eCons (eIf (tB1 (e2 gEq (.n 3) (.n 1))) (eVar 3) (e2 gAdd (.n 3) (.n 2))) eNil)))))))
def G_sides (ds : List D) : PR := if ds.length == 2 then runF F_sides 4 ds else .bad

def F_chosen : DM Fl :=
    (seqM (sUnp (asD (callF G_sides (eCons (eVar 0) (eCons (eVar 2) eNil)))) (tTupG 2 (tConsG (tName 3) (tConsG (tName 4) tNilG))))
    (seqM (sIf (tB1 (e2 gEq (.n 3) (.n 4))) (sRet (fVar 2)) (pureM .nx))
    (seqM (sIf (tB1 (e2 gInT (.n 1) (.g (eTup (eCons (eC (.str "down")) (eCons (eC (.str "up")) eNil)))))) (sRet (asRV (eIf (tB1 (e2 gEq (.n 1) (.g (eC (.str "down"))))) (eVar 3) (eVar 4)))) (pureM .nx))
    (seqM (sUnp (eIf (tB1 (e2 gGt (.n 2) (.g (eC (.int 0))))) (eTup (eCons (eVar 3) (eCons (eVar 4) eNil))) (eTup (eCons (eVar 4) (eCons (eVar 3) eNil)))) (tTupG 2 (tConsG (tName 5) (tConsG (tName 6) tNilG))))
    (seqM (sIf (bOr (tB1 (e2 gEq (.n 1) (.g (eC (.str "zero"))))) (tB1 (e2 gLt (.g (e2 gMul (.g (eC (.int 2))) (.g (e1 gAbs (.g (e2 gSub (.n 2) (.n 5))))))) (.g (e2 gSub (.n 4) (.n 3)))))) (sRet (fVar 5)) (pureM .nx))
    (seqM (sIf (bOr (tB1 (e2 gGt (.g (e2 gMul (.g (eC (.int 2))) (.g (e1 gAbs (.g (e2 gSub (.n 2) (.n 5))))))) (.g (e2 gSub (.n 4) (.n 3))))) (tB1 (e2 gEq (.n 1) (.g (eC (.str "away")))))) (sRet (fVar 6)) (pureM .nx))
    (sRet (asRV (eIf (tB1 (e2 gEq (.g (e2 gMod (.n 3) (.g (e2 gMul (.g (eC (.int 2))) (.g (e2 gSub (.n 4) (.n 3))))))) (.g (eC (.int 0))))) (eVar 3) (eVar 4))))))))))
def G_chosen (ds : List D) : PR := if ds.length == 3 then runF F_chosen 7 ds else .bad

def F_round_to : DM Fl :=
    (seqM (sSet 3 (callF G_chosen (eCons (e2 gIx (.n 0) (.g (eC (.int 0)))) (eCons (eVar 1) (eCons (eVar 2) eNil)))))
    (sRet (asRV (eIf (tB1 (e2 gLe (.g (e1 gAbs (.n 3))) (.g (asD (callF G_greatest_of (eCons (eVar 0) eNil)))))) (eVar 3) (eC .none)))))
def G_round_to (ds : List D) : PR := if ds.length == 3 then runF F_round_to 4 ds else .bad

def F_plus : DM Fl :=
    (seqM (sIf (bOr (tB1 (e2 gIsN (.n 2) (.g (eC .none)))) (tB1 (e2 gIsN (.n 3) (.g (eC .none))))) (sRet (asRV (eC .none))) (pureM .nx))
    (sRet (callF G_round_to (eCons (eVar 0) (eCons (eVar 1) (eCons (e2 gAdd (.n 2) (.n 3)) eNil))))))
def G_plus (ds : List D) : PR := if ds.length == 4 then runF F_plus 4 ds else .bad

def F_less : DM Fl :=
    (sRet (asRV (eIf (tB1 (e2 gIsN (.n 0) (.g (eC .none)))) (eC .none) (e1 gNeg (.n 0)))))
def G_less (ds : List D) : PR := if ds.length == 1 then runF F_less 1 ds else .bad

def F_kept_step : DM Fl :=
    (seqM (sUnp (eVar 2) (tTupG 2 (tConsG (tName 4) (tConsG (tName 5) tNilG))))
    (seqM (sSet 6 (callF G_plus (eCons (eVar 0) (eCons (eVar 1) (eCons (eVar 3) (eCons (e1 gNeg (.n 5)) eNil))))))
    (seqM (sSet 7 (callF G_plus (eCons (eVar 0) (eCons (eVar 1) (eCons (eVar 4) (eCons (eVar 6) eNil))))))
    (seqM (sSet 8 (callF G_plus (eCons (eVar 0) (eCons (eVar 1) (eCons (eVar 7) (eCons (e1 gNeg (.n 4)) eNil))))))
    (sRet (asRV (eTup (eCons (eVar 7) (eCons (asD (callF G_plus (eCons (eVar 0) (eCons (eVar 1) (eCons (eVar 8) (eCons (asD (callF G_less (eCons (eVar 6) eNil))) eNil)))))) eNil)))))))))
def G_kept_step (ds : List D) : PR := if ds.length == 4 then runF F_kept_step 9 ds else .bad

def F_beside_step : DM Fl :=
    (seqM (sUnp (eVar 2) (tTupG 2 (tConsG (tName 4) (tConsG (tName 5) tNilG))))
    (seqM (sSet 6 (callF G_plus (eCons (eVar 0) (eCons (eVar 1) (eCons (eVar 4) (eCons (eVar 3) eNil))))))
    (seqM (sUnp (eIf (tB1 (e2 gGe (.g (e1 gAbs (.n 4))) (.g (e1 gAbs (.n 3))))) (eTup (eCons (eVar 4) (eCons (eVar 3) eNil))) (eTup (eCons (eVar 3) (eCons (eVar 4) eNil)))) (tTupG 2 (tConsG (tName 7) (tConsG (tName 8) tNilG))))
    (seqM (sSet 9 (callF G_plus (eCons (eVar 0) (eCons (eVar 1) (eCons (asD (callF G_plus (eCons (eVar 0) (eCons (eVar 1) (eCons (eVar 7) (eCons (asD (callF G_less (eCons (eVar 6) eNil))) eNil)))))) (eCons (eVar 8) eNil))))))
    (sRet (asRV (eTup (eCons (eVar 6) (eCons (asD (callF G_plus (eCons (eVar 0) (eCons (eVar 1) (eCons (eVar 5) (eCons (eVar 9) eNil)))))) eNil)))))))))
def G_beside_step (ds : List D) : PR := if ds.length == 4 then runF F_beside_step 10 ds else .bad

def F_wider : DM Fl :=
    (seqM (sIf (tB1 (e2 gNotInT (.n 1) (.g (eTup (eCons (eC (.str "wide1")) (eCons (eC (.str "wide2")) eNil)))))) (sRet (fVar 0)) (pureM .nx))
    (sRet (asRV (eTup (eCons (e2 gAdd (.g (e2 gIx (.n 0) (.g (eC (.int 0))))) (.g (eIf (tB1 (e2 gEq (.n 1) (.g (eC (.str "wide1"))))) (eC (.int 1)) (eC (.int 2))))) (eCons (e2 gIx (.n 0) (.g (eC (.int 1)))) eNil))))))
def G_wider (ds : List D) : PR := if ds.length == 2 then runF F_wider 2 ds else .bad

def F_total_told : DM Fl :=
    (seqM (sUnp (eVar 1) (tTupG 2 (tConsG (tName 3) (tConsG (tName 4) tNilG))))
    (seqM (sIf (tB1 (e2 gInT (.n 3) (.g (eTup (eCons (eC (.str "plain")) (eCons (eC (.str "kept")) eNil)))))) (sRet (asRV (e2 gIx (.n 2) (.g (eC (.int 0)))))) (pureM .nx))
    (seqM (sIf (tB1 (e2 gInT (.n 3) (.g (eTup (eCons (eC (.str "wide1")) (eCons (eC (.str "wide2")) eNil)))))) (sRet (callF G_round_to (eCons (eVar 0) (eCons (eVar 4) (eCons (e2 gIx (.n 2) (.g (eC (.int 0)))) eNil))))) (pureM .nx))
    (sRet (callF G_plus (eCons (eVar 0) (eCons (eVar 4) (eCons (e2 gIx (.n 2) (.g (eC (.int 0)))) (eCons (e2 gIx (.n 2) (.g (eC (.int 1)))) eNil)))))))))
def G_total_told (ds : List D) : PR := if ds.length == 3 then runF F_total_told 5 ds else .bad

def F_step : DM Fl :=
    (seqM (sUnp (eVar 1) (tTupG 2 (tConsG (tName 4) (tConsG (tName 5) tNilG))))
    (seqM (sIf (tB1 (e2 gEq (.n 4) (.g (eC (.str "kept"))))) (sSet 6 (callF G_kept_step (eCons (eVar 0) (eCons (eVar 5) (eCons (eVar 2) (eCons (eVar 3) eNil)))))) (sIf (tB1 (e2 gEq (.n 4) (.g (eC (.str "beside"))))) (sSet 6 (callF G_beside_step (eCons (eVar 0) (eCons (eVar 5) (eCons (eVar 2) (eCons (eVar 3) eNil)))))) (sIf (tB1 (e2 gEq (.n 4) (.g (eC (.str "signs"))))) (seqM (sUnp (eVar 2) (tTupG 2 (tConsG (tName 7) (tConsG (tName 8) tNilG))))
    (sIf (tB1 (e2 gGe (.n 3) (.g (eC (.int 0))))) (sSet 6 (asRV (eTup (eCons (asD (callF G_plus (eCons (eVar 0) (eCons (eVar 5) (eCons (eVar 7) (eCons (eVar 3) eNil)))))) (eCons (eVar 8) eNil))))) (sSet 6 (asRV (eTup (eCons (eVar 7) (eCons (asD (callF G_plus (eCons (eVar 0) (eCons (eVar 5) (eCons (eVar 8) (eCons (eVar 3) eNil)))))) eNil))))))) (sSet 6 (asRV (eTup (eCons (asD (callF G_plus (eCons (asD (callF G_wider (eCons (eVar 0) (eCons (eVar 4) eNil)))) (eCons (eVar 5) (eCons (e2 gIx (.n 2) (.g (eC (.int 0)))) (eCons (eVar 3) eNil)))))) eNil)))))))
    (sRet (asRV (eIf (bOr (tB1 (e2 gInT (.g (eC .none)) (.n 6))) (tB1 (e2 gIsN (.g (asD (callF G_total_told (eCons (eVar 0) (eCons (eVar 1) (eCons (eVar 6) eNil)))))) (.g (eC .none))))) (eC .none) (eVar 6))))))
def G_step (ds : List D) : PR := if ds.length == 4 then runF F_step 9 ds else .bad

def F_first_rows : DM Fl :=
    (seqM (sPar [3, 4] (fCons (fDict1 (asD (callF G_begun (eCons (eVar 1) eNil))) (asD (eLst eNil))) (fCons (eLst (eCons (asD (callF G_begun (eCons (eVar 1) eNil))) eNil)) fNil)))
    (seqM (sWhile [5, 6, 7, 8] 10000000 (tB1 (e2 gNe (.n 4) (.g (asD (eLst eNil))))) (seqM (sSet 5 (eLst eNil))
    (seqM (sFor [6, 7, 8] (iSeq (eVar 4)) (tName 6) (sFor [7, 8] (iSeq (eVar 2)) (tName 7) (seqM (sSet 8 (callF G_step (eCons (eVar 0) (eCons (eVar 1) (eCons (eVar 6) (eCons (eVar 7) eNil))))))
    (sIf (bAnd (tB1 (e2 gNotN (.n 8) (.g (eC .none)))) (tB1 (e2 gNotInD (.n 8) (.n 3)))) (seqM (sPutD 3 (eVar 8) (asD (fNew (e2 gCat (.g (e2 gGetD (.n 3) (.n 6))) (.g (asD (eLst (eCons (eVar 7) eNil))))))))
    (sDrop (fAppend 5 (eVar 8)))) (pureM .nx)))))
    (sSet 4 (fVar 5)))))
    (sRet (fVar 3))))
def G_first_rows (ds : List D) : PR := if ds.length == 3 then runF F_first_rows 9 ds else .bad

def F_gain : DM Fl :=
    (sRet (asRV (e2 gSub (.g (e2 gSub (.g (asD (callF G_total_told (eCons (eVar 0) (eCons (eVar 1) (eCons (eVar 3) eNil)))))) (.g (asD (callF G_total_told (eCons (eVar 0) (eCons (eVar 1) (eCons (eVar 2) eNil)))))))) (.n 4))))
def G_gain (ds : List D) : PR := if ds.length == 5 then runF F_gain 5 ds else .bad

def F_Rests_steps : DM Fl :=
    (seqM (sSet 2 (eLst eNil))
    (seqM (sFor [3, 4] (iSeq (eFld "Rests" "lot" (oVar 0))) (tName 3) (seqM (sSet 4 (callF G_step (eCons (eFld "Rests" "form" (oVar 0)) (eCons (eFld "Rests" "machine" (oVar 0)) (eCons (eVar 1) (eCons (eVar 3) eNil))))))
    (sIf (tB1 (e2 gNotN (.n 4) (.g (eC .none)))) (sDrop (fAppend 2 (eTup (eCons (eVar 3) (eCons (eVar 4) (eCons (asD (callF G_gain (eCons (eFld "Rests" "form" (oVar 0)) (eCons (eFld "Rests" "machine" (oVar 0)) (eCons (eVar 1) (eCons (eVar 4) (eCons (eVar 3) eNil))))))) eNil)))))) (pureM .nx))))
    (sRet (fVar 2))))
def G_Rests_steps (args : List Sl) (st : List Cell) : FR := if args.length == 2 then runM F_Rests_steps 5 args st else .bad

def F_graph_of : DM Fl :=
    (seqM (sPar [4, 5] (fCons (mkO "Rests" G_Rests___init__ (aCons (aVar 0) (aCons (aVar 1) (aCons (aVar 2) aNil)))) (fCons fDict0 fNil)))
    (seqM (sFor [6] (iKeys (asD (callF G_first_rows (eCons (eVar 0) (eCons (eVar 1) (eCons (eVar 2) eNil)))))) (tName 6) (sPutD 5 (eVar 6) (asD (eLc [7, 8, 9] (iSeq (asD (callO "Rests" "steps" G_Rests_steps (oVar 4) (aCons (aVar 6) aNil)))) (tTupG 3 (tConsG (tName 7) (tConsG (tName 8) (tConsG (tName 9) tNilG)))) (pureM true) (eTup (eCons (eVar 7) (eCons (eVar 8) (eCons (e2 gMul (.n 3) (.n 9)) eNil))))))))
    (sRet (fVar 5))))
def G_graph_of (ds : List D) : PR := if ds.length == 4 then runF F_graph_of 10 ds else .bad

def F_sums_of : DM Fl :=
    (seqM (sSet 1 (eLst (eCons (asD (fDc0 (eVar 0))) eNil)))
    (seqM (sFor [2, 3, 4, 5, 6, 7, 8] (iRng1 (eCons (e1 gLenDc (.n 0)) eNil)) (tName 2) (seqM (sSet 3 fDict0)
    (seqM (sFor [4, 5, 6, 7, 8] (iKeys (e2 gIx (.n 1) (.g (e1 gNeg (.g (eC (.int 1))))))) (tName 4) (sFor [5, 6, 7, 8] (iSeq (e2 gGetD (.n 0) (.n 4))) (tTupG 3 (tConsG (tName 5) (tConsG (tName 6) (tConsG (tName 7) tNilG)))) (seqM (sSet 8 (asRV (e2 gAdd (.g (e2 gGetD (.g (e2 gIx (.n 1) (.g (e1 gNeg (.g (eC (.int 1))))))) (.n 4))) (.n 7))))
    (sIf (bOr (tB1 (e2 gNotInD (.n 6) (.n 3))) (tB1 (e2 gGt (.n 8) (.g (e2 gGetD (.n 3) (.n 6)))))) (sPutD 3 (eVar 6) (eVar 8)) (pureM .nx)))))
    (sDrop (fAppend 1 (eVar 3))))))
    (sRet (fVar 1))))
def G_sums_of (ds : List D) : PR := if ds.length == 1 then runF F_sums_of 9 ds else .bad

def F_lowest : DM Fl :=
    (seqM (sPar [2, 3] (fCons (asRV (e1 gAbs (.n 0))) (fCons (fVar 1) fNil)))
    (seqM (sWhile [] 100000 (tB1 (e2 gGt (.n 3) (.g (eC (.int 0))))) (sPar [2, 3] (fCons (fVar 3) (fCons (asRV (e2 gMod (.n 2) (.n 3))) fNil))))
    (sRet (asRV (eTup (eCons (e2 gDiv (.n 0) (.n 2)) (eCons (e2 gDiv (.n 1) (.n 2)) eNil)))))))
def G_lowest (ds : List D) : PR := if ds.length == 2 then runF F_lowest 4 ds else .bad

def F_mean_of : DM Fl :=
    (seqM (sPar [1, 2, 3] (fCons (callF G_sums_of (eCons (eVar 0) eNil)) (fCons (asRV (e1 gLenDc (.n 0))) (fCons (asRV (eC .none)) fNil))))
    (seqM (sFor [4, 5, 6, 7] (iKeys (e2 gIx (.n 1) (.n 2))) (tName 4) (seqM (sSet 5 (asRV (eC .none)))
    (seqM (sFor [6, 7] (iRng1 (eCons (eVar 2) eNil)) (tName 6) (sIf (tB1 (e2 gInD (.n 4) (.g (e2 gIx (.n 1) (.n 6))))) (seqM (sSet 7 (asRV (eTup (eCons (e2 gSub (.g (e2 gGetD (.g (e2 gIx (.n 1) (.n 2))) (.n 4))) (.g (e2 gGetD (.g (e2 gIx (.n 1) (.n 6))) (.n 4)))) (eCons (e2 gSub (.n 2) (.n 6)) eNil)))))
    (sIf (bOr (tB1 (e2 gIsN (.n 5) (.g (eC .none)))) (tB1 (e2 gLt (.g (e2 gMul (.g (e2 gIx (.n 7) (.g (eC (.int 0))))) (.g (e2 gIx (.n 5) (.g (eC (.int 1))))))) (.g (e2 gMul (.g (e2 gIx (.n 5) (.g (eC (.int 0))))) (.g (e2 gIx (.n 7) (.g (eC (.int 1)))))))))) (sSet 5 (fVar 7)) (pureM .nx))) (pureM .nx)))
    (sIf (bOr (tB1 (e2 gIsN (.n 3) (.g (eC .none)))) (tB1 (e2 gGt (.g (e2 gMul (.g (e2 gIx (.n 5) (.g (eC (.int 0))))) (.g (e2 gIx (.n 3) (.g (eC (.int 1))))))) (.g (e2 gMul (.g (e2 gIx (.n 3) (.g (eC (.int 0))))) (.g (e2 gIx (.n 5) (.g (eC (.int 1)))))))))) (sSet 3 (fVar 5)) (pureM .nx)))))
    (sRet (callF G_lowest (eCons (e2 gIx (.n 3) (.g (eC (.int 0)))) (eCons (e2 gIx (.n 3) (.g (eC (.int 1)))) eNil))))))
def G_mean_of (ds : List D) : PR := if ds.length == 1 then runF F_mean_of 8 ds else .bad

def F_drifts : DM Fl :=
    (seqM (sDrop (callF G_need_endless (eCons (eVar 0) (eCons (eVar 1) (eCons (eVar 2) eNil)))))
    (seqM (sPar [3, 4] (fCons (callF G_with_rings (eCons (asD (callF G_graph_of (eCons (eVar 0) (eCons (eVar 1) (eCons (eVar 2) (eCons (e1 gNeg (.g (eC (.int 1)))) eNil)))))) eNil)) (fCons (callF G_with_rings (eCons (asD (callF G_graph_of (eCons (eVar 0) (eCons (eVar 1) (eCons (eVar 2) (eCons (eC (.int 1)) eNil)))))) eNil)) fNil)))
    (seqM (sIf (tB1 (e2 gEqDc (.n 4) (.g (asD fDict0)))) (sRet (asRV (eC .none))) (pureM .nx))
    (seqM (sUnp (asD (callF G_mean_of (eCons (eVar 3) eNil))) (tTupG 2 (tConsG (tName 5) (tConsG (tName 6) tNilG))))
    (sRet (asRV (eTup (eCons (eTup (eCons (e1 gNeg (.n 5)) (eCons (eVar 6) eNil))) (eCons (asD (callF G_mean_of (eCons (eVar 4) eNil))) eNil)))))))))
def G_drifts (ds : List D) : PR := if ds.length == 3 then runF F_drifts 7 ds else .bad

def F_spoiling_row : DM Fl :=
    (seqM (sDrop (callF G_need_summed (eCons (eVar 0) (eCons (eVar 1) (eCons (eVar 2) eNil)))))
    (seqM (sSet 3 (callF G_first_rows (eCons (eVar 0) (eCons (eVar 1) (eCons (eVar 2) eNil)))))
    (seqM (sFor [4, 5, 6, 7] (iSeq (asD (fNew (e1 gSortD (.g (asD (eLc [6] (iKeys (eVar 3)) (tName 6) (pureM true) (eTup (eCons (e1 gLen (.g (e2 gGetD (.n 3) (.n 6)))) (eCons (e2 gGetD (.n 3) (.n 6)) (eCons (eVar 6) eNil))))))))))) (tTupG 3 (tConsG (tName 4) (tConsG (tName 5) (tConsG (tName 6) tNilG)))) (sFor [7] (iSeq (eVar 2)) (tName 7) (sIf (tB1 (e2 gIsN (.g (asD (callF G_step (eCons (eVar 0) (eCons (eVar 1) (eCons (eVar 6) (eCons (eVar 7) eNil))))))) (.g (eC .none)))) (sRet (fNew (e2 gCat (.n 5) (.g (asD (eLst (eCons (eVar 7) eNil))))))) (pureM .nx))))
    (sRet (asRV (eC .none))))))
def G_spoiling_row (ds : List D) : PR := if ds.length == 3 then runF F_spoiling_row 8 ds else .bad

def F_places : DM Fl :=
    (seqM (sDrop (callF G_need_summed (eCons (eVar 0) (eCons (eVar 1) (eCons (eVar 2) eNil)))))
    (sRet (fNew (e1 gSortK (.g (asD (callF G_first_rows (eCons (eVar 0) (eCons (eVar 1) (eCons (eVar 2) eNil))))))))))
def G_places (ds : List D) : PR := if ds.length == 3 then runF F_places 3 ds else .bad

def F_greatest_sum : DM Fl :=
    (seqM (sPar [2, 3, 4] (fCons (fDict1 (eVar 1) (eC (.int 0))) (fCons (asRV (eC (.int 0))) (fCons (asRV (eC (.bool true))) fNil))))
    (seqM (sWhile [6, 7, 8] 100000 (tB1 (eVar 4)) (seqM (sSet 4 (asRV (eC (.bool false))))
    (seqM (sAug 3 gAdd (eC (.int 1)))
    (seqM (sFor [6, 7, 8] (iSeq (asD (fNew (e1 gListDc (.n 2))))) (tName 5) (sFor [6, 7, 8] (iSeq (e2 gGetD (.n 0) (.n 5))) (tTupG 3 (tConsG (tName 6) (tConsG (tName 7) (tConsG (tName 8) tNilG)))) (sIf (bOr (tB1 (e2 gNotInD (.n 7) (.n 2))) (tB1 (e2 gGt (.g (e2 gAdd (.g (e2 gGetD (.n 2) (.n 5))) (.n 8))) (.g (e2 gGetD (.n 2) (.n 7)))))) (seqM (sPutD 2 (eVar 7) (e2 gAdd (.g (e2 gGetD (.n 2) (.n 5))) (.n 8)))
    (sSet 4 (asRV (eC (.bool true))))) (pureM .nx))))
    (sIf (tB1 (e2 gGt (.n 3) (.g (e2 gAdd (.g (e1 gLenDc (.n 0))) (.g (eC (.int 1))))))) (sRet (asRV (eC .none))) (pureM .nx))))))
    (sRet (asRV (e1 gMaxL (.g (asD (eLc [5] (iKeys (eVar 2)) (tName 5) (pureM true) (e2 gGetD (.n 2) (.n 5))))))))))
def G_greatest_sum (ds : List D) : PR := if ds.length == 2 then runF F_greatest_sum 9 ds else .bad

def F_least_ever : DM Fl :=
    (seqM (sDrop (callF G_need_endless (eCons (eVar 0) (eCons (eVar 1) (eCons (eVar 2) eNil)))))
    (seqM (sSet 3 (callF G_greatest_sum (eCons (asD (callF G_graph_of (eCons (eVar 0) (eCons (eVar 1) (eCons (eVar 2) (eCons (e1 gNeg (.g (eC (.int 1)))) eNil)))))) (eCons (asD (callF G_begun (eCons (eVar 1) eNil))) eNil))))
    (sRet (asRV (eIf (tB1 (e2 gIsN (.n 3) (.g (eC .none)))) (eC .none) (e1 gNeg (.n 3)))))))
def G_least_ever (ds : List D) : PR := if ds.length == 3 then runF F_least_ever 4 ds else .bad

def F_is_row_of : DM Fl :=
    (sRet (asRV (vAnd (e1 (gIsi "list") (.n 1)) (vAnd (e2 gLe (.g (e1 gLen (.n 1))) (.g (eC K_LONGEST))) (e1 gAll (.g (asD (eLc [2] (iSeq (eVar 1)) (tName 2) (pureM true) (asD (callB G_is_number_of (.cons (.n 0) (.cons (.n 2) .nil))))))))))))
def G_is_row_of (ds : List D) : PR := if ds.length == 2 then runF F_is_row_of 3 ds else .bad

def F_need_row : DM Fl :=
    (seqM (sDrop (callF G_need_machine (eCons (eVar 0) (eCons (eVar 1) eNil))))
    (sIf (bNot (tB1 (asD (callF G_is_row_of (eCons (eVar 0) (eCons (eVar 2) eNil)))))) (sRaise "InvalidRow") (pureM .nx)))
def G_need_row (ds : List D) : PR := if ds.length == 3 then runF F_need_row 3 ds else .bad

def F_run : DM Fl :=
    (seqM (sPar [3, 4] (fCons (callF G_begun (eCons (eVar 1) eNil)) (fCons (eLst eNil) fNil)))
    (seqM (sFor [5] (iSeq (eVar 2)) (tName 5) (seqM (sSet 3 (fIf (tB1 (e2 gNotN (.n 3) (.g (eC .none)))) (callF G_step (eCons (eVar 0) (eCons (eVar 1) (eCons (eVar 3) (eCons (eVar 5) eNil))))) (asRV (eC .none))))
    (sDrop (fAppend 4 (eVar 3)))))
    (sRet (fVar 4))))
def G_run (ds : List D) : PR := if ds.length == 3 then runF F_run 6 ds else .bad

def F_totals_of : DM Fl :=
    (sRet (eLc [3] (iSeq (asD (callF G_run (eCons (eVar 0) (eCons (eVar 1) (eCons (eVar 2) eNil)))))) (tName 3) (pureM true) (eIf (tB1 (e2 gIsN (.n 3) (.g (eC .none)))) (eC .none) (asD (callF G_total_told (eCons (eVar 0) (eCons (eVar 1) (eCons (eVar 3) eNil))))))))
def G_totals_of (ds : List D) : PR := if ds.length == 3 then runF F_totals_of 4 ds else .bad

def F_totals : DM Fl :=
    (seqM (sDrop (callF G_need_row (eCons (eVar 0) (eCons (eVar 1) (eCons (eVar 2) eNil)))))
    (sRet (callF G_totals_of (eCons (eVar 0) (eCons (eVar 1) (eCons (eVar 2) eNil))))))
def G_totals (ds : List D) : PR := if ds.length == 3 then runF F_totals 3 ds else .bad

def F_greatest_ever : DM Fl :=
    (seqM (sDrop (callF G_need_endless (eCons (eVar 0) (eCons (eVar 1) (eCons (eVar 2) eNil)))))
    (sRet (callF G_greatest_sum (eCons (asD (callF G_graph_of (eCons (eVar 0) (eCons (eVar 1) (eCons (eVar 2) (eCons (eC (.int 1)) eNil)))))) (eCons (asD (callF G_begun (eCons (eVar 1) eNil))) eNil)))))
def G_greatest_ever (ds : List D) : PR := if ds.length == 3 then runF F_greatest_ever 3 ds else .bad

def F_l_law : DM Fl :=
    (seqM (sCell 1 (eLst (eCons (eC (.int 0)) (eCons (eC (.int 0)) eNil))))
    (seqM (sSet 2 (callM G_l_pick (aCons (aVar 0) (aCons (aVar 1) (aCons (aOf (asD (eLst (eCons (eTup (eCons (eC (.int 2)) (eCons (eC (.int 1)) eNil))) (eCons (eTup (eCons (eC (.int 2)) (eCons (eC (.int 2)) eNil))) (eCons (eTup (eCons (eC (.int 3)) (eCons (eC (.int 1)) eNil))) eNil)))))) aNil)))))
    (seqM (sSet 3 (callM G_l_mode (aCons (aVar 0) (aCons (aVar 1) aNil))))
    (seqM (sPar [4, 5] (fCons (asRV (eTup (eCons (eC (.str "plain")) (eCons (eVar 3) eNil)))) (fCons (asRV (e2 gAdd (.g (asD (callF G_l_top (eCons (eTup (eCons (e2 gIx (.n 2) (.g (eC (.int 0)))) (eCons (eC (.int 0)) eNil))) eNil)))) (.g (eC (.int 1))))) fNil)))
    (seqM (sSet 6 (asRV (dgetK1 [("even", (eVar 5)), ("down", (eVar 5)), ("zero", (eVar 5)), ("away", (e2 gMul (.g (eC (.int 2))) (.n 5)))] (eVar 3))))
    (seqM (sIf (bAnd (tB1 (e2 gEq (.n 3) (.g (eC (.str "away"))))) (tB1 (e2 gEq (.g (e2 gIx (.n 2) (.g (eC (.int 1))))) (.g (eC (.int 1)))))) (sSet 6 (asRV (eC .none))) (pureM .nx))
    (seqM (sPar [7, 8] (fCons (callF G_drifts (eCons (eVar 2) (eCons (eVar 4) (eCons (eTup (eCons (eC (.int 1)) eNil)) eNil)))) (fCons (callF G_spoiling_row (eCons (eVar 2) (eCons (eVar 4) (eCons (eTup (eCons (eC (.int 1)) eNil)) eNil)))) fNil)))
    (seqM (sIf (tB1 (e2 gIsN (.n 6) (.g (eC .none)))) (seqM (sIf (tB1 (e2 gIsN (.n 8) (.g (eC .none)))) (sRet (asRV (eC (.bool false)))) (pureM .nx))
    (sRet (asRV (vAnd (e2 gIsN (.n 7) (.g (eC .none))) (e2 gEq (.n 8) (.g (asD (fRep (eLst (eCons (eC (.int 1)) eNil)) (e1 gLen (.n 8)))))))))) (pureM .nx))
    (seqM (sIf (bOr (tB1 (e2 gNe (.n 7) (.g (eTup (eCons (eTup (eCons (e1 gNeg (.g (eC (.int 1)))) (eCons (eC (.int 1)) eNil))) (eCons (eTup (eCons (e1 gNeg (.g (eC (.int 1)))) (eCons (eC (.int 1)) eNil))) eNil)))))) (bOr (tB1 (e2 gNotN (.n 8) (.g (eC .none)))) (tB1 (e2 gNe (.g (e1 gMaxDD (.g (asD (callF G_places (eCons (eVar 2) (eCons (eVar 4) (eCons (eTup (eCons (eC (.int 1)) eNil)) eNil)))))))) (.g (eTup (eCons (eVar 6) eNil))))))) (sRet (asRV (eC (.bool false)))) (pureM .nx))
    (seqM (sIf (bOr (tB1 (e2 gNotN (.g (asD (callF G_least_ever (eCons (eVar 2) (eCons (eVar 4) (eCons (eTup (eCons (eC (.int 1)) eNil)) eNil)))))) (.g (eC .none)))) (tB1 (e2 gNe (.g (e2 gIx (.g (asD (callF G_totals (eCons (eVar 2) (eCons (eVar 4) (eCons (asD (fRep (eLst (eCons (eC (.int 1)) eNil)) (eC (.int 40)))) eNil)))))) (.g (e1 gNeg (.g (eC (.int 1))))))) (.n 6)))) (sRet (asRV (eC (.bool false)))) (pureM .nx))
    (sRet (asRV (e2 gGe (.g (asD (callF G_greatest_ever (eCons (eVar 2) (eCons (eVar 4) (eCons (eTup (eCons (eC (.int 1)) eNil)) eNil)))))) (.g (eC (.int 0))))))))))))))))
def G_l_law (args : List Sl) (st : List Cell) : FR := if args.length == 1 then runM F_l_law 9 args st else .bad

end DL

namespace DL
open PySem PySem.Spec PyProof.Rows L2
/-! comprehensions over data -/
theorem comp_map {α : Type} {t : D → S → Option S} {elt : DM D} {ks : List Nat} {s0 : S} (f : α → D) (g : α → D) : ∀ (xs : List α), (∀ x, x ∈ xs → ∃ s1 s2, t (f x) s0 = some s1 ∧ elt s1 = .ok (g x) s2 ∧ killS ks s2 = s0) → compL t (pureM true) elt ks (xs.map f) s0 = .ok (xs.map g) s0
  | [], _ => rfl
  | x :: xs, h => by
    obtain ⟨s1, s2, h1, h2, h3⟩ := h x List.mem_cons_self
    rw [List.map_cons, v_comp1, h1, v_compO, v_pure, v_compT]
    rw [if_pos rfl, h2, v_compE, h3, comp_map f g xs fun y hy => h y (List.mem_cons_of_mem _ hy), v_compM]
    rfl
theorem comp_mapX {α : Type} {t : D → S → Option S} {elt : DM D} {ks : List Nat} {s0 : S} {X : R (List D)} {xs : List α} {f : α → D} (hX : compL t (pureM true) elt ks (xs.map f) s0 = X) (g : α → D) (h : ∀ x, x ∈ xs → ∃ s1 s2, t (f x) s0 = some s1 ∧ elt s1 = .ok (g x) s2 ∧ killS ks s2 = s0) : X = .ok (xs.map g) s0 := by
  rw [← hX]; exact comp_map f g xs h
/-- a comprehension with a test, over data -/
theorem comp_filter {α : Type} {t : D → S → Option S} {tst : DM Bool} {elt : DM D} {ks : List Nat} {s0 : S} (f : α → D) (p : α → Bool) (g : α → D) : ∀ (xs : List α), (∀ x, x ∈ xs → ∃ s1 s2, t (f x) s0 = some s1 ∧ tst s1 = .ok (p x) s2 ∧ killS ks s2 = s0 ∧ (p x = true → ∃ s3, elt s2 = .ok (g x) s3 ∧ killS ks s3 = s0)) → compL t tst elt ks (xs.map f) s0 = .ok ((xs.filter p).map g) s0
  | [], _ => rfl
  | x :: xs, h => by
    obtain ⟨s1, s2, h1, h2, h3, h4⟩ := h x List.mem_cons_self
    have ih := comp_filter f p g xs fun y hy => h y (List.mem_cons_of_mem _ hy)
    rw [List.map_cons, v_comp1, h1, v_compO, h2, v_compT]
    cases hp : p x with
    | false =>
      rw [if_neg Bool.false_ne_true, h3, ih, List.filter_cons_of_neg (by rw [hp]; decide)]
    | true =>
      obtain ⟨s3, h5, h6⟩ := h4 hp
      rw [if_pos rfl, h5, v_compE, h6, ih, List.filter_cons_of_pos hp, v_compM]
      rfl
theorem comp_filterX {α : Type} {t : D → S → Option S} {tst : DM Bool} {elt : DM D} {ks : List Nat} {s0 : S} {X : R (List D)} {xs : List α} {f : α → D} (hX : compL t tst elt ks (xs.map f) s0 = X) (p : α → Bool) (g : α → D) (h : ∀ x, x ∈ xs → ∃ s1 s2, t (f x) s0 = some s1 ∧ tst s1 = .ok (p x) s2 ∧ killS ks s2 = s0 ∧ (p x = true → ∃ s3, elt s2 = .ok (g x) s3 ∧ killS ks s3 = s0)) : X = .ok ((xs.filter p).map g) s0 := by
  rw [← hX]; exact comp_filter f p g xs h
theorem comp_nones {t : D → S → Option S} {tst : DM Bool} {elt : DM D} {ks : List Nat} {s0 : S} (h : ∃ s1 s2, t .none s0 = some s1 ∧ tst s1 = .ok false s2 ∧ killS ks s2 = s0) : ∀ {ds : List D}, (∀ d, d ∈ ds → d = .none) → compL t tst elt ks ds s0 = .ok [] s0
  | [], _ => rfl
  | d :: ds, hd => by
    obtain ⟨s1, s2, h1, h2, h3⟩ := h
    obtain rfl := hd d List.mem_cons_self
    have ih := comp_nones (elt := elt) ⟨s1, s2, h1, h2, h3⟩ fun d h => hd d (List.mem_cons_of_mem _ h)
    rw [v_comp1, h1, v_compO, h2, v_compT]
    rw [if_neg Bool.false_ne_true, h3]
    exact ih
theorem comp_nonesX {t : D → S → Option S} {tst : DM Bool} {elt : DM D} {ks : List Nat} {s0 : S} {ds : List D} {X : R (List D)} (hX : compL t tst elt ks ds s0 = X) (hd : ∀ d, d ∈ ds → d = .none) (h : ∃ s1 s2, t .none s0 = some s1 ∧ tst s1 = .ok false s2 ∧ killS ks s2 = s0) : X = .ok [] s0 := by
  rw [← hX]; exact comp_nones h hd
theorem take_snoc {α : Type} {xs : List α} {i : Nat} {x : α} (h : xs[i]? = some x) : xs.take (i + 1) = xs.take i ++ [x] := by
  rw [List.take_add_one, h]; rfl
theorem all_true {α : Type} (xs : List α) : gAll (.list (xs.map fun _ => PyData.bool true)) = some (.bool true) := by
  have h : xs.map (fun _ => PyData.bool true) = (xs.map fun _ => true).map PyData.bool := by rw [List.map_map]; rfl
  unfold gAll
  dsimp only
  rw [h, boolsD_map]
  show some (PyData.bool ((xs.map fun _ => true).all _root_.id)) = _
  congr 2
  induction xs with
  | nil => rfl
  | cons x xs ih => rw [List.map_cons, List.all_cons, ih (by rw [List.map_map]; rfl)]; rfl
end DL

namespace DL
open PySem PySem.Spec PyProof.Rows L2
def md (m : Str) : Prop := m = "away" ∨ m = "down" ∨ m = "even" ∨ m = "up" ∨ m = "zero"
theorem md_ok {m : Str} (h : md m) : PyData.strOk m = true := by rcases h with rfl | rfl | rfl | rfl | rfl <;> decide +kernel
theorem md_eq {m : Str} (h : md m) (x : String) (hx : PyData.strOk (Str.ofString x) = true := by decide +kernel) : gEq (.str m) (.str (Str.ofString x)) = some (.bool (decide (m = Str.ofString x))) := v_gEqs (md_ok h) hx
end DL

namespace DL
open PySem PySem.Spec PyProof.Rows L2
theorem doubled_n {v : Int} (n : Nat) (hn : n ≤ 1000) : G_doubled [.int v, .int n] = .ok (.d (.int (v * 2 ^ n))) := by
  unfold G_doubled F_doubled
  walk_at "ev"
  rw [rangeOk_r (by omega) (by omega) (by omega) (by omega)]
  walk_at "ev"
  rw [show (n : Int).toNat = n by omega]
  have := range_row (t := tName 2) (b := sAug 0 gMul (eC (.int 2))) (ks := [2]) (lo := 0) (fun i => ⟨[.v (.int (v * 2 ^ i)), .v (.int n), .un], []⟩) n (fun i hi => by
    refine ⟨_, .nx, ⟨[.v (.int (v * 2 ^ (i + 1))), .v (.int n), .v (.int (0 + i))], []⟩, rfl, ?_, Or.inl rfl, rfl⟩
    walk_at "ev"
    rw [Int.pow_succ, Int.mul_assoc])
  rw [Int.pow_zero, Int.mul_one] at this
  rw [this]
  walk_at "ev"
end DL

namespace DL
open PySem PySem.Spec PyProof.Rows L2
def un (b a : Nat) : Nat := 2 ^ (Nat.log2 a + 1 - b)
theorem un_pos (b a : Nat) : 0 < un b a := Nat.two_pow_pos _
theorem un_lt (b a : Nat) : a < un b a * 2 ^ b := by
  unfold un
  rw [← Nat.pow_add]
  refine Nat.lt_of_lt_of_le (Nat.lt_log2_self (n := a)) (Nat.pow_le_pow_right (by decide) (by omega))
theorem un_ge {b a : Nat} (hb : 1 ≤ b) : un b a = 1 ∨ ∃ k, un b a = 2 ^ (k + 1) ∧ 2 ^ k * 2 ^ b ≤ a := by
  unfold un
  by_cases h : Nat.log2 a + 1 ≤ b
  · left
    rw [Nat.sub_eq_zero_of_le h, Nat.pow_zero]
  · right
    refine ⟨Nat.log2 a - b, by rw [show Nat.log2 a - b + 1 = Nat.log2 a + 1 - b by omega], ?_⟩
    rw [← Nat.pow_add, show Nat.log2 a - b + b = Nat.log2 a by omega]
    by_cases h0 : a = 0
    · subst h0
      simp at h
      omega
    · exact Nat.log2_self_le h0
theorem un_of {b a k : Nat} (hb : 1 ≤ b) (h : a < 2 ^ k * 2 ^ b) (h' : k = 0 ∨ 2 ^ (k - 1) * 2 ^ b ≤ a) : 2 ^ k = un b a := by
  unfold un
  rw [← Nat.pow_add] at h
  by_cases h0 : a = 0
  · subst h0
    rcases h' with rfl | h'
    · have : Nat.log2 0 + 1 - b = 0 := by simp; omega
      rw [this]
    · have := Nat.mul_pos (Nat.two_pow_pos (k - 1)) (Nat.two_pow_pos b)
      omega
  · have h2 : Nat.log2 a < k + b := (Nat.log2_lt h0).mpr h
    rcases h' with rfl | h'
    · have : Nat.log2 a + 1 - b = 0 := by omega
      rw [this]
    · rw [← Nat.pow_add] at h'
      have h3 : k - 1 + b ≤ Nat.log2 a := (Nat.le_log2 h0).mpr h'
      have : Nat.log2 a + 1 - b = k := by
        by_cases hk : k = 0
        · subst hk; omega
        · omega
      rw [this]
theorem mulOk_2p {i : Int} {b : Nat} (hb : b ≤ 60) : mulOk i ((2 ^ b : Nat) : Int) = true := by
  have h : 2 ^ b ≤ 2 ^ 60 := Nat.pow_le_pow_right (by decide) hb
  have h' : (2 : Nat) ^ 60 = 1152921504606846976 := by decide
  rw [h'] at h
  generalize 2 ^ b = x at h
  exact mulOk_r (by omega) (by omega)
theorem un_small {b a : Nat} (hb : 1 ≤ b) (ha : a < 2 ^ 29) : un b a < 1073741824 := by
  rcases un_ge (b := b) (a := a) hb with h | ⟨k, h, h'⟩
  · omega
  · have : 2 ^ k * 2 ≤ 2 ^ k * 2 ^ b := Nat.mul_le_mul_left _ (by
      have := Nat.pow_le_pow_right (n := 2) (by decide) hb
      omega)
    rw [h, Nat.pow_succ]
    omega
theorem abs_int (v : Int) : (if v < 0 then -v else v) = (v.natAbs : Int) := by split <;> omega
/-- the numbers on both sides -/
def lo (b : Nat) (v : Int) : Int := v / (un b v.natAbs : Int) * (un b v.natAbs : Int)
def hi (b : Nat) (v : Int) : Int := if lo b v = v then lo b v else lo b v + (un b v.natAbs : Int)
theorem hi_lo {b : Nat} {v : Int} : hi b v = lo b v ∨ hi b v = lo b v + (un b v.natAbs : Int) := by
  unfold hi; split
  · exact Or.inl rfl
  · exact Or.inr rfl
def fm (b e : Nat) : D := .tuple [.int b, .int e]
def okf (b e : Nat) : Prop := 2 ≤ b ∧ b ≤ 4 ∧ e ≤ 3
def okv (v : Int) : Prop := -1000 ≤ v ∧ v ≤ 1000
def grt (b e : Nat) : Int := (2 ^ b - 1) * 2 ^ e
def near0 (m : Str) (l h v : Int) : Int :=
  if m = ("zero" : Str) ∨ 2 * ((v - (if 0 < v then l else h)).natAbs : Int) < h - l then (if 0 < v then l else h)
  else if h - l < 2 * ((v - (if 0 < v then l else h)).natAbs : Int) ∨ m = ("away" : Str) then (if 0 < v then h else l)
  else if l % (2 * (h - l)) = 0 then l else h
def cho (b : Nat) (m : Str) (v : Int) : Int :=
  if lo b v = hi b v then v else if m = ("down" : Str) then lo b v else if m = ("up" : Str) then hi b v else near0 m (lo b v) (hi b v) v
def rnd (b e : Nat) (m : Str) (v : Int) : Option Int := if ((cho b m v).natAbs : Int) ≤ grt b e then some (cho b m v) else none
def rp (b : Nat) (x : Int) : Prop := ∃ m k : Nat, x.natAbs = m * 2 ^ k ∧ m < 2 ^ b
theorem lo_le {b : Nat} {v : Int} : lo b v ≤ v := by
  unfold lo
  have := un_pos b v.natAbs
  have h := Int.ediv_mul_le v (b := (un b v.natAbs : Int)) (by omega)
  exact h
theorem lo_gt {b : Nat} {v : Int} : v < lo b v + (un b v.natAbs : Int) := by
  unfold lo
  have := un_pos b v.natAbs
  have h := Int.lt_ediv_add_one_mul_self v (b := (un b v.natAbs : Int)) (by omega)
  rw [Int.add_mul, Int.one_mul] at h
  exact h
theorem lo_dvd {b : Nat} {v : Int} : (un b v.natAbs : Int) ∣ lo b v := ⟨v / (un b v.natAbs : Int), by unfold lo; rw [Int.mul_comm]⟩
theorem hi_dvd {b : Nat} {v : Int} : (un b v.natAbs : Int) ∣ hi b v := by
  rcases hi_lo (b := b) (v := v) with h | h <;> rw [h]
  · exact lo_dvd
  · exact Int.dvd_add lo_dvd (Int.dvd_refl _)
theorem hi_ge {b : Nat} {v : Int} : v ≤ hi b v := by
  unfold hi
  have := lo_gt (b := b) (v := v)
  split <;> omega
theorem hi_lt {b : Nat} {v : Int} : hi b v < v + (un b v.natAbs : Int) := by
  unfold hi
  have := lo_le (b := b) (v := v)
  have := un_pos b v.natAbs
  split <;> omega
/-- a multiple of the unit, within the unit's range, is a number -/
theorem rp_mul {b : Nat} {v x : Int} (hb : 1 ≤ b) (hd : (un b v.natAbs : Int) ∣ x) (h : x.natAbs ≤ un b v.natAbs * 2 ^ b) : rp b x := by
  obtain ⟨q, rfl⟩ := hd
  rw [Int.natAbs_mul, Int.natAbs_natCast] at h
  have hp := un_pos b v.natAbs
  have h1 : q.natAbs ≤ 2 ^ b := Nat.le_of_mul_le_mul_left h hp
  by_cases h2 : q.natAbs < 2 ^ b
  · refine ⟨q.natAbs, Nat.log2 v.natAbs + 1 - b, ?_, h2⟩
    rw [Int.natAbs_mul, Int.natAbs_natCast, Nat.mul_comm]
    rfl
  · refine ⟨1, Nat.log2 v.natAbs + 1 - b + b, ?_, ?_⟩
    · rw [Int.natAbs_mul, Int.natAbs_natCast, Nat.pow_add, Nat.one_mul, show q.natAbs = 2 ^ b by omega]
      rfl
    · have : 2 ^ 1 ≤ 2 ^ b := Nat.pow_le_pow_right (by decide) hb
      omega
theorem mul_le_floor {u q v : Int} (hu : 0 < u) (h : u * q ≤ v) : u * q ≤ v / u * u := by
  rw [Int.mul_comm u q]
  exact Int.mul_le_mul_of_nonneg_right ((Int.le_ediv_iff_mul_le hu).mpr (by rw [Int.mul_comm]; exact h)) (Int.le_of_lt hu)
theorem le_lo {b : Nat} {v x : Int} (hd : (un b v.natAbs : Int) ∣ x) (h : x ≤ v) : x ≤ lo b v := by
  obtain ⟨q, rfl⟩ := hd
  have := un_pos b v.natAbs
  exact mul_le_floor (by omega) h
theorem hi_le {b : Nat} {v x : Int} (hd : (un b v.natAbs : Int) ∣ x) (h : v ≤ x) : hi b v ≤ x := by
  have hp := un_pos b v.natAbs
  by_cases hx : x < hi b v
  · exfalso
    unfold hi at hx
    split at hx
    · omega
    · rename_i hne
      have h1 : (un b v.natAbs : Int) ∣ x - lo b v := Int.dvd_sub hd lo_dvd
      have h2 := lo_le (b := b) (v := v)
      have h3 : 0 < x - lo b v := by omega
      have := Int.le_of_dvd h3 h1
      omega
  · omega
theorem lo_rp {b : Nat} {v : Int} (hb : 1 ≤ b) : rp b (lo b v) := by
  refine rp_mul hb lo_dvd ?_
  have h1 := lo_le (b := b) (v := v)
  have h2 := un_lt b v.natAbs
  have h3 : -((un b v.natAbs : Int) * (2 ^ b : Nat)) ≤ lo b v := le_lo ⟨-((2 ^ b : Nat) : Int), by rw [Int.mul_neg]⟩ (by rw [← Int.natCast_mul]; omega)
  rw [← Int.natCast_mul] at h3
  omega
theorem hi_rp {b : Nat} {v : Int} (hb : 1 ≤ b) : rp b (hi b v) := by
  refine rp_mul hb hi_dvd ?_
  have h1 := hi_ge (b := b) (v := v)
  have h2 := un_lt b v.natAbs
  have h3 : hi b v ≤ ((un b v.natAbs : Int) * (2 ^ b : Nat)) := hi_le ⟨((2 ^ b : Nat) : Int), rfl⟩ (by rw [← Int.natCast_mul]; omega)
  rw [← Int.natCast_mul] at h3
  omega
theorem rp_small {b k : Nat} {x : Int} (h : rp b x) (hn : ¬ ((2 ^ (k + 1) : Nat) : Int) ∣ x) : x.natAbs < 2 ^ k * 2 ^ b := by
  obtain ⟨m, j, e, hm⟩ := h
  have hj : j ≤ k := by
    apply Classical.byContradiction
    intro hj
    apply hn
    rw [Int.ofNat_dvd_left, e]
    exact Nat.dvd_trans (Nat.pow_dvd_pow 2 (by omega)) (Nat.dvd_mul_left _ _)
  rw [e]
  refine Nat.lt_of_lt_of_le (Nat.mul_lt_mul_of_pos_right hm (Nat.two_pow_pos j)) ?_
  rw [Nat.mul_comm]
  exact Nat.mul_le_mul_right _ (Nat.pow_le_pow_right (by decide) hj)
theorem not_dvd_mid {u l x : Int} (hl : u ∣ l) (h1 : l < x) (h2 : x < l + u) : ¬ u ∣ x := fun h => by
  have := Int.le_of_dvd (by omega) (Int.dvd_sub h hl)
  omega
theorem no_rp {b : Nat} {v x : Int} (hb : 1 ≤ b) (h : rp b x) (h1 : lo b v < x) (h2 : x < hi b v) : False := by
  have hlv := lo_le (b := b) (v := v)
  have hvh := hi_ge (b := b) (v := v)
  have hne : lo b v ≠ v := fun e => by
    unfold hi at h2
    rw [if_pos e] at h2
    omega
  have hh : hi b v = lo b v + (un b v.natAbs : Int) := by unfold hi; rw [if_neg hne]
  rw [hh] at h2
  have hnd := not_dvd_mid lo_dvd h1 h2
  rcases un_ge (b := b) (a := v.natAbs) hb with h' | ⟨k, h', hk⟩
  · rw [h'] at hnd
    exact hnd ⟨x, by omega⟩
  · rw [h'] at hnd
    have hs := rp_small h hnd
    have hdv : (un b v.natAbs : Int) ∣ ((2 ^ k * 2 ^ b : Nat) : Int) := by
      rw [h', Int.natCast_dvd_natCast, show b = b - 1 + 1 by omega, Nat.pow_succ 2 (b - 1), Nat.pow_succ 2 k]
      exact ⟨2 ^ (b - 1), by rw [Nat.mul_assoc, Nat.mul_comm 2]⟩
    generalize 2 ^ k * 2 ^ b = w at *
    by_cases hv : 0 ≤ v
    · have := le_lo (b := b) (v := v) hdv (by omega)
      omega
    · have := hi_le (b := b) (v := v) (x := -(w : Int)) (by rw [Int.dvd_neg]; exact hdv) (by omega)
      omega
theorem rp_iff {b a a' k : Nat} {x : Int} (h : x.natAbs = a' * 2 ^ k) (h' : a' = 0 ∨ a' % 2 = 1) : rp b x ↔ a' < 2 ^ b := by
  constructor
  · rintro ⟨m, j, e, hm⟩
    rw [h] at e
    rcases h' with rfl | h'
    · exact Nat.two_pow_pos b
    · by_cases hj : j ≤ k
      · have : m = a' * 2 ^ (k - j) := by
          apply Nat.eq_of_mul_eq_mul_right (Nat.two_pow_pos j)
          rw [← e, Nat.mul_assoc, ← Nat.pow_add, show k - j + j = k by omega]
        have h2 := Nat.le_mul_of_pos_right a' (Nat.two_pow_pos (k - j))
        omega
      · have : a' = m * 2 ^ (j - k) := by
          apply Nat.eq_of_mul_eq_mul_right (Nat.two_pow_pos k)
          rw [e, Nat.mul_assoc, ← Nat.pow_add, show j - k + k = j by omega]
        rw [show j - k = j - k - 1 + 1 by omega, Nat.pow_succ, ← Nat.mul_assoc] at this
        omega
  · intro hm
    exact ⟨a', k, h, hm⟩
noncomputable def rpB (b : Nat) (x : Int) : Bool := @decide (rp b x) (Classical.propDecidable _)
theorem rpB_iff {b : Nat} {x : Int} : rpB b x = true ↔ rp b x := by unfold rpB; exact @decide_eq_true_iff _ (Classical.propDecidable _)
theorem rpB_lo {b : Nat} {v x : Int} (hb : 1 ≤ b) (h1 : lo b v ≤ x) (h2 : x ≤ v) : rpB b x = decide (x = lo b v) := by
  rw [Bool.eq_iff_iff, rpB_iff, decide_eq_true_iff]
  constructor
  · intro h
    apply Classical.byContradiction
    intro hx
    have := hi_ge (b := b) (v := v)
    by_cases h3 : x < hi b v
    · exact no_rp hb h (by omega) h3
    · have : hi b v = v := by omega
      unfold hi at this
      have hp := un_pos b v.natAbs
      have h9 := lo_gt (b := b) (v := v)
      split at this <;> omega
  · rintro rfl; exact lo_rp hb
theorem rpB_hi {b : Nat} {v x : Int} (hb : 1 ≤ b) (h1 : v ≤ x) (h2 : x ≤ hi b v) : rpB b x = decide (x = hi b v) := by
  rw [Bool.eq_iff_iff, rpB_iff, decide_eq_true_iff]
  constructor
  · intro h
    apply Classical.byContradiction
    intro hx
    have := lo_le (b := b) (v := v)
    by_cases h3 : lo b v < x
    · exact no_rp hb h h3 (by omega)
    · have : lo b v = v := by omega
      unfold hi at h2 hx
      split at h2 <;> omega
  · rintro rfl; exact hi_rp hb
theorem un_le {b a : Nat} (hb : 1 ≤ b) : un b a ≤ a + 1 := by
  rcases un_ge (b := b) (a := a) hb with h | ⟨k, h, h'⟩
  · omega
  · have : 2 ^ k * 2 ≤ 2 ^ k * 2 ^ b := Nat.mul_le_mul_left _ (by
      have := Nat.pow_le_pow_right (n := 2) (by decide) hb
      omega)
    rw [h, Nat.pow_succ]
    omega
theorem lo_hi_sign {b : Nat} {v : Int} (h : ¬ lo b v = hi b v) : lo b v < v ∧ v < hi b v ∧ (0 < v → 0 ≤ lo b v) ∧ (¬ 0 < v → hi b v ≤ 0) := by
  have h1 := lo_le (b := b) (v := v)
  have h2 := hi_ge (b := b) (v := v)
  have hl : lo b v ≠ v := fun e => by
    unfold hi at h
    rw [if_pos e] at h
    exact h rfl
  have hh : hi b v ≠ v := fun e => by
    have := le_lo (b := b) (v := v) hi_dvd (by omega)
    omega
  refine ⟨by omega, by omega, fun h0 => le_lo (Int.dvd_zero _) (by omega), fun h0 => hi_le (Int.dvd_zero _) (by omega)⟩
end DL

namespace DL
open PySem PySem.Spec PyProof.Rows L2
theorem le_lo_rp {b : Nat} {v x : Int} (hb : 1 ≤ b) (h : rp b x) (h1 : x ≤ v) : x ≤ lo b v := by
  apply Classical.byContradiction
  intro h2
  have h3 := hi_ge (b := b) (v := v)
  by_cases h4 : x < hi b v
  · exact no_rp hb h (by omega) h4
  · have h5 : hi b v = v := by omega
    have h6 := le_lo (b := b) (v := v) hi_dvd (by omega)
    omega
theorem hi_le_rp {b : Nat} {v x : Int} (hb : 1 ≤ b) (h : rp b x) (h1 : v ≤ x) : hi b v ≤ x := by
  apply Classical.byContradiction
  intro h2
  have h3 := lo_le (b := b) (v := v)
  by_cases h4 : lo b v < x
  · exact no_rp hb h h4 (by omega)
  · have h5 : lo b v = v := by omega
    have h6 : hi b v = lo b v := by unfold hi; rw [if_pos h5]
    omega
theorem rp_lo {b : Nat} {x : Int} (hb : 1 ≤ b) (h : rp b x) : lo b x = x := by
  have := le_lo_rp hb h (Int.le_refl x)
  have := lo_le (b := b) (v := x)
  omega
theorem rp_hi {b : Nat} {x : Int} (hb : 1 ≤ b) (h : rp b x) : hi b x = x := by
  unfold hi; rw [if_pos (rp_lo hb h), rp_lo hb h]
theorem rp_dvd {b : Nat} {x : Int} (hb : 1 ≤ b) : (un b x.natAbs : Int) ∣ x ↔ rp b x := by
  constructor
  · intro h
    exact rp_mul hb h (Nat.le_of_lt (un_lt b x.natAbs))
  · intro h
    have := lo_dvd (b := b) (v := x)
    rwa [rp_lo hb h] at this
theorem rp_neg {b : Nat} {x : Int} (h : rp b x) : rp b (-x) := by
  obtain ⟨m, k, e, hm⟩ := h
  exact ⟨m, k, by rw [Int.natAbs_neg]; exact e, hm⟩
theorem grt_nat {b e : Nat} : grt b e = (((2 ^ b - 1) * 2 ^ e : Nat) : Int) := by
  unfold grt
  have := Nat.two_pow_pos b
  rw [Int.natCast_mul, Int.natCast_sub (by omega)]
  simp
theorem grt_rp {b e : Nat} : rp b (grt b e) := by
  refine ⟨2 ^ b - 1, e, ?_, by have := Nat.two_pow_pos b; omega⟩
  rw [grt_nat, Int.natAbs_natCast]
theorem grt_le {b e : Nat} (h : okf b e) : 3 ≤ grt b e ∧ grt b e ≤ 120 := by
  obtain ⟨h1, h2, h3⟩ := h
  have hb : b = 2 ∨ b = 3 ∨ b = 4 := by omega
  have he : e = 0 ∨ e = 1 ∨ e = 2 ∨ e = 3 := by omega
  unfold grt
  rcases hb with rfl | rfl | rfl <;> rcases he with rfl | rfl | rfl | rfl <;> decide
/-- a number of the format -/
def num (b e : Nat) (x : Int) : Prop := rp b x ∧ (x.natAbs : Int) ≤ grt b e
noncomputable def numB (b e : Nat) (x : Int) : Bool := decide ((x.natAbs : Int) ≤ grt b e) && rpB b x
theorem numB_iff {b e : Nat} {x : Int} : numB b e x = true ↔ num b e x := by
  unfold numB num
  rw [Bool.and_eq_true, decide_eq_true_iff, rpB_iff]
  exact And.comm
theorem lo_num {b e : Nat} {v : Int} (hb : 1 ≤ b) (h : (v.natAbs : Int) ≤ grt b e) : num b e (lo b v) := by
  have h1 := lo_le (b := b) (v := v)
  have h2 := le_lo_rp (b := b) (v := v) hb (rp_neg (grt_rp (b := b) (e := e))) (by omega)
  exact ⟨lo_rp hb, by omega⟩
theorem hi_num {b e : Nat} {v : Int} (hb : 1 ≤ b) (h : (v.natAbs : Int) ≤ grt b e) : num b e (hi b v) := by
  have h1 := hi_ge (b := b) (v := v)
  have h2 := hi_le_rp (b := b) (v := v) hb (grt_rp (b := b) (e := e)) (by omega)
  exact ⟨hi_rp hb, by omega⟩
theorem num_abs {b e : Nat} {x : Int} (hf : okf b e) (h : num b e x) : -120 ≤ x ∧ x ≤ 120 := by
  have := h.2
  have := (grt_le hf).2
  omega
theorem cho_mem {b : Nat} {m : Str} {v : Int} : cho b m v = lo b v ∨ cho b m v = hi b v := by
  unfold cho
  by_cases h : lo b v = hi b v
  · have h1 := lo_le (b := b) (v := v)
    have h2 := hi_ge (b := b) (v := v)
    rw [if_pos h]
    left
    omega
  · rw [if_neg h]
    split
    · exact .inl rfl
    · split
      · exact .inr rfl
      · unfold near0
        (repeat' split) <;> first | exact .inl rfl | exact .inr rfl
theorem cho_rp {b : Nat} {m : Str} {v : Int} (hb : 1 ≤ b) : rp b (cho b m v) := by
  rcases cho_mem (b := b) (m := m) (v := v) with h | h <;> rw [h]
  · exact lo_rp hb
  · exact hi_rp hb
theorem cho_id {b : Nat} {m : Str} {v : Int} (hb : 1 ≤ b) (h : rp b v) : cho b m v = v := by
  unfold cho
  rw [if_pos (by rw [rp_lo hb h, rp_hi hb h])]
theorem rnd_num {b e : Nat} {m : Str} {v z : Int} (hb : 1 ≤ b) (h : rnd b e m v = some z) : num b e z ∧ z = cho b m v := by
  unfold rnd at h
  split at h
  · rename_i hc
    injection h with h
    subst h
    exact ⟨⟨cho_rp hb, hc⟩, rfl⟩
  · cases h
theorem rnd_id {b e : Nat} {m : Str} {x : Int} (hb : 1 ≤ b) (h : num b e x) : rnd b e m x = some x := by
  unfold rnd
  rw [cho_id hb h.1, if_pos h.2]
/-- nearest -/
def nst (m : Str) : Prop := m = "even" ∨ m = "away"
theorem cho_near {b : Nat} {m : Str} {v x : Int} (hb : 1 ≤ b) (hm : nst m) (h : rp b x) : (v - cho b m v).natAbs ≤ (v - x).natAbs := by
  have h1 := lo_le (b := b) (v := v)
  have h2 := hi_ge (b := b) (v := v)
  have key : (v - cho b m v).natAbs ≤ (v - lo b v).natAbs ∧ (v - cho b m v).natAbs ≤ (v - hi b v).natAbs := by
    unfold cho
    by_cases h : lo b v = hi b v
    · rw [if_pos h]; omega
    · rw [if_neg h]
      rcases hm with rfl | rfl
      all_goals
        unfold near0
        simp only [ofString_inj, String.reduceEq, if_true, if_false, true_or, or_true, false_or, or_false, reduceIte]
        (repeat' split) <;> omega
  by_cases hx : x ≤ v
  · have := le_lo_rp hb h hx
    omega
  · have := hi_le_rp (v := v) hb h (by omega)
    omega
theorem rp_of {b k : Nat} {q : Int} (h : q.natAbs < 2 ^ b) : rp b (q * ((2 ^ k : Nat) : Int)) := ⟨q.natAbs, k, by rw [Int.natAbs_mul, Int.natAbs_natCast], h⟩
theorem rp_shape {b : Nat} {x : Int} (h : rp b x) : ∃ (q : Int) (k : Nat), x = q * ((2 ^ k : Nat) : Int) ∧ q.natAbs < 2 ^ b := by
  obtain ⟨m, k, e, hm⟩ := h
  rcases Int.natAbs_eq x with h' | h'
  · exact ⟨m, k, by rw [h', e, Int.natCast_mul], by simpa using hm⟩
  · exact ⟨-m, k, by rw [h', e, Int.natCast_mul, Int.neg_mul], by simpa using hm⟩
/-- what a sum to the nearest loses is a number -/
theorem err_rp {b : Nat} {m : Str} {x y : Int} (hb : 1 ≤ b) (hm : nst m) (hx : rp b x) (hy : rp b y) : rp b (x + y - cho b m (x + y)) ∧ (x + y - cho b m (x + y)).natAbs ≤ x.natAbs := by
  have n1 := cho_near (v := x + y) hb hm hy
  have n2 := cho_near (v := x + y) hb hm hx
  rw [show x + y - y = x by omega] at n1
  rw [show x + y - x = y by omega] at n2
  refine ⟨?_, n1⟩
  obtain ⟨p, j, ex, hp⟩ := rp_shape hx
  obtain ⟨q, k, ey, hq⟩ := rp_shape hy
  have main : ∀ (i : Nat) (w : Int), ((2 ^ i : Nat) : Int) ∣ x → ((2 ^ i : Nat) : Int) ∣ y → w.natAbs < 2 ^ b → (x + y - cho b m (x + y)).natAbs ≤ (w * ((2 ^ i : Nat) : Int)).natAbs → rp b (x + y - cho b m (x + y)) := by
    intro i w d1 d2 hw hle
    have ds : ((2 ^ i : Nat) : Int) ∣ x + y := Int.dvd_add d1 d2
    have du : (un b (x + y).natAbs : Int) ∣ cho b m (x + y) := by
      rcases cho_mem (b := b) (m := m) (v := x + y) with h | h <;> rw [h]
      · exact lo_dvd
      · exact hi_dvd
    have : ((2 ^ i : Nat) : Int) ∣ x + y - cho b m (x + y) := by
      by_cases hi : i ≤ Nat.log2 (x + y).natAbs + 1 - b
      · refine Int.dvd_sub ds (Int.dvd_trans ?_ du)
        unfold un
        exact Int.natCast_dvd_natCast.mpr (Nat.pow_dvd_pow 2 hi)
      · have : rp b (x + y) := (rp_dvd hb).mp (by
          refine Int.dvd_trans ?_ ds
          unfold un
          exact Int.natCast_dvd_natCast.mpr (Nat.pow_dvd_pow 2 (by omega)))
        rw [cho_id hb this, Int.sub_self]
        exact Int.dvd_zero _
    obtain ⟨z, hz⟩ := this
    rw [hz, Int.mul_comm]
    apply rp_of
    rw [hz, Int.mul_comm, Int.natAbs_mul, Int.natAbs_mul] at hle
    have := Nat.le_of_mul_le_mul_right hle (by rw [Int.natAbs_natCast]; exact Nat.two_pow_pos i)
    omega
  by_cases hjk : j ≤ k
  · refine main j p ⟨p, by rw [ex, Int.mul_comm]⟩ ?_ hp (by rw [← ex]; exact n1)
    rw [ey]
    exact Int.dvd_trans (Int.natCast_dvd_natCast.mpr (Nat.pow_dvd_pow 2 hjk)) (Int.dvd_mul_left _ _)
  · refine main k q ?_ ⟨q, by rw [ey, Int.mul_comm]⟩ hq (by rw [← ey]; exact n2)
    rw [ex]
    exact Int.dvd_trans (Int.natCast_dvd_natCast.mpr (Nat.pow_dvd_pow 2 (by omega))) (Int.dvd_mul_left _ _)
/-- near numbers of unlike signs lose nothing -/
theorem sterb {b : Nat} {m : Str} {x y : Int} (hb : 1 ≤ b) (hx : rp b x) (hy : rp b y) (h0 : x * y < 0) (h1 : x.natAbs ≤ 2 * y.natAbs) (h2 : y.natAbs ≤ 2 * x.natAbs) : cho b m (x + y) = x + y := by
  apply cho_id hb
  obtain ⟨p, j, ex, hp⟩ := rp_shape hx
  obtain ⟨q, k, ey, hq⟩ := rp_shape hy
  have sg : (x < 0 ∧ 0 < y) ∨ (0 < x ∧ y < 0) := by
    rcases Int.lt_trichotomy x 0 with h | h | h
    · left
      refine ⟨h, ?_⟩
      apply Classical.byContradiction
      intro hy
      have := Int.mul_nonneg_of_nonpos_of_nonpos (Int.le_of_lt h) (by omega : y ≤ 0)
      omega
    · rw [h, Int.zero_mul] at h0; omega
    · right
      refine ⟨h, ?_⟩
      apply Classical.byContradiction
      intro hy
      have := Int.mul_nonneg (Int.le_of_lt h) (by omega : 0 ≤ y)
      omega
  have main : ∀ (i : Nat) (w : Int), ((2 ^ i : Nat) : Int) ∣ x → ((2 ^ i : Nat) : Int) ∣ y → w.natAbs < 2 ^ b → (x + y).natAbs ≤ (w * ((2 ^ i : Nat) : Int)).natAbs → rp b (x + y) := by
    intro i w d1 d2 hw hle
    obtain ⟨z, hz⟩ := Int.dvd_add d1 d2
    rw [hz, Int.mul_comm]
    apply rp_of
    rw [hz, Int.mul_comm, Int.natAbs_mul, Int.natAbs_mul] at hle
    have := Nat.le_of_mul_le_mul_right hle (by rw [Int.natAbs_natCast]; exact Nat.two_pow_pos i)
    omega
  by_cases hjk : j ≤ k
  · refine main j p ⟨p, by rw [ex, Int.mul_comm]⟩ ?_ hp (by rw [← ex]; omega)
    rw [ey]
    exact Int.dvd_trans (Int.natCast_dvd_natCast.mpr (Nat.pow_dvd_pow 2 hjk)) (Int.dvd_mul_left _ _)
  · refine main k q ?_ ⟨q, by rw [ey, Int.mul_comm]⟩ hq (by rw [← ey]; omega)
    rw [ex]
    exact Int.dvd_trans (Int.natCast_dvd_natCast.mpr (Nat.pow_dvd_pow 2 (by omega))) (Int.dvd_mul_left _ _)
end DL

namespace DL
open PySem PySem.Spec PyProof.Rows L2
/-! what a rounding does to a value -/
theorem lo_hi {b : Nat} {v : Int} : lo b v ≤ v ∧ v ≤ hi b v := by
  have h1 := lo_le (b := b) (v := v)
  have h2 := lo_gt (b := b) (v := v)
  refine ⟨h1, ?_⟩
  unfold hi
  split <;> omega
theorem cho_eq {b : Nat} {m : Str} {v : Int} (h : lo b v = hi b v) : cho b m v = v := by unfold cho; rw [if_pos h]
theorem cho_up {b : Nat} {v : Int} : cho b "up" v = hi b v := by
  unfold cho
  by_cases h : lo b v = hi b v
  · have := lo_hi (b := b) (v := v)
    rw [if_pos h]; omega
  · rw [if_neg h, if_neg (by decide +kernel), if_pos rfl]
theorem cho_down {b : Nat} {v : Int} : cho b "down" v = lo b v := by
  unfold cho
  by_cases h : lo b v = hi b v
  · have := lo_hi (b := b) (v := v)
    rw [if_pos h]; omega
  · rw [if_neg h, if_pos rfl]
theorem lo_of_lo_eq {b : Nat} {v : Int} (h : lo b v = v) : hi b v = lo b v := by unfold hi; rw [if_pos h]
/-- what a rounding does to a value -/
theorem cho_facts {b : Nat} {m : Str} {v : Int} (hb : 1 ≤ b) : (nst m → 2 * (cho b m v - v) ≤ hi b v - lo b v ∧ 2 * (v - cho b m v) ≤ hi b v - lo b v) ∧ (cho b m v = v ∨ (cho b m v - v ≤ hi b v - lo b v - 1 ∧ v - cho b m v ≤ hi b v - lo b v - 1)) ∧ (m = "up" → v ≤ cho b m v) ∧ (m = "down" → cho b m v ≤ v) := by
  obtain ⟨h1, h2⟩ := lo_hi (b := b) (v := v)
  refine ⟨fun hn => ?_, ?_, fun e => ?_, fun e => ?_⟩
  · have a1 := cho_near (v := v) hb hn (lo_rp (b := b) (v := v) hb)
    have a2 := cho_near (v := v) hb hn (hi_rp (b := b) (v := v) hb)
    omega
  · by_cases h : lo b v = v
    · exact .inl (cho_eq (lo_of_lo_eq h).symm)
    · by_cases h' : hi b v = v
      · refine .inl (cho_eq ?_)
        exfalso
        have a := le_lo_rp (v := v) (x := v) hb (by rw [← h']; exact hi_rp hb) (Int.le_refl _)
        omega
      · rcases cho_mem (b := b) (m := m) (v := v) with q | q <;> rw [q] <;> right <;> omega
  · rw [e, cho_up]; exact h2
  · rw [e, cho_down]; exact h1
theorem rp_zero {b : Nat} : rp b 0 := ⟨0, 0, rfl, Nat.two_pow_pos b⟩
theorem near0_mem {m : Str} {l h v : Int} : near0 m l h v = l ∨ near0 m l h v = h := by
  unfold near0
  repeat' split
  all_goals first | exact .inl rfl | exact .inr rfl
theorem lo_same {b : Nat} {v v' : Int} (hb : 1 ≤ b) (h : v ≤ v') (h2 : v' < hi b v) : lo b v' = lo b v ∧ hi b v' = hi b v := by
  obtain ⟨a1, a2⟩ := lo_hi (b := b) (v := v)
  obtain ⟨c1, c2⟩ := lo_hi (b := b) (v := v')
  have k1 := le_lo_rp (v := v') hb (lo_rp (b := b) (v := v) hb) (by omega)
  have k2 : hi b v ≤ hi b v' := hi_le_rp hb (hi_rp (b := b) (v := v') hb) (by omega)
  have k3 : hi b v' ≤ hi b v := hi_le_rp hb (hi_rp (b := b) (v := v) hb) (by omega)
  have k4 : lo b v' ≤ lo b v := by
    rcases Int.lt_or_le v (lo b v') with q | q
    · have := hi_le_rp (v := v) hb (lo_rp (b := b) (v := v') hb) (by omega)
      omega
    · exact le_lo_rp hb (lo_rp hb) q
  omega
theorem cho_zero {b : Nat} {v : Int} (hb : 1 ≤ b) : (0 < v → cho b "zero" v = lo b v) ∧ (v ≤ 0 → cho b "zero" v = hi b v) := by
  obtain ⟨h1, h2⟩ := lo_hi (b := b) (v := v)
  by_cases h : lo b v = hi b v
  · rw [cho_eq h]
    omega
  · unfold cho near0
    rw [if_neg h, if_neg (by decide +kernel), if_neg (by decide +kernel), if_pos (.inl rfl)]
    constructor
    · intro q; rw [if_pos q]
    · intro q; rw [if_neg (by omega)]
theorem cho_mono {b : Nat} {m : Str} {v v' : Int} (hb : 1 ≤ b) (hm : md m) (h : v ≤ v') : cho b m v ≤ cho b m v' := by
  obtain ⟨a1, a2⟩ := lo_hi (b := b) (v := v)
  obtain ⟨c1, c2⟩ := lo_hi (b := b) (v := v')
  have m1 := cho_mem (b := b) (m := m) (v := v)
  have m2 := cho_mem (b := b) (m := m) (v := v')
  by_cases h2 : hi b v ≤ v'
  · have := le_lo_rp (v := v') hb (hi_rp (b := b) (v := v) hb) h2
    omega
  · obtain ⟨e1, e2⟩ := lo_same hb h (by omega)
    by_cases hv : v = v'
    · rw [hv]; exact Int.le_refl _
    · have near : nst m → cho b m v ≤ cho b m v' := fun hn => by
        have n1 := cho_near (v := v) hb hn (lo_rp (b := b) (v := v) hb)
        have n2 := cho_near (v := v) hb hn (hi_rp (b := b) (v := v) hb)
        have n3 := cho_near (v := v') hb hn (lo_rp (b := b) (v := v') hb)
        have n4 := cho_near (v := v') hb hn (hi_rp (b := b) (v := v') hb)
        omega
      rcases hm with rfl | rfl | rfl | rfl | rfl
      · exact near (.inr rfl)
      · rw [cho_down, cho_down]; omega
      · exact near (.inl rfl)
      · rw [cho_up, cho_up]; omega
      · obtain ⟨z1, z2⟩ := cho_zero (b := b) (v := v) hb
        obtain ⟨z3, z4⟩ := cho_zero (b := b) (v := v') hb
        by_cases p1 : 0 < v
        · rw [z1 p1, z3 (by omega)]; omega
        · rw [z2 (by omega)]
          by_cases p2 : 0 < v'
          · have := le_lo_rp (v := v') hb (rp_zero (b := b)) (by omega)
            rw [z3 p2]
            have e0 : v = 0 := by omega
            have : lo b v = v := by omega
            have := lo_of_lo_eq this
            omega
          · rw [z4 (by omega)]; omega
/-- what lies in the range is rounded to a number -/
theorem rnd_in {b e : Nat} {m : Str} {v : Int} (hb : 1 ≤ b) (h : (v.natAbs : Int) ≤ grt b e) : rnd b e m v = some (cho b m v) ∧ num b e (cho b m v) := by
  have k1 := lo_num hb h
  have k2 := hi_num hb h
  have hn : num b e (cho b m v) := by
    rcases cho_mem (b := b) (m := m) (v := v) with q | q <;> rw [q]
    · exact k1
    · exact k2
  refine ⟨?_, hn⟩
  unfold rnd
  rw [if_pos hn.2]
theorem num_neg {b e : Nat} {x : Int} (h : num b e x) : num b e (-x) := ⟨rp_neg h.1, by rw [Int.natAbs_neg]; exact h.2⟩
end DL

namespace DL
open PySem PySem.Spec PyProof.Rows L2
def dSt (b a k : Nat) : S := ⟨[.v (.int b), .v (.int a), .v (.int ((2 ^ k : Nat) : Int)), .v (.int ((2 ^ b : Nat) : Int))], []⟩
theorem dist_wh {b a : Nat} (hb : b ≤ 60) (n : Nat) : ∀ k : Nat, (k = 0 ∨ 2 ^ (k - 1) * 2 ^ b ≤ a) → a < 2 ^ (k + n) * 2 ^ b → ∃ k', whileL (tB1 (e2 gGe (.n 1) (.g (e2 gMul (.n 2) (.n 3))))) (sAug 2 gMul (eC (.int 2))) [] (n + 1) (dSt b a k) = .ok .nx (dSt b a k') ∧ (k' = 0 ∨ 2 ^ (k' - 1) * 2 ^ b ≤ a) ∧ a < 2 ^ k' * 2 ^ b := by
  induction n with
  | zero =>
    intro k h1 h2
    rw [Nat.add_zero] at h2
    refine ⟨k, ?_, h1, h2⟩
    have hm : mulOk ((2 ^ k : Nat) : Int) ((2 ^ b : Nat) : Int) = true := mulOk_2p hb
    rw [w_step]
    unfold dSt
    walk_at "ev"
    rw [hm]
    walk_at "ev"
    rw [w_c]
    rw [← Int.natCast_mul]
    rw [decide_eq_false (by omega)]
    walk_at "ev"
  | succ n ih =>
    intro k h1 h2
    have hm : mulOk ((2 ^ k : Nat) : Int) ((2 ^ b : Nat) : Int) = true := mulOk_2p hb
    rw [w_step]
    unfold dSt
    walk_at "ev"
    rw [hm]
    walk_at "ev"
    rw [w_c]
    rw [← Int.natCast_mul]
    by_cases hc : 2 ^ k * 2 ^ b ≤ a
    · rw [decide_eq_true (Int.ofNat_le.mpr hc)]
      walk_at "ev"
      have := ih (k + 1) (Or.inr (by rw [Nat.add_sub_cancel]; exact hc)) (by rw [show k + 1 + n = k + (n + 1) by omega]; exact h2)
      unfold dSt at this
      rw [show ((2 ^ (k + 1) : Nat) : Int) = ((2 ^ k : Nat) : Int) * 2 by rw [Nat.pow_succ]; omega] at this
      exact this
    · rw [decide_eq_false (by omega)]
      walk_at "ev"
      exact ⟨k, rfl, h1, by omega⟩
theorem distance_n {b a : Nat} (hb : 1 ≤ b) (hb' : b ≤ 60) (ha : a < 2 ^ 39) : G_distance [.int b, .int a] = .ok (.d (.int (un b a))) := by
  unfold G_distance F_distance
  walk_at "ev"
  rw [doubled_n b (by omega)]
  walk_at "ev"
  obtain ⟨k, e, h1, h2⟩ := dist_wh (b := b) (a := a) hb' 39 0 (Or.inl rfl) (by
    have := Nat.two_pow_pos b
    rw [Nat.zero_add]
    exact Nat.lt_of_lt_of_le ha (Nat.le_mul_of_pos_right _ this))
  unfold dSt at e
  rw [show (1 : Int) * 2 ^ b = ((2 ^ b : Nat) : Int) by rw [Int.one_mul]; norm_cast]
  have e0 : (1 : Int) = ((2 ^ 0 : Nat) : Int) := rfl
  rw [e0, e]
  walk_at "ev"
  rw [un_of hb h2 h1]
end DL

namespace DL
open PySem PySem.Spec PyProof.Rows L2
theorem sides_n {b : Nat} {v : Int} (hb : 1 ≤ b) (hb' : b ≤ 60) (hv : v.natAbs < 2 ^ 29) : G_sides [.int b, .int v] = .ok (.d (.tuple [.int (lo b v), .int (hi b v)])) := by
  unfold G_sides F_sides
  walk_at "ev"
  rw [distance_n hb hb' (by omega)]
  have hu := un_small hb hv
  have hp := un_pos b v.natAbs
  walk_at "ev"
  rw [divOk_r (by omega) (by omega)]
  walk_at "ev"
  rw [mulOk_r (by omega) (by omega)]
  walk_at "ev"
  rw [show v / (un b v.natAbs : Int) * (un b v.natAbs : Int) = lo b v from rfl]
  unfold hi
  by_cases h : lo b v = v
  · simp only [if_pos h]
  · simp only [if_neg h]
end DL

namespace DL
open PySem PySem.Spec PyProof.Rows L2
theorem chosen_n {b : Nat} {v : Int} {m : Str} (hb : 1 ≤ b) (hb' : b ≤ 60) (hv : v.natAbs < 2 ^ 29) (hm : md m) : G_chosen [.int b, .str m, .int v] = .ok (.d (.int (cho b m v))) := by
  unfold G_chosen F_chosen
  walk_at "ev"
  rw [sides_n hb hb' hv]
  have hu := un_small hb hv
  have hp := un_pos b v.natAbs
  unfold cho
  by_cases h : lo b v = hi b v
  · walk_at "ev"
    simp only [if_pos h]
  · have h2 : 0 < hi b v - lo b v := by rcases hi_lo (b := b) (v := v) with h' | h' <;> omega
    by_cases hv0 : 0 < v
    all_goals rcases hm with rfl | rfl | rfl | rfl | rfl
    all_goals
      walk_at "ev"
      simp only [if_neg h, hv0]
      try walk_at "ev"
    all_goals
      unfold near0
      simp only [hv0, h2, ofString_inj, String.reduceEq, if_true, if_false, true_or, or_true, false_or, or_false, reduceIte]
      try (repeat' split) <;> first | rfl | omega
end DL

namespace DL
open PySem PySem.Spec PyProof.Rows L2
theorem greatest_n {b e : Nat} (hb : b ≤ 1000) (he : e ≤ 1000) : G_greatest_of [fm b e] = .ok (.d (.int (grt b e))) := by
  unfold G_greatest_of F_greatest_of fm
  walk_at "ev"
  rw [doubled_n b hb]
  walk_at "ev"
  rw [doubled_n e he, Int.one_mul]
  walk_at "ev"
  rfl
end DL

namespace DL
open PySem PySem.Spec PyProof.Rows L2
theorem round_to_n {b e : Nat} {v : Int} {m : Str} (hb : 1 ≤ b) (hb' : b ≤ 60) (he : e ≤ 1000) (hv : v.natAbs < 2 ^ 29) (hm : md m) : G_round_to [fm b e, .str m, .int v] = .ok (.d (oD (rnd b e m v))) := by
  unfold G_round_to F_round_to
  walk_at "ev"
  rw [show fm b e = .tuple [.int b, .int e] from rfl]
  walk_at "ev"
  rw [chosen_n hb hb' hv hm]
  walk_at "ev"
  rw [show (PyData.tuple [.int b, .int e]) = fm b e from rfl, greatest_n (by omega) he]
  walk_at "ev"
  unfold rnd
  split <;> rfl
end DL

namespace DL
open PySem PySem.Spec PyProof.Rows L2
/-- the ways -/
def way (w : Str) : Prop := w = "beside" ∨ w = "kept" ∨ w = "plain" ∨ w = "signs" ∨ w = "wide1" ∨ w = "wide2"
def mc (w m : Str) : D := .tuple [.str w, .str m]
def pls (b e : Nat) (m : Str) (x y : Option Int) : Option Int := match x, y with
  | some x, some y => rnd b e m (x + y)
  | _, _ => none
def neg? (x : Option Int) : Option Int := x.map fun x => -x
def sml (x : Option Int) : Prop := ∀ v, x = some v → v.natAbs ≤ 2000
theorem grt_le6 {b e : Nat} (hb : b ≤ 6) (he : e ≤ 3) : grt b e ≤ 504 := by
  have hb : b = 0 ∨ b = 1 ∨ b = 2 ∨ b = 3 ∨ b = 4 ∨ b = 5 ∨ b = 6 := by omega
  have he : e = 0 ∨ e = 1 ∨ e = 2 ∨ e = 3 := by omega
  unfold grt
  rcases hb with rfl | rfl | rfl | rfl | rfl | rfl | rfl <;> rcases he with rfl | rfl | rfl | rfl <;> decide
theorem rnd_sml {b e : Nat} {m : Str} {v : Int} (hb : b ≤ 6) (he : e ≤ 3) : sml (rnd b e m v) := by
  intro z h
  have := grt_le6 hb he
  unfold rnd at h
  split at h
  · injection h with h; omega
  · cases h
theorem pls_sml {b e : Nat} {m : Str} {x y : Option Int} (hb : b ≤ 6) (he : e ≤ 3) : sml (pls b e m x y) := by
  unfold pls
  cases x with
  | none => intro z h; cases h
  | some x => cases y with
    | none => intro z h; cases h
    | some y => exact rnd_sml hb he
theorem neg_sml {x : Option Int} (h : sml x) : sml (neg? x) := by
  intro z hz
  cases x with
  | none => cases hz
  | some v =>
    have := h v rfl
    have hz : -v = z := by injection hz
    omega
theorem some_sml {x : Int} (h : x.natAbs ≤ 2000) : sml (some x) := by
  intro z hz
  injection hz with hz
  omega
theorem way_ok {w : Str} (h : way w) : PyData.strOk w = true := by rcases h with rfl | rfl | rfl | rfl | rfl | rfl <;> decide +kernel
theorem way_eq {m : Str} (h : way m) (x : String) (hx : PyData.strOk (Str.ofString x) = true := by decide +kernel) : gEq (.str m) (.str (Str.ofString x)) = some (.bool (decide (m = Str.ofString x))) := v_gEqs (way_ok h) hx
end DL

namespace DL
open PySem PySem.Spec PyProof.Rows L2
theorem plus_n {b e : Nat} {m : Str} {x y : Option Int} (hb : 1 ≤ b) (hb' : b ≤ 6) (he : e ≤ 3) (hm : md m) (hx : sml x) (hy : sml y) : G_plus [fm b e, .str m, oD x, oD y] = .ok (.d (oD (pls b e m x y))) := by
  unfold G_plus F_plus pls
  cases x with
  | none =>
    walk_at "ev"
    try rfl
  | some x =>
    cases y with
    | none =>
      walk_at "ev"
      try rfl
    | some y =>
      have h1 := hx x rfl
      have h2 := hy y rfl
      walk_at "ev"
      rw [round_to_n hb (by omega) (by omega) (by omega) hm]
      walk_at "ev"
end DL

namespace DL
open PySem PySem.Spec PyProof.Rows L2
theorem less_n {x : Option Int} : G_less [oD x] = .ok (.d (oD (neg? x))) := by
  unfold G_less F_less neg?
  cases x with
  | none =>
    walk_at "ev"
    try rfl
  | some x =>
    walk_at "ev"
    try rfl
end DL

namespace DL
open PySem PySem.Spec PyProof.Rows L2
def kst (b e : Nat) (m : Str) (t l x : Int) : Option Int × Option Int :=
  (pls b e m (some t) (pls b e m (some x) (some (-l))), pls b e m (pls b e m (pls b e m (some t) (pls b e m (some x) (some (-l)))) (some (-t))) (neg? (pls b e m (some x) (some (-l)))))
theorem kept_n {b e : Nat} {m : Str} {t l x : Int} (hb : 1 ≤ b) (hb' : b ≤ 6) (he : e ≤ 3) (hm : md m) (ht : t.natAbs ≤ 2000) (hl : l.natAbs ≤ 2000) (hx : x.natAbs ≤ 2000) :
    G_kept_step [fm b e, .str m, .tuple [.int t, .int l], .int x] = .ok (.d (.tuple [oD (kst b e m t l x).1, oD (kst b e m t l x).2])) := by
  have P := fun (x y : Option Int) (hx : sml x) (hy : sml y) => plus_n (b := b) (e := e) (m := m) (x := x) (y := y) hb hb' he hm hx hy
  have s1 : sml (some t) := some_sml ht
  have s2 : sml (some (-t)) := some_sml (by omega)
  have s3 : sml (some x) := some_sml hx
  have s4 : sml (some (-l)) := some_sml (by omega)
  have pp : ∀ x y, sml (pls b e m x y) := fun x y => pls_sml hb' he
  unfold G_kept_step F_kept_step kst
  walk_at "ev"
  rw [show (PyData.int x) = oD (some x) from rfl, show (PyData.int (-l)) = oD (some (-l)) from rfl, P _ _ s3 s4]
  walk_at "ev"
  rw [show (PyData.int t) = oD (some t) from rfl, P _ _ s1 (pp _ _)]
  walk_at "ev"
  rw [show (PyData.int (-t)) = oD (some (-t)) from rfl, P _ _ (pp _ _) s2]
  walk_at "ev"
  rw [less_n]
  walk_at "ev"
  rw [P _ _ (pp _ _) (neg_sml (pp _ _))]
  walk_at "ev"
end DL

namespace DL
open PySem PySem.Spec PyProof.Rows L2
def bst (b e : Nat) (m : Str) (t l x : Int) : Option Int × Option Int :=
  let later := pls b e m (some t) (some x)
  let gs := if x.natAbs ≤ t.natAbs then (t, x) else (x, t)
  (later, pls b e m (some l) (pls b e m (pls b e m (some gs.1) (neg? later)) (some gs.2)))
theorem beside_n {b e : Nat} {m : Str} {t l x : Int} (hb : 1 ≤ b) (hb' : b ≤ 6) (he : e ≤ 3) (hm : md m) (ht : t.natAbs ≤ 2000) (hl : l.natAbs ≤ 2000) (hx : x.natAbs ≤ 2000) :
    G_beside_step [fm b e, .str m, .tuple [.int t, .int l], .int x] = .ok (.d (.tuple [oD (bst b e m t l x).1, oD (bst b e m t l x).2])) := by
  have P := fun (x y : Option Int) (hx : sml x) (hy : sml y) => plus_n (b := b) (e := e) (m := m) (x := x) (y := y) hb hb' he hm hx hy
  have s1 : sml (some t) := some_sml ht
  have s3 : sml (some x) := some_sml hx
  have s4 : sml (some l) := some_sml hl
  have pp : ∀ x y, sml (pls b e m x y) := fun x y => pls_sml hb' he
  have it : (PyData.int t) = oD (some t) := rfl
  have ix : (PyData.int x) = oD (some x) := rfl
  have il : (PyData.int l) = oD (some l) := rfl
  unfold G_beside_step F_beside_step bst
  by_cases hc : x.natAbs ≤ t.natAbs
  · have hd : decide (((x.natAbs : Nat) : Int) ≤ ((t.natAbs : Nat) : Int)) = true := decide_eq_true (by omega)
    have hc' : (((x.natAbs : Nat) : Int) ≤ ((t.natAbs : Nat) : Int)) := by omega
    walk_at "ev"
    rw [show G_plus [fm b e, .str m, .int t, .int x] = _ from P (some t) (some x) s1 s3]
    walk_at "ev"
    simp only [hc', hc, if_true]
    rw [less_n]
    walk_at "ev"
    rw [show G_plus [fm b e, .str m, .int t, _] = _ from P (some t) _ s1 (neg_sml (pp _ _))]
    walk_at "ev"
    rw [show G_plus [fm b e, .str m, _, .int x] = _ from P _ (some x) (pp _ _) s3]
    walk_at "ev"
    rw [show G_plus [fm b e, .str m, .int l, _] = _ from P (some l) _ s4 (pp _ _)]
    walk_at "ev"
  · have hc' : ¬ (((x.natAbs : Nat) : Int) ≤ ((t.natAbs : Nat) : Int)) := by omega
    walk_at "ev"
    rw [show G_plus [fm b e, .str m, .int t, .int x] = _ from P (some t) (some x) s1 s3]
    walk_at "ev"
    simp only [hc', hc, if_false]
    rw [less_n]
    walk_at "ev"
    rw [show G_plus [fm b e, .str m, .int x, _] = _ from P (some x) _ s3 (neg_sml (pp _ _))]
    walk_at "ev"
    rw [show G_plus [fm b e, .str m, _, .int t] = _ from P _ (some t) (pp _ _) s1]
    walk_at "ev"
    rw [show G_plus [fm b e, .str m, .int l, _] = _ from P (some l) _ s4 (pp _ _)]
    walk_at "ev"
end DL

namespace DL
open PySem PySem.Spec PyProof.Rows L2
def wk (w : Str) : Nat := if w = "wide1" then 1 else if w = "wide2" then 2 else 0
theorem wider_n {b e : Nat} {w : Str} (hw : way w) : G_wider [fm b e, .str w] = .ok (.d (fm (b + wk w) e)) := by
  unfold G_wider F_wider wk
  rcases hw with rfl | rfl | rfl | rfl | rfl | rfl
  all_goals
    rw [show fm b e = .tuple [.int b, .int e] from rfl]
    walk_at "ev"
    rfl
end DL

namespace DL
open PySem PySem.Spec PyProof.Rows L2
def pD (p : List Int) : D := .tuple (p.map .int)
def two (w : Str) : Bool := decide (w = "beside" ∨ w = "kept" ∨ w = "signs")
def beg (w : Str) : List Int := if two w then [0, 0] else [0]
theorem begun_n {w m : Str} (hw : way w) : G_begun [mc w m] = .ok (.d (pD (beg w))) := by
  unfold G_begun F_begun mc
  rcases hw with rfl | rfl | rfl | rfl | rfl | rfl
  all_goals
    walk_at "ev"
    rfl
end DL

namespace DL
open PySem PySem.Spec PyProof.Rows L2
/-- the total of a place -/
def tld (b e : Nat) (w m : Str) (p : List Int) : Option Int := match p with
  | [x, y] => if w = "kept" then some x else rnd b e m (x + y)
  | [x] => if w = "plain" then some x else rnd b e m x
  | _ => none
/-- a place of a way, with small parts -/
def plc (w : Str) (p : List Int) : Prop := p.length = (beg w).length ∧ ∀ v, v ∈ p → v.natAbs ≤ 2000
theorem plc_two {w : Str} {p : List Int} (h : plc w p) (h2 : two w = true) : ∃ x y, p = [x, y] ∧ x.natAbs ≤ 2000 ∧ y.natAbs ≤ 2000 := by
  obtain ⟨h1, h3⟩ := h
  unfold beg at h1
  rw [if_pos h2] at h1
  match p, h1, h3 with
  | [x, y], _, h3 => exact ⟨x, y, rfl, h3 x (by simp), h3 y (by simp)⟩
theorem plc_one {w : Str} {p : List Int} (h : plc w p) (h2 : two w = false) : ∃ x, p = [x] ∧ x.natAbs ≤ 2000 := by
  obtain ⟨h1, h3⟩ := h
  unfold beg at h1
  rw [h2] at h1
  match p, h1, h3 with
  | [x], _, h3 => exact ⟨x, rfl, h3 x (by simp)⟩
theorem told_n {b e : Nat} {w m : Str} {p : List Int} (hb : 1 ≤ b) (hb' : b ≤ 6) (he : e ≤ 3) (hw : way w) (hm : md m) (hp : plc w p) : G_total_told [fm b e, mc w m, pD p] = .ok (.d (oD (tld b e w m p))) := by
  unfold G_total_told F_total_told mc pD tld
  rcases hw with rfl | rfl | rfl | rfl | rfl | rfl
  · obtain ⟨x, y, rfl, h1, h2⟩ := plc_two hp (by decide +kernel)
    walk_at "ev"
    rw [show G_plus [fm b e, .str m, .int x, .int y] = _ from plus_n (x := some x) (y := some y) hb hb' he hm (some_sml h1) (some_sml h2)]
    walk_at "ev"
    rfl
  · obtain ⟨x, y, rfl, h1, h2⟩ := plc_two hp (by decide +kernel)
    walk_at "ev"
    try rfl
  · obtain ⟨x, rfl, h1⟩ := plc_one hp (by decide +kernel)
    walk_at "ev"
    try rfl
  · obtain ⟨x, y, rfl, h1, h2⟩ := plc_two hp (by decide +kernel)
    walk_at "ev"
    rw [show G_plus [fm b e, .str m, .int x, .int y] = _ from plus_n (x := some x) (y := some y) hb hb' he hm (some_sml h1) (some_sml h2)]
    walk_at "ev"
    rfl
  all_goals
    obtain ⟨x, rfl, h1⟩ := plc_one hp (by decide +kernel)
    walk_at "ev"
    rw [round_to_n hb (by omega) (by omega) (by omega) hm]
    walk_at "ev"
end DL

namespace DL
open PySem PySem.Spec PyProof.Rows L2
def plD (p : Option (List Int)) : D := match p with
  | some q => pD q
  | none => .none
def nwp (b e : Nat) (w m : Str) (p : List Int) (x : Int) : List (Option Int) := match p with
  | [t, l] => if w = "kept" then [(kst b e m t l x).1, (kst b e m t l x).2] else if w = "beside" then [(bst b e m t l x).1, (bst b e m t l x).2]
    else if 0 ≤ x then [rnd b e m (t + x), some l] else [some t, rnd b e m (l + x)]
  | [t] => [rnd (b + wk w) e m (t + x)]
  | _ => []
def allS : List (Option Int) → Option (List Int)
  | [] => some []
  | o :: os => match o, allS os with
    | some x, some xs => some (x :: xs)
    | _, _ => none
/-- the place behind a number -/
def stp (b e : Nat) (w m : Str) (p : List Int) (x : Int) : Option (List Int) := match allS (nwp b e w m p x) with
  | some q => if (tld b e w m q).isNone then none else some q
  | none => none
theorem pD_all {os : List (Option Int)} {q : List Int} (h : allS os = some q) : os = q.map some := by
  induction os generalizing q with
  | nil => cases h; rfl
  | cons o os ih =>
    unfold allS at h
    cases o with
    | none => cases h
    | some x =>
      cases e : allS os with
      | none => rw [e] at h; cases h
      | some xs => rw [e] at h; cases h; rw [ih e]; rfl
theorem oD_map {q : List Int} : (q.map some).map oD = q.map PyData.int := by rw [List.map_map]; rfl
theorem flat_oD {os : List (Option Int)} : (os.map oD).all flatD = true := by
  rw [List.all_eq_true]
  intro d hd
  obtain ⟨o, _, rfl⟩ := List.mem_map.mp hd
  cases o <;> rfl
theorem none_in {os : List (Option Int)} : gInT .none (.tuple (os.map oD)) = some (.bool (allS os).isNone) := by
  rw [v_gInT, flat_oD]
  show some (PyData.bool ((os.map oD).any fun z => PyData.eqv z .none)) = _
  congr 2
  induction os with
  | nil => rfl
  | cons o os ih =>
    rw [List.map_cons, List.any_cons, ih]
    cases o with
    | none => rw [show oD none = PyData.none from rfl, v_eqvnn]; unfold allS; rfl
    | some x =>
      rw [show oD (some x) = PyData.int x from rfl, v_eqvin, Bool.false_or]
      conv => rhs; unfold allS
      cases allS os <;> rfl
theorem nwp_len {b e : Nat} {w m : Str} {p : List Int} {x : Int} (hp : plc w p) : (nwp b e w m p x).length = (beg w).length := by
  by_cases h : two w = true
  · obtain ⟨t, l, rfl, _, _⟩ := plc_two hp h
    unfold nwp beg
    rw [if_pos h]
    dsimp only
    (repeat' split) <;> rfl
  · obtain ⟨t, rfl, _⟩ := plc_one hp (by simpa using h)
    unfold nwp beg
    rw [if_neg h]
    rfl
theorem wk_le (w : Str) : wk w ≤ 2 := by unfold wk; (repeat' split) <;> omega
theorem kst_sml {b e : Nat} {m : Str} {t l x : Int} (hb : b ≤ 6) (he : e ≤ 3) : sml (kst b e m t l x).1 ∧ sml (kst b e m t l x).2 := ⟨pls_sml hb he, pls_sml hb he⟩
theorem bst_sml {b e : Nat} {m : Str} {t l x : Int} (hb : b ≤ 6) (he : e ≤ 3) : sml (bst b e m t l x).1 ∧ sml (bst b e m t l x).2 := by
  unfold bst
  dsimp only
  exact ⟨pls_sml hb he, pls_sml hb he⟩
theorem nwp_sml {b e : Nat} {w m : Str} {p : List Int} {x : Int} (hb : b ≤ 4) (he : e ≤ 3) (hp : plc w p) : ∀ o, o ∈ nwp b e w m p x → sml o := by
  have hk := wk_le w
  by_cases h : two w = true
  · obtain ⟨t, l, rfl, h1, h2⟩ := plc_two hp h
    unfold nwp
    dsimp only
    intro o ho
    split at ho
    · simp only [List.mem_cons, List.not_mem_nil, or_false] at ho
      rcases ho with rfl | rfl
      · exact (kst_sml (by omega) he).1
      · exact (kst_sml (by omega) he).2
    · split at ho
      · simp only [List.mem_cons, List.not_mem_nil, or_false] at ho
        rcases ho with rfl | rfl
        · exact (bst_sml (by omega) he).1
        · exact (bst_sml (by omega) he).2
      · split at ho
        · simp only [List.mem_cons, List.not_mem_nil, or_false] at ho
          rcases ho with rfl | rfl
          · exact rnd_sml (by omega) he
          · exact some_sml h2
        · simp only [List.mem_cons, List.not_mem_nil, or_false] at ho
          rcases ho with rfl | rfl
          · exact some_sml h1
          · exact rnd_sml (by omega) he
  · obtain ⟨t, rfl, _⟩ := plc_one hp (by simpa using h)
    unfold nwp
    intro o ho
    simp only [List.mem_cons, List.not_mem_nil, or_false] at ho
    subst ho
    exact rnd_sml (by omega) he
theorem allS_plc {b e : Nat} {w m : Str} {p q : List Int} {x : Int} (hb : b ≤ 4) (he : e ≤ 3) (hp : plc w p) (h : allS (nwp b e w m p x) = some q) : plc w q := by
  have h1 := pD_all h
  refine ⟨?_, fun v hv => ?_⟩
  · have := nwp_len (b := b) (e := e) (m := m) (x := x) hp
    rw [h1, List.length_map] at this
    exact this
  · exact nwp_sml hb he hp (some v) (by rw [h1]; exact List.mem_map_of_mem hv) v rfl
theorem stp_plc {b e : Nat} {w m : Str} {p q : List Int} {x : Int} (hb : b ≤ 4) (he : e ≤ 3) (hp : plc w p) (h : stp b e w m p x = some q) : plc w q := by
  unfold stp at h
  cases e1 : allS (nwp b e w m p x) with
  | none => rw [e1] at h; cases h
  | some q' =>
    rw [e1] at h
    dsimp only at h
    split at h
    · cases h
    · cases h; exact allS_plc hb he hp e1

theorem step_n {b e : Nat} {w m : Str} {p : List Int} {x : Int} (hb : 1 ≤ b) (hb' : b ≤ 4) (he : e ≤ 3) (hw : way w) (hm : md m) (hp : plc w p) (hx : x.natAbs ≤ 2000) : G_step [fm b e, mc w m, pD p, .int x] = .ok (.d (plD (stp b e w m p x))) := by
  have hk := wk_le w
  have tl := fun (q : List Int) (h : allS (nwp b e w m p x) = some q) => told_n (b := b) (e := e) (w := w) (m := m) hb (by omega) he hw hm (allS_plc hb' he hp h)
  have end2 : ∀ (A B : Option Int), nwp b e w m p x = [A, B] → ∀ (u v : Int), A = some u → B = some v → G_total_told [fm b e, mc w m, .tuple [.int u, .int v]] = .ok (.d (oD (tld b e w m [u, v]))) := by
    intro A B h u v hA hB
    exact tl [u, v] (by rw [h, hA, hB]; rfl)
  have stp2 : ∀ (A B : Option Int), nwp b e w m p x = [A, B] → stp b e w m p x = (match A, B with | some u, some v => if (tld b e w m [u, v]).isNone then none else some [u, v] | _, _ => none) := by
    intro A B h
    unfold stp
    rw [h]
    cases A <;> cases B <;> rfl
  unfold G_step F_step
  rcases hw with rfl | rfl | rfl | rfl | rfl | rfl
  · obtain ⟨t, l, rfl, h1, h2⟩ := plc_two hp (by decide +kernel)
    have hn : nwp b e "beside" m [t, l] x = [(bst b e m t l x).1, (bst b e m t l x).2] := by unfold nwp; simp [ofString_inj]
    rw [stp2 _ _ hn]
    have e2 := end2 _ _ hn
    rw [show pD [t, l] = .tuple [.int t, .int l] from rfl]
    rw [show mc "beside" m = .tuple [.str "beside", .str m] from rfl] at e2 ⊢
    walk_at "ev"
    rw [beside_n hb (by omega) he hm h1 h2 hx]
    walk_at "ev"
    clear hn stp2 end2 tl
    generalize (bst b e m t l x).1 = A at *
    generalize (bst b e m t l x).2 = B at *
    cases A with
    | none => walk_at "ev"; try rfl
    | some u => cases B with
      | none => walk_at "ev"; try rfl
      | some v =>
        walk_at "ev"
        rw [e2 u v rfl rfl]
        walk_at "ev"
        cases tld b e "beside" m [u, v] <;> rfl
  · obtain ⟨t, l, rfl, h1, h2⟩ := plc_two hp (by decide +kernel)
    have hn : nwp b e "kept" m [t, l] x = [(kst b e m t l x).1, (kst b e m t l x).2] := by unfold nwp; simp [ofString_inj]
    rw [stp2 _ _ hn]
    have e2 := end2 _ _ hn
    rw [show pD [t, l] = .tuple [.int t, .int l] from rfl]
    rw [show mc "kept" m = .tuple [.str "kept", .str m] from rfl] at e2 ⊢
    walk_at "ev"
    rw [kept_n hb (by omega) he hm h1 h2 hx]
    walk_at "ev"
    clear hn stp2 end2 tl
    generalize (kst b e m t l x).1 = A at *
    generalize (kst b e m t l x).2 = B at *
    cases A with
    | none => walk_at "ev"; try rfl
    | some u => cases B with
      | none => walk_at "ev"; try rfl
      | some v =>
        walk_at "ev"
        rw [e2 u v rfl rfl]
        walk_at "ev"
        cases tld b e "kept" m [u, v] <;> rfl
  · obtain ⟨t, rfl, h1⟩ := plc_one hp (by decide +kernel)
    have hn : nwp b e "plain" m [t] x = [rnd (b + wk "plain") e m (t + x)] := rfl
    have hwd := wider_n (b := b) (e := e) (w := "plain") (by unfold way; simp)
    have st1 : stp b e "plain" m [t] x = (match rnd (b + wk "plain") e m (t + x) with | some u => if (tld b e "plain" m [u]).isNone then none else some [u] | _ => none) := by
      unfold stp
      rw [hn]
      cases rnd (b + wk "plain") e m (t + x) <;> rfl
    have e2 : ∀ u, rnd (b + wk "plain") e m (t + x) = some u → G_total_told [fm b e, mc "plain" m, .tuple [.int u]] = .ok (.d (oD (tld b e "plain" m [u]))) := fun u hu => tl [u] (by rw [hn, hu]; rfl)
    rw [st1]
    rw [show pD [t] = .tuple [.int t] from rfl]
    rw [show mc "plain" m = .tuple [.str "plain", .str m] from rfl] at e2 ⊢
    walk_at "ev"
    rw [hwd]
    walk_at "ev"
    rw [show G_plus [fm (b + wk "plain") e, .str m, .int t, .int x] = _ from plus_n (x := some t) (y := some x) (by omega) (by omega) he hm (some_sml h1) (some_sml hx)]
    rw [show pls (b + wk "plain") e m (some t) (some x) = rnd (b + wk "plain") e m (t + x) from rfl]
    walk_at "ev"
    clear hn st1 stp2 end2 tl
    generalize rnd (b + wk "plain") e m (t + x) = A at *
    cases A with
    | none => walk_at "ev"; try rfl
    | some u =>
      walk_at "ev"
      rw [e2 u rfl]
      walk_at "ev"
      cases tld b e "plain" m [u] <;> rfl
  · obtain ⟨t, l, rfl, h1, h2⟩ := plc_two hp (by decide +kernel)
    by_cases hx0 : 0 ≤ x
    · have hn : nwp b e "signs" m [t, l] x = [rnd b e m (t + x), some l] := by unfold nwp; simp [ofString_inj, hx0]
      rw [stp2 _ _ hn]
      have e2 := end2 _ _ hn
      rw [show pD [t, l] = .tuple [.int t, .int l] from rfl]
      rw [show mc "signs" m = .tuple [.str "signs", .str m] from rfl] at e2 ⊢
      walk_at "ev"
      simp only [hx0, if_true]
      rw [show G_plus [fm b e, .str m, .int t, .int x] = _ from plus_n (x := some t) (y := some x) hb (by omega) he hm (some_sml h1) (some_sml hx)]
      rw [show pls b e m (some t) (some x) = rnd b e m (t + x) from rfl]
      walk_at "ev"
      clear hn stp2 end2 tl
      generalize rnd b e m (t + x) = A at *
      cases A with
      | none => walk_at "ev"; try rfl
      | some u =>
        walk_at "ev"
        rw [e2 u l rfl rfl]
        walk_at "ev"
        cases tld b e "signs" m [u, l] <;> rfl
    · have hn : nwp b e "signs" m [t, l] x = [some t, rnd b e m (l + x)] := by unfold nwp; simp [ofString_inj, hx0]
      rw [stp2 _ _ hn]
      have e2 := end2 _ _ hn
      rw [show pD [t, l] = .tuple [.int t, .int l] from rfl]
      rw [show mc "signs" m = .tuple [.str "signs", .str m] from rfl] at e2 ⊢
      walk_at "ev"
      simp only [hx0, if_false]
      rw [show G_plus [fm b e, .str m, .int l, .int x] = _ from plus_n (x := some l) (y := some x) hb (by omega) he hm (some_sml h2) (some_sml hx)]
      rw [show pls b e m (some l) (some x) = rnd b e m (l + x) from rfl]
      walk_at "ev"
      clear hn stp2 end2 tl
      generalize rnd b e m (l + x) = A at *
      cases A with
      | none => walk_at "ev"; try rfl
      | some u =>
        walk_at "ev"
        rw [e2 t u rfl rfl]
        walk_at "ev"
        cases tld b e "signs" m [t, u] <;> rfl
  · obtain ⟨t, rfl, h1⟩ := plc_one hp (by decide +kernel)
    have hn : nwp b e "wide1" m [t] x = [rnd (b + wk "wide1") e m (t + x)] := rfl
    have hwd := wider_n (b := b) (e := e) (w := "wide1") (by unfold way; simp)
    have st1 : stp b e "wide1" m [t] x = (match rnd (b + wk "wide1") e m (t + x) with | some u => if (tld b e "wide1" m [u]).isNone then none else some [u] | _ => none) := by
      unfold stp
      rw [hn]
      cases rnd (b + wk "wide1") e m (t + x) <;> rfl
    have e2 : ∀ u, rnd (b + wk "wide1") e m (t + x) = some u → G_total_told [fm b e, mc "wide1" m, .tuple [.int u]] = .ok (.d (oD (tld b e "wide1" m [u]))) := fun u hu => tl [u] (by rw [hn, hu]; rfl)
    rw [st1]
    rw [show pD [t] = .tuple [.int t] from rfl]
    rw [show mc "wide1" m = .tuple [.str "wide1", .str m] from rfl] at e2 ⊢
    walk_at "ev"
    rw [hwd]
    walk_at "ev"
    rw [show G_plus [fm (b + wk "wide1") e, .str m, .int t, .int x] = _ from plus_n (x := some t) (y := some x) (by omega) (by omega) he hm (some_sml h1) (some_sml hx)]
    rw [show pls (b + wk "wide1") e m (some t) (some x) = rnd (b + wk "wide1") e m (t + x) from rfl]
    walk_at "ev"
    clear hn st1 stp2 end2 tl
    generalize rnd (b + wk "wide1") e m (t + x) = A at *
    cases A with
    | none => walk_at "ev"; try rfl
    | some u =>
      walk_at "ev"
      rw [e2 u rfl]
      walk_at "ev"
      cases tld b e "wide1" m [u] <;> rfl
  · obtain ⟨t, rfl, h1⟩ := plc_one hp (by decide +kernel)
    have hn : nwp b e "wide2" m [t] x = [rnd (b + wk "wide2") e m (t + x)] := rfl
    have hwd := wider_n (b := b) (e := e) (w := "wide2") (by unfold way; simp)
    have st1 : stp b e "wide2" m [t] x = (match rnd (b + wk "wide2") e m (t + x) with | some u => if (tld b e "wide2" m [u]).isNone then none else some [u] | _ => none) := by
      unfold stp
      rw [hn]
      cases rnd (b + wk "wide2") e m (t + x) <;> rfl
    have e2 : ∀ u, rnd (b + wk "wide2") e m (t + x) = some u → G_total_told [fm b e, mc "wide2" m, .tuple [.int u]] = .ok (.d (oD (tld b e "wide2" m [u]))) := fun u hu => tl [u] (by rw [hn, hu]; rfl)
    rw [st1]
    rw [show pD [t] = .tuple [.int t] from rfl]
    rw [show mc "wide2" m = .tuple [.str "wide2", .str m] from rfl] at e2 ⊢
    walk_at "ev"
    rw [hwd]
    walk_at "ev"
    rw [show G_plus [fm (b + wk "wide2") e, .str m, .int t, .int x] = _ from plus_n (x := some t) (y := some x) (by omega) (by omega) he hm (some_sml h1) (some_sml hx)]
    rw [show pls (b + wk "wide2") e m (some t) (some x) = rnd (b + wk "wide2") e m (t + x) from rfl]
    walk_at "ev"
    clear hn st1 stp2 end2 tl
    generalize rnd (b + wk "wide2") e m (t + x) = A at *
    cases A with
    | none => walk_at "ev"; try rfl
    | some u =>
      walk_at "ev"
      rw [e2 u rfl]
      walk_at "ev"
      cases tld b e "wide2" m [u] <;> rfl
end DL

namespace DL
open PySem PySem.Spec PyProof.Rows L2
/-- the places along a row -/
def runT (f : List Int → Int → Option (List Int)) : Option (List Int) → List Int → List (Option (List Int))
  | _, [] => []
  | c, x :: xs => (c.bind fun p => f p x) :: runT f (c.bind fun p => f p x) xs
theorem runT_len {f : List Int → Int → Option (List Int)} {xs : List Int} : ∀ c, (runT f c xs).length = xs.length := by
  induction xs with
  | nil => intro c; rfl
  | cons x xs ih => intro c; unfold runT; rw [List.length_cons, ih, List.length_cons]
theorem runT_plc {b e : Nat} {w m : Str} (hb' : b ≤ 4) (he : e ≤ 3) {xs : List Int} : ∀ c, (∀ q, c = some q → plc w q) → ∀ o, o ∈ runT (stp b e w m) c xs → ∀ q, o = some q → plc w q := by
  induction xs with
  | nil => intro c _ o ho; cases ho
  | cons x xs ih =>
    intro c hc o ho
    have hn : ∀ q, (c.bind fun p => stp b e w m p x) = some q → plc w q := by
      intro q hq
      cases c with
      | none => cases hq
      | some p => exact stp_plc hb' he (hc p rfl) hq
    unfold runT at ho
    rcases List.mem_cons.mp ho with rfl | ho
    · exact hn
    · exact ih _ hn o ho
theorem beg_plc {w : Str} : plc w (beg w) := by
  refine ⟨rfl, fun v hv => ?_⟩
  unfold beg at hv
  split at hv <;> simp at hv <;> subst hv <;> decide
theorem run_n {b e : Nat} {w m : Str} {xs : List Int} (hb : 1 ≤ b) (hb' : b ≤ 4) (he : e ≤ 3) (hw : way w) (hm : md m) (hl : xs.length ≤ 1000) (hx : ∀ x, x ∈ xs → x.natAbs ≤ 2000) :
    G_run [fm b e, mc w m, .list (xs.map .int)] = .ok (.fl ((runT (stp b e w m) (some (beg w)) xs).map plD)) := by
  unfold G_run F_run
  walk_at "ev"
  rw [begun_n hw]
  walk_at "ev"
  rw [show pD (beg w) = plD (some (beg w)) from rfl]
  have key : ∀ (t : D → S → Option S) (bd : DM Fl), t = tName 5 → (∀ (c : Option (List Int)) (acc : List D) (x : Int), (∀ q, c = some q → plc w q) → acc.length < 1000000 → x.natAbs ≤ 2000 →
      bd ⟨[.v (fm b e), .v (mc w m), .v (.list (xs.map .int)), .v (plD c), .ol acc, .v (.int x)], []⟩ = .ok .nx ⟨[.v (fm b e), .v (mc w m), .v (.list (xs.map .int)), .v (plD (c.bind fun p => stp b e w m p x)), .ol (acc ++ [plD (c.bind fun p => stp b e w m p x)]), .v (.int x)], []⟩) →
      ∀ (ys : List Int) (c : Option (List Int)) (acc : List D), (∀ q, c = some q → plc w q) → acc.length + ys.length < 1000000 → (∀ x, x ∈ ys → x.natAbs ≤ 2000) →
      ∃ c', forL t bd [5] (ys.map .int) ⟨[.v (fm b e), .v (mc w m), .v (.list (xs.map .int)), .v (plD c), .ol acc, .un], []⟩ = .ok .nx ⟨[.v (fm b e), .v (mc w m), .v (.list (xs.map .int)), c', .ol (acc ++ (runT (stp b e w m) c ys).map plD), .un], []⟩ := by
    intro t bd ht h ys
    subst ht
    induction ys with
    | nil => intro c acc _ _ _; exact ⟨.v (plD c), by rw [List.map_nil, v_for0]; simp [runT]⟩
    | cons x ys ih =>
      intro c acc hc hlen hxs
      rw [List.length_cons] at hlen
      have h1 := h c acc x hc (by omega) (hxs x List.mem_cons_self)
      have hn : ∀ q, (c.bind fun p => stp b e w m p x) = some q → plc w q := by
        intro q hq
        cases c with
        | none => cases hq
        | some p => exact stp_plc hb' he (hc p rfl) hq
      obtain ⟨c', h2⟩ := ih _ (acc ++ [plD (c.bind fun p => stp b e w m p x)]) hn (by rw [List.length_append, List.length_singleton]; omega) fun y hy => hxs y (List.mem_cons_of_mem _ hy)
      refine ⟨c', ?_⟩
      rw [List.map_cons, v_for1, v_tName, v_forT]
      show forB _ _ _ _ (bd ⟨[.v (fm b e), .v (mc w m), .v (.list (xs.map .int)), .v (plD c), .ol acc, .v (.int x)], []⟩) = _
      rw [h1, v_forBn]
      show forL _ _ _ _ ⟨[.v (fm b e), .v (mc w m), .v (.list (xs.map .int)), .v (plD (c.bind fun p => stp b e w m p x)), .ol (acc ++ [plD (c.bind fun p => stp b e w m p x)]), .un], []⟩ = _
      rw [h2]
      conv => rhs; unfold runT
      rw [List.map_cons, List.append_assoc]
      rfl
  have key1 : ∀ (t : D → S → Option S) (bd : DM Fl) (X : R Fl), forL t bd [5] (xs.map .int) ⟨[.v (fm b e), .v (mc w m), .v (.list (xs.map .int)), .v (plD (some (beg w))), .ol [], .un], []⟩ = X → t = tName 5 → (∀ (c : Option (List Int)) (acc : List D) (x : Int), (∀ q, c = some q → plc w q) → acc.length < 1000000 → x.natAbs ≤ 2000 →
      bd ⟨[.v (fm b e), .v (mc w m), .v (.list (xs.map .int)), .v (plD c), .ol acc, .v (.int x)], []⟩ = .ok .nx ⟨[.v (fm b e), .v (mc w m), .v (.list (xs.map .int)), .v (plD (c.bind fun p => stp b e w m p x)), .ol (acc ++ [plD (c.bind fun p => stp b e w m p x)]), .v (.int x)], []⟩) →
      ∃ c', X = .ok .nx ⟨[.v (fm b e), .v (mc w m), .v (.list (xs.map .int)), c', .ol ([] ++ (runT (stp b e w m) (some (beg w)) xs).map plD), .un], []⟩ := fun t bd X hX ht h => by
    obtain ⟨c', hk⟩ := key t bd ht h xs (some (beg w)) [] (fun q hq => by cases hq; exact beg_plc) (by simp; omega) hx
    exact ⟨c', by rw [← hX, hk]⟩
  generalize hX : forL _ _ _ _ _ = X
  obtain ⟨c', rfl⟩ := key1 _ _ _ hX rfl (by
    intro c acc x hc hacc hx
    have hla : lenOk acc.length = true := decide_eq_true (by omega)
    cases c with
    | none =>
      rw [show plD none = PyData.none from rfl]
      walk_at "ev"
      simp only [hla, if_true]
      rfl
    | some p =>
      rw [show plD (some p) = pD p from rfl]
      walk_at "ev"
      rw [show isN (pD p) = false from rfl]
      walk_at "ev"
      rw [step_n hb hb' he hw hm (hc p rfl) hx]
      walk_at "ev"
      simp only [hla, if_true]
      rfl)
  walk_at "ev"
end DL

namespace DL
open PySem PySem.Spec PyProof.Rows L2
/-- the totals along a row -/
def totT (b e : Nat) (w m : Str) (xs : List Int) : List (Option Int) := (runT (stp b e w m) (some (beg w)) xs).map fun o => o.bind (tld b e w m)
theorem totT_len {b e : Nat} {w m : Str} {xs : List Int} : (totT b e w m xs).length = xs.length := by unfold totT; rw [List.length_map, runT_len]
theorem totals_of_n {b e : Nat} {w m : Str} {xs : List Int} (hb : 1 ≤ b) (hb' : b ≤ 4) (he : e ≤ 3) (hw : way w) (hm : md m) (hl : xs.length ≤ 1000) (hx : ∀ x, x ∈ xs → x.natAbs ≤ 2000) :
    G_totals_of [fm b e, mc w m, .list (xs.map .int)] = .ok (.fl ((totT b e w m xs).map oD)) := by
  unfold G_totals_of F_totals_of
  walk_at "ev"
  rw [run_n hb hb' he hw hm hl hx]
  walk_at "ev"
  generalize hX : compL _ _ _ _ _ _ = X
  have := comp_mapX hX (fun o => oD (o.bind (tld b e w m))) (by
    intro o ho
    refine ⟨_, ⟨[.v (fm b e), .v (mc w m), .v (.list (xs.map .int)), .v (plD o)], []⟩, rfl, ?_, rfl⟩
    have hp := runT_plc (m := m) hb' he (some (beg w)) (fun q hq => by cases hq; exact beg_plc) o ho
    cases o with
    | none =>
      rw [show plD none = PyData.none from rfl]
      walk_at "ev"
      rfl
    | some p =>
      rw [show plD (some p) = pD p from rfl]
      walk_at "ev"
      rw [show isN (pD p) = false from rfl]
      walk_at "ev"
      rw [told_n hb (by omega) he hw hm (hp p rfl)]
      walk_at "ev"
      rfl)
  rw [this]
  walk_at "ev"
  unfold totT
  rw [List.map_map]
  rfl
end DL

namespace DL
open PySem PySem.Spec PyProof.Rows L2
/-! where a row ends -/
theorem opt_len {α : Type} (o : Option α) : o.toList.length ≤ 1 := by cases o <;> simp
theorem stp_tld {b e : Nat} {w m : Str} {p q : List Int} {x : Int} (h : stp b e w m p x = some q) : (tld b e w m q).isSome = true := by
  unfold stp at h
  split at h
  · rename_i q' _
    split at h
    · cases h
    · rename_i hh
      cases h
      cases ht : tld b e w m q with
      | none => rw [ht] at hh; exact absurd rfl hh
      | some v => rfl
  · cases h
def endP (b e : Nat) (w m : Str) (r : List Int) : Option (List Int) := r.foldl (fun c x => c.bind fun p => stp b e w m p x) (some (beg w))
theorem endP_snoc {b e : Nat} {w m : Str} {r : List Int} {x : Int} : endP b e w m (r ++ [x]) = (endP b e w m r).bind fun p => stp b e w m p x := by unfold endP; rw [List.foldl_append]; rfl
/-- the total behind a row -/
def endT (b e : Nat) (w m : Str) (r : List Int) : Option Int := (endP b e w m r).bind (tld b e w m)
end DL

namespace DL
open PySem PySem.Spec PyProof.Rows L2
/-! where a row ends (G_run G_totals_of) -/
theorem runT_last {f : List Int → Int → Option (List Int)} : ∀ {xs : List Int} {c : Option (List Int)} {x : Int}, (runT f c (xs ++ [x])).getLast? = some ((xs ++ [x]).foldl (fun c x => c.bind fun p => f p x) c)
  | [], c, x => rfl
  | y :: xs, c, x => by
    rw [List.cons_append]
    unfold runT
    rw [List.getLast?_cons, runT_last]
    rfl
theorem totT_last {b e : Nat} {w m : Str} {r : List Int} (h : r ≠ []) : (totT b e w m r).getLast? = some ((endP b e w m r).bind (tld b e w m)) := by
  obtain ⟨xs, x, rfl⟩ : ∃ xs x, r = xs ++ [x] := ⟨r.dropLast, r.getLast h, (List.dropLast_concat_getLast h).symm⟩
  unfold totT
  rw [List.getLast?_map, runT_last]
  rfl
theorem atI_getLast {α : Type} {xs : List α} {x : α} (h : xs.getLast? = some x) : atI xs (-1) = some x := by
  obtain ⟨ys, rfl⟩ : ∃ ys, xs = ys ++ [x] := by
    have hne : xs ≠ [] := by rintro rfl; cases h
    rw [List.getLast?_eq_some_getLast hne] at h
    cases h
    exact ⟨xs.dropLast, (List.dropLast_concat_getLast hne).symm⟩
  exact atI_last ys x
end DL

namespace DL
open PySem PySem.Spec PyProof.Rows L2
/-- the places of a machine -/
def valp (b e : Nat) (w m : Str) (p : List Int) : Prop := p.length = (beg w).length ∧ (∀ v, v ∈ p → num (b + wk w) e v) ∧ (w = "signs" → ∀ h l, p = [h, l] → l ≤ 0 ∧ 0 ≤ h) ∧ (tld b e w m p).isSome = true
theorem num_504 {b e : Nat} {x : Int} (hb' : b ≤ 6) (he : e ≤ 3) (h : num b e x) : x.natAbs ≤ 504 := by
  have h1 : (2 ^ b - 1 : Nat) * 2 ^ e ≤ 63 * 8 := Nat.mul_le_mul (by have : 2 ^ b ≤ 2 ^ 6 := Nat.pow_le_pow_right (by decide) hb'; omega) (by have : 2 ^ e ≤ 2 ^ 3 := Nat.pow_le_pow_right (by decide) he; omega)
  have h2 := h.2
  rw [grt_nat] at h2
  omega
theorem valp_plc {b e : Nat} {w m : Str} {p : List Int} (hb' : b ≤ 4) (he : e ≤ 3) (h : valp b e w m p) : plc w p := ⟨h.1, fun v hv => by
  have := num_504 (by have := wk_le w; omega) he (h.2.1 v hv)
  omega⟩
theorem num_zero {b e : Nat} : num b e 0 := ⟨⟨0, 0, rfl, Nat.two_pow_pos b⟩, by rw [grt_nat]; exact Int.natCast_nonneg _⟩
theorem valp_beg {b e : Nat} {w m : Str} (hb : 1 ≤ b) : valp b e w m (beg w) := by
  refine ⟨rfl, fun v hv => ?_, fun _ h l hp => ?_, ?_⟩
  · have : v = 0 := by
      unfold beg at hv
      split at hv <;> simp at hv <;> exact hv
    rw [this]; exact num_zero
  · unfold beg at hp
    split at hp
    · cases hp; omega
    · cases hp
  · have r0 : rnd b e m 0 = some 0 := rnd_id hb num_zero
    unfold beg
    split
    · show (if w = "kept" then some (0 : Int) else rnd b e m (0 + 0)).isSome = true
      split
      · rfl
      · rw [Int.add_zero, r0]; rfl
    · show (if w = "plain" then some (0 : Int) else rnd b e m 0).isSome = true
      split
      · rfl
      · rw [r0]; rfl
theorem pls_num {b e : Nat} {m : Str} {x y : Option Int} {v : Int} (hb : 1 ≤ b) (h : pls b e m x y = some v) : num b e v := by
  cases x with
  | none => cases h
  | some x =>
    cases y with
    | none => cases h
    | some y => exact (rnd_num hb h).1
theorem wk_two {w : Str} (hw : way w) (h : two w = true) : wk w = 0 := by
  rcases hw with rfl | rfl | rfl | rfl | rfl | rfl
  all_goals first | decide +kernel | exact absurd h (by decide +kernel)
theorem rnd_nn {b e : Nat} {m : Str} {v u : Int} (hb : 1 ≤ b) (hm : md m) (h : rnd b e m v = some u) : (0 ≤ v → 0 ≤ u) ∧ (v ≤ 0 → u ≤ 0) := by
  obtain ⟨_, rfl⟩ := rnd_num hb h
  have h0 : cho b m 0 = 0 := cho_id hb rp_zero
  exact ⟨fun q => by have := cho_mono (m := m) hb hm q; omega, fun q => by have := cho_mono (m := m) hb hm q; omega⟩
theorem stp_valp {b e : Nat} {w m : Str} {p q : List Int} {x : Int} (hb : 1 ≤ b) (hb' : b ≤ 4) (he : e ≤ 3) (hw : way w) (hm : md m) (hp : valp b e w m p) (h : stp b e w m p x = some q) : valp b e w m q := by
  have hpl := stp_plc hb' he (valp_plc hb' he hp) h
  have h2 : allS (nwp b e w m p x) = some q ∧ (tld b e w m q).isSome = true := by
    unfold stp at h
    cases e1 : allS (nwp b e w m p x) with
    | none => rw [e1] at h; cases h
    | some q' =>
      rw [e1] at h
      dsimp only at h
      split at h
      · cases h
      · rename_i hn
        cases h
        refine ⟨rfl, ?_⟩
        cases ht : tld b e w m q with
        | none => rw [ht] at hn; exact absurd rfl hn
        | some _ => rfl
  obtain ⟨h3, h4⟩ := h2
  have h5 := pD_all h3
  by_cases h6 : two w = true
  · have hk := wk_two hw h6
    obtain ⟨t, l, rfl, _, _⟩ := plc_two (valp_plc hb' he hp) h6
    have nt := hp.2.1 t (by simp)
    have nl := hp.2.1 l (by simp)
    rw [hk, Nat.add_zero] at nt nl
    refine ⟨hpl.1, fun v hv => ?_, fun hs a c hq => ?_, h4⟩
    · rw [hk, Nat.add_zero]
      have hv' : some v ∈ nwp b e w m [t, l] x := by rw [h5]; exact List.mem_map_of_mem hv
      unfold nwp at hv'
      dsimp only at hv'
      split at hv'
      · unfold kst at hv'
        simp only [List.mem_cons, List.not_mem_nil, or_false] at hv'
        rcases hv' with hv' | hv' <;> exact pls_num hb hv'.symm
      · split at hv'
        · unfold bst at hv'
          simp only [List.mem_cons, List.not_mem_nil, or_false] at hv'
          rcases hv' with hv' | hv' <;> exact pls_num hb hv'.symm
        · split at hv'
          · simp only [List.mem_cons, List.not_mem_nil, or_false] at hv'
            rcases hv' with hv' | hv'
            · exact (rnd_num hb hv'.symm).1
            · cases hv'; exact nl
          · simp only [List.mem_cons, List.not_mem_nil, or_false] at hv'
            rcases hv' with hv' | hv'
            · cases hv'; exact nt
            · exact (rnd_num hb hv'.symm).1
    · subst hs
      subst hq
      obtain ⟨s1, s2⟩ := hp.2.2.1 rfl t l rfl
      have a1 : nwp b e "signs" m [t, l] x = if 0 ≤ x then [rnd b e m (t + x), some l] else [some t, rnd b e m (l + x)] := by
        unfold nwp
        dsimp only
        rw [if_neg (by decide +kernel), if_neg (by decide +kernel)]
      rw [a1] at h5
      split at h5
      · simp only [List.map_cons, List.map_nil, List.cons.injEq, and_true] at h5
        obtain ⟨k1, k2⟩ := h5
        have := (rnd_nn hb hm k1).1 (by omega)
        cases k2
        omega
      · simp only [List.map_cons, List.map_nil, List.cons.injEq, and_true] at h5
        obtain ⟨k1, k2⟩ := h5
        have := (rnd_nn hb hm k2).2 (by omega)
        cases k1
        omega
  · obtain ⟨t, rfl, _⟩ := plc_one (valp_plc hb' he hp) (by simpa using h6)
    refine ⟨hpl.1, fun v hv => ?_, fun hs => ?_, h4⟩
    · have hv' : some v ∈ nwp b e w m [t] x := by rw [h5]; exact List.mem_map_of_mem hv
      unfold nwp at hv'
      simp only [List.mem_cons, List.not_mem_nil, or_false] at hv'
      exact (rnd_num (by omega) hv'.symm).1
    · subst hs
      exact absurd (by decide +kernel) h6
end DL

namespace DL
open PySem PySem.Spec PyProof.Rows L2
theorem at_ints {ns : List Int} {i : Int} (h0 : 0 ≤ i) (h1 : i < ns.length) : ∃ x, atI (ns.map PyData.int) i = some (.int x) := by
  obtain ⟨j, rfl⟩ : ∃ j : Nat, i = j := ⟨i.toNat, by omega⟩
  have hj : j < ns.length := by omega
  refine ⟨ns[j], ?_⟩
  rw [atI_nat (v := PyData.int ns[j])]
  rw [List.getElem?_map, List.getElem?_eq_getElem hj]
  rfl
def scr (ns : List Int) : D := .list (ns.map .int)
def drw (a b : Int) : Cell := .lst [.int a, .int b]
theorem mulW60 : gMulW (.int 1000000000000000000000000000000000000000000000000000000000000) (.int 1000000000000000000000000000000000000000000000000000000000000) = some (.int 1000000000000000000000000000000000000000000000000000000000000000000000000000000000000000000000000000000000000000000000000) := by kernel_rfl
theorem draw_n {ns : List Int} {n a b : Int} {r : List Cell} (hn : 0 < n) (hn' : n < 1073741824) (ha : 0 ≤ a) (hb : 0 ≤ b) : ∃ d a' b', G_l_draw [.v (scr ns), .cell 0, .v (.int n)] (drw a b :: r) = .ok (.d (.int d)) (drw a' b' :: r) ∧ 0 ≤ d ∧ d < n ∧ 0 ≤ a' ∧ 0 ≤ b' := by
  unfold G_l_draw F_l_draw scr drw
  have hd : ∀ i : Int, divOk i n = true := fun i => divOk_r hn hn'
  have hp : ∀ z : Int, powOk (z % 2147483647) 5 = true := fun z => by
    unfold powOk
    simp
    omega
  have md : ∀ z : Int, 0 ≤ z % n ∧ z % n < n := fun z => ⟨Int.emod_nonneg z (by omega), Int.emod_lt_of_pos z hn⟩
  by_cases h1 : 0 < b
  · walk_at "ev"
    simp only [h1, hn, hd, if_true]
    exact ⟨_, _, _, rfl, (md _).1, (md _).2, ha, Int.ediv_nonneg hb (Int.le_of_lt hn)⟩
  · walk_at "ev"
    simp only [h1, if_false]
    rw [eq_nil_ints]
    walk_at "ev"
    by_cases h2 : ns = []
    · simp only [h2, hn, if_true]
      exact ⟨_, _, _, rfl, (md _).1, (md _).2, by omega, hb⟩
    · have hl : (0 : Int) < ns.length := by
        have := List.length_pos_iff.mpr h2
        omega
      simp only [h2, if_false, List.length_map]
      obtain ⟨x, hx⟩ := at_ints (ns := ns) (i := a % ns.length) (Int.emod_nonneg _ (by omega)) (Int.emod_lt_of_pos _ hl)
      by_cases h3 : a < ns.length
      · obtain ⟨y, hy⟩ := at_ints (ns := ns) ha h3
        simp only [h3, if_true]
        rw [hy]
        walk_at "ev"
        by_cases h4 : 1000000000000000000 ≤ y
        · simp only [h4, if_true]
          rw [hy]
          walk_at "ev"
          rw [hd, mulW60]
          walk_at "ev"
          rw [hy]
          walk_at "ev"
          simp only [hn, if_true]
          exact ⟨_, _, _, rfl, (md _).1, (md _).2, by omega, Int.emod_nonneg _ (by decide)⟩
        · simp only [h4, if_false, List.length_map, hl, if_true]
          rw [hx]
          walk_at "ev"
          rw [hp]
          walk_at "ev"
          simp only [hn, if_true]
          exact ⟨_, _, _, rfl, (md _).1, (md _).2, by omega, hb⟩
      · simp only [h3, if_false, hl, if_true]
        rw [hx]
        walk_at "ev"
        rw [hp]
        walk_at "ev"
        simp only [hn, if_true]
        exact ⟨_, _, _, rfl, (md _).1, (md _).2, by omega, hb⟩
def drs (c : Cell) : Prop := ∃ a b, c = drw a b ∧ 0 ≤ a ∧ 0 ≤ b
theorem draw_c {ns : List Int} {n : Int} {c : Cell} {r : List Cell} (hc : drs c) (hn : 0 < n) (hn' : n < 1073741824) : ∃ d c', G_l_draw [.v (scr ns), .cell 0, .v (.int n)] (c :: r) = .ok (.d (.int d)) (c' :: r) ∧ 0 ≤ d ∧ d < n ∧ drs c' := by
  obtain ⟨a, b, rfl, ha, hb⟩ := hc
  obtain ⟨d, a', b', e, h1, h2, h3, h4⟩ := draw_n (ns := ns) (r := r) hn hn' ha hb
  exact ⟨d, _, e, h1, h2, _, _, rfl, h3, h4⟩
theorem drs0 : drs (.lst [.int 0, .int 0]) := ⟨0, 0, rfl, by decide, by decide⟩
end DL

namespace DL
open PySem PySem.Spec PyProof.Rows L2
theorem pick_c {ns : List Int} {c : Cell} {r : List Cell} {ds : List D} (hc : drs c) (h0 : 0 < ds.length) (h1 : ds.length < 1000000) : ∃ (d : D) (c' : Cell), G_l_pick [.v (scr ns), .cell 0, .v (.list ds)] (c :: r) = .ok (.d d) (c' :: r) ∧ d ∈ ds ∧ drs c' := by
  unfold G_l_pick F_l_pick
  obtain ⟨d1, c1, e1, h2, h3, hc1⟩ := draw_c (ns := ns) (n := ds.length) (r := r) hc (by omega) (by omega)
  obtain ⟨j, rfl⟩ : ∃ j : Nat, d1 = j := ⟨d1.toNat, by omega⟩
  have hj : j < ds.length := by omega
  refine ⟨ds[j], c1, ?_, List.getElem_mem hj, hc1⟩
  walk_at "ev"
  rw [e1]
  walk_at "ev"
  rw [atI_nat (v := ds[j]) (List.getElem?_eq_getElem hj)]
  walk_at "ev"
end DL

namespace DL
open PySem PySem.Spec PyProof.Rows L2
theorem mode_c {ns : List Int} {c : Cell} {r : List Cell} (hc : drs c) : ∃ m c', G_l_mode [.v (scr ns), .cell 0] (c :: r) = .ok (.d (.str m)) (c' :: r) ∧ md m ∧ drs c' := by
  unfold G_l_mode F_l_mode
  obtain ⟨d, c1, e, hd, hc1⟩ := pick_c (ns := ns) (r := r) (ds := [.str "away", .str "down", .str "even", .str "even", .str "up", .str "zero"]) hc (by decide) (by decide)
  have : ∃ m, d = .str m ∧ md m := by
    simp only [List.mem_cons, List.not_mem_nil, or_false] at hd
    rcases hd with rfl | rfl | rfl | rfl | rfl | rfl
    · exact ⟨_, rfl, .inl rfl⟩
    · exact ⟨_, rfl, .inr (.inl rfl)⟩
    · exact ⟨_, rfl, .inr (.inr (.inl rfl))⟩
    · exact ⟨_, rfl, .inr (.inr (.inl rfl))⟩
    · exact ⟨_, rfl, .inr (.inr (.inr (.inl rfl)))⟩
    · exact ⟨_, rfl, .inr (.inr (.inr (.inr rfl)))⟩
  obtain ⟨m, rfl, hm⟩ := this
  refine ⟨m, c1, ?_, hm, hc1⟩
  walk_at "ev"
  rw [e]
  walk_at "ev"
end DL

namespace DL
open PySem PySem.Spec PyProof.Rows L2
/-! rows of a lot by their length, and the search that goes by states (plain Lean) -/
/-- all rows of a length, in order -/
def rowsK (L : List Int) : Nat → List (List Int)
  | 0 => [[]]
  | k + 1 => (rowsK L k).flatMap fun r => L.map fun x => r ++ [x]
theorem rowsK_mem {L : List Int} : ∀ {k : Nat} {r : List Int}, r ∈ rowsK L k ↔ r.length = k ∧ ∀ x, x ∈ r → x ∈ L
  | 0, r => by
    unfold rowsK
    rw [List.mem_singleton]
    constructor
    · intro h; subst h; exact ⟨rfl, fun x hx => (nomatch hx)⟩
    · intro h; exact List.eq_nil_of_length_eq_zero h.1
  | k + 1, r => by
    unfold rowsK
    rw [List.mem_flatMap]
    constructor
    · intro ⟨q, hq, hr⟩
      obtain ⟨x, hx, rfl⟩ := List.mem_map.mp hr
      obtain ⟨h1, h2⟩ := rowsK_mem.mp hq
      refine ⟨by rw [List.length_append, h1]; rfl, fun y hy => ?_⟩
      rcases List.mem_append.mp hy with hy | hy
      · exact h2 y hy
      · rw [List.mem_singleton.mp hy]; exact hx
    · intro ⟨h1, h2⟩
      have hne : r ≠ [] := fun e => by rw [e] at h1; cases h1
      refine ⟨r.dropLast, rowsK_mem.mpr ⟨by rw [List.length_dropLast, h1]; rfl, fun x hx => h2 x (List.dropLast_subset _ hx)⟩, List.mem_map.mpr ⟨r.getLast hne, h2 _ (List.getLast_mem hne), List.dropLast_concat_getLast hne⟩⟩
/-- the first of the shortest rows with D -/
def IsFirst (L : List Int) (D : List Int → Bool) : Option (List Int) → Prop
  | some r => ∃ k, (rowsK L (k + 1)).find? D = some r ∧ ∀ j, j < k → (rowsK L (j + 1)).find? D = none
  | none => ∀ j, (rowsK L (j + 1)).find? D = none
theorem IsFirst.uniq {L : List Int} {D : List Int → Bool} {a c : Option (List Int)} (h1 : IsFirst L D a) (h2 : IsFirst L D c) : a = c := by
  cases a with
  | none =>
    cases c with
    | none => rfl
    | some r => obtain ⟨k, e, _⟩ := h2; rw [h1 k] at e; cases e
  | some r =>
    obtain ⟨k, e, hk⟩ := h1
    cases c with
    | none => rw [h2 k] at e; cases e
    | some q =>
      obtain ⟨l, e2, hl⟩ := h2
      rcases Nat.lt_trichotomy k l with h | h | h
      · rw [hl k h] at e; cases e
      · subst h; rw [e] at e2; exact e2
      · rw [hk l h] at e2; cases e2
theorem find_congr {β : Type} {D D' : β → Bool} : ∀ {l : List β}, (∀ x, x ∈ l → D x = D' x) → l.find? D = l.find? D'
  | [], _ => rfl
  | x :: l, h => by
    rw [List.find?_cons, List.find?_cons, h x List.mem_cons_self, find_congr fun y hy => h y (List.mem_cons_of_mem _ hy)]
theorem IsFirst.congr {L : List Int} {D D' : List Int → Bool} (h : ∀ r, r ≠ [] → (∀ x, x ∈ r → x ∈ L) → D r = D' r) {a : Option (List Int)} (h1 : IsFirst L D a) : IsFirst L D' a := by
  have e : ∀ k, (rowsK L (k + 1)).find? D = (rowsK L (k + 1)).find? D' := fun k => find_congr fun r hr => by
    obtain ⟨h2, h3⟩ := rowsK_mem.mp hr
    exact h r (fun q => by rw [q] at h2; cases h2) h3
  cases a with
  | none => exact fun j => (e j).symm.trans (h1 j)
  | some r =>
    obtain ⟨k, e1, hk⟩ := h1
    exact ⟨k, (e k).symm.trans e1, fun j hj => (e j).symm.trans (hk j hj)⟩
/-- what the first one is -/
theorem IsFirst.some_iff {L : List Int} {D : List Int → Bool} {r : List Int} (h : IsFirst L D (some r)) : r ≠ [] ∧ (∀ x, x ∈ r → x ∈ L) ∧ D r = true ∧ ∀ q, q ≠ [] → (∀ x, x ∈ q → x ∈ L) → D q = true → r.length ≤ q.length := by
  obtain ⟨k, e, hk⟩ := h
  obtain ⟨h1, h2⟩ := rowsK_mem.mp (List.mem_of_find?_eq_some e)
  refine ⟨fun q => (by rw [q] at h1; cases h1), h2, List.find?_some e, fun q hq hm hd => ?_⟩
  apply Classical.byContradiction
  intro hlt
  have hq0 : 0 < q.length := List.length_pos_iff.mpr hq
  have h3 := hk (q.length - 1) (by omega)
  rw [List.find?_eq_none] at h3
  exact h3 q (rowsK_mem.mpr ⟨by omega, hm⟩) hd
theorem IsFirst.none_iff {L : List Int} {D : List Int → Bool} (h : IsFirst L D none) (q : List Int) (hq : q ≠ []) (hm : ∀ x, x ∈ q → x ∈ L) : D q = false := by
  have hq0 : 0 < q.length := List.length_pos_iff.mpr hq
  have h3 := h (q.length - 1)
  rw [List.find?_eq_none] at h3
  have := h3 q (rowsK_mem.mpr ⟨by omega, hm⟩)
  simpa using this
section
variable {α : Type} [DecidableEq α] {nx : α → Int → α} {dif : α → Bool} {L : List Int} {st : α}
abbrev Itm (α : Type) := List Int × α
def kidsL (nx : α → Int → α) (L : List Int) (its : List (Itm α)) : List (Itm α) := its.flatMap fun it => L.map fun x => (it.1 ++ [x], nx it.2 x)
def fresh : List α → List (Itm α) → List (Itm α)
  | _, [] => []
  | S, it :: r => if it.2 ∈ S then fresh S r else it :: fresh (S ++ [it.2]) r
def allK (nx : α → Int → α) (L : List Int) (st : α) (k : Nat) : List (Itm α) := (rowsK L k).map fun r => (r, r.foldl nx st)
theorem allK_succ {k : Nat} : allK nx L st (k + 1) = kidsL nx L (allK nx L st k) := by
  unfold allK kidsL
  show List.map _ ((rowsK L k).flatMap _) = _
  rw [List.map_flatMap, List.flatMap_map]
  congr 1
  funext r
  rw [List.map_map]
  refine List.map_congr_left fun x _ => ?_
  show (r ++ [x], (r ++ [x]).foldl nx st) = _
  rw [List.foldl_append]
  rfl
theorem find_allK {k : Nat} : (allK nx L st k).find? (fun it => dif it.2) = ((rowsK L k).find? fun r => dif (r.foldl nx st)).map fun r => (r, r.foldl nx st) := by
  unfold allK
  rw [List.find?_map]
  rfl
theorem kids_cons {it : Itm α} {its : List (Itm α)} : kidsL nx L (it :: its) = (L.map fun x => (it.1 ++ [x], nx it.2 x)) ++ kidsL nx L its := by
  unfold kidsL; rw [List.flatMap_cons]
theorem fresh_pos {S : List α} {it : Itm α} {r : List (Itm α)} (e : it.2 ∈ S) : fresh S (it :: r) = fresh S r := if_pos e
theorem fresh_neg {S : List α} {it : Itm α} {r : List (Itm α)} (e : it.2 ∉ S) : fresh S (it :: r) = it :: fresh (S ++ [it.2]) r := if_neg e
theorem fresh_congr : ∀ {its : List (Itm α)} {S T : List α}, (∀ p, p ∈ S ↔ p ∈ T) → fresh S its = fresh T its
  | [], _, _, _ => rfl
  | it :: r, S, T, h => by
    unfold fresh
    by_cases e : it.2 ∈ S
    · rw [if_pos e, if_pos ((h _).mp e), fresh_congr h]
    · rw [if_neg e, if_neg (fun q => e ((h _).mpr q)), fresh_congr (S := S ++ [it.2]) (T := T ++ [it.2]) fun p => by rw [List.mem_append, List.mem_append, h p]]
theorem mem_fresh {p : α} : ∀ {its : List (Itm α)} {S : List α}, (p ∈ S ∨ p ∈ (fresh S its).map (·.2)) ↔ (p ∈ S ∨ p ∈ its.map (·.2))
  | [], S => Iff.rfl
  | it :: r, S => by
    unfold fresh
    by_cases e : it.2 ∈ S
    · rw [if_pos e, mem_fresh (its := r) (S := S), List.map_cons, List.mem_cons]
      constructor
      · rintro (h | h)
        · exact .inl h
        · exact .inr (.inr h)
      · rintro (h | h | h)
        · exact .inl h
        · rw [h]; exact .inl e
        · exact .inr h
    · rw [if_neg e, List.map_cons, List.map_cons, List.mem_cons, List.mem_cons]
      have ih := mem_fresh (p := p) (its := r) (S := S ++ [it.2])
      rw [List.mem_append, List.mem_singleton] at ih
      constructor
      · rintro (h | h | h)
        · exact .inl h
        · exact .inr (.inl h)
        · rcases ih.mp (.inr h) with (h | h) | h
          · exact .inl h
          · exact .inr (.inl h)
          · exact .inr (.inr h)
      · rintro (h | h | h)
        · exact .inl h
        · exact .inr (.inl h)
        · rcases ih.mpr (.inr h) with (h | h) | h
          · exact .inl h
          · exact .inr (.inl h)
          · exact .inr (.inr h)
theorem fresh_append : ∀ {a c : List (Itm α)} {T : List α}, fresh T (a ++ c) = fresh T a ++ fresh (T ++ a.map (·.2)) c
  | [], c, T => by rw [List.map_nil, List.append_nil]; rfl
  | it :: a, c, T => by
    rw [List.cons_append]
    by_cases e : it.2 ∈ T
    · rw [fresh_pos e, fresh_pos e, fresh_append, fresh_congr (S := T ++ a.map (·.2)) (T := T ++ (it :: a).map (·.2)) (its := c)]
      intro p
      rw [List.mem_append, List.mem_append, List.map_cons, List.mem_cons]
      constructor
      · rintro (h | h)
        · exact .inl h
        · exact .inr (.inr h)
      · rintro (h | h | h)
        · exact .inl h
        · rw [h]; exact .inl e
        · exact .inr h
    · rw [fresh_neg e, fresh_neg e, fresh_append, List.append_assoc]
      rfl
theorem fresh_sub : ∀ {its : List (Itm α)} {S : List α} {it : Itm α}, it ∈ fresh S its → it ∈ its
  | [], _, _, h => h
  | c :: r, S, it, h => by
    unfold fresh at h
    split at h
    · exact List.mem_cons_of_mem _ (fresh_sub h)
    · rcases List.mem_cons.mp h with rfl | h
      · exact List.mem_cons_self
      · exact List.mem_cons_of_mem _ (fresh_sub h)
theorem fresh_none : ∀ {its : List (Itm α)} {S : List α}, (∀ it, it ∈ its → it.2 ∈ S) → fresh S its = []
  | [], _, _ => rfl
  | c :: r, S, h => by
    unfold fresh
    rw [if_pos (h c List.mem_cons_self)]
    exact fresh_none fun it hit => h it (List.mem_cons_of_mem _ hit)
theorem nodup_fresh : ∀ {its : List (Itm α)} {S : List α}, S.Nodup → (S ++ (fresh S its).map (·.2)).Nodup
  | [], S, h => by unfold fresh; rw [List.map_nil, List.append_nil]; exact h
  | it :: r, S, h => by
    unfold fresh
    by_cases e : it.2 ∈ S
    · rw [if_pos e]; exact nodup_fresh h
    · rw [if_neg e]
      have := nodup_fresh (its := r) (S := S ++ [it.2]) (List.nodup_append.mpr ⟨h, by simp, fun a ha c hc => by rw [List.mem_singleton.mp hc]; exact fun q => e (q ▸ ha)⟩)
      rw [List.append_assoc] at this
      exact this
/-- what was seen has no child that is found: nothing is lost -/
theorem find_fresh : ∀ {its : List (Itm α)} {S : List α}, (∀ p, p ∈ S → ∀ x, x ∈ L → dif (nx p x) = false) → (kidsL nx L (fresh S its)).find? (fun it => dif it.2) = (kidsL nx L its).find? fun it => dif it.2
  | [], _, _ => rfl
  | it :: r, S, h => by
    rw [kids_cons, List.find?_append]
    unfold fresh
    by_cases e : it.2 ∈ S
    · rw [if_pos e, find_fresh h]
      have : ((L.map fun x => (it.1 ++ [x], nx it.2 x)).find? fun it => dif it.2) = none := by
        rw [List.find?_eq_none]
        intro c hc
        obtain ⟨x, hx, rfl⟩ := List.mem_map.mp hc
        rw [h _ e x hx]; decide
      rw [this]; rfl
    · rw [if_neg e, kids_cons, List.find?_append]
      cases hf : ((L.map fun x => (it.1 ++ [x], nx it.2 x)).find? fun it => dif it.2) with
      | some c => rfl
      | none =>
        rw [List.find?_eq_none] at hf
        rw [find_fresh]
        intro p hp x hx
        rcases List.mem_append.mp hp with hp | hp
        · exact h p hp x hx
        · rw [List.mem_singleton.mp hp]
          have := hf _ (List.mem_map.mpr ⟨x, hx, rfl⟩)
          simpa using this
theorem fresh_kids : ∀ {its : List (Itm α)} {S T : List α}, (∀ p, p ∈ S → ∀ x, x ∈ L → nx p x ∈ T) → fresh T (kidsL nx L (fresh S its)) = fresh T (kidsL nx L its)
  | [], _, _, _ => rfl
  | it :: r, S, T, h => by
    by_cases e : it.2 ∈ S
    · have e1 : fresh T (L.map fun x => (it.1 ++ [x], nx it.2 x)) = [] := fresh_none fun c hc => by
        obtain ⟨x, hx, rfl⟩ := List.mem_map.mp hc
        exact h _ e x hx
      rw [fresh_pos e, kids_cons, fresh_append, e1, List.nil_append, fresh_kids h]
      refine fresh_congr fun p => ?_
      rw [List.mem_append]
      constructor
      · exact .inl
      · rintro (hp | hp)
        · exact hp
        · obtain ⟨c, hc, rfl⟩ := List.mem_map.mp hp
          obtain ⟨x, hx, rfl⟩ := List.mem_map.mp hc
          exact h _ e x hx
    · rw [fresh_neg e, kids_cons, kids_cons, fresh_append, fresh_append, fresh_kids]
      intro p hp x hx
      rcases List.mem_append.mp hp with hp | hp
      · exact List.mem_append_left _ (h p hp x hx)
      · rw [List.mem_singleton.mp hp]
        exact List.mem_append_right _ (List.mem_map.mpr ⟨_, List.mem_map.mpr ⟨x, hx, rfl⟩, rfl⟩)
/-- where the search stands: all rows of length k lie behind the level -/
structure Bf (nx : α → Int → α) (dif : α → Bool) (L : List Int) (st : α) (k : Nat) (S : List α) (Lv : List (Itm α)) : Prop where
  lev : ∃ Sp : List α, (∀ p, p ∈ Sp ↔ ∃ j r, j < k ∧ r ∈ rowsK L j ∧ r.foldl nx st = p) ∧ Lv = fresh Sp (allK nx L st k)
  seen : ∀ p, p ∈ S ↔ ∃ j r, j ≤ k ∧ r ∈ rowsK L j ∧ r.foldl nx st = p
  non : ∀ j, j < k → (rowsK L (j + 1)).find? (fun r => dif (r.foldl nx st)) = none
theorem Bf.zero : Bf nx dif L st 0 [st] [([], st)] := by
  refine ⟨⟨[], fun p => ⟨fun h => (nomatch h), fun ⟨j, r, h, _⟩ => absurd h (Nat.not_lt_zero _)⟩, rfl⟩, fun p => ?_, fun j h => absurd h (Nat.not_lt_zero _)⟩
  rw [List.mem_singleton]
  constructor
  · intro h; exact ⟨0, [], Nat.le_refl _, List.mem_singleton.mpr rfl, h.symm⟩
  · intro ⟨j, r, h, h1, h2⟩
    have : j = 0 := by omega
    subst this
    rw [List.mem_singleton.mp h1] at h2
    exact h2.symm
theorem run_step {j : Nat} {r : List Int} {x : Int} (h1 : r ∈ rowsK L j) (hx : x ∈ L) : r ++ [x] ∈ rowsK L (j + 1) ∧ (r ++ [x]).foldl nx st = nx (r.foldl nx st) x := by
  refine ⟨List.mem_flatMap.mpr ⟨r, h1, List.mem_map.mpr ⟨x, hx, rfl⟩⟩, ?_⟩
  rw [List.foldl_append]; rfl
variable {k : Nat} {S : List α} {Lv : List (Itm α)}
theorem Bf.clean (h : Bf nx dif L st k S Lv) {Sp : List α} (hs : ∀ p, p ∈ Sp ↔ ∃ j r, j < k ∧ r ∈ rowsK L j ∧ r.foldl nx st = p) : ∀ p, p ∈ Sp → ∀ x, x ∈ L → dif (nx p x) = false := by
  intro p hp x hx
  obtain ⟨j, r, hj, hr, rfl⟩ := (hs p).mp hp
  have hn := h.non j hj
  rw [List.find?_eq_none] at hn
  obtain ⟨h1, h2⟩ := run_step (nx := nx) (st := st) hr hx
  have := hn _ h1
  rw [h2] at this
  simpa using this
theorem Bf.look (h : Bf nx dif L st k S Lv) : (kidsL nx L Lv).find? (fun it => dif it.2) = ((rowsK L (k + 1)).find? fun r => dif (r.foldl nx st)).map fun r => (r, r.foldl nx st) := by
  obtain ⟨Sp, hs, rfl⟩ := h.lev
  rw [find_fresh (h.clean hs), ← allK_succ, find_allK]
theorem Bf.found (h : Bf nx dif L st k S Lv) {c : Itm α} (hc : (kidsL nx L Lv).find? (fun it => dif it.2) = some c) : IsFirst L (fun r => dif (r.foldl nx st)) (some c.1) := by
  rw [h.look] at hc
  obtain ⟨r, hr, rfl⟩ := Option.map_eq_some_iff.mp hc
  exact ⟨k, hr, h.non⟩
theorem Bf.next (h : Bf nx dif L st k S Lv) (hc : (kidsL nx L Lv).find? (fun it => dif it.2) = none) : Bf nx dif L st (k + 1) (S ++ (fresh S (kidsL nx L Lv)).map (·.2)) (fresh S (kidsL nx L Lv)) := by
  have hl := h.look
  rw [hc] at hl
  have hn : (rowsK L (k + 1)).find? (fun r => dif (r.foldl nx st)) = none := by
    cases e : (rowsK L (k + 1)).find? (fun r => dif (r.foldl nx st)) with
    | none => rfl
    | some r => rw [e] at hl; cases hl
  obtain ⟨Sp, hs, hlv⟩ := h.lev
  have hS : ∀ p, p ∈ S ↔ ∃ j r, j < k + 1 ∧ r ∈ rowsK L j ∧ r.foldl nx st = p := fun p => by
    rw [h.seen]
    constructor
    · rintro ⟨j, r, h1, h2⟩; exact ⟨j, r, by omega, h2⟩
    · rintro ⟨j, r, h1, h2⟩; exact ⟨j, r, by omega, h2⟩
  have hE : fresh S (kidsL nx L Lv) = fresh S (allK nx L st (k + 1)) := by
    rw [hlv, fresh_kids, allK_succ]
    intro p hp x hx
    obtain ⟨j, r, hj, hr, rfl⟩ := (hs p).mp hp
    obtain ⟨h1, h2⟩ := run_step (nx := nx) (st := st) hr hx
    exact (hS _).mpr ⟨j + 1, r ++ [x], by omega, h1, h2⟩
  refine ⟨⟨S, hS, hE⟩, fun p => ?_, fun j hj => ?_⟩
  · rw [List.mem_append, hE, mem_fresh, hS]
    constructor
    · rintro (⟨j, r, h1, h2⟩ | h1)
      · exact ⟨j, r, by omega, h2⟩
      · unfold allK at h1
        rw [List.map_map] at h1
        obtain ⟨r, hr, rfl⟩ := List.mem_map.mp h1
        exact ⟨k + 1, r, Nat.le_refl _, hr, rfl⟩
    · rintro ⟨j, r, h1, h2, h3⟩
      by_cases e : j = k + 1
      · subst e
        refine .inr ?_
        unfold allK
        rw [List.map_map]
        exact List.mem_map.mpr ⟨r, h2, h3⟩
      · exact .inl ⟨j, r, by omega, h2, h3⟩
  · by_cases e : j = k
    · subst e; exact hn
    · exact h.non j (by omega)
theorem Bf.done (h : Bf nx dif L st k S []) : IsFirst L (fun r => dif (r.foldl nx st)) none := by
  obtain ⟨Sp, hs, hlv⟩ := h.lev
  have hin : ∀ r, r ∈ rowsK L k → r.foldl nx st ∈ Sp := fun r hr => by
    have : r.foldl nx st ∈ Sp ∨ r.foldl nx st ∈ (allK nx L st k).map (·.2) := .inr (by
      unfold allK; rw [List.map_map]; exact List.mem_map.mpr ⟨r, hr, rfl⟩)
    rcases mem_fresh.mpr this with q | q
    · exact q
    · rw [← hlv] at q; exact (nomatch q)
  have hcl : ∀ p, p ∈ Sp → ∀ x, x ∈ L → nx p x ∈ Sp := fun p hp x hx => by
    obtain ⟨j, r, hj, hr, rfl⟩ := (hs p).mp hp
    obtain ⟨h1, h2⟩ := run_step (nx := nx) (st := st) hr hx
    by_cases e : j + 1 = k
    · rw [e] at h1; rw [← h2]; exact hin _ h1
    · exact (hs _).mpr ⟨j + 1, r ++ [x], by omega, h1, h2⟩
  have hclean := h.clean hs
  have h0 : st ∈ Sp := by
    by_cases e : k = 0
    · subst e; exact hin [] (List.mem_singleton.mpr rfl)
    · exact (hs _).mpr ⟨0, [], by omega, List.mem_singleton.mpr rfl, rfl⟩
  have hall : ∀ j r, r ∈ rowsK L j → r.foldl nx st ∈ Sp := by
    intro j
    induction j with
    | zero => intro r hr; rw [List.mem_singleton.mp hr]; exact h0
    | succ j ih =>
      intro r hr
      obtain ⟨q, hq, hr⟩ := List.mem_flatMap.mp hr
      obtain ⟨x, hx, rfl⟩ := List.mem_map.mp hr
      rw [(run_step hq hx).2]
      exact hcl _ (ih q hq) x hx
  intro j
  rw [List.find?_eq_none]
  intro r hr
  obtain ⟨q, hq, hr⟩ := List.mem_flatMap.mp hr
  obtain ⟨x, hx, rfl⟩ := List.mem_map.mp hr
  show ¬ dif ((q ++ [x]).foldl nx st) = true
  rw [(run_step hq hx).2, hclean _ (hall j q hq) x hx]
  decide
/-! the two searches, level by level -/
abbrev Sb (α : Type) := List α × List (Itm α)
def scanL (dif : α → Bool) (cs : List (Itm α)) (s : Sb α) : List Int ⊕ Sb α := match cs.find? (fun it => dif it.2) with
  | some c => .inl c.1
  | none => .inr (s.1 ++ (fresh s.1 cs).map (·.2), s.2 ++ fresh s.1 cs)
theorem scan_append {a c : List (Itm α)} {s : Sb α} : scanL dif (a ++ c) s = match scanL dif a s with | .inl r => .inl r | .inr s' => scanL dif c s' := by
  unfold scanL
  rw [List.find?_append]
  cases h : a.find? (fun it => dif it.2) with
  | some x => rfl
  | none =>
    have e1 : fresh s.1 (a ++ c) = fresh s.1 a ++ fresh (s.1 ++ (fresh s.1 a).map (·.2)) c := by
      rw [fresh_append]
      congr 1
      refine fresh_congr fun p => ?_
      rw [List.mem_append, List.mem_append]
      exact mem_fresh.symm
    dsimp only
    rw [Option.none_or]
    cases c.find? (fun it => dif it.2) with
    | some x => rfl
    | none =>
      dsimp only
      rw [e1, List.map_append, List.append_assoc, List.append_assoc]
def pG (nx : α → Int → α) (dif : α → Bool) (it : Itm α) (s : Sb α) (x : Int) : List Int ⊕ Sb α :=
  if dif (nx it.2 x) = true then .inl (it.1 ++ [x]) else if nx it.2 x ∈ s.1 then .inr s else .inr (s.1 ++ [nx it.2 x], s.2 ++ [(it.1 ++ [x], nx it.2 x)])
theorem pG_scan {it : Itm α} : ∀ (xs : List Int) (s : Sb α), seekL (pG nx dif it) xs s = scanL dif (xs.map fun x => (it.1 ++ [x], nx it.2 x)) s
  | [], s => by
    unfold scanL seekL fresh
    simp
  | x :: xs, s => by
    rw [List.map_cons, ← List.singleton_append (x := (it.1 ++ [x], nx it.2 x)), scan_append]
    have e : scanL dif [(it.1 ++ [x], nx it.2 x)] s = pG nx dif it s x := by
      unfold scanL pG fresh
      by_cases h : dif (nx it.2 x) = true
      · rw [if_pos h]; simp [h]
      · rw [if_neg h]
        by_cases h2 : nx it.2 x ∈ s.1
        · rw [if_pos h2, if_pos h2]; simp [h, fresh]
        · rw [if_neg h2, if_neg h2]; simp [h, fresh]
    rw [e]
    unfold seekL
    cases pG nx dif it s x with
    | inl r => rfl
    | inr s' => exact pG_scan xs s'
def pO (nx : α → Int → α) (dif : α → Bool) (L : List Int) (s : Sb α) (it : Itm α) : List Int ⊕ Sb α := seekL (pG nx dif it) L s
theorem pO_scan : ∀ (its : List (Itm α)) (s : Sb α), seekL (pO nx dif L) its s = scanL dif (kidsL nx L its) s
  | [], s => by
    unfold scanL seekL kidsL fresh
    simp
  | it :: its, s => by
    rw [kids_cons, scan_append]
    unfold seekL
    rw [show pO nx dif L s it = scanL dif (L.map fun x => (it.1 ++ [x], nx it.2 x)) s from pG_scan L s]
    cases scanL dif (L.map fun x => (it.1 ++ [x], nx it.2 x)) s with
    | inl r => rfl
    | inr s' => exact pO_scan its s'
def lG (nx : α → Int → α) (dif : α → Bool) (it : Itm α) (A : List (Itm α)) (x : Int) : List Int ⊕ List (Itm α) :=
  if dif (nx it.2 x) = true then .inl (it.1 ++ [x]) else .inr (A ++ [(it.1 ++ [x], nx it.2 x)])
theorem lG_scan {it : Itm α} : ∀ (xs : List Int) (A : List (Itm α)), seekL (lG nx dif it) xs A = match (xs.map fun x => (it.1 ++ [x], nx it.2 x)).find? (fun it => dif it.2) with | some c => .inl c.1 | none => .inr (A ++ xs.map fun x => (it.1 ++ [x], nx it.2 x))
  | [], A => by unfold seekL; simp
  | x :: xs, A => by
    rw [List.map_cons, List.find?_cons]
    unfold seekL lG
    by_cases h : dif (nx it.2 x) = true
    · rw [if_pos h]; simp [h]
    · rw [if_neg h]
      have h' : dif (nx it.2 x) = false := by simpa using h
      dsimp only
      rw [h']
      have := lG_scan (it := it) xs (A ++ [(it.1 ++ [x], nx it.2 x)])
      unfold lG at this
      rw [this, List.append_assoc]
      rfl
def lO (nx : α → Int → α) (dif : α → Bool) (L : List Int) (s : Sb α) (it : Itm α) : List Int ⊕ Sb α :=
  if it.2 ∈ s.1 then .inr s else match seekL (lG nx dif it) L s.2 with | .inl r => .inl r | .inr A => .inr (s.1 ++ [it.2], A)
theorem lO_scan : ∀ (its : List (Itm α)) (s : Sb α), seekL (lO nx dif L) its s = match (kidsL nx L (fresh s.1 its)).find? (fun it => dif it.2) with | some c => .inl c.1 | none => .inr (s.1 ++ (fresh s.1 its).map (·.2), s.2 ++ kidsL nx L (fresh s.1 its))
  | [], s => by unfold seekL kidsL fresh; simp
  | it :: its, s => by
    unfold seekL
    by_cases h : it.2 ∈ s.1
    · have e : fresh s.1 (it :: its) = fresh s.1 its := fresh_pos h
      rw [show lO nx dif L s it = .inr s by unfold lO; rw [if_pos h], e]
      exact lO_scan its s
    · have e : fresh s.1 (it :: its) = it :: fresh (s.1 ++ [it.2]) its := fresh_neg h
      rw [e, kids_cons, List.find?_append]
      unfold lO
      rw [if_neg h, lG_scan]
      cases hf : (L.map fun x => (it.1 ++ [x], nx it.2 x)).find? (fun it => dif it.2) with
      | some c => rfl
      | none =>
        dsimp only
        have := lO_scan its (s.1 ++ [it.2], s.2 ++ L.map fun x => (it.1 ++ [x], nx it.2 x))
        unfold lO at this
        rw [this, Option.none_or]
        dsimp only
        cases (kidsL nx L (fresh (s.1 ++ [it.2]) its)).find? (fun it => dif it.2) with
        | some c => rfl
        | none =>
          dsimp only
          rw [List.map_cons, List.append_assoc, List.append_assoc]
          rfl
end
/-- a list without repeats in another is no longer -/
theorem nodup_le {β : Type} [DecidableEq β] : ∀ {l U : List β}, l.Nodup → (∀ x, x ∈ l → x ∈ U) → l.length ≤ U.length
  | [], _, _, _ => Nat.zero_le _
  | x :: l, U, h, hs => by
    obtain ⟨h1, h2⟩ := List.nodup_cons.mp h
    have hx := hs x List.mem_cons_self
    have := nodup_le (l := l) (U := U.erase x) h2 fun y hy => (List.mem_erase_of_ne (fun e => h1 (by rw [← e]; exact hy))).mpr (hs y (List.mem_cons_of_mem _ hy))
    rw [List.length_erase_of_mem hx] at this
    have : 0 < U.length := List.length_pos_of_mem hx
    rw [List.length_cons]
    omega
end DL

namespace DL
open PySem PySem.Spec PyProof.Rows L2
/-! pairs of places, as they stand behind one row -/
abbrev Pl := Option (List Int)
abbrev Pr := Pl × Pl
def aft (b e : Nat) (w m : Str) (p : Pl) (x : Int) : Pl := p.bind fun p => stp b e w m p x
def sho (b e : Nat) (w m : Str) (p : Pl) : Option Int := p.bind (tld b e w m)
def nx2 (b e : Nat) (w m w' m' : Str) (p : Pr) (x : Int) : Pr := (aft b e w m p.1 x, aft b e w' m' p.2 x)
def df2 (b e : Nat) (w m w' m' : Str) (p : Pr) : Bool := decide (sho b e w m p.1 ≠ sho b e w' m' p.2)
def vpl (b e : Nat) (w m : Str) (p : Pl) : Prop := ∀ q, p = some q → valp b e w m q
theorem aft_v {b e : Nat} {w m : Str} {p : Pl} {x : Int} (hf : okf b e) (hw : way w) (hm : md m) (hp : vpl b e w m p) : vpl b e w m (aft b e w m p x) := by
  obtain ⟨h1, h2, h3⟩ := hf
  intro q hq
  cases p with
  | none => cases hq
  | some p => exact stp_valp (by omega) h2 h3 hw hm (hp p rfl) hq
theorem beg_v {b e : Nat} {w m : Str} (hb : 1 ≤ b) : vpl b e w m (some (beg w)) := fun q hq => by cases hq; exact valp_beg hb
def vpr (b e : Nat) (w m w' m' : Str) (p : Pr) : Prop := vpl b e w m p.1 ∧ vpl b e w' m' p.2
theorem nx2_v {b e : Nat} {w m w' m' : Str} {p : Pr} {x : Int} (hf : okf b e) (hw : way w) (hm : md m) (hw' : way w') (hm' : md m') (hp : vpr b e w m w' m' p) : vpr b e w m w' m' (nx2 b e w m w' m' p x) := ⟨aft_v hf hw hm hp.1, aft_v hf hw' hm' hp.2⟩
/-- how many there are -/
def plU : List Pl := none :: ((List.range 127).map fun i : Nat => some [(i : Int) - 63]) ++ (List.range 31).flatMap fun i : Nat => (List.range 31).map fun j : Nat => some [(i : Int) - 15, (j : Int) - 15]
theorem len_prod {α β γ : Type} {f : α → β → γ} {B : List β} : ∀ {A : List α}, (A.flatMap fun p => B.map fun q => f p q).length = A.length * B.length
  | [] => by simp
  | a :: A => by
    rw [List.flatMap_cons, List.length_append, List.length_map, len_prod, List.length_cons, Nat.add_mul, Nat.one_mul, Nat.add_comm]
theorem plU_len : plU.length = 1089 := by
  unfold plU
  rw [List.length_append, List.length_cons, List.length_map, List.length_range, len_prod, List.length_range]
def prU : List Pr := plU.flatMap fun p => plU.map fun q => (p, q)
theorem prU_len : prU.length = 1185921 := by
  unfold prU
  rw [len_prod, plU_len]
theorem num_lt {b e k : Nat} {x : Int} (h : num b e x) (hk : b + e ≤ k) : x.natAbs < 2 ^ k := by
  have h2 := h.2
  rw [grt_nat] at h2
  have h3 : (2 ^ b - 1) * 2 ^ e < 2 ^ b * 2 ^ e := Nat.mul_lt_mul_of_pos_right (by have := Nat.two_pow_pos b; omega) (Nat.two_pow_pos e)
  rw [← Nat.pow_add] at h3
  have h4 : 2 ^ (b + e) ≤ 2 ^ k := Nat.pow_le_pow_right (by decide) hk
  omega
theorem vpl_U {b e : Nat} {w m : Str} {p : Pl} (hf : okf b e) (hw : way w) (h4 : b + e ≤ 4) (hp : vpl b e w m p) : p ∈ plU := by
  cases p with
  | none => exact List.mem_append_left _ List.mem_cons_self
  | some q =>
    have hq := hp q rfl
    have hpc := valp_plc (by omega) hf.2.2 hq
    by_cases h6 : two w = true
    · obtain ⟨x, y, rfl, _, _⟩ := plc_two hpc h6
      have hk := wk_two hw h6
      have hx := num_lt (k := 4) (hq.2.1 x (by simp)) (by omega)
      have hy := num_lt (k := 4) (hq.2.1 y (by simp)) (by omega)
      refine List.mem_append_right _ (List.mem_flatMap.mpr ⟨(x + 15).toNat, List.mem_range.mpr (by omega), List.mem_map.mpr ⟨(y + 15).toNat, List.mem_range.mpr (by omega), ?_⟩⟩)
      rw [show ((x + 15).toNat : Int) - 15 = x by omega, show ((y + 15).toNat : Int) - 15 = y by omega]
    · obtain ⟨x, rfl, _⟩ := plc_one hpc (by simpa using h6)
      have hx := num_lt (k := 6) (hq.2.1 x (by simp)) (by have := wk_le w; omega)
      refine List.mem_append_left _ (List.mem_cons_of_mem _ (List.mem_map.mpr ⟨(x + 63).toNat, List.mem_range.mpr (by omega), ?_⟩))
      rw [show ((x + 63).toNat : Int) - 63 = x by omega]
theorem vpr_U {b e : Nat} {w m w' m' : Str} {p : Pr} (hf : okf b e) (hw : way w) (hw' : way w') (h4 : b + e ≤ 4) (hp : vpr b e w m w' m' p) : p ∈ prU :=
  List.mem_flatMap.mpr ⟨p.1, vpl_U hf hw h4 hp.1, List.mem_map.mpr ⟨p.2, vpl_U hf hw' h4 hp.2, rfl⟩⟩
theorem prs_le {b e : Nat} {w m w' m' : Str} {S : List Pr} (hf : okf b e) (hw : way w) (hw' : way w') (h4 : b + e ≤ 4) (hn : S.Nodup) (hS : ∀ p, p ∈ S → vpr b e w m w' m' p) : S.length ≤ 1185921 := by
  rw [← prU_len]
  exact nodup_le hn fun p hp => vpr_U hf hw hw' h4 (hS p hp)
/-! as keys -/
def encP (p : Pr) : D := .tuple [plD p.1, plD p.2]
theorem enc_pl (p q : Pl) : toNK (plD p) = toNK (plD q) ↔ p = q := by
  cases p with
  | none =>
    cases q with
    | none => exact ⟨fun _ => rfl, fun _ => rfl⟩
    | some q =>
      refine ⟨fun h => ?_, fun h => (nomatch h)⟩
      change toNK .none = toNK (.tuple (q.map .int)) at h
      rw [nk_ints] at h
      simp only [toNK] at h
      cases h
  | some p =>
    cases q with
    | none =>
      refine ⟨fun h => ?_, fun h => (nomatch h)⟩
      change toNK (.tuple (p.map .int)) = toNK .none at h
      rw [nk_ints] at h
      simp only [toNK] at h
      cases h
    | some q =>
      rw [show plD (some p) = .tuple (p.map .int) from rfl, show plD (some q) = .tuple (q.map .int) from rfl, enc_ints]
      exact ⟨fun h => by rw [h], fun h => Option.some.inj h⟩
theorem nk_pl (p : Pl) : ∃ k, toNK (plD p) = some k ∧ k.depth ≤ 1 := by
  cases p with
  | none => exact ⟨.none, by rw [show plD none = PyData.none from rfl]; simp only [toNK], by simp only [NestedKey.depth]; decide⟩
  | some p => exact ⟨_, nk_ints p, by simp only [NestedKey.depth, depths_num]; decide⟩
theorem enc_P (p q : Pr) : toNK (encP p) = toNK (encP q) ↔ p = q := by
  obtain ⟨p1, p2⟩ := p
  obtain ⟨q1, q2⟩ := q
  constructor
  · intro h
    unfold encP at h
    obtain ⟨k1, a1, _⟩ := nk_pl p1
    obtain ⟨k2, a2, _⟩ := nk_pl p2
    obtain ⟨l1, b1, _⟩ := nk_pl q1
    obtain ⟨l2, b2, _⟩ := nk_pl q2
    simp only [toNK, toNKs, a1, a2, b1, b2] at h
    simp at h
    rw [(enc_pl p1 q1).mp (by rw [a1, b1, h.1]), (enc_pl p2 q2).mp (by rw [a2, b2, h.2])]
  · intro h; rw [h]
theorem nkOk_P (p : Pr) : nkOk (encP p) = true := by
  obtain ⟨p1, p2⟩ := p
  obtain ⟨k1, a1, d1⟩ := nk_pl p1
  obtain ⟨k2, a2, d2⟩ := nk_pl p2
  unfold nkOk encP
  simp only [toNK, toNKs, a1, a2]
  refine decide_eq_true ?_
  simp only [NestedKey.depth, NestedKey.depthAll]
  omega
def vU (_ : Unit) : D := .bool true
def prD (S : List Pr) : List (D × D) := dL encP vU (S.map fun k => (k, ()))
theorem pr_get {S : List Pr} {k : Pr} : (dGet (prD S) (encP k)).isSome = decide (k ∈ S) := by
  unfold prD
  rw [dGet_L enc_P, Option.isSome_map, lookup_mem]
  exact decide_eq_decide.mpr Iff.rfl
theorem pr_put {S : List Pr} {k : Pr} (h : k ∉ S) : dPut (prD S) (encP k) (.bool true) = prD (S ++ [k]) := by
  unfold prD
  rw [show (PyData.bool true) = vU () from rfl, dPut_new enc_P (by rw [List.map_map]; intro q; obtain ⟨x, hx, e⟩ := List.mem_map.mp q; exact h (by rw [← e]; exact hx)), List.map_append]
  rfl
theorem pr_key {S : List Pr} {k : Pr} : keyT (encP k) (prD S) = true := keyT_L (fun _ => rfl) (nkOk_P k)
theorem pr_len {S : List Pr} : (prD S).length = S.length := by unfold prD; rw [dL_len, List.length_map]
def itP (it : Itm Pr) : D := .tuple [.list (it.1.map .int), plD it.2.1, plD it.2.2]
def itL (it : Itm Pr) : D := .tuple [.list (it.1.map .int), encP it.2]
def rowO (o : Option (List Int)) : RV := match o with
  | some r => .fl (r.map .int)
  | none => .d .none
def rowI (r : List Int) : RV := .fl (r.map .int)
theorem wh_outX {c : DM Bool} {b : DM Fl} {ks : List Nat} {m : Nat} {s : S} {X : R Fl} (hX : whileL c b ks m s = X) (I : Nat → S → Prop) (Q : S → Prop) (A : RV → S → Prop) (n : Nat) (p : I n s) (hn : n < m) (h : ∀ n s, I n s → okB (c s) (fun s1 => okF (b s1) (fun s2 => ∃ m, m < n ∧ I m (killS ks s2)) A) Q) : outX X Q A := by
  have := wh_out I Q A h m n s p hn
  rw [hX] at this
  exact this
theorem sh_pl {k : Nat} {p : Pl} : sh (k + 1) (plD p) := by
  cases p with
  | none => exact sh_none
  | some p => exact sh_tuple (sh_map fun _ => sh_int)
theorem sh_itP {it : Itm Pr} : sh 63 (itP it) := sh_tuple (sh_cons (sh_list (sh_map fun _ => sh_int)) (sh_cons sh_pl (sh_cons sh_pl sh_nil)))
theorem sh_itL {it : Itm Pr} : sh 63 (itL it) := sh_tuple (sh_cons (sh_list (sh_map fun _ => sh_int)) (sh_cons (sh_tuple (sh_cons sh_pl (sh_cons sh_pl sh_nil))) sh_nil))
theorem ne_nil_map {α : Type} {f : α → D} {xs : List α} (h : ∀ x, sh 63 (f x)) : gNe (.list (xs.map f)) (.list []) = some (.bool (decide (xs ≠ []))) := by
  rw [gNe_of (sh_list (sh_map h)) (sh_list sh_nil), v_eqvll]
  cases xs with
  | nil => rw [List.map_nil, v_eqvA0]; rfl
  | cons x xs => rw [List.map_cons]; simp [PyData.eqvAll]
end DL

namespace DL
open PySem PySem.Spec PyProof.Rows L2
/-! the last of [0] and the totals (G_totals_of) -/
theorem tld_beg {b e : Nat} {w m : Str} (hb : 1 ≤ b) : tld b e w m (beg w) = some 0 := by
  have r0 : rnd b e m 0 = some 0 := rnd_id hb num_zero
  unfold beg
  split
  · show (if w = "kept" then some (0 : Int) else rnd b e m (0 + 0)) = some 0
    split
    · rfl
    · rw [Int.add_zero, r0]
  · show (if w = "plain" then some (0 : Int) else rnd b e m 0) = some 0
    split
    · rfl
    · rw [r0]
/-- the last of [0] and the totals -/
theorem last_tot {b e : Nat} {w m : Str} {r : List Int} (hb : 1 ≤ b) : ([PyData.int 0] ++ (totT b e w m r).map oD).getLast? = some (oD (endT b e w m r)) := by
  by_cases h : r = []
  · subst h
    show some (PyData.int 0) = some (oD ((some (beg w)).bind (tld b e w m)))
    rw [show (some (beg w)).bind (tld b e w m) = tld b e w m (beg w) from rfl, tld_beg hb]
    rfl
  · have h1 := totT_last (b := b) (e := e) (w := w) (m := m) h
    rw [List.getLast?_append, List.getLast?_map, h1]
    rfl
end DL

namespace DL
open PySem PySem.Spec PyProof.Rows L2
/-- an end in True -/
def isT (r : R Fl) : Bool := match r with | .ok (.rt (.d (.bool true))) _ => true | _ => false
theorem isT_ok {r : R Fl} (h : isT r = true) : ∃ s, r = .ok (.rt (.d (.bool true))) s := by
  unfold isT at h
  split at h
  · exact ⟨_, rfl⟩
  · cases h
end DL

namespace DL
open PySem PySem.Spec PyProof.Rows L2
/-! growth of the error: plain Lean -/
def tv (b e : Nat) (w m : Str) (p : List Int) : Int := (tld b e w m p).getD 0
def gn (b e : Nat) (w m : Str) (p q : List Int) (x : Int) : Int := tv b e w m q - tv b e w m p - x
abbrev Stp := Int × List Int × Int
def stepsR (b e : Nat) (w m : Str) (L : List Int) (p : List Int) : List Stp := L.filterMap fun x => (stp b e w m p x).map fun q => (x, q, gn b e w m p q x)
def stepD (t : Stp) : D := .tuple [.int t.1, pD t.2.1, .int t.2.2]
abbrev Rg := Option (Int × Int)
def mmR (rs : List (Int × Int)) : Rg := (mnI (rs.map (·.1))).bind fun a => (mxI (rs.map (·.2))).map fun c => (a, c)
def rngR (b e : Nat) (w m : Str) (L : List Int) : Nat → List Int → Rg
  | 0, _ => some (0, 0)
  | k + 1, p => mmR ((stepsR b e w m L p).filterMap fun t => (rngR b e w m L k t.2.1).map fun r => (t.2.2 + r.1, t.2.2 + r.2))
def rgD (r : Rg) : D := match r with
  | none => .none
  | some (a, c) => .tuple [.int a, .int c]
abbrev Mk := List Int × Nat
abbrev Mm := List (Mk × Rg)
def enK (k : Mk) : D := .tuple [pD k.1, .int (k.2 : Nat)]
def mmD (M : Mm) : List (D × D) := dL enK rgD M
theorem enc_K (k l : Mk) : toNK (enK k) = toNK (enK l) ↔ k = l := by
  obtain ⟨p, n⟩ := k
  obtain ⟨q, n'⟩ := l
  constructor
  · intro h
    unfold enK pD at h
    simp only [toNK, toNKs, nks_ints] at h
    simp at h
    obtain ⟨h1, h2⟩ := h
    rw [num_map_inj.mp h1]
    congr 1
    omega
  · intro h; rw [h]
theorem nkOk_K (k : Mk) : nkOk (enK k) = true := by
  unfold nkOk enK pD
  simp only [toNK, toNKs, nks_ints]
  refine decide_eq_true ?_
  simp only [NestedKey.depth, NestedKey.depthAll, depths_num]
  omega
theorem mm_key {M : Mm} {k : Mk} : keyT (enK k) (mmD M) = true := keyT_L (fun _ => rfl) (nkOk_K k)
theorem mm_len {M : Mm} : (mmD M).length = M.length := dL_len
structure gM (b e : Nat) (w m : Str) (L : List Int) (M : Mm) : Prop where
  nod : (M.map (·.1)).Nodup
  val : ∀ k v, (k, v) ∈ M → valp b e w m k.1 ∧ k.2 ≤ 40 ∧ v = rngR b e w m L k.2 k.1
def mkU : List Mk := plU.flatMap fun p => (List.range 41).map fun n => (p.getD [], n)
theorem gM_len {b e : Nat} {w m : Str} {L : List Int} {M : Mm} (hf : okf b e) (hw : way w) (h4 : b + e ≤ 4) (h : gM b e w m L M) : M.length ≤ 44649 := by
  have h1 := nodup_le (l := M.map (·.1)) (U := mkU) h.nod (by
    intro k hk
    obtain ⟨q, hq, rfl⟩ := List.mem_map.mp hk
    obtain ⟨v1, v2, _⟩ := h.val q.1 q.2 hq
    exact List.mem_flatMap.mpr ⟨some q.1.1, vpl_U hf hw h4 (m := m) (fun p hp => by cases hp; exact v1), List.mem_map.mpr ⟨q.1.2, List.mem_range.mpr (by omega), rfl⟩⟩)
  rw [List.length_map] at h1
  unfold mkU at h1
  rw [len_prod, plU_len, List.length_range] at h1
  omega
def lkM (M : Mm) (k : Mk) : Option Rg := @List.lookup _ _ instBEqOfDecidableEq k M
theorem mm_get {M : Mm} {k : Mk} : dGet (mmD M) (enK k) = (lkM M k).map rgD := dGet_L enc_K M k
theorem mm_put {M : Mm} {k : Mk} {v : Rg} (h : k ∉ M.map (·.1)) : dPut (mmD M) (enK k) (rgD v) = mmD (M ++ [(k, v)]) := dPut_new enc_K h
theorem gM_get {b e : Nat} {w m : Str} {L : List Int} {M : Mm} {k : Mk} (h : gM b e w m L M) (hk : k ∈ M.map (·.1)) : dGet (mmD M) (enK k) = some (rgD (rngR b e w m L k.2 k.1)) := by
  rw [mm_get]
  unfold lkM
  cases e1 : @List.lookup _ _ instBEqOfDecidableEq k M with
  | none => exact absurd hk (lookup_none.mp e1)
  | some v => rw [(h.val k v (lookup_some e1)).2.2]; rfl
theorem gM_none {M : Mm} {k : Mk} (hk : k ∉ M.map (·.1)) : dGet (mmD M) (enK k) = none := by
  rw [mm_get]
  unfold lkM
  rw [lookup_none.mpr hk]; rfl
theorem gM_add {b e : Nat} {w m : Str} {L : List Int} {M : Mm} {k : Mk} (h : gM b e w m L M) (hk : k ∉ M.map (·.1)) (hv : valp b e w m k.1) (hn : k.2 ≤ 40) : gM b e w m L (M ++ [(k, rngR b e w m L k.2 k.1)]) := by
  refine ⟨?_, fun k' v hm => ?_⟩
  · rw [List.map_append, List.nodup_append]
    refine ⟨h.nod, by simp, fun a ha c hc q => ?_⟩
    rw [List.map_cons, List.map_nil, List.mem_singleton] at hc
    have hc' : c = k := hc
    exact hk (by rw [← hc', ← q]; exact ha)
  · rcases List.mem_append.mp hm with hm | hm
    · exact h.val k' v hm
    · cases List.mem_singleton.mp hm
      exact ⟨hv, hn, rfl⟩
theorem steps_valp {b e : Nat} {w m : Str} {L : List Int} {p : List Int} (hf : okf b e) (hw : way w) (hm : md m) (hp : valp b e w m p) {t : Stp} (ht : t ∈ stepsR b e w m L p) : t.1 ∈ L ∧ stp b e w m p t.1 = some t.2.1 ∧ valp b e w m t.2.1 ∧ t.2.2 = gn b e w m p t.2.1 t.1 := by
  obtain ⟨x, hx, h⟩ := List.mem_filterMap.mp ht
  obtain ⟨q, hq, rfl⟩ := Option.map_eq_some_iff.mp h
  exact ⟨hx, hq, stp_valp (by have := hf.1; omega) hf.2.1 hf.2.2 hw hm hp hq, rfl⟩
end DL

namespace DL
open PySem PySem.Spec PyProof.Rows L2
/-! the errors of all rows of a length: plain Lean (G_totals_of) -/
/-- the least and the greatest of what P holds of -/
def IsMM (P : Int → Prop) : Rg → Prop
  | none => ∀ v, ¬ P v
  | some (a, c) => P a ∧ P c ∧ ∀ v, P v → a ≤ v ∧ v ≤ c
theorem IsMM.uniq {P : Int → Prop} {r q : Rg} (h : IsMM P r) (k : IsMM P q) : r = q := by
  cases r with
  | none =>
    cases q with
    | none => rfl
    | some q => obtain ⟨a, c⟩ := q; exact absurd k.1 (h a)
  | some r =>
    obtain ⟨a, c⟩ := r
    cases q with
    | none => exact absurd h.1 (k a)
    | some q =>
      obtain ⟨a', c'⟩ := q
      have h1 := h.2.2 a' k.1
      have h2 := h.2.2 c' k.2.1
      have h3 := k.2.2 a h.1
      have h4 := k.2.2 c h.2.1
      have e1 : a = a' := by omega
      have e2 : c = c' := by omega
      rw [e1, e2]
theorem IsMM.congr {P Q : Int → Prop} {r : Rg} (h : IsMM P r) (e : ∀ v, P v ↔ Q v) : IsMM Q r := by
  have : P = Q := funext fun v => propext (e v)
  rw [← this]; exact h
theorem mn_some {xs : List Int} (h : xs ≠ []) : ∃ a, mnI xs = some a := by
  cases xs with
  | nil => exact absurd rfl h
  | cons x xs => exact ⟨_, rfl⟩
theorem mx_some {xs : List Int} (h : xs ≠ []) : ∃ a, mxI xs = some a := by
  cases xs with
  | nil => exact absurd rfl h
  | cons x xs => exact ⟨_, rfl⟩
/-- of a list -/
def mmL (xs : List Int) : Rg := (mnI xs).bind fun a => (mxI xs).map fun c => (a, c)
theorem mmL_is (xs : List Int) : IsMM (fun v => v ∈ xs) (mmL xs) := by
  by_cases h : xs = []
  · subst h; exact fun v hv => (nomatch hv)
  · obtain ⟨a, ha⟩ := mn_some h
    obtain ⟨c, hc⟩ := mx_some h
    have e : mmL xs = some (a, c) := by unfold mmL; rw [ha, hc]; rfl
    rw [e]
    have h1 := mnI_spec ha
    have h2 := mxI_spec hc
    exact ⟨h1.1, h2.1, fun v hv => ⟨h1.2 v hv, h2.2 v hv⟩⟩
/-- the growth along a row -/
def gro (b e : Nat) (w m : Str) : List Int → List Int → Option Int
  | _, [] => some 0
  | p, x :: r => (stp b e w m p x).bind fun q => (gro b e w m q r).map fun v => gn b e w m p q x + v
def foR (b e : Nat) (w m : Str) (o : Option (List Int)) (r : List Int) : Option (List Int) := r.foldl (fun c x => c.bind fun p => stp b e w m p x) o
theorem foR_none {b e : Nat} {w m : Str} : ∀ r : List Int, foR b e w m none r = none
  | [] => rfl
  | x :: r => foR_none r
theorem foR_cons {b e : Nat} {w m : Str} {p : List Int} {x : Int} {r : List Int} : foR b e w m (some p) (x :: r) = (stp b e w m p x).bind fun q => foR b e w m (some q) r := by
  show foR b e w m (stp b e w m p x) r = _
  cases stp b e w m p x with
  | none => exact foR_none r
  | some q => rfl
/-- it telescopes -/
theorem gro_eq {b e : Nat} {w m : Str} : ∀ {r : List Int} {p : List Int}, gro b e w m p r = (foR b e w m (some p) r).map fun q => tv b e w m q - tv b e w m p - r.sum
  | [], p => by show some (0 : Int) = some _; congr 1; simp
  | x :: r, p => by
    rw [foR_cons]
    unfold gro
    cases stp b e w m p x with
    | none => rfl
    | some q =>
      show (gro b e w m q r).map _ = (foR b e w m (some q) r).map _
      rw [gro_eq, Option.map_map]
      congr 1
      funext z
      show gn b e w m p q x + (tv b e w m z - tv b e w m q - r.sum) = _
      unfold gn
      rw [List.sum_cons]
      omega
/-- the ranges are those of all rows -/
theorem rngR_is {b e : Nat} {w m : Str} {L : List Int} : ∀ (k : Nat) (p : List Int), IsMM (fun v => ∃ r : List Int, r.length = k ∧ (∀ x, x ∈ r → x ∈ L) ∧ gro b e w m p r = some v) (rngR b e w m L k p)
  | 0, p => by
    show IsMM _ (some (0, 0))
    refine ⟨⟨[], rfl, fun x h => (nomatch h), rfl⟩, ⟨[], rfl, fun x h => (nomatch h), rfl⟩, ?_⟩
    rintro v ⟨r, h1, _, h3⟩
    rw [List.eq_nil_of_length_eq_zero h1] at h3
    cases h3
    exact ⟨Int.le_refl _, Int.le_refl _⟩
  | k + 1, p => by
    have ih := rngR_is (b := b) (e := e) (w := w) (m := m) (L := L) k
    show IsMM _ (mmR ((stepsR b e w m L p).filterMap fun t => (rngR b e w m L k t.2.1).map fun r => (t.2.2 + r.1, t.2.2 + r.2)))
    have inv : ∀ pr, pr ∈ (stepsR b e w m L p).filterMap (fun t => (rngR b e w m L k t.2.1).map fun r => (t.2.2 + r.1, t.2.2 + r.2)) ↔ ∃ x q a c, x ∈ L ∧ stp b e w m p x = some q ∧ rngR b e w m L k q = some (a, c) ∧ pr = (gn b e w m p q x + a, gn b e w m p q x + c) := by
      intro pr
      rw [List.mem_filterMap]
      constructor
      · rintro ⟨t, ht, h⟩
        obtain ⟨x, hx, hxt⟩ := List.mem_filterMap.mp ht
        obtain ⟨q, hq, rfl⟩ := Option.map_eq_some_iff.mp hxt
        obtain ⟨⟨a, c⟩, hr, rfl⟩ := Option.map_eq_some_iff.mp h
        exact ⟨x, q, a, c, hx, hq, hr, rfl⟩
      · rintro ⟨x, q, a, c, hx, hq, hr, rfl⟩
        refine ⟨(x, q, gn b e w m p q x), List.mem_filterMap.mpr ⟨x, hx, by rw [hq]; rfl⟩, ?_⟩
        show (rngR b e w m L k q).map _ = _
        rw [hr]; rfl
    have split : ∀ v, (∃ r : List Int, r.length = k + 1 ∧ (∀ x, x ∈ r → x ∈ L) ∧ gro b e w m p r = some v) ↔ ∃ x q u, x ∈ L ∧ stp b e w m p x = some q ∧ v = gn b e w m p q x + u ∧ ∃ r : List Int, r.length = k ∧ (∀ x, x ∈ r → x ∈ L) ∧ gro b e w m q r = some u := by
      intro v
      constructor
      · rintro ⟨r, h1, h2, h3⟩
        cases r with
        | nil => cases h1
        | cons x r =>
          unfold gro at h3
          cases hq : stp b e w m p x with
          | none => rw [hq] at h3; cases h3
          | some q =>
            rw [hq] at h3
            obtain ⟨u, hu, rfl⟩ := Option.map_eq_some_iff.mp (show (gro b e w m q r).map _ = some v from h3)
            exact ⟨x, q, u, h2 x List.mem_cons_self, hq, rfl, r, by simpa using h1, fun y hy => h2 y (List.mem_cons_of_mem _ hy), hu⟩
      · rintro ⟨x, q, u, hx, hq, rfl, r, h1, h2, h3⟩
        refine ⟨x :: r, by rw [List.length_cons, h1], fun y hy => ?_, ?_⟩
        · rcases List.mem_cons.mp hy with rfl | hy
          · exact hx
          · exact h2 y hy
        · unfold gro
          rw [hq]
          show (gro b e w m q r).map _ = _
          rw [h3]; rfl
    generalize (stepsR b e w m L p).filterMap (fun t => (rngR b e w m L k t.2.1).map fun r => (t.2.2 + r.1, t.2.2 + r.2)) = rs at inv
    by_cases hrs : rs = []
    · rw [hrs]
      show ∀ v, ¬ _
      intro v hv
      obtain ⟨x, q, u, hx, hq, rfl, hr⟩ := (split v).mp hv
      have ihq := ih q
      cases hrr : rngR b e w m L k q with
      | none => rw [hrr] at ihq; exact ihq u hr
      | some ac =>
        obtain ⟨a, c⟩ := ac
        have := (inv (gn b e w m p q x + a, gn b e w m p q x + c)).mpr ⟨x, q, a, c, hx, hq, hrr, rfl⟩
        rw [hrs] at this
        exact (nomatch this)
    · have hn1 : rs.map (·.1) ≠ [] := fun h => hrs (List.map_eq_nil_iff.mp h)
      have hn2 : rs.map (·.2) ≠ [] := fun h => hrs (List.map_eq_nil_iff.mp h)
      obtain ⟨a, ha⟩ := mn_some hn1
      obtain ⟨c, hc⟩ := mx_some hn2
      have hmm : mmR rs = some (a, c) := by unfold mmR; rw [ha, hc]; rfl
      rw [hmm]
      obtain ⟨ha1, ha2⟩ := mnI_spec ha
      obtain ⟨hc1, hc2⟩ := mxI_spec hc
      obtain ⟨pr1, hp1, e1⟩ := List.mem_map.mp ha1
      obtain ⟨pr2, hp2, e2⟩ := List.mem_map.mp hc1
      refine ⟨?_, ?_, fun v hv => ?_⟩
      · obtain ⟨x, q, a', c', hx, hq, hr, rfl⟩ := (inv pr1).mp hp1
        have ihq := ih q
        rw [hr] at ihq
        exact (split _).mpr ⟨x, q, a', hx, hq, e1.symm, ihq.1⟩
      · obtain ⟨x, q, a', c', hx, hq, hr, rfl⟩ := (inv pr2).mp hp2
        have ihq := ih q
        rw [hr] at ihq
        exact (split _).mpr ⟨x, q, c', hx, hq, e2.symm, ihq.2.1⟩
      · obtain ⟨x, q, u, hx, hq, rfl, hr⟩ := (split v).mp hv
        have ihq := ih q
        cases hrr : rngR b e w m L k q with
        | none => rw [hrr] at ihq; exact absurd hr (ihq u)
        | some ac =>
          obtain ⟨a', c'⟩ := ac
          rw [hrr] at ihq
          have hu := ihq.2.2 u hr
          have hin := (inv (gn b e w m p q x + a', gn b e w m p q x + c')).mpr ⟨x, q, a', c', hx, hq, hrr, rfl⟩
          have h1 := ha2 _ (List.mem_map.mpr ⟨_, hin, rfl⟩)
          have h2 := hc2 _ (List.mem_map.mpr ⟨_, hin, rfl⟩)
          dsimp only at h1 h2
          omega
/-- .. from the beginning: totals less sums -/
theorem rngR_beg {b e : Nat} {w m : Str} {L : List Int} (hb : 1 ≤ b) (k : Nat) : IsMM (fun v => ∃ r, r ∈ rowsK L k ∧ (endT b e w m r).map (fun t => t - r.sum) = some v) (rngR b e w m L k (beg w)) := by
  refine (rngR_is k (beg w)).congr fun v => ?_
  have h0 : tv b e w m (beg w) = 0 := by unfold tv; rw [tld_beg hb]; rfl
  have key : ∀ r : List Int, gro b e w m (beg w) r = (endT b e w m r).map fun t => t - r.sum := by
    intro r
    rw [gro_eq]
    unfold endT
    rw [show foR b e w m (some (beg w)) r = endP b e w m r from rfl, h0]
    cases hq : endP b e w m r with
    | none => rfl
    | some q =>
      have hs : (tld b e w m q).isSome = true := by
        by_cases hr : r = []
        · subst hr
          cases hq
          rw [tld_beg hb]; rfl
        · obtain ⟨xs, x, rfl⟩ : ∃ xs x, r = xs ++ [x] := ⟨r.dropLast, r.getLast hr, (List.dropLast_concat_getLast hr).symm⟩
          rw [endP_snoc] at hq
          obtain ⟨p, _, hpq⟩ := Option.bind_eq_some_iff.mp hq
          exact stp_tld hpq
      obtain ⟨t, ht⟩ := Option.isSome_iff_exists.mp hs
      show some (tv b e w m q - 0 - r.sum) = (tld b e w m q).map fun t => t - r.sum
      unfold tv
      rw [ht]
      show some (t - 0 - r.sum) = some (t - r.sum)
      congr 1
      omega
  constructor
  · rintro ⟨r, h1, h2, h3⟩
    exact ⟨r, rowsK_mem.mpr ⟨h1, h2⟩, by rw [← key]; exact h3⟩
  · rintro ⟨r, h1, h3⟩
    obtain ⟨h4, h5⟩ := rowsK_mem.mp h1
    exact ⟨r, h4, h5, by rw [key]; exact h3⟩
end DL

namespace DL
open PySem PySem.Spec PyProof.Rows L2
def mgF (le : D → D → Bool) : Nat → List D → List D → List D
  | 0, xs, ys => xs ++ ys
  | _ + 1, [], ys => ys
  | _ + 1, x :: xs, [] => x :: xs
  | n + 1, x :: xs, y :: ys => if le x y then x :: mgF le n xs (y :: ys) else y :: mgF le n (x :: xs) ys
theorem mgF_eq (le : D → D → Bool) : ∀ (n : Nat) (xs ys : List D), xs.length + ys.length ≤ n → mgF le n xs ys = List.merge xs ys le
  | 0, xs, ys, h => by
    have h1 : xs = [] := List.length_eq_zero_iff.mp (by omega)
    have h2 : ys = [] := List.length_eq_zero_iff.mp (by omega)
    subst h1 h2
    simp [mgF]
  | _ + 1, [], ys, _ => by simp [mgF]
  | _ + 1, x :: xs, [], _ => by simp [mgF]
  | n + 1, x :: xs, y :: ys, h => by
    rw [List.cons_merge_cons]
    simp only [List.length_cons] at h
    show (if le x y then _ else _) = _
    rw [mgF_eq le n xs (y :: ys) (by simp only [List.length_cons]; omega), mgF_eq le n (x :: xs) ys (by simp only [List.length_cons]; omega)]
def msF (le : D → D → Bool) : Nat → List D → List D
  | 0, l => l
  | _ + 1, [] => []
  | _ + 1, [a] => [a]
  | n + 1, a :: b :: xs => mgF le (xs.length + 2) (msF le n ((a :: b :: xs).take ((xs.length + 3) / 2))) (msF le n ((a :: b :: xs).drop ((xs.length + 3) / 2)))
theorem msF_eq (le : D → D → Bool) : ∀ (n : Nat) (l : List D), l.length ≤ n + 1 → msF le n l = l.mergeSort le
  | 0, l, h => by
    match l, h with
    | [], _ => simp [msF]
    | [a], _ => simp [msF]
  | _ + 1, [], _ => by simp [msF]
  | _ + 1, [a], _ => by simp [msF]
  | n + 1, a :: b :: xs, h => by
    simp only [List.length_cons] at h
    have h1 : ((a :: b :: xs).take ((xs.length + 3) / 2)).length ≤ n + 1 := by rw [List.length_take]; simp only [List.length_cons]; omega
    have h2 : ((a :: b :: xs).drop ((xs.length + 3) / 2)).length ≤ n + 1 := by rw [List.length_drop]; simp only [List.length_cons]; omega
    show mgF le (xs.length + 2) (msF le n _) (msF le n _) = _
    rw [msF_eq le n _ h1, msF_eq le n _ h2, mgF_eq]
    · rw [List.mergeSort]
      simp only [List.MergeSort.Internal.splitInTwo_fst, List.MergeSort.Internal.splitInTwo_snd, List.length_cons]
    · rw [List.length_mergeSort, List.length_mergeSort, List.length_take, List.length_drop]
      simp only [List.length_cons]
      omega
theorem sortD_ms (l : List D) : sortD l = msF (PySem.W.dataLe false id) l.length l := (msF_eq _ _ _ (Nat.le_succ _)).symm
def gSortD1 : D → Option (List D)
  | .list ds => if sortOk ds then some (msF (PySem.W.dataLe false id) ds.length ds) else none
  | _ => none
theorem gSortD_1 : gSortD = gSortD1 := by
  funext d
  cases d <;> simp only [gSortD, gSortD1, sortD_ms]
def gSortK1 : D → Option (List D)
  | .dict kvs => if sortOk (kvs.map (·.1)) && lenOk kvs.length then some (msF (PySem.W.dataLe false id) (kvs.map (·.1)).length (kvs.map (·.1))) else none
  | _ => none
theorem gSortK_1 : gSortK = gSortK1 := by
  funext d
  cases d <;> simp only [gSortK, gSortK1, sortD_ms]
def FE_spoiling_row : DM Fl :=
    (seqM (sDrop (callF G_need_summed (eCons (eVar 0) (eCons (eVar 1) (eCons (eVar 2) eNil)))))
    (seqM (sSet 3 (callF G_first_rows (eCons (eVar 0) (eCons (eVar 1) (eCons (eVar 2) eNil)))))
    (seqM (sFor [4, 5, 6, 7] (iSeq (asD (fNew (e1 gSortD1 (.g (asD (eLc [6] (iKeys (eVar 3)) (tName 6) (pureM true) (eTup (eCons (e1 gLen (.g (e2 gGetD (.n 3) (.n 6)))) (eCons (e2 gGetD (.n 3) (.n 6)) (eCons (eVar 6) eNil))))))))))) (tTupG 3 (tConsG (tName 4) (tConsG (tName 5) (tConsG (tName 6) tNilG)))) (sFor [7] (iSeq (eVar 2)) (tName 7) (sIf (tB1 (e2 gIsN (.g (asD (callF G_step (eCons (eVar 0) (eCons (eVar 1) (eCons (eVar 6) (eCons (eVar 7) eNil))))))) (.g (eC .none)))) (sRet (fNew (e2 gCat (.n 5) (.g (asD (eLst (eCons (eVar 7) eNil))))))) (pureM .nx))))
    (sRet (asRV (eC .none))))))
def GE_spoiling_row (ds : List D) : PR := if ds.length == 3 then runF FE_spoiling_row 8 ds else .bad
theorem GE_spoiling_row_eq : G_spoiling_row = GE_spoiling_row := by
  funext ds
  unfold G_spoiling_row GE_spoiling_row F_spoiling_row FE_spoiling_row
  rw [gSortD_1]
def FE_places : DM Fl :=
    (seqM (sDrop (callF G_need_summed (eCons (eVar 0) (eCons (eVar 1) (eCons (eVar 2) eNil)))))
    (sRet (fNew (e1 gSortK1 (.g (asD (callF G_first_rows (eCons (eVar 0) (eCons (eVar 1) (eCons (eVar 2) eNil))))))))))
def GE_places (ds : List D) : PR := if ds.length == 3 then runF FE_places 3 ds else .bad
theorem GE_places_eq : G_places = GE_places := by
  funext ds
  unfold G_places GE_places F_places FE_places
  rw [gSortK_1]
def lawR : DM Fl :=
    (seqM (sPar [4, 5] (fCons (asRV (eTup (eCons (eC (.str "plain")) (eCons (eVar 3) eNil)))) (fCons (asRV (e2 gAdd (.g (asD (callF G_l_top (eCons (eTup (eCons (e2 gIx (.n 2) (.g (eC (.int 0)))) (eCons (eC (.int 0)) eNil))) eNil)))) (.g (eC (.int 1))))) fNil)))
    (seqM (sSet 6 (asRV (dgetK1 [("even", (eVar 5)), ("down", (eVar 5)), ("zero", (eVar 5)), ("away", (e2 gMul (.g (eC (.int 2))) (.n 5)))] (eVar 3))))
    (seqM (sIf (bAnd (tB1 (e2 gEq (.n 3) (.g (eC (.str "away"))))) (tB1 (e2 gEq (.g (e2 gIx (.n 2) (.g (eC (.int 1))))) (.g (eC (.int 1)))))) (sSet 6 (asRV (eC .none))) (pureM .nx))
    (seqM (sPar [7, 8] (fCons (callF G_drifts (eCons (eVar 2) (eCons (eVar 4) (eCons (eTup (eCons (eC (.int 1)) eNil)) eNil)))) (fCons (callF G_spoiling_row (eCons (eVar 2) (eCons (eVar 4) (eCons (eTup (eCons (eC (.int 1)) eNil)) eNil)))) fNil)))
    (seqM (sIf (tB1 (e2 gIsN (.n 6) (.g (eC .none)))) (seqM (sIf (tB1 (e2 gIsN (.n 8) (.g (eC .none)))) (sRet (asRV (eC (.bool false)))) (pureM .nx))
    (sRet (asRV (vAnd (e2 gIsN (.n 7) (.g (eC .none))) (e2 gEq (.n 8) (.g (asD (fRep (eLst (eCons (eC (.int 1)) eNil)) (e1 gLen (.n 8)))))))))) (pureM .nx))
    (seqM (sIf (bOr (tB1 (e2 gNe (.n 7) (.g (eTup (eCons (eTup (eCons (e1 gNeg (.g (eC (.int 1)))) (eCons (eC (.int 1)) eNil))) (eCons (eTup (eCons (e1 gNeg (.g (eC (.int 1)))) (eCons (eC (.int 1)) eNil))) eNil)))))) (bOr (tB1 (e2 gNotN (.n 8) (.g (eC .none)))) (tB1 (e2 gNe (.g (e1 gMaxDD (.g (asD (callF G_places (eCons (eVar 2) (eCons (eVar 4) (eCons (eTup (eCons (eC (.int 1)) eNil)) eNil)))))))) (.g (eTup (eCons (eVar 6) eNil))))))) (sRet (asRV (eC (.bool false)))) (pureM .nx))
    (seqM (sIf (bOr (tB1 (e2 gNotN (.g (asD (callF G_least_ever (eCons (eVar 2) (eCons (eVar 4) (eCons (eTup (eCons (eC (.int 1)) eNil)) eNil)))))) (.g (eC .none)))) (tB1 (e2 gNe (.g (e2 gIx (.g (asD (callF G_totals (eCons (eVar 2) (eCons (eVar 4) (eCons (asD (fRep (eLst (eCons (eC (.int 1)) eNil)) (eC (.int 40)))) eNil)))))) (.g (e1 gNeg (.g (eC (.int 1))))))) (.n 6)))) (sRet (asRV (eC (.bool false)))) (pureM .nx))
    (sRet (asRV (e2 gGe (.g (asD (callF G_greatest_ever (eCons (eVar 2) (eCons (eVar 4) (eCons (eTup (eCons (eC (.int 1)) eNil)) eNil)))))) (.g (eC (.int 0)))))))))))))

def lawE : DM Fl :=
    (seqM (sPar [4, 5] (fCons (asRV (eTup (eCons (eC (.str "plain")) (eCons (eVar 3) eNil)))) (fCons (asRV (e2 gAdd (.g (asD (callF G_l_top (eCons (eTup (eCons (e2 gIx (.n 2) (.g (eC (.int 0)))) (eCons (eC (.int 0)) eNil))) eNil)))) (.g (eC (.int 1))))) fNil)))
    (seqM (sSet 6 (asRV (dgetK1 [("even", (eVar 5)), ("down", (eVar 5)), ("zero", (eVar 5)), ("away", (e2 gMul (.g (eC (.int 2))) (.n 5)))] (eVar 3))))
    (seqM (sIf (bAnd (tB1 (e2 gEq (.n 3) (.g (eC (.str "away"))))) (tB1 (e2 gEq (.g (e2 gIx (.n 2) (.g (eC (.int 1))))) (.g (eC (.int 1)))))) (sSet 6 (asRV (eC .none))) (pureM .nx))
    (seqM (sPar [7, 8] (fCons (callF G_drifts (eCons (eVar 2) (eCons (eVar 4) (eCons (eTup (eCons (eC (.int 1)) eNil)) eNil)))) (fCons (callF GE_spoiling_row (eCons (eVar 2) (eCons (eVar 4) (eCons (eTup (eCons (eC (.int 1)) eNil)) eNil)))) fNil)))
    (seqM (sIf (tB1 (e2 gIsN (.n 6) (.g (eC .none)))) (seqM (sIf (tB1 (e2 gIsN (.n 8) (.g (eC .none)))) (sRet (asRV (eC (.bool false)))) (pureM .nx))
    (sRet (asRV (vAnd (e2 gIsN (.n 7) (.g (eC .none))) (e2 gEq (.n 8) (.g (asD (fRep (eLst (eCons (eC (.int 1)) eNil)) (e1 gLen (.n 8)))))))))) (pureM .nx))
    (seqM (sIf (bOr (tB1 (e2 gNe (.n 7) (.g (eTup (eCons (eTup (eCons (e1 gNeg (.g (eC (.int 1)))) (eCons (eC (.int 1)) eNil))) (eCons (eTup (eCons (e1 gNeg (.g (eC (.int 1)))) (eCons (eC (.int 1)) eNil))) eNil)))))) (bOr (tB1 (e2 gNotN (.n 8) (.g (eC .none)))) (tB1 (e2 gNe (.g (e1 gMaxDD (.g (asD (callF GE_places (eCons (eVar 2) (eCons (eVar 4) (eCons (eTup (eCons (eC (.int 1)) eNil)) eNil)))))))) (.g (eTup (eCons (eVar 6) eNil))))))) (sRet (asRV (eC (.bool false)))) (pureM .nx))
    (seqM (sIf (bOr (tB1 (e2 gNotN (.g (asD (callF G_least_ever (eCons (eVar 2) (eCons (eVar 4) (eCons (eTup (eCons (eC (.int 1)) eNil)) eNil)))))) (.g (eC .none)))) (tB1 (e2 gNe (.g (e2 gIx (.g (asD (callF G_totals (eCons (eVar 2) (eCons (eVar 4) (eCons (asD (fRep (eLst (eCons (eC (.int 1)) eNil)) (eC (.int 40)))) eNil)))))) (.g (e1 gNeg (.g (eC (.int 1))))))) (.n 6)))) (sRet (asRV (eC (.bool false)))) (pureM .nx))
    (sRet (asRV (e2 gGe (.g (asD (callF G_greatest_ever (eCons (eVar 2) (eCons (eVar 4) (eCons (eTup (eCons (eC (.int 1)) eNil)) eNil)))))) (.g (eC (.int 0)))))))))))))

theorem lawE_eq : lawR = lawE := by
  unfold lawR lawE
  rw [GE_spoiling_row_eq, GE_places_eq]
theorem lawE_21_away (x : Sl) (c : Cell) : isT (lawE ⟨[x, .cell 0, .v (fm 2 1), .v (.str "away"), .un, .un, .un, .un, .un], [c]⟩) = true := by kernel_rfl
theorem lawE_21_down (x : Sl) (c : Cell) : isT (lawE ⟨[x, .cell 0, .v (fm 2 1), .v (.str "down"), .un, .un, .un, .un, .un], [c]⟩) = true := by kernel_rfl
theorem lawE_21_even (x : Sl) (c : Cell) : isT (lawE ⟨[x, .cell 0, .v (fm 2 1), .v (.str "even"), .un, .un, .un, .un, .un], [c]⟩) = true := by kernel_rfl
theorem lawE_21_up (x : Sl) (c : Cell) : isT (lawE ⟨[x, .cell 0, .v (fm 2 1), .v (.str "up"), .un, .un, .un, .un, .un], [c]⟩) = true := by kernel_rfl
theorem lawE_21_zero (x : Sl) (c : Cell) : isT (lawE ⟨[x, .cell 0, .v (fm 2 1), .v (.str "zero"), .un, .un, .un, .un, .un], [c]⟩) = true := by kernel_rfl
theorem lawE_22_away (x : Sl) (c : Cell) : isT (lawE ⟨[x, .cell 0, .v (fm 2 2), .v (.str "away"), .un, .un, .un, .un, .un], [c]⟩) = true := by kernel_rfl
theorem lawE_22_down (x : Sl) (c : Cell) : isT (lawE ⟨[x, .cell 0, .v (fm 2 2), .v (.str "down"), .un, .un, .un, .un, .un], [c]⟩) = true := by kernel_rfl
theorem lawE_22_even (x : Sl) (c : Cell) : isT (lawE ⟨[x, .cell 0, .v (fm 2 2), .v (.str "even"), .un, .un, .un, .un, .un], [c]⟩) = true := by kernel_rfl
theorem lawE_22_up (x : Sl) (c : Cell) : isT (lawE ⟨[x, .cell 0, .v (fm 2 2), .v (.str "up"), .un, .un, .un, .un, .un], [c]⟩) = true := by kernel_rfl
theorem lawE_22_zero (x : Sl) (c : Cell) : isT (lawE ⟨[x, .cell 0, .v (fm 2 2), .v (.str "zero"), .un, .un, .un, .un, .un], [c]⟩) = true := by kernel_rfl
theorem lawE_31_away (x : Sl) (c : Cell) : isT (lawE ⟨[x, .cell 0, .v (fm 3 1), .v (.str "away"), .un, .un, .un, .un, .un], [c]⟩) = true := by kernel_rfl
theorem lawE_31_down (x : Sl) (c : Cell) : isT (lawE ⟨[x, .cell 0, .v (fm 3 1), .v (.str "down"), .un, .un, .un, .un, .un], [c]⟩) = true := by kernel_rfl
theorem lawE_31_even (x : Sl) (c : Cell) : isT (lawE ⟨[x, .cell 0, .v (fm 3 1), .v (.str "even"), .un, .un, .un, .un, .un], [c]⟩) = true := by kernel_rfl
theorem lawE_31_up (x : Sl) (c : Cell) : isT (lawE ⟨[x, .cell 0, .v (fm 3 1), .v (.str "up"), .un, .un, .un, .un, .un], [c]⟩) = true := by kernel_rfl
theorem lawE_31_zero (x : Sl) (c : Cell) : isT (lawE ⟨[x, .cell 0, .v (fm 3 1), .v (.str "zero"), .un, .un, .un, .un, .un], [c]⟩) = true := by kernel_rfl
theorem lawR_all {q : D} {m : Str} (hq : q ∈ [fm 2 1, fm 2 2, fm 3 1]) (hm : md m) (x : Sl) (c : Cell) : isT (lawR ⟨[x, .cell 0, .v q, .v (.str m), .un, .un, .un, .un, .un], [c]⟩) = true := by
  rw [lawE_eq]
  simp only [List.mem_cons, List.not_mem_nil, or_false] at hq
  rcases hq with rfl | rfl | rfl
  · rcases hm with rfl | rfl | rfl | rfl | rfl <;> first | exact lawE_21_away x c | exact lawE_21_down x c | exact lawE_21_even x c | exact lawE_21_up x c | exact lawE_21_zero x c
  · rcases hm with rfl | rfl | rfl | rfl | rfl <;> first | exact lawE_22_away x c | exact lawE_22_down x c | exact lawE_22_even x c | exact lawE_22_up x c | exact lawE_22_zero x c
  · rcases hm with rfl | rfl | rfl | rfl | rfl <;> first | exact lawE_31_away x c | exact lawE_31_down x c | exact lawE_31_even x c | exact lawE_31_up x c | exact lawE_31_zero x c
theorem lawL (ns : List Int) : ∃ st, G_l_law [.v (.list (ns.map .int))] [] = .ok (.d (.bool true)) st := by
  show ∃ st, G_l_law [.v (scr ns)] [] = .ok (.d (.bool true)) st
  obtain ⟨q, c1, e1, hq, hc1⟩ := pick_c (ns := ns) (r := []) (ds := [fm 2 1, fm 2 2, fm 3 1]) drs0 (by decide) (by decide)
  obtain ⟨m, c2, e2, hm, hc2⟩ := mode_c (ns := ns) (r := []) hc1
  obtain ⟨s, hs⟩ := isT_ok (lawR_all hq hm (.v (scr ns)) c2)
  have eF : F_l_law = seqM (sCell 1 (eLst (eCons (eC (.int 0)) (eCons (eC (.int 0)) eNil)))) (seqM (sSet 2 (callM G_l_pick (aCons (aVar 0) (aCons (aVar 1) (aCons (aOf (asD (eLst (eCons (eTup (eCons (eC (.int 2)) (eCons (eC (.int 1)) eNil))) (eCons (eTup (eCons (eC (.int 2)) (eCons (eC (.int 2)) eNil))) (eCons (eTup (eCons (eC (.int 3)) (eCons (eC (.int 1)) eNil))) eNil)))))) aNil))))) (seqM (sSet 3 (callM G_l_mode (aCons (aVar 0) (aCons (aVar 1) aNil)))) lawR)) := rfl
  unfold G_l_law
  rw [eF]
  walk_at "ev"
  rw [show PyData.tuple [.int 2, .int 1] = fm 2 1 from rfl, show PyData.tuple [.int 2, .int 2] = fm 2 2 from rfl, show PyData.tuple [.int 3, .int 1] = fm 3 1 from rfl, e1]
  walk_at "ev"
  rw [e2]
  walk_at "ev"
  rw [hs]
  exact ⟨_, rfl⟩
end DL

namespace DL
open PySem PySem.Spec PyProof.Rows L2
section
variable {P : Program} {w : World} {K : PySem.W.Frag} {mg : Str → Option Value} {base : Heap}
theorem sc_l_draw : FnScope ["_law_script", "_law_town", "_law_many", "_law_one", "_law_at", "_law_mixed"] ["_law_script", "_law_town", "_law_many"] (defScope s_l_draw) := ⟨rfl, rfl, rfl, by decide +kernel, rfl, by decide +kernel, by decide +kernel⟩
theorem ok_l_draw {f : Addr} {fd : FuncData} (F : L2.Fun K "_law_draw" "_law_draw" s_l_draw f fd) (gm : mg "_law_draw" = some (.ref f)) (m_len : mg "len" = none) : FnM P w K mg base "_law_draw" 1 G_l_draw :=
  fnM_of (N := ["_law_script", "_law_town", "_law_many", "_law_one", "_law_at", "_law_mixed"]) (ps := ["_law_script", "_law_town", "_law_many"]) F_l_draw F sc_l_draw gm (F.binds fun _ _ _ _ _ _ us hl => match us, hl with | [_, _, _], _ => rfl) (fun ds _ h => lenG h) (fun _ _ _ _ _ _ bd => by
    unfold F_l_draw
    exact (dss_cons (ds_if (dt_cmp op_gt of_gt (do_of (de_ix (do_name 1) (do_of de_int))) (do_of de_int)) (dss_cons (ds_set 3 sc_l_draw.nd (df_of (de_bin op_mod of_mod (do_of (de_ix (do_name 1) (do_of de_int))) (do_name 2))))
    (dss_cons (ds_setIx 1 (de_bin op_fdiv of_div (do_of (de_ix (do_name 1) (do_of de_int))) (do_name 2)) de_int)
    (dss_one (ds_ret (df_name 3))))) dss_nil)
    (dss_cons (ds_set 4 sc_l_draw.nd (df_of (de_ix (do_name 1) (do_of de_int))))
    (dss_cons (ds_augIx 1 (n := 0) iop_add of_add)
    (dss_cons (ds_if (dt_cmp (op_eqD (bd.hr.units)) of_eq (do_name 0) (do_of (de_of (df_lst dl_nil)))) (dss_one (ds_ret (df_of (de_bin op_mod of_mod (do_name 4) (do_name 2))))) dss_nil)
    (dss_cons (ds_if (dt_of (dw_and (dt_cmp op_lt of_lt (do_name 4) (do_of (de_b1 call_len_seq of_len m_len (by decide +kernel) (do_name 0)))) (dw_and1 (dt_cmp op_ge of_ge (do_of (de_ix (do_name 0) (do_name 4))) (do_of (de_bin op_pow of_pow (do_of de_int) (do_of de_int))))))) (dss_cons (ds_setIx 1 (de_bin op_mod of_mod (do_of (de_bin op_fdiv of_div (do_of (de_ix (do_name 0) (do_name 4))) (do_name 2))) (do_of (de_bin op_mulW of_mulW (do_of (de_bin op_pow of_pow (do_of de_int) (do_of de_int))) (do_of (de_bin op_pow of_pow (do_of de_int) (do_of de_int)))))) de_int)
    (dss_one (ds_ret (df_of (de_bin op_mod of_mod (do_of (de_ix (do_name 0) (do_name 4))) (do_name 2)))))) dss_nil)
    (dss_cons (ds_set 5 sc_l_draw.nd (df_of (de_bin op_mod of_mod (do_of (de_bin op_add of_add (do_of (de_bin op_add of_add (do_of (de_bin op_mul of_mul (do_of (de_ix (do_name 0) (do_of (de_bin op_mod of_mod (do_name 4) (do_of (de_b1 call_len_seq of_len m_len (by decide +kernel) (do_name 0))))))) (do_of de_int))) (do_of (de_bin op_mul of_mul (do_of de_int) (do_name 4))))) (do_of de_int))) (do_of de_int))))
    (dss_one (ds_ret (df_of (de_bin op_mod of_mod (do_of (de_bin op_mod of_mod (do_of (de_bin op_mod of_mod (do_of (de_bin op_pow of_pow (do_name 5) (do_of de_int))) (do_of de_int))) (do_of de_int))) (do_name 2)))))))))))) (fun ds _ h => runG h)

theorem sc_l_pick : FnScope ["_law_script", "_law_town", "_law_some"] ["_law_script", "_law_town", "_law_some"] (defScope s_l_pick) := ⟨rfl, rfl, rfl, by decide +kernel, rfl, by decide +kernel, by decide +kernel⟩
theorem ok_l_pick {f : Addr} {fd : FuncData} (F : L2.Fun K "_law_pick" "_law_pick" s_l_pick f fd) (gm : mg "_law_pick" = some (.ref f)) (H_l_draw : FnM P w K mg base "_law_draw" 1 G_l_draw) (m_len : mg "len" = none) : FnM P w K mg base "_law_pick" 2 G_l_pick :=
  fnM_of (N := ["_law_script", "_law_town", "_law_some"]) (ps := ["_law_script", "_law_town", "_law_some"]) F_l_pick F sc_l_pick gm (F.binds fun _ _ _ _ _ _ us hl => match us, hl with | [_, _, _], _ => rfl) (fun ds _ h => lenG h) (fun _ _ _ _ _ _ bd => by
    unfold F_l_pick
    exact (dss_one (ds_ret (df_of (de_ix (do_name 2) (do_of (de_of (df_callM bd H_l_draw (da_cons (da_name 0) (da_cons (da_name 1) (da_cons (da_of (de_b1 call_len_seq of_len m_len (by decide +kernel) (do_name 2))) da_nil))))))))))) (fun ds _ h => runG h)

theorem sc_l_mode : FnScope ["_law_script", "_law_town"] ["_law_script", "_law_town"] (defScope s_l_mode) := ⟨rfl, rfl, rfl, by decide +kernel, rfl, by decide +kernel, by decide +kernel⟩
theorem ok_l_mode {f : Addr} {fd : FuncData} (F : L2.Fun K "_law_mode" "_law_mode" s_l_mode f fd) (gm : mg "_law_mode" = some (.ref f)) (H_l_pick : FnM P w K mg base "_law_pick" 2 G_l_pick) : FnM P w K mg base "_law_mode" 3 G_l_mode :=
  fnM_of (N := ["_law_script", "_law_town"]) (ps := ["_law_script", "_law_town"]) F_l_mode F sc_l_mode gm (F.binds fun _ _ _ _ _ _ us hl => match us, hl with | [_, _], _ => rfl) (fun ds _ h => lenG h) (fun _ _ _ _ _ _ bd => by
    unfold F_l_mode
    exact (dss_one (ds_ret (df_callM bd H_l_pick (da_cons (da_name 0) (da_cons (da_name 1) (da_cons (da_of (de_of (df_lst (dl_cons de_str (dl_cons de_str (dl_cons de_str (dl_cons de_str (dl_cons de_str (dl_cons de_str dl_nil))))))))) da_nil))))))) (fun ds _ h => runG h)

theorem sc_l_top : FnScope ["_law_form_here", "_law_value", "_law_turn"] ["_law_form_here"] (defScope s_l_top) := ⟨rfl, rfl, rfl, by decide +kernel, rfl, by decide +kernel, by decide +kernel⟩
theorem ok_l_top {f : Addr} {fd : FuncData} (F : L2.Fun K "_law_top" "_law_top" s_l_top f fd) (gm : mg "_law_top" = some (.ref f)) (m_range : mg "range" = none) : FnP P w K mg base "_law_top" 1 G_l_top :=
  fnP_of (N := ["_law_form_here", "_law_value", "_law_turn"]) (ps := ["_law_form_here"]) F_l_top F sc_l_top gm (F.binds fun _ _ _ _ _ _ us hl => match us, hl with | [_], _ => rfl) (fun ds h => lenG h) (fun _ _ _ _ _ _ bd => by
    unfold F_l_top
    exact (dss_cons (ds_set 1 sc_l_top.nd (df_of de_int))
    (dss_cons (ds_for [2] bd (di_range1 m_range (dl_cons (de_ix (do_name 0) (do_of de_int)) dl_nil)) (dg_name 2 sc_l_top.nd) (dss_one (ds_set 1 sc_l_top.nd (df_of (de_bin op_mul of_mul (do_name 1) (do_of de_int))))))
    (dss_cons (ds_set 1 sc_l_top.nd (df_of (de_bin op_sub of_sub (do_name 1) (do_of de_int))))
    (dss_cons (ds_for [2] bd (di_range1 m_range (dl_cons (de_ix (do_name 0) (do_of de_int)) dl_nil)) (dg_name 2 sc_l_top.nd) (dss_one (ds_set 1 sc_l_top.nd (df_of (de_bin op_mul of_mul (do_name 1) (do_of de_int))))))
    (dss_one (ds_ret (df_name 1)))))))) (fun ds h => runG h)

theorem sc_is_int : FnScope ["value", "least", "most"] ["value", "least", "most"] (defScope s_is_int) := ⟨rfl, rfl, rfl, by decide +kernel, rfl, by decide +kernel, by decide +kernel⟩
theorem ok_is_int {f : Addr} {fd : FuncData} (F : L2.Fun K "is_int" "is_int" s_is_int f fd) (gm : mg "is_int" = some (.ref f)) (m_isinstance : mg "isinstance" = none) (m_int : mg "int" = none) (m_bool : mg "bool" = none) : FnP P w K mg base "is_int" 1 G_is_int :=
  fnP_of (N := ["value", "least", "most"]) (ps := ["value", "least", "most"]) F_is_int F sc_is_int gm (F.binds fun _ _ _ _ _ _ us hl => match us, hl with | [_, _, _], _ => rfl) (fun ds h => lenG h) (fun _ _ _ _ _ _ bd => by
    unfold F_is_int
    exact (dss_one (ds_ret (df_of (de_and (de_isi kit_int m_isinstance m_int boot_int_ (do_name 0)) (de_and (de_not (de_isi kit_bool m_isinstance m_bool boot_bool_ (do_name 0))) (de_one (de_chain op_le op_le of_le of_le (do_name 1) (do_name 0) (do_name 2))))))))) (fun ds h => runG h)

theorem sc_is_format : FnScope ["candidate"] ["candidate"] (defScope s_is_format) := ⟨rfl, rfl, rfl, by decide +kernel, rfl, by decide +kernel, by decide +kernel⟩
theorem ok_is_format {f : Addr} {fd : FuncData} (F : L2.Fun K "is_format" "is_format" s_is_format f fd) (gm : mg "is_format" = some (.ref f)) (H_is_int : FnP P w K mg base "is_int" 1 G_is_int) (m_isinstance : mg "isinstance" = none) (m_tuple : mg "tuple" = none) (m_len : mg "len" = none) : FnP P w K mg base "is_format" 2 G_is_format :=
  fnP_of (N := ["candidate"]) (ps := ["candidate"]) F_is_format F sc_is_format gm (F.binds fun _ _ _ _ _ _ us hl => match us, hl with | [_], _ => rfl) (fun ds h => lenG h) (fun _ _ _ _ _ _ bd => by
    unfold F_is_format
    exact (dss_cons (ds_if (dt_of (dw_or (dt_not (dt_val (de_isi kit_tuple m_isinstance m_tuple boot_tuple_ (do_name 0)))) (dw_or1 (dt_cmp (op_neD (bd.hr.units)) of_ne (do_of (de_b1 call_len_seq of_len m_len (by decide +kernel) (do_name 0))) (do_of de_int))))) (dss_one (ds_ret (df_of de_bool))) dss_nil)
    (dss_one (ds_ret (df_of (de_and (de_of (df_call bd H_is_int (dl_cons (de_ix (do_name 0) (do_of de_int)) (dl_cons de_int (dl_cons de_int dl_nil))))) (de_one (de_of (df_call bd H_is_int (dl_cons (de_ix (do_name 0) (do_of de_int)) (dl_cons de_int (dl_cons de_int dl_nil)))))))))))) (fun ds h => runG h)

theorem sc_need_few : FnScope ["form"] ["form"] (defScope s_need_few) := ⟨rfl, rfl, rfl, by decide +kernel, rfl, by decide +kernel, by decide +kernel⟩
theorem ok_need_few {f : Addr} {fd : FuncData} (F : L2.Fun K "need_few" "need_few" s_need_few f fd) (gm : mg "need_few" = some (.ref f)) (H_is_format : FnP P w K mg base "is_format" 2 G_is_format) (x_InvalidFormat : ExP K mg "InvalidFormat") : FnP P w K mg base "need_few" 3 G_need_few :=
  fnP_of (N := ["form"]) (ps := ["form"]) F_need_few F sc_need_few gm (F.binds fun _ _ _ _ _ _ us hl => match us, hl with | [_], _ => rfl) (fun ds h => lenG h) (fun _ _ _ _ _ _ bd => by
    unfold F_need_few
    exact (dss_one (ds_if (dt_of (dw_or (dt_not (dt_val (de_of (df_call bd H_is_format (dl_cons (de_name 0) dl_nil))))) (dw_or1 (dt_cmp op_gt of_gt (do_of (de_bin op_add of_add (do_of (de_ix (do_name 0) (do_of de_int))) (do_of (de_ix (do_name 0) (do_of de_int))))) (do_of de_int))))) (dss_one (ds_raise bd x_InvalidFormat)) dss_nil))) (fun ds h => runG h)

theorem sc_need_format : FnScope ["value"] ["value"] (defScope s_need_format) := ⟨rfl, rfl, rfl, by decide +kernel, rfl, by decide +kernel, by decide +kernel⟩
theorem ok_need_format {f : Addr} {fd : FuncData} (F : L2.Fun K "need_format" "need_format" s_need_format f fd) (gm : mg "need_format" = some (.ref f)) (H_is_format : FnP P w K mg base "is_format" 2 G_is_format) (x_InvalidFormat : ExP K mg "InvalidFormat") : FnP P w K mg base "need_format" 3 G_need_format :=
  fnP_of (N := ["value"]) (ps := ["value"]) F_need_format F sc_need_format gm (F.binds fun _ _ _ _ _ _ us hl => match us, hl with | [_], _ => rfl) (fun ds h => lenG h) (fun _ _ _ _ _ _ bd => by
    unfold F_need_format
    exact (dss_one (ds_if (dt_not (dt_val (de_of (df_call bd H_is_format (dl_cons (de_name 0) dl_nil))))) (dss_one (ds_raise bd x_InvalidFormat)) dss_nil))) (fun ds h => runG h)

theorem sc_is_machine : FnScope ["candidate", "one"] ["candidate"] (defScope s_is_machine) := ⟨rfl, rfl, rfl, by decide +kernel, rfl, by decide +kernel, by decide +kernel⟩
theorem ok_is_machine {f : Addr} {fd : FuncData} (F : L2.Fun K "is_machine" "is_machine" s_is_machine f fd) (gm : mg "is_machine" = some (.ref f)) (m_isinstance : mg "isinstance" = none) (m_tuple : mg "tuple" = none) (m_len : mg "len" = none) (m_all : mg "all" = none) (m_str : mg "str" = none) (c_WAYS : GlP w K mg "WAYS" K_WAYS) (c_ROUNDINGS : GlP w K mg "ROUNDINGS" K_ROUNDINGS) : FnP P w K mg base "is_machine" 1 G_is_machine :=
  fnP_of (N := ["candidate", "one"]) (ps := ["candidate"]) F_is_machine F sc_is_machine gm (F.binds fun _ _ _ _ _ _ us hl => match us, hl with | [_], _ => rfl) (fun ds h => lenG h) (fun _ _ _ _ _ _ bd => by
    unfold F_is_machine
    exact (dss_cons (ds_if (dt_of (dw_or (dt_not (dt_val (de_isi kit_tuple m_isinstance m_tuple boot_tuple_ (do_name 0)))) (dw_or (dt_cmp (op_neD (bd.hr.units)) of_ne (do_of (de_b1 call_len_seq of_len m_len (by decide +kernel) (do_name 0))) (do_of de_int)) (dw_or1 (dt_not (dt_val (de_b1 (cr_all bd.calm) of_all m_all (by decide +kernel) (do_of (de_of (df_lc (own := [("one", 1)]) bd sc_is_machine.nd (di_seq (de_name 0)) (blkOk_by (by first | rfl | kernel_rfl | decide +kernel)) (by decide) (fun _ _ _ _ _ bdc => (dg_name 1 sc_is_machine.nd)) (fun _ _ _ _ _ bdc => dts_nil) (fun _ _ _ _ _ bdc => (de_isi kit_str m_isinstance m_str boot_str_ (do_name 1))))))))))))) (dss_one (ds_ret (df_of de_bool))) dss_nil)
    (dss_one (ds_ret (df_of (de_and (de_cmp op_in_seq of_inT (do_of (de_ix (do_name 0) (do_of de_int))) (do_of (de_gl c_WAYS))) (de_one (de_cmp op_in_seq of_inT (do_of (de_ix (do_name 0) (do_of de_int))) (do_of (de_gl c_ROUNDINGS)))))))))) (fun ds h => runG h)

theorem sc_need_machine : FnScope ["form", "value"] ["form", "value"] (defScope s_need_machine) := ⟨rfl, rfl, rfl, by decide +kernel, rfl, by decide +kernel, by decide +kernel⟩
theorem ok_need_machine {f : Addr} {fd : FuncData} (F : L2.Fun K "need_machine" "need_machine" s_need_machine f fd) (gm : mg "need_machine" = some (.ref f)) (H_need_format : FnP P w K mg base "need_format" 3 G_need_format) (H_is_machine : FnP P w K mg base "is_machine" 1 G_is_machine) (x_InvalidMachine : ExP K mg "InvalidMachine") : FnP P w K mg base "need_machine" 4 G_need_machine :=
  fnP_of (N := ["form", "value"]) (ps := ["form", "value"]) F_need_machine F sc_need_machine gm (F.binds fun _ _ _ _ _ _ us hl => match us, hl with | [_, _], _ => rfl) (fun ds h => lenG h) (fun _ _ _ _ _ _ bd => by
    unfold F_need_machine
    exact (dss_cons (ds_expr (df_call bd H_need_format (dl_cons (de_name 0) dl_nil)))
    (dss_one (ds_if (dt_not (dt_val (de_of (df_call bd H_is_machine (dl_cons (de_name 1) dl_nil))))) (dss_one (ds_raise bd x_InvalidMachine)) dss_nil)))) (fun ds h => runG h)

theorem sc_doubled : FnScope ["value", "many", "turn"] ["value", "many"] (defScope s_doubled) := ⟨rfl, rfl, rfl, by decide +kernel, rfl, by decide +kernel, by decide +kernel⟩
theorem ok_doubled {f : Addr} {fd : FuncData} (F : L2.Fun K "doubled" "doubled" s_doubled f fd) (gm : mg "doubled" = some (.ref f)) (m_range : mg "range" = none) : FnP P w K mg base "doubled" 1 G_doubled :=
  fnP_of (N := ["value", "many", "turn"]) (ps := ["value", "many"]) F_doubled F sc_doubled gm (F.binds fun _ _ _ _ _ _ us hl => match us, hl with | [_, _], _ => rfl) (fun ds h => lenG h) (fun _ _ _ _ _ _ bd => by
    unfold F_doubled
    exact (dss_cons (ds_for [2] bd (di_range1 m_range (dl_cons (de_name 1) dl_nil)) (dg_name 2 sc_doubled.nd) (dss_one (ds_aug 0 sc_doubled.nd iop_mul of_mul de_int)))
    (dss_one (ds_ret (df_name 0))))) (fun ds h => runG h)

theorem sc_greatest_of : FnScope ["form"] ["form"] (defScope s_greatest_of) := ⟨rfl, rfl, rfl, by decide +kernel, rfl, by decide +kernel, by decide +kernel⟩
theorem ok_greatest_of {f : Addr} {fd : FuncData} (F : L2.Fun K "greatest_of" "greatest_of" s_greatest_of f fd) (gm : mg "greatest_of" = some (.ref f)) (H_doubled : FnP P w K mg base "doubled" 1 G_doubled) : FnP P w K mg base "greatest_of" 2 G_greatest_of :=
  fnP_of (N := ["form"]) (ps := ["form"]) F_greatest_of F sc_greatest_of gm (F.binds fun _ _ _ _ _ _ us hl => match us, hl with | [_], _ => rfl) (fun ds h => lenG h) (fun _ _ _ _ _ _ bd => by
    unfold F_greatest_of
    exact (dss_one (ds_ret (df_call bd H_doubled (dl_cons (de_bin op_sub of_sub (do_of (de_of (df_call bd H_doubled (dl_cons de_int (dl_cons (de_ix (do_name 0) (do_of de_int)) dl_nil))))) (do_of de_int)) (dl_cons (de_ix (do_name 0) (do_of de_int)) dl_nil)))))) (fun ds h => runG h)

theorem sc_distance : FnScope ["bits", "size", "found", "bound"] ["bits", "size"] (defScope s_distance) := ⟨rfl, rfl, rfl, by decide +kernel, rfl, by decide +kernel, by decide +kernel⟩
theorem ok_distance {f : Addr} {fd : FuncData} (F : L2.Fun K "distance" "distance" s_distance f fd) (gm : mg "distance" = some (.ref f)) (H_doubled : FnP P w K mg base "doubled" 1 G_doubled) : FnP P w K mg base "distance" 2 G_distance :=
  fnP_of (N := ["bits", "size", "found", "bound"]) (ps := ["bits", "size"]) F_distance F sc_distance gm (F.binds fun _ _ _ _ _ _ us hl => match us, hl with | [_, _], _ => rfl) (fun ds h => lenG h) (fun _ _ _ _ _ _ bd => by
    unfold F_distance
    exact (dss_cons (ds_par2 2 3 bd sc_distance.nd (dfl_cons (df_of de_int) (dfl_cons (df_call bd H_doubled (dl_cons de_int (dl_cons (de_name 0) dl_nil))) dfl_nil)))
    (dss_cons (ds_while [] 40 bd (dt_cmp op_ge of_ge (do_name 1) (do_of (de_bin op_mul of_mul (do_name 2) (do_name 3)))) (dss_one (ds_aug 2 sc_distance.nd iop_mul of_mul de_int)))
    (dss_one (ds_ret (df_name 2)))))) (fun ds h => runG h)

theorem sc_fits : FnScope ["form", "value"] ["form", "value"] (defScope s_fits) := ⟨rfl, rfl, rfl, by decide +kernel, rfl, by decide +kernel, by decide +kernel⟩
theorem ok_fits {f : Addr} {fd : FuncData} (F : L2.Fun K "fits" "fits" s_fits f fd) (gm : mg "fits" = some (.ref f)) (H_greatest_of : FnP P w K mg base "greatest_of" 2 G_greatest_of) (H_distance : FnP P w K mg base "distance" 2 G_distance) (m_abs : mg "abs" = none) : FnP P w K mg base "fits" 3 G_fits :=
  fnP_of (N := ["form", "value"]) (ps := ["form", "value"]) F_fits F sc_fits gm (F.binds fun _ _ _ _ _ _ us hl => match us, hl with | [_, _], _ => rfl) (fun ds h => lenG h) (fun _ _ _ _ _ _ bd => by
    unfold F_fits
    exact (dss_one (ds_ret (df_of (de_and (de_cmp op_le of_le (do_of (de_b1 call_abs of_abs m_abs (by decide +kernel) (do_name 1))) (do_of (de_of (df_call bd H_greatest_of (dl_cons (de_name 0) dl_nil))))) (de_one (de_cmp (op_eqD (bd.hr.units)) of_eq (do_of (de_bin op_mod of_mod (do_name 1) (do_of (de_of (df_call bd H_distance (dl_cons (de_ix (do_name 0) (do_of de_int)) (dl_cons (de_b1 call_abs of_abs m_abs (by decide +kernel) (do_name 1)) dl_nil))))))) (do_of de_int)))))))) (fun ds h => runG h)

theorem sc_is_number_of : FnScope ["form", "value"] ["form", "value"] (defScope s_is_number_of) := ⟨rfl, rfl, rfl, by decide +kernel, rfl, by decide +kernel, by decide +kernel⟩
theorem ok_is_number_of {f : Addr} {fd : FuncData} (F : L2.Fun K "is_number_of" "is_number_of" s_is_number_of f fd) (gm : mg "is_number_of" = some (.ref f)) (H_is_int : FnP P w K mg base "is_int" 1 G_is_int) (H_fits : FnP P w K mg base "fits" 3 G_fits) : FnP P w K mg base "is_number_of" 4 G_is_number_of :=
  fnP_of (N := ["form", "value"]) (ps := ["form", "value"]) F_is_number_of F sc_is_number_of gm (F.binds fun _ _ _ _ _ _ us hl => match us, hl with | [_, _], _ => rfl) (fun ds h => lenG h) (fun _ _ _ _ _ _ bd => by
    unfold F_is_number_of
    exact (dss_one (ds_ret (df_of (de_and (de_of (df_call bd H_is_int (dl_cons (de_name 1) (dl_cons (de_un un_neg of_neg (do_of de_int)) (dl_cons de_int dl_nil))))) (de_one (de_of (df_callB bd H_fits (dos_cons (do_name 0) (dos_cons (do_name 1) dos_nil)))))))))) (fun ds h => runG h)

theorem sc_is_lot_of : FnScope ["form", "value", "one", "other"] ["form", "value"] (defScope s_is_lot_of) := ⟨rfl, rfl, rfl, by decide +kernel, rfl, by decide +kernel, by decide +kernel⟩
theorem ok_is_lot_of {f : Addr} {fd : FuncData} (F : L2.Fun K "is_lot_of" "is_lot_of" s_is_lot_of f fd) (gm : mg "is_lot_of" = some (.ref f)) (H_is_number_of : FnP P w K mg base "is_number_of" 4 G_is_number_of) (m_isinstance : mg "isinstance" = none) (m_tuple : mg "tuple" = none) (m_len : mg "len" = none) (m_all : mg "all" = none) (m_zip : mg "zip" = none) : FnP P w K mg base "is_lot_of" 5 G_is_lot_of :=
  fnP_of (N := ["form", "value", "one", "other"]) (ps := ["form", "value"]) F_is_lot_of F sc_is_lot_of gm (F.binds fun _ _ _ _ _ _ us hl => match us, hl with | [_, _], _ => rfl) (fun ds h => lenG h) (fun _ _ _ _ _ _ bd => by
    unfold F_is_lot_of
    exact (dss_cons (ds_if (dt_of (dw_or (dt_not (dt_val (de_isi kit_tuple m_isinstance m_tuple boot_tuple_ (do_name 1)))) (dw_or (dt_not (dt_chain op_le op_le of_le of_le (do_of de_int) (do_of (de_b1 call_len_seq of_len m_len (by decide +kernel) (do_name 1))) (do_of de_int))) (dw_or1 (dt_not (dt_val (de_b1 (cr_all bd.calm) of_all m_all (by decide +kernel) (do_of (de_of (df_lc (own := [("one", 2)]) bd sc_is_lot_of.nd (di_seq (de_name 1)) (blkOk_by (by first | rfl | kernel_rfl | decide +kernel)) (by decide) (fun _ _ _ _ _ bdc => (dg_name 2 sc_is_lot_of.nd)) (fun _ _ _ _ _ bdc => dts_nil) (fun _ _ _ _ _ bdc => (de_of (df_callB bdc H_is_number_of (dos_cons (do_name 0) (dos_cons (do_name 2) dos_nil))))))))))))))) (dss_one (ds_ret (df_of de_bool))) dss_nil)
    (dss_one (ds_ret (df_of (de_b1 (cr_all bd.calm) of_all m_all (by decide +kernel) (do_of (de_of (df_lc (own := [("one", 2), ("other", 3)]) bd sc_is_lot_of.nd (di_zip m_zip (dl_cons (de_name 1) (dl_cons (de_cutLT (do_name 1) (do_of de_int)) dl_nil))) (blkOk_by (by first | rfl | kernel_rfl | decide +kernel)) (by decide) (fun _ _ _ _ _ bdc => (dg_tup bdc (dgs_cons (dg_name 2 sc_is_lot_of.nd) (dgs_cons (dg_name 3 sc_is_lot_of.nd) dgs_nil)))) (fun _ _ _ _ _ bdc => dts_nil) (fun _ _ _ _ _ bdc => (de_cmp op_lt of_lt (do_name 2) (do_name 3)))))))))))) (fun ds h => runG h)

theorem sc_need_lot : FnScope ["form", "value"] ["form", "value"] (defScope s_need_lot) := ⟨rfl, rfl, rfl, by decide +kernel, rfl, by decide +kernel, by decide +kernel⟩
theorem ok_need_lot {f : Addr} {fd : FuncData} (F : L2.Fun K "need_lot" "need_lot" s_need_lot f fd) (gm : mg "need_lot" = some (.ref f)) (H_is_lot_of : FnP P w K mg base "is_lot_of" 5 G_is_lot_of) (x_InvalidLot : ExP K mg "InvalidLot") : FnP P w K mg base "need_lot" 6 G_need_lot :=
  fnP_of (N := ["form", "value"]) (ps := ["form", "value"]) F_need_lot F sc_need_lot gm (F.binds fun _ _ _ _ _ _ us hl => match us, hl with | [_, _], _ => rfl) (fun ds h => lenG h) (fun _ _ _ _ _ _ bd => by
    unfold F_need_lot
    exact (dss_one (ds_if (dt_not (dt_val (de_of (df_call bd H_is_lot_of (dl_cons (de_name 0) (dl_cons (de_name 1) dl_nil)))))) (dss_one (ds_raise bd x_InvalidLot)) dss_nil))) (fun ds h => runG h)

theorem sc_need_summed : FnScope ["form", "machine", "lot"] ["form", "machine", "lot"] (defScope s_need_summed) := ⟨rfl, rfl, rfl, by decide +kernel, rfl, by decide +kernel, by decide +kernel⟩
theorem ok_need_summed {f : Addr} {fd : FuncData} (F : L2.Fun K "need_summed" "need_summed" s_need_summed f fd) (gm : mg "need_summed" = some (.ref f)) (H_need_machine : FnP P w K mg base "need_machine" 4 G_need_machine) (H_need_lot : FnP P w K mg base "need_lot" 6 G_need_lot) : FnP P w K mg base "need_summed" 7 G_need_summed :=
  fnP_of (N := ["form", "machine", "lot"]) (ps := ["form", "machine", "lot"]) F_need_summed F sc_need_summed gm (F.binds fun _ _ _ _ _ _ us hl => match us, hl with | [_, _, _], _ => rfl) (fun ds h => lenG h) (fun _ _ _ _ _ _ bd => by
    unfold F_need_summed
    exact (dss_cons (ds_expr (df_call bd H_need_machine (dl_cons (de_name 0) (dl_cons (de_name 1) dl_nil))))
    (dss_one (ds_expr (df_call bd H_need_lot (dl_cons (de_name 0) (dl_cons (de_name 2) dl_nil))))))) (fun ds h => runG h)

theorem sc_need_endless : FnScope ["form", "machine", "lot"] ["form", "machine", "lot"] (defScope s_need_endless) := ⟨rfl, rfl, rfl, by decide +kernel, rfl, by decide +kernel, by decide +kernel⟩
theorem ok_need_endless {f : Addr} {fd : FuncData} (F : L2.Fun K "need_endless" "need_endless" s_need_endless f fd) (gm : mg "need_endless" = some (.ref f)) (H_need_few : FnP P w K mg base "need_few" 3 G_need_few) (H_need_summed : FnP P w K mg base "need_summed" 7 G_need_summed) : FnP P w K mg base "need_endless" 8 G_need_endless :=
  fnP_of (N := ["form", "machine", "lot"]) (ps := ["form", "machine", "lot"]) F_need_endless F sc_need_endless gm (F.binds fun _ _ _ _ _ _ us hl => match us, hl with | [_, _, _], _ => rfl) (fun ds h => lenG h) (fun _ _ _ _ _ _ bd => by
    unfold F_need_endless
    exact (dss_cons (ds_expr (df_call bd H_need_few (dl_cons (de_name 0) dl_nil)))
    (dss_one (ds_expr (df_call bd H_need_summed (dl_cons (de_name 0) (dl_cons (de_name 1) (dl_cons (de_name 2) dl_nil)))))))) (fun ds h => runG h)

theorem sc_with_rings : FnScope ["graph", "left", "going", "later", "place", "steps", "one"] ["graph"] (defScope s_with_rings) := ⟨rfl, rfl, rfl, by decide +kernel, rfl, by decide +kernel, by decide +kernel⟩
theorem ok_with_rings {f : Addr} {fd : FuncData} (F : L2.Fun K "with_rings" "with_rings" s_with_rings f fd) (gm : mg "with_rings" = some (.ref f))  : FnP P w K mg base "with_rings" 1 G_with_rings :=
  fnP_of (N := ["graph", "left", "going", "later", "place", "steps", "one"]) (ps := ["graph"]) F_with_rings F sc_with_rings gm (F.binds fun _ _ _ _ _ _ us hl => match us, hl with | [_], _ => rfl) (fun ds h => lenG h) (fun _ _ _ _ _ _ bd => by
    unfold F_with_rings
    exact (dss_cons (ds_parN [1, 2] bd (dfl_cons (df_name 0) (dfl_cons (df_of de_bool) dfl_nil)) (pgs_cons (pg_name (i := 1) sc_with_rings.nd rfl (by first | exact Or.inl rfl | exact Or.inr rfl)) (pgs_cons (pg_name (i := 2) sc_with_rings.nd rfl (by first | exact Or.inl rfl | exact Or.inr rfl)) pgs_nil)))
    (dss_cons (ds_while [3, 4, 5] 100000 bd (dt_val (de_name 2)) (dss_cons (ds_set 3 sc_with_rings.nd df_dict0)
    (dss_cons (ds_for [4, 5] bd (di_keys (de_name 1)) (dg_name 4 sc_with_rings.nd) (dss_cons (ds_setLc (own := [("one", 6)]) 5 bd sc_with_rings.nd (di_seq (de_getD (bd.hr.units) (do_name 1) (do_name 4))) (blkOk_by (by first | rfl | kernel_rfl | decide +kernel)) (by decide) (fun _ _ _ _ _ bdc => (dg_name 6 sc_with_rings.nd)) (fun _ _ _ _ _ bdc => (dts_one (dt_cmp (op_inDc (bdc.hr.units)) of_inD (do_of (de_ix (do_name 6) (do_of de_int))) (do_name 1)))) (fun _ _ _ _ _ bdc => (de_name 6)))
    (dss_one (ds_if (dt_cmp (op_neD (bd.hr.units)) of_ne (do_name 5) (do_of (de_of (df_lst dl_nil)))) (dss_one (ds_putD (bd.hr.units) 3 (de_name 5) (de_name 4))) dss_nil))))
    (dss_cons (ds_set 2 sc_with_rings.nd (df_of (de_cmp (op_neDc (hu65 bd.hr)) of_neDc (do_name 3) (do_name 1))))
    (dss_one (ds_set 1 sc_with_rings.nd (df_name 3)))))))
    (dss_one (ds_ret (df_name 1)))))) (fun ds h => runG h)

theorem sc_Rests___init__ : FnScope ["self", "form", "machine", "lot"] ["self", "form", "machine", "lot"] (defScope s_Rests___init__) := ⟨rfl, rfl, rfl, by decide +kernel, rfl, by decide +kernel, by decide +kernel⟩
theorem ok_Rests___init__ {f : Addr} {fd : FuncData} (F : L2.Fun K "__init__" "Rests.__init__" s_Rests___init__ f fd) (M : MkF K mg "Rests" f) (cl_Rests : ClP K mg "Rests" ["form", "machine", "lot", "known"]) : MkM P w K mg base "Rests" 1 G_Rests___init__ :=
  mkM_of (N := ["self", "form", "machine", "lot"]) (ps := ["self", "form", "machine", "lot"]) F_Rests___init__ F sc_Rests___init__ M (F.binds fun _ _ _ _ _ _ us hl => match us, hl with | [_, _, _, _], _ => rfl) (fun ds _ h => lenG h) (fun _ _ _ _ _ _ bd => by
    unfold F_Rests___init__
    exact (dss_cons (ds_fld 0 cl_Rests (df_name 1))
    (dss_cons (ds_fld 0 cl_Rests (df_name 2))
    (dss_cons (ds_fld 0 cl_Rests (df_name 3))
    (dss_one (ds_fld 0 cl_Rests df_dict0)))))) (fun ds _ h => runG h)

theorem sc_begun : FnScope ["machine"] ["machine"] (defScope s_begun) := ⟨rfl, rfl, rfl, by decide +kernel, rfl, by decide +kernel, by decide +kernel⟩
theorem ok_begun {f : Addr} {fd : FuncData} (F : L2.Fun K "begun" "begun" s_begun f fd) (gm : mg "begun" = some (.ref f))  : FnP P w K mg base "begun" 1 G_begun :=
  fnP_of (N := ["machine"]) (ps := ["machine"]) F_begun F sc_begun gm (F.binds fun _ _ _ _ _ _ us hl => match us, hl with | [_], _ => rfl) (fun ds h => lenG h) (fun _ _ _ _ _ _ bd => by
    unfold F_begun
    exact (dss_one (ds_ret (df_of (de_ifExp (dt_cmp op_in_seq of_inT (do_of (de_ix (do_name 0) (do_of de_int))) (do_of (de_tup (dl_cons de_str (dl_cons de_str (dl_cons de_str dl_nil)))))) (de_tup (dl_cons de_int (dl_cons de_int dl_nil))) (de_tup (dl_cons de_int dl_nil))))))) (fun ds h => runG h)

theorem sc_sides : FnScope ["bits", "value", "step", "low"] ["bits", "value"] (defScope s_sides) := ⟨rfl, rfl, rfl, by decide +kernel, rfl, by decide +kernel, by decide +kernel⟩
theorem ok_sides {f : Addr} {fd : FuncData} (F : L2.Fun K "sides" "sides" s_sides f fd) (gm : mg "sides" = some (.ref f)) (H_distance : FnP P w K mg base "distance" 2 G_distance) (m_abs : mg "abs" = none) : FnP P w K mg base "sides" 3 G_sides :=
  fnP_of (N := ["bits", "value", "step", "low"]) (ps := ["bits", "value"]) F_sides F sc_sides gm (F.binds fun _ _ _ _ _ _ us hl => match us, hl with | [_, _], _ => rfl) (fun ds h => lenG h) (fun _ _ _ _ _ _ bd => by
    unfold F_sides
    exact (dss_cons (ds_set 2 sc_sides.nd (df_call bd H_distance (dl_cons (de_name 0) (dl_cons (de_b1 call_abs of_abs m_abs (by decide +kernel) (do_name 1)) dl_nil))))
    (dss_cons (ds_set 3 sc_sides.nd (df_of (de_bin op_mul of_mul (do_of (de_bin op_fdiv of_div (do_name 1) (do_name 2))) (do_name 2))))
    (dss_one (ds_ret (df_of (de_tup (dl_cons (de_name 3) (dl_cons (de_ifExp (dt_cmp (op_eqD (bd.hr.units)) of_eq (do_name 3) (do_name 1)) (de_name 3) (de_bin op_add of_add (do_name 3) (do_name 2))) dl_nil))))))))) (fun ds h => runG h)

theorem sc_chosen : FnScope ["bits", "rounding", "value", "low", "high", "near", "far"] ["bits", "rounding", "value"] (defScope s_chosen) := ⟨rfl, rfl, rfl, by decide +kernel, rfl, by decide +kernel, by decide +kernel⟩
theorem ok_chosen {f : Addr} {fd : FuncData} (F : L2.Fun K "chosen" "chosen" s_chosen f fd) (gm : mg "chosen" = some (.ref f)) (H_sides : FnP P w K mg base "sides" 3 G_sides) (m_abs : mg "abs" = none) : FnP P w K mg base "chosen" 4 G_chosen :=
  fnP_of (N := ["bits", "rounding", "value", "low", "high", "near", "far"]) (ps := ["bits", "rounding", "value"]) F_chosen F sc_chosen gm (F.binds fun _ _ _ _ _ _ us hl => match us, hl with | [_, _, _], _ => rfl) (fun ds h => lenG h) (fun _ _ _ _ _ _ bd => by
    unfold F_chosen
    exact (dss_cons (ds_unp (de_of (df_call bd H_sides (dl_cons (de_name 0) (dl_cons (de_name 2) dl_nil)))) (dg_tup bd (dgs_cons (dg_name 3 sc_chosen.nd) (dgs_cons (dg_name 4 sc_chosen.nd) dgs_nil))))
    (dss_cons (ds_if (dt_cmp (op_eqD (bd.hr.units)) of_eq (do_name 3) (do_name 4)) (dss_one (ds_ret (df_name 2))) dss_nil)
    (dss_cons (ds_if (dt_cmp op_in_seq of_inT (do_name 1) (do_of (de_tup (dl_cons de_str (dl_cons de_str dl_nil))))) (dss_one (ds_ret (df_of (de_ifExp (dt_cmp (op_eqD (bd.hr.units)) of_eq (do_name 1) (do_of de_str)) (de_name 3) (de_name 4))))) dss_nil)
    (dss_cons (ds_unp (de_ifExp (dt_cmp op_gt of_gt (do_name 2) (do_of de_int)) (de_tup (dl_cons (de_name 3) (dl_cons (de_name 4) dl_nil))) (de_tup (dl_cons (de_name 4) (dl_cons (de_name 3) dl_nil)))) (dg_tup bd (dgs_cons (dg_name 5 sc_chosen.nd) (dgs_cons (dg_name 6 sc_chosen.nd) dgs_nil))))
    (dss_cons (ds_if (dt_of (dw_or (dt_cmp (op_eqD (bd.hr.units)) of_eq (do_name 1) (do_of de_str)) (dw_or1 (dt_cmp op_lt of_lt (do_of (de_bin op_mul of_mul (do_of de_int) (do_of (de_b1 call_abs of_abs m_abs (by decide +kernel) (do_of (de_bin op_sub of_sub (do_name 2) (do_name 5))))))) (do_of (de_bin op_sub of_sub (do_name 4) (do_name 3))))))) (dss_one (ds_ret (df_name 5))) dss_nil)
    (dss_cons (ds_if (dt_of (dw_or (dt_cmp op_gt of_gt (do_of (de_bin op_mul of_mul (do_of de_int) (do_of (de_b1 call_abs of_abs m_abs (by decide +kernel) (do_of (de_bin op_sub of_sub (do_name 2) (do_name 5))))))) (do_of (de_bin op_sub of_sub (do_name 4) (do_name 3)))) (dw_or1 (dt_cmp (op_eqD (bd.hr.units)) of_eq (do_name 1) (do_of de_str))))) (dss_one (ds_ret (df_name 6))) dss_nil)
    (dss_one (ds_ret (df_of (de_ifExp (dt_cmp (op_eqD (bd.hr.units)) of_eq (do_of (de_bin op_mod of_mod (do_name 3) (do_of (de_bin op_mul of_mul (do_of de_int) (do_of (de_bin op_sub of_sub (do_name 4) (do_name 3))))))) (do_of de_int)) (de_name 3) (de_name 4)))))))))))) (fun ds h => runG h)

theorem sc_round_to : FnScope ["form", "rounding", "value", "found"] ["form", "rounding", "value"] (defScope s_round_to) := ⟨rfl, rfl, rfl, by decide +kernel, rfl, by decide +kernel, by decide +kernel⟩
theorem ok_round_to {f : Addr} {fd : FuncData} (F : L2.Fun K "round_to" "round_to" s_round_to f fd) (gm : mg "round_to" = some (.ref f)) (H_chosen : FnP P w K mg base "chosen" 4 G_chosen) (H_greatest_of : FnP P w K mg base "greatest_of" 2 G_greatest_of) (m_abs : mg "abs" = none) : FnP P w K mg base "round_to" 5 G_round_to :=
  fnP_of (N := ["form", "rounding", "value", "found"]) (ps := ["form", "rounding", "value"]) F_round_to F sc_round_to gm (F.binds fun _ _ _ _ _ _ us hl => match us, hl with | [_, _, _], _ => rfl) (fun ds h => lenG h) (fun _ _ _ _ _ _ bd => by
    unfold F_round_to
    exact (dss_cons (ds_set 3 sc_round_to.nd (df_call bd H_chosen (dl_cons (de_ix (do_name 0) (do_of de_int)) (dl_cons (de_name 1) (dl_cons (de_name 2) dl_nil)))))
    (dss_one (ds_ret (df_of (de_ifExp (dt_cmp op_le of_le (do_of (de_b1 call_abs of_abs m_abs (by decide +kernel) (do_name 3))) (do_of (de_of (df_call bd H_greatest_of (dl_cons (de_name 0) dl_nil))))) (de_name 3) de_none)))))) (fun ds h => runG h)

theorem sc_plus : FnScope ["form", "rounding", "one", "other"] ["form", "rounding", "one", "other"] (defScope s_plus) := ⟨rfl, rfl, rfl, by decide +kernel, rfl, by decide +kernel, by decide +kernel⟩
theorem ok_plus {f : Addr} {fd : FuncData} (F : L2.Fun K "plus" "plus" s_plus f fd) (gm : mg "plus" = some (.ref f)) (H_round_to : FnP P w K mg base "round_to" 5 G_round_to) : FnP P w K mg base "plus" 6 G_plus :=
  fnP_of (N := ["form", "rounding", "one", "other"]) (ps := ["form", "rounding", "one", "other"]) F_plus F sc_plus gm (F.binds fun _ _ _ _ _ _ us hl => match us, hl with | [_, _, _, _], _ => rfl) (fun ds h => lenG h) (fun _ _ _ _ _ _ bd => by
    unfold F_plus
    exact (dss_cons (ds_if (dt_of (dw_or (dt_cmp op_isN of_isN (do_name 2) (do_of de_none)) (dw_or1 (dt_cmp op_isN of_isN (do_name 3) (do_of de_none))))) (dss_one (ds_ret (df_of de_none))) dss_nil)
    (dss_one (ds_ret (df_call bd H_round_to (dl_cons (de_name 0) (dl_cons (de_name 1) (dl_cons (de_bin op_add of_add (do_name 2) (do_name 3)) dl_nil)))))))) (fun ds h => runG h)

theorem sc_less : FnScope ["value"] ["value"] (defScope s_less) := ⟨rfl, rfl, rfl, by decide +kernel, rfl, by decide +kernel, by decide +kernel⟩
theorem ok_less {f : Addr} {fd : FuncData} (F : L2.Fun K "less" "less" s_less f fd) (gm : mg "less" = some (.ref f))  : FnP P w K mg base "less" 1 G_less :=
  fnP_of (N := ["value"]) (ps := ["value"]) F_less F sc_less gm (F.binds fun _ _ _ _ _ _ us hl => match us, hl with | [_], _ => rfl) (fun ds h => lenG h) (fun _ _ _ _ _ _ bd => by
    unfold F_less
    exact (dss_one (ds_ret (df_of (de_ifExp (dt_cmp op_isN of_isN (do_name 0) (do_of de_none)) de_none (de_un un_neg of_neg (do_name 0))))))) (fun ds h => runG h)

theorem sc_kept_step : FnScope ["form", "rounding", "place", "number", "total", "lost", "new", "later", "gone"] ["form", "rounding", "place", "number"] (defScope s_kept_step) := ⟨rfl, rfl, rfl, by decide +kernel, rfl, by decide +kernel, by decide +kernel⟩
theorem ok_kept_step {f : Addr} {fd : FuncData} (F : L2.Fun K "kept_step" "kept_step" s_kept_step f fd) (gm : mg "kept_step" = some (.ref f)) (H_plus : FnP P w K mg base "plus" 6 G_plus) (H_less : FnP P w K mg base "less" 1 G_less) : FnP P w K mg base "kept_step" 7 G_kept_step :=
  fnP_of (N := ["form", "rounding", "place", "number", "total", "lost", "new", "later", "gone"]) (ps := ["form", "rounding", "place", "number"]) F_kept_step F sc_kept_step gm (F.binds fun _ _ _ _ _ _ us hl => match us, hl with | [_, _, _, _], _ => rfl) (fun ds h => lenG h) (fun _ _ _ _ _ _ bd => by
    unfold F_kept_step
    exact (dss_cons (ds_unp (de_name 2) (dg_tup bd (dgs_cons (dg_name 4 sc_kept_step.nd) (dgs_cons (dg_name 5 sc_kept_step.nd) dgs_nil))))
    (dss_cons (ds_set 6 sc_kept_step.nd (df_call bd H_plus (dl_cons (de_name 0) (dl_cons (de_name 1) (dl_cons (de_name 3) (dl_cons (de_un un_neg of_neg (do_name 5)) dl_nil))))))
    (dss_cons (ds_set 7 sc_kept_step.nd (df_call bd H_plus (dl_cons (de_name 0) (dl_cons (de_name 1) (dl_cons (de_name 4) (dl_cons (de_name 6) dl_nil))))))
    (dss_cons (ds_set 8 sc_kept_step.nd (df_call bd H_plus (dl_cons (de_name 0) (dl_cons (de_name 1) (dl_cons (de_name 7) (dl_cons (de_un un_neg of_neg (do_name 4)) dl_nil))))))
    (dss_one (ds_ret (df_of (de_tup (dl_cons (de_name 7) (dl_cons (de_of (df_call bd H_plus (dl_cons (de_name 0) (dl_cons (de_name 1) (dl_cons (de_name 8) (dl_cons (de_of (df_call bd H_less (dl_cons (de_name 6) dl_nil))) dl_nil)))))) dl_nil))))))))))) (fun ds h => runG h)

theorem sc_beside_step : FnScope ["form", "rounding", "place", "number", "total", "lost", "later", "great", "small", "gone"] ["form", "rounding", "place", "number"] (defScope s_beside_step) := ⟨rfl, rfl, rfl, by decide +kernel, rfl, by decide +kernel, by decide +kernel⟩
theorem ok_beside_step {f : Addr} {fd : FuncData} (F : L2.Fun K "beside_step" "beside_step" s_beside_step f fd) (gm : mg "beside_step" = some (.ref f)) (H_plus : FnP P w K mg base "plus" 6 G_plus) (H_less : FnP P w K mg base "less" 1 G_less) (m_abs : mg "abs" = none) : FnP P w K mg base "beside_step" 7 G_beside_step :=
  fnP_of (N := ["form", "rounding", "place", "number", "total", "lost", "later", "great", "small", "gone"]) (ps := ["form", "rounding", "place", "number"]) F_beside_step F sc_beside_step gm (F.binds fun _ _ _ _ _ _ us hl => match us, hl with | [_, _, _, _], _ => rfl) (fun ds h => lenG h) (fun _ _ _ _ _ _ bd => by
    unfold F_beside_step
    exact (dss_cons (ds_unp (de_name 2) (dg_tup bd (dgs_cons (dg_name 4 sc_beside_step.nd) (dgs_cons (dg_name 5 sc_beside_step.nd) dgs_nil))))
    (dss_cons (ds_set 6 sc_beside_step.nd (df_call bd H_plus (dl_cons (de_name 0) (dl_cons (de_name 1) (dl_cons (de_name 4) (dl_cons (de_name 3) dl_nil))))))
    (dss_cons (ds_unp (de_ifExp (dt_cmp op_ge of_ge (do_of (de_b1 call_abs of_abs m_abs (by decide +kernel) (do_name 4))) (do_of (de_b1 call_abs of_abs m_abs (by decide +kernel) (do_name 3)))) (de_tup (dl_cons (de_name 4) (dl_cons (de_name 3) dl_nil))) (de_tup (dl_cons (de_name 3) (dl_cons (de_name 4) dl_nil)))) (dg_tup bd (dgs_cons (dg_name 7 sc_beside_step.nd) (dgs_cons (dg_name 8 sc_beside_step.nd) dgs_nil))))
    (dss_cons (ds_set 9 sc_beside_step.nd (df_call bd H_plus (dl_cons (de_name 0) (dl_cons (de_name 1) (dl_cons (de_of (df_call bd H_plus (dl_cons (de_name 0) (dl_cons (de_name 1) (dl_cons (de_name 7) (dl_cons (de_of (df_call bd H_less (dl_cons (de_name 6) dl_nil))) dl_nil)))))) (dl_cons (de_name 8) dl_nil))))))
    (dss_one (ds_ret (df_of (de_tup (dl_cons (de_name 6) (dl_cons (de_of (df_call bd H_plus (dl_cons (de_name 0) (dl_cons (de_name 1) (dl_cons (de_name 5) (dl_cons (de_name 9) dl_nil)))))) dl_nil))))))))))) (fun ds h => runG h)

theorem sc_wider : FnScope ["form", "way"] ["form", "way"] (defScope s_wider) := ⟨rfl, rfl, rfl, by decide +kernel, rfl, by decide +kernel, by decide +kernel⟩
theorem ok_wider {f : Addr} {fd : FuncData} (F : L2.Fun K "wider" "wider" s_wider f fd) (gm : mg "wider" = some (.ref f))  : FnP P w K mg base "wider" 1 G_wider :=
  fnP_of (N := ["form", "way"]) (ps := ["form", "way"]) F_wider F sc_wider gm (F.binds fun _ _ _ _ _ _ us hl => match us, hl with | [_, _], _ => rfl) (fun ds h => lenG h) (fun _ _ _ _ _ _ bd => by
    unfold F_wider
    exact (dss_cons (ds_if (dt_cmp op_notIn_seq of_notInT (do_name 1) (do_of (de_tup (dl_cons de_str (dl_cons de_str dl_nil))))) (dss_one (ds_ret (df_name 0))) dss_nil)
    (dss_one (ds_ret (df_of (de_tup (dl_cons (de_bin op_add of_add (do_of (de_ix (do_name 0) (do_of de_int))) (do_of (de_ifExp (dt_cmp (op_eqD (bd.hr.units)) of_eq (do_name 1) (do_of de_str)) de_int de_int))) (dl_cons (de_ix (do_name 0) (do_of de_int)) dl_nil)))))))) (fun ds h => runG h)

theorem sc_total_told : FnScope ["form", "machine", "place", "way", "rounding"] ["form", "machine", "place"] (defScope s_total_told) := ⟨rfl, rfl, rfl, by decide +kernel, rfl, by decide +kernel, by decide +kernel⟩
theorem ok_total_told {f : Addr} {fd : FuncData} (F : L2.Fun K "total_told" "total_told" s_total_told f fd) (gm : mg "total_told" = some (.ref f)) (H_round_to : FnP P w K mg base "round_to" 5 G_round_to) (H_plus : FnP P w K mg base "plus" 6 G_plus) : FnP P w K mg base "total_told" 7 G_total_told :=
  fnP_of (N := ["form", "machine", "place", "way", "rounding"]) (ps := ["form", "machine", "place"]) F_total_told F sc_total_told gm (F.binds fun _ _ _ _ _ _ us hl => match us, hl with | [_, _, _], _ => rfl) (fun ds h => lenG h) (fun _ _ _ _ _ _ bd => by
    unfold F_total_told
    exact (dss_cons (ds_unp (de_name 1) (dg_tup bd (dgs_cons (dg_name 3 sc_total_told.nd) (dgs_cons (dg_name 4 sc_total_told.nd) dgs_nil))))
    (dss_cons (ds_if (dt_cmp op_in_seq of_inT (do_name 3) (do_of (de_tup (dl_cons de_str (dl_cons de_str dl_nil))))) (dss_one (ds_ret (df_of (de_ix (do_name 2) (do_of de_int))))) dss_nil)
    (dss_cons (ds_if (dt_cmp op_in_seq of_inT (do_name 3) (do_of (de_tup (dl_cons de_str (dl_cons de_str dl_nil))))) (dss_one (ds_ret (df_call bd H_round_to (dl_cons (de_name 0) (dl_cons (de_name 4) (dl_cons (de_ix (do_name 2) (do_of de_int)) dl_nil)))))) dss_nil)
    (dss_one (ds_ret (df_call bd H_plus (dl_cons (de_name 0) (dl_cons (de_name 4) (dl_cons (de_ix (do_name 2) (do_of de_int)) (dl_cons (de_ix (do_name 2) (do_of de_int)) dl_nil))))))))))) (fun ds h => runG h)

theorem sc_step : FnScope ["form", "machine", "place", "number", "way", "rounding", "new", "high", "low"] ["form", "machine", "place", "number"] (defScope s_step) := ⟨rfl, rfl, rfl, by decide +kernel, rfl, by decide +kernel, by decide +kernel⟩
theorem ok_step {f : Addr} {fd : FuncData} (F : L2.Fun K "step" "step" s_step f fd) (gm : mg "step" = some (.ref f)) (H_kept_step : FnP P w K mg base "kept_step" 7 G_kept_step) (H_beside_step : FnP P w K mg base "beside_step" 7 G_beside_step) (H_plus : FnP P w K mg base "plus" 6 G_plus) (H_wider : FnP P w K mg base "wider" 1 G_wider) (H_total_told : FnP P w K mg base "total_told" 7 G_total_told) : FnP P w K mg base "step" 8 G_step :=
  fnP_of (N := ["form", "machine", "place", "number", "way", "rounding", "new", "high", "low"]) (ps := ["form", "machine", "place", "number"]) F_step F sc_step gm (F.binds fun _ _ _ _ _ _ us hl => match us, hl with | [_, _, _, _], _ => rfl) (fun ds h => lenG h) (fun _ _ _ _ _ _ bd => by
    unfold F_step
    exact (dss_cons (ds_unp (de_name 1) (dg_tup bd (dgs_cons (dg_name 4 sc_step.nd) (dgs_cons (dg_name 5 sc_step.nd) dgs_nil))))
    (dss_cons (ds_if (dt_cmp (op_eqD (bd.hr.units)) of_eq (do_name 4) (do_of de_str)) (dss_one (ds_set 6 sc_step.nd (df_call bd H_kept_step (dl_cons (de_name 0) (dl_cons (de_name 5) (dl_cons (de_name 2) (dl_cons (de_name 3) dl_nil))))))) (dss_one (ds_if (dt_cmp (op_eqD (bd.hr.units)) of_eq (do_name 4) (do_of de_str)) (dss_one (ds_set 6 sc_step.nd (df_call bd H_beside_step (dl_cons (de_name 0) (dl_cons (de_name 5) (dl_cons (de_name 2) (dl_cons (de_name 3) dl_nil))))))) (dss_one (ds_if (dt_cmp (op_eqD (bd.hr.units)) of_eq (do_name 4) (do_of de_str)) (dss_cons (ds_unp (de_name 2) (dg_tup bd (dgs_cons (dg_name 7 sc_step.nd) (dgs_cons (dg_name 8 sc_step.nd) dgs_nil))))
    (dss_one (ds_if (dt_cmp op_ge of_ge (do_name 3) (do_of de_int)) (dss_one (ds_set 6 sc_step.nd (df_of (de_tup (dl_cons (de_of (df_call bd H_plus (dl_cons (de_name 0) (dl_cons (de_name 5) (dl_cons (de_name 7) (dl_cons (de_name 3) dl_nil)))))) (dl_cons (de_name 8) dl_nil)))))) (dss_one (ds_set 6 sc_step.nd (df_of (de_tup (dl_cons (de_name 7) (dl_cons (de_of (df_call bd H_plus (dl_cons (de_name 0) (dl_cons (de_name 5) (dl_cons (de_name 8) (dl_cons (de_name 3) dl_nil)))))) dl_nil))))))))) (dss_one (ds_set 6 sc_step.nd (df_of (de_tup (dl_cons (de_of (df_call bd H_plus (dl_cons (de_of (df_call bd H_wider (dl_cons (de_name 0) (dl_cons (de_name 4) dl_nil)))) (dl_cons (de_name 5) (dl_cons (de_ix (do_name 2) (do_of de_int)) (dl_cons (de_name 3) dl_nil)))))) dl_nil))))))))))
    (dss_one (ds_ret (df_of (de_ifExp (dt_of (dw_or (dt_cmp op_in_seq of_inT (do_of de_none) (do_name 6)) (dw_or1 (dt_cmp op_isN of_isN (do_of (de_of (df_call bd H_total_told (dl_cons (de_name 0) (dl_cons (de_name 1) (dl_cons (de_name 6) dl_nil)))))) (do_of de_none))))) de_none (de_name 6)))))))) (fun ds h => runG h)

theorem sc_first_rows : FnScope ["form", "machine", "lot", "rows", "level", "later", "place", "number", "new"] ["form", "machine", "lot"] (defScope s_first_rows) := ⟨rfl, rfl, rfl, by decide +kernel, rfl, by decide +kernel, by decide +kernel⟩
theorem ok_first_rows {f : Addr} {fd : FuncData} (F : L2.Fun K "first_rows" "first_rows" s_first_rows f fd) (gm : mg "first_rows" = some (.ref f)) (H_begun : FnP P w K mg base "begun" 1 G_begun) (H_step : FnP P w K mg base "step" 8 G_step) : FnP P w K mg base "first_rows" 9 G_first_rows :=
  fnP_of (N := ["form", "machine", "lot", "rows", "level", "later", "place", "number", "new"]) (ps := ["form", "machine", "lot"]) F_first_rows F sc_first_rows gm (F.binds fun _ _ _ _ _ _ us hl => match us, hl with | [_, _, _], _ => rfl) (fun ds h => lenG h) (fun _ _ _ _ _ _ bd => by
    unfold F_first_rows
    exact (dss_cons (ds_par2 3 4 bd sc_first_rows.nd (dfl_cons (df_dict1 (bd.hr.units) (de_of (df_call bd H_begun (dl_cons (de_name 1) dl_nil))) (de_of (df_lst dl_nil))) (dfl_cons (df_lst (dl_cons (de_of (df_call bd H_begun (dl_cons (de_name 1) dl_nil))) dl_nil)) dfl_nil)))
    (dss_cons (ds_while [5, 6, 7, 8] 10000000 bd (dt_cmp (op_neD (bd.hr.units)) of_ne (do_name 4) (do_of (de_of (df_lst dl_nil)))) (dss_cons (ds_set 5 sc_first_rows.nd (df_lst dl_nil))
    (dss_cons (ds_for [6, 7, 8] bd (di_seq (de_name 4)) (dg_name 6 sc_first_rows.nd) (dss_one (ds_for [7, 8] bd (di_seq (de_name 2)) (dg_name 7 sc_first_rows.nd) (dss_cons (ds_set 8 sc_first_rows.nd (df_call bd H_step (dl_cons (de_name 0) (dl_cons (de_name 1) (dl_cons (de_name 6) (dl_cons (de_name 7) dl_nil))))))
    (dss_one (ds_if (dt_of (dw_and (dt_cmp op_notN of_notN (do_name 8) (do_of de_none)) (dw_and1 (dt_cmp (op_notInDc (bd.hr.units)) of_notInD (do_name 8) (do_name 3))))) (dss_cons (ds_putD (bd.hr.units) 3 (de_of (df_cat (do_of (de_getD (bd.hr.units) (do_name 3) (do_name 6))) (do_of (de_of (df_lst (dl_cons (de_name 7) dl_nil)))))) (de_name 8))
    (dss_one (ds_expr (df_append 5 (de_name 8))))) dss_nil))))))
    (dss_one (ds_set 4 sc_first_rows.nd (df_name 5))))))
    (dss_one (ds_ret (df_name 3)))))) (fun ds h => runG h)

theorem sc_gain : FnScope ["form", "machine", "place", "new", "number"] ["form", "machine", "place", "new", "number"] (defScope s_gain) := ⟨rfl, rfl, rfl, by decide +kernel, rfl, by decide +kernel, by decide +kernel⟩
theorem ok_gain {f : Addr} {fd : FuncData} (F : L2.Fun K "gain" "gain" s_gain f fd) (gm : mg "gain" = some (.ref f)) (H_total_told : FnP P w K mg base "total_told" 7 G_total_told) : FnP P w K mg base "gain" 8 G_gain :=
  fnP_of (N := ["form", "machine", "place", "new", "number"]) (ps := ["form", "machine", "place", "new", "number"]) F_gain F sc_gain gm (F.binds fun _ _ _ _ _ _ us hl => match us, hl with | [_, _, _, _, _], _ => rfl) (fun ds h => lenG h) (fun _ _ _ _ _ _ bd => by
    unfold F_gain
    exact (dss_one (ds_ret (df_of (de_bin op_sub of_sub (do_of (de_bin op_sub of_sub (do_of (de_of (df_call bd H_total_told (dl_cons (de_name 0) (dl_cons (de_name 1) (dl_cons (de_name 3) dl_nil)))))) (do_of (de_of (df_call bd H_total_told (dl_cons (de_name 0) (dl_cons (de_name 1) (dl_cons (de_name 2) dl_nil)))))))) (do_name 4)))))) (fun ds h => runG h)

theorem sc_Rests_steps : FnScope ["self", "place", "found", "number", "new"] ["self", "place"] (defScope s_Rests_steps) := ⟨rfl, rfl, rfl, by decide +kernel, rfl, by decide +kernel, by decide +kernel⟩
theorem ok_Rests_steps {f : Addr} {fd : FuncData} (F : L2.Fun K "steps" "Rests.steps" s_Rests_steps f fd) (M : MtF K mg "Rests" "steps" f) (H_step : FnP P w K mg base "step" 8 G_step) (H_gain : FnP P w K mg base "gain" 8 G_gain) (cl_Rests : ClP K mg "Rests" ["form", "machine", "lot", "known"]) : MtM P w K mg base "Rests" "steps" 9 G_Rests_steps :=
  mtM_of (N := ["self", "place", "found", "number", "new"]) (ps := ["self", "place"]) F_Rests_steps F sc_Rests_steps M (F.binds fun _ _ _ _ _ _ us hl => match us, hl with | [_, _], _ => rfl) (fun ds _ h => lenG h) (fun _ _ _ _ _ _ bd => by
    unfold F_Rests_steps
    exact (dss_cons (ds_set 2 sc_Rests_steps.nd (df_lst dl_nil))
    (dss_cons (ds_for [3, 4] bd (di_seq (de_fld cl_Rests (dc_name 0))) (dg_name 3 sc_Rests_steps.nd) (dss_cons (ds_set 4 sc_Rests_steps.nd (df_call bd H_step (dl_cons (de_fld cl_Rests (dc_name 0)) (dl_cons (de_fld cl_Rests (dc_name 0)) (dl_cons (de_name 1) (dl_cons (de_name 3) dl_nil))))))
    (dss_one (ds_if (dt_cmp op_notN of_notN (do_name 4) (do_of de_none)) (dss_one (ds_expr (df_append 2 (de_tup (dl_cons (de_name 3) (dl_cons (de_name 4) (dl_cons (de_of (df_call bd H_gain (dl_cons (de_fld cl_Rests (dc_name 0)) (dl_cons (de_fld cl_Rests (dc_name 0)) (dl_cons (de_name 1) (dl_cons (de_name 4) (dl_cons (de_name 3) dl_nil))))))) dl_nil))))))) dss_nil))))
    (dss_one (ds_ret (df_name 2)))))) (fun ds _ h => runG h)

theorem sc_graph_of : FnScope ["form", "machine", "lot", "sign", "rests", "graph", "place", "number", "new", "grown"] ["form", "machine", "lot", "sign"] (defScope s_graph_of) := ⟨rfl, rfl, rfl, by decide +kernel, rfl, by decide +kernel, by decide +kernel⟩
theorem ok_graph_of {f : Addr} {fd : FuncData} (F : L2.Fun K "graph_of" "graph_of" s_graph_of f fd) (gm : mg "graph_of" = some (.ref f)) (H_Rests___init__ : MkM P w K mg base "Rests" 1 G_Rests___init__) (H_first_rows : FnP P w K mg base "first_rows" 9 G_first_rows) (H_Rests_steps : MtM P w K mg base "Rests" "steps" 9 G_Rests_steps) : FnP P w K mg base "graph_of" 10 G_graph_of :=
  fnP_of (N := ["form", "machine", "lot", "sign", "rests", "graph", "place", "number", "new", "grown"]) (ps := ["form", "machine", "lot", "sign"]) F_graph_of F sc_graph_of gm (F.binds fun _ _ _ _ _ _ us hl => match us, hl with | [_, _, _, _], _ => rfl) (fun ds h => lenG h) (fun _ _ _ _ _ _ bd => by
    unfold F_graph_of
    exact (dss_cons (ds_par2 4 5 bd sc_graph_of.nd (dfl_cons (df_mkO bd H_Rests___init__ (da_cons (da_name 0) (da_cons (da_name 1) (da_cons (da_name 2) da_nil)))) (dfl_cons df_dict0 dfl_nil)))
    (dss_cons (ds_for [6] bd (di_keys (de_of (df_call bd H_first_rows (dl_cons (de_name 0) (dl_cons (de_name 1) (dl_cons (de_name 2) dl_nil)))))) (dg_name 6 sc_graph_of.nd) (dss_one (ds_putD (bd.hr.units) 5 (de_of (df_lc (own := [("number", 7), ("new", 8), ("grown", 9)]) bd sc_graph_of.nd (di_seq (de_of (df_callO bd H_Rests_steps (dc_name 4) (da_cons (da_name 6) da_nil)))) (blkOk_by (by first | rfl | kernel_rfl | decide +kernel)) (by decide) (fun _ _ _ _ _ bdc => (dg_tup bdc (dgs_cons (dg_name 7 sc_graph_of.nd) (dgs_cons (dg_name 8 sc_graph_of.nd) (dgs_cons (dg_name 9 sc_graph_of.nd) dgs_nil))))) (fun _ _ _ _ _ bdc => dts_nil) (fun _ _ _ _ _ bdc => (de_tup (dl_cons (de_name 7) (dl_cons (de_name 8) (dl_cons (de_bin op_mul of_mul (do_name 3) (do_name 9)) dl_nil))))))) (de_name 6))))
    (dss_one (ds_ret (df_name 5)))))) (fun ds h => runG h)

theorem sc_sums_of : FnScope ["graph", "rows", "turn", "later", "place", "number", "new", "grown", "value"] ["graph"] (defScope s_sums_of) := ⟨rfl, rfl, rfl, by decide +kernel, rfl, by decide +kernel, by decide +kernel⟩
theorem ok_sums_of {f : Addr} {fd : FuncData} (F : L2.Fun K "sums_of" "sums_of" s_sums_of f fd) (gm : mg "sums_of" = some (.ref f)) (m_range : mg "range" = none) (m_len : mg "len" = none) : FnP P w K mg base "sums_of" 1 G_sums_of :=
  fnP_of (N := ["graph", "rows", "turn", "later", "place", "number", "new", "grown", "value"]) (ps := ["graph"]) F_sums_of F sc_sums_of gm (F.binds fun _ _ _ _ _ _ us hl => match us, hl with | [_], _ => rfl) (fun ds h => lenG h) (fun _ _ _ _ _ _ bd => by
    unfold F_sums_of
    exact (dss_cons (ds_set 1 sc_sums_of.nd (df_lst (dl_cons (de_of (df_dc0 (bd.hr.units) bd (de_name 0))) dl_nil)))
    (dss_cons (ds_for [2, 3, 4, 5, 6, 7, 8] bd (di_range1 m_range (dl_cons (de_b1 call_lenDc of_lenDc m_len (by decide +kernel) (do_name 0)) dl_nil)) (dg_name 2 sc_sums_of.nd) (dss_cons (ds_set 3 sc_sums_of.nd df_dict0)
    (dss_cons (ds_for [4, 5, 6, 7, 8] bd (di_keys (de_ix (do_name 1) (do_of (de_un un_neg of_neg (do_of de_int))))) (dg_name 4 sc_sums_of.nd) (dss_one (ds_for [5, 6, 7, 8] bd (di_seq (de_getD (bd.hr.units) (do_name 0) (do_name 4))) (dg_tup bd (dgs_cons (dg_name 5 sc_sums_of.nd) (dgs_cons (dg_name 6 sc_sums_of.nd) (dgs_cons (dg_name 7 sc_sums_of.nd) dgs_nil)))) (dss_cons (ds_set 8 sc_sums_of.nd (df_of (de_bin op_add of_add (do_of (de_getD (bd.hr.units) (do_of (de_ix (do_name 1) (do_of (de_un un_neg of_neg (do_of de_int))))) (do_name 4))) (do_name 7))))
    (dss_one (ds_if (dt_of (dw_or (dt_cmp (op_notInDc (bd.hr.units)) of_notInD (do_name 6) (do_name 3)) (dw_or1 (dt_cmp op_gt of_gt (do_name 8) (do_of (de_getD (bd.hr.units) (do_name 3) (do_name 6))))))) (dss_one (ds_putD (bd.hr.units) 3 (de_name 8) (de_name 6))) dss_nil))))))
    (dss_one (ds_expr (df_append 1 (de_name 3)))))))
    (dss_one (ds_ret (df_name 1)))))) (fun ds h => runG h)

theorem sc_lowest : FnScope ["above", "below", "one", "two"] ["above", "below"] (defScope s_lowest) := ⟨rfl, rfl, rfl, by decide +kernel, rfl, by decide +kernel, by decide +kernel⟩
theorem ok_lowest {f : Addr} {fd : FuncData} (F : L2.Fun K "lowest" "lowest" s_lowest f fd) (gm : mg "lowest" = some (.ref f)) (m_abs : mg "abs" = none) : FnP P w K mg base "lowest" 1 G_lowest :=
  fnP_of (N := ["above", "below", "one", "two"]) (ps := ["above", "below"]) F_lowest F sc_lowest gm (F.binds fun _ _ _ _ _ _ us hl => match us, hl with | [_, _], _ => rfl) (fun ds h => lenG h) (fun _ _ _ _ _ _ bd => by
    unfold F_lowest
    exact (dss_cons (ds_par2 2 3 bd sc_lowest.nd (dfl_cons (df_of (de_b1 call_abs of_abs m_abs (by decide +kernel) (do_name 0))) (dfl_cons (df_name 1) dfl_nil)))
    (dss_cons (ds_while [] 100000 bd (dt_cmp op_gt of_gt (do_name 3) (do_of de_int)) (dss_one (ds_par2 2 3 bd sc_lowest.nd (dfl_cons (df_name 3) (dfl_cons (df_of (de_bin op_mod of_mod (do_name 2) (do_name 3))) dfl_nil)))))
    (dss_one (ds_ret (df_of (de_tup (dl_cons (de_bin op_fdiv of_div (do_name 0) (do_name 2)) (dl_cons (de_bin op_fdiv of_div (do_name 1) (do_name 2)) dl_nil))))))))) (fun ds h => runG h)

theorem sc_mean_of : FnScope ["graph", "rows", "many", "best", "place", "least", "turn", "pair"] ["graph"] (defScope s_mean_of) := ⟨rfl, rfl, rfl, by decide +kernel, rfl, by decide +kernel, by decide +kernel⟩
theorem ok_mean_of {f : Addr} {fd : FuncData} (F : L2.Fun K "mean_of" "mean_of" s_mean_of f fd) (gm : mg "mean_of" = some (.ref f)) (H_sums_of : FnP P w K mg base "sums_of" 1 G_sums_of) (H_lowest : FnP P w K mg base "lowest" 1 G_lowest) (m_len : mg "len" = none) (m_range : mg "range" = none) : FnP P w K mg base "mean_of" 2 G_mean_of :=
  fnP_of (N := ["graph", "rows", "many", "best", "place", "least", "turn", "pair"]) (ps := ["graph"]) F_mean_of F sc_mean_of gm (F.binds fun _ _ _ _ _ _ us hl => match us, hl with | [_], _ => rfl) (fun ds h => lenG h) (fun _ _ _ _ _ _ bd => by
    unfold F_mean_of
    exact (dss_cons (ds_par3 1 2 3 bd sc_mean_of.nd (dfl_cons (df_call bd H_sums_of (dl_cons (de_name 0) dl_nil)) (dfl_cons (df_of (de_b1 call_lenDc of_lenDc m_len (by decide +kernel) (do_name 0))) (dfl_cons (df_of de_none) dfl_nil))))
    (dss_cons (ds_for [4, 5, 6, 7] bd (di_keys (de_ix (do_name 1) (do_name 2))) (dg_name 4 sc_mean_of.nd) (dss_cons (ds_set 5 sc_mean_of.nd (df_of de_none))
    (dss_cons (ds_for [6, 7] bd (di_range1 m_range (dl_cons (de_name 2) dl_nil)) (dg_name 6 sc_mean_of.nd) (dss_one (ds_if (dt_cmp (op_inDc (bd.hr.units)) of_inD (do_name 4) (do_of (de_ix (do_name 1) (do_name 6)))) (dss_cons (ds_set 7 sc_mean_of.nd (df_of (de_tup (dl_cons (de_bin op_sub of_sub (do_of (de_getD (bd.hr.units) (do_of (de_ix (do_name 1) (do_name 2))) (do_name 4))) (do_of (de_getD (bd.hr.units) (do_of (de_ix (do_name 1) (do_name 6))) (do_name 4)))) (dl_cons (de_bin op_sub of_sub (do_name 2) (do_name 6)) dl_nil)))))
    (dss_one (ds_if (dt_of (dw_or (dt_cmp op_isN of_isN (do_name 5) (do_of de_none)) (dw_or1 (dt_cmp op_lt of_lt (do_of (de_bin op_mul of_mul (do_of (de_ix (do_name 7) (do_of de_int))) (do_of (de_ix (do_name 5) (do_of de_int))))) (do_of (de_bin op_mul of_mul (do_of (de_ix (do_name 5) (do_of de_int))) (do_of (de_ix (do_name 7) (do_of de_int))))))))) (dss_one (ds_set 5 sc_mean_of.nd (df_name 7))) dss_nil))) dss_nil)))
    (dss_one (ds_if (dt_of (dw_or (dt_cmp op_isN of_isN (do_name 3) (do_of de_none)) (dw_or1 (dt_cmp op_gt of_gt (do_of (de_bin op_mul of_mul (do_of (de_ix (do_name 5) (do_of de_int))) (do_of (de_ix (do_name 3) (do_of de_int))))) (do_of (de_bin op_mul of_mul (do_of (de_ix (do_name 3) (do_of de_int))) (do_of (de_ix (do_name 5) (do_of de_int))))))))) (dss_one (ds_set 3 sc_mean_of.nd (df_name 5))) dss_nil)))))
    (dss_one (ds_ret (df_call bd H_lowest (dl_cons (de_ix (do_name 3) (do_of de_int)) (dl_cons (de_ix (do_name 3) (do_of de_int)) dl_nil)))))))) (fun ds h => runG h)

theorem sc_drifts : FnScope ["form", "machine", "lot", "low", "high", "above", "below"] ["form", "machine", "lot"] (defScope s_drifts) := ⟨rfl, rfl, rfl, by decide +kernel, rfl, by decide +kernel, by decide +kernel⟩
theorem ok_drifts {f : Addr} {fd : FuncData} (F : L2.Fun K "drifts" "drifts" s_drifts f fd) (gm : mg "drifts" = some (.ref f)) (H_need_endless : FnP P w K mg base "need_endless" 8 G_need_endless) (H_with_rings : FnP P w K mg base "with_rings" 1 G_with_rings) (H_graph_of : FnP P w K mg base "graph_of" 10 G_graph_of) (H_mean_of : FnP P w K mg base "mean_of" 2 G_mean_of) : FnP P w K mg base "drifts" 11 G_drifts :=
  fnP_of (N := ["form", "machine", "lot", "low", "high", "above", "below"]) (ps := ["form", "machine", "lot"]) F_drifts F sc_drifts gm (F.binds fun _ _ _ _ _ _ us hl => match us, hl with | [_, _, _], _ => rfl) (fun ds h => lenG h) (fun _ _ _ _ _ _ bd => by
    unfold F_drifts
    exact (dss_cons (ds_expr (df_call bd H_need_endless (dl_cons (de_name 0) (dl_cons (de_name 1) (dl_cons (de_name 2) dl_nil)))))
    (dss_cons (ds_par2 3 4 bd sc_drifts.nd (dfl_cons (df_call bd H_with_rings (dl_cons (de_of (df_call bd H_graph_of (dl_cons (de_name 0) (dl_cons (de_name 1) (dl_cons (de_name 2) (dl_cons (de_un un_neg of_neg (do_of de_int)) dl_nil)))))) dl_nil)) (dfl_cons (df_call bd H_with_rings (dl_cons (de_of (df_call bd H_graph_of (dl_cons (de_name 0) (dl_cons (de_name 1) (dl_cons (de_name 2) (dl_cons de_int dl_nil)))))) dl_nil)) dfl_nil)))
    (dss_cons (ds_if (dt_cmp (op_eqDc (hu65 bd.hr)) of_eqDc (do_name 4) (do_of (de_of df_dict0))) (dss_one (ds_ret (df_of de_none))) dss_nil)
    (dss_cons (ds_unp (de_of (df_call bd H_mean_of (dl_cons (de_name 3) dl_nil))) (dg_tup bd (dgs_cons (dg_name 5 sc_drifts.nd) (dgs_cons (dg_name 6 sc_drifts.nd) dgs_nil))))
    (dss_one (ds_ret (df_of (de_tup (dl_cons (de_tup (dl_cons (de_un un_neg of_neg (do_name 5)) (dl_cons (de_name 6) dl_nil))) (dl_cons (de_of (df_call bd H_mean_of (dl_cons (de_name 4) dl_nil))) dl_nil))))))))))) (fun ds h => runG h)

theorem sc_spoiling_row : FnScope ["form", "machine", "lot", "rows", "many", "row", "place", "number"] ["form", "machine", "lot"] (defScope s_spoiling_row) := ⟨rfl, rfl, rfl, by decide +kernel, rfl, by decide +kernel, by decide +kernel⟩
theorem ok_spoiling_row {f : Addr} {fd : FuncData} (F : L2.Fun K "spoiling_row" "spoiling_row" s_spoiling_row f fd) (gm : mg "spoiling_row" = some (.ref f)) (H_need_summed : FnP P w K mg base "need_summed" 7 G_need_summed) (H_first_rows : FnP P w K mg base "first_rows" 9 G_first_rows) (H_step : FnP P w K mg base "step" 8 G_step) (m_sorted : mg "sorted" = none) (m_len : mg "len" = none) : FnP P w K mg base "spoiling_row" 10 G_spoiling_row :=
  fnP_of (N := ["form", "machine", "lot", "rows", "many", "row", "place", "number"]) (ps := ["form", "machine", "lot"]) F_spoiling_row F sc_spoiling_row gm (F.binds fun _ _ _ _ _ _ us hl => match us, hl with | [_, _, _], _ => rfl) (fun ds h => lenG h) (fun _ _ _ _ _ _ bd => by
    unfold F_spoiling_row
    exact (dss_cons (ds_expr (df_call bd H_need_summed (dl_cons (de_name 0) (dl_cons (de_name 1) (dl_cons (de_name 2) dl_nil)))))
    (dss_cons (ds_set 3 sc_spoiling_row.nd (df_call bd H_first_rows (dl_cons (de_name 0) (dl_cons (de_name 1) (dl_cons (de_name 2) dl_nil)))))
    (dss_cons (ds_for [4, 5, 6, 7] bd (di_seq (de_of (df_bl1 (cr_sortD (bd.hr.units)) of_sortD m_sorted (by decide +kernel) (do_of (de_of (df_lc (own := [("place", 6)]) bd sc_spoiling_row.nd (di_keys (de_name 3)) (blkOk_by (by first | rfl | kernel_rfl | decide +kernel)) (by decide) (fun _ _ _ _ _ bdc => (dg_name 6 sc_spoiling_row.nd)) (fun _ _ _ _ _ bdc => dts_nil) (fun _ _ _ _ _ bdc => (de_tup (dl_cons (de_b1 call_len_seq of_len m_len (by decide +kernel) (do_of (de_getD (bdc.hr.units) (do_name 3) (do_name 6)))) (dl_cons (de_getD (bdc.hr.units) (do_name 3) (do_name 6)) (dl_cons (de_name 6) dl_nil))))))))))) (dg_tup bd (dgs_cons (dg_name 4 sc_spoiling_row.nd) (dgs_cons (dg_name 5 sc_spoiling_row.nd) (dgs_cons (dg_name 6 sc_spoiling_row.nd) dgs_nil)))) (dss_one (ds_for [7] bd (di_seq (de_name 2)) (dg_name 7 sc_spoiling_row.nd) (dss_one (ds_if (dt_cmp op_isN of_isN (do_of (de_of (df_call bd H_step (dl_cons (de_name 0) (dl_cons (de_name 1) (dl_cons (de_name 6) (dl_cons (de_name 7) dl_nil))))))) (do_of de_none)) (dss_one (ds_ret (df_cat (do_name 5) (do_of (de_of (df_lst (dl_cons (de_name 7) dl_nil))))))) dss_nil)))))
    (dss_one (ds_ret (df_of de_none))))))) (fun ds h => runG h)

theorem sc_places : FnScope ["form", "machine", "lot"] ["form", "machine", "lot"] (defScope s_places) := ⟨rfl, rfl, rfl, by decide +kernel, rfl, by decide +kernel, by decide +kernel⟩
theorem ok_places {f : Addr} {fd : FuncData} (F : L2.Fun K "places" "places" s_places f fd) (gm : mg "places" = some (.ref f)) (H_need_summed : FnP P w K mg base "need_summed" 7 G_need_summed) (H_first_rows : FnP P w K mg base "first_rows" 9 G_first_rows) (m_sorted : mg "sorted" = none) : FnP P w K mg base "places" 10 G_places :=
  fnP_of (N := ["form", "machine", "lot"]) (ps := ["form", "machine", "lot"]) F_places F sc_places gm (F.binds fun _ _ _ _ _ _ us hl => match us, hl with | [_, _, _], _ => rfl) (fun ds h => lenG h) (fun _ _ _ _ _ _ bd => by
    unfold F_places
    exact (dss_cons (ds_expr (df_call bd H_need_summed (dl_cons (de_name 0) (dl_cons (de_name 1) (dl_cons (de_name 2) dl_nil)))))
    (dss_one (ds_ret (df_bl1 (cr_sortK bd.calm (bd.hr.units)) of_sortK m_sorted (by decide +kernel) (do_of (de_of (df_call bd H_first_rows (dl_cons (de_name 0) (dl_cons (de_name 1) (dl_cons (de_name 2) dl_nil))))))))))) (fun ds h => runG h)

theorem sc_greatest_sum : FnScope ["graph", "start", "best", "turns", "changed", "place", "number", "new", "grown"] ["graph", "start"] (defScope s_greatest_sum) := ⟨rfl, rfl, rfl, by decide +kernel, rfl, by decide +kernel, by decide +kernel⟩
theorem ok_greatest_sum {f : Addr} {fd : FuncData} (F : L2.Fun K "greatest_sum" "greatest_sum" s_greatest_sum f fd) (gm : mg "greatest_sum" = some (.ref f)) (m_list : mg "list" = none) (m_len : mg "len" = none) (m_max : mg "max" = none) : FnP P w K mg base "greatest_sum" 1 G_greatest_sum :=
  fnP_of (N := ["graph", "start", "best", "turns", "changed", "place", "number", "new", "grown"]) (ps := ["graph", "start"]) F_greatest_sum F sc_greatest_sum gm (F.binds fun _ _ _ _ _ _ us hl => match us, hl with | [_, _], _ => rfl) (fun ds h => lenG h) (fun _ _ _ _ _ _ bd => by
    unfold F_greatest_sum
    exact (dss_cons (ds_parN [2, 3, 4] bd (dfl_cons (df_dict1 (bd.hr.units) (de_name 1) de_int) (dfl_cons (df_of de_int) (dfl_cons (df_of de_bool) dfl_nil))) (pgs_cons (pg_name (i := 2) sc_greatest_sum.nd rfl (by first | exact Or.inl rfl | exact Or.inr rfl)) (pgs_cons (pg_name (i := 3) sc_greatest_sum.nd rfl (by first | exact Or.inl rfl | exact Or.inr rfl)) (pgs_cons (pg_name (i := 4) sc_greatest_sum.nd rfl (by first | exact Or.inl rfl | exact Or.inr rfl)) pgs_nil))))
    (dss_cons (ds_while [6, 7, 8] 100000 bd (dt_val (de_name 4)) (dss_cons (ds_set 4 sc_greatest_sum.nd (df_of de_bool))
    (dss_cons (ds_aug 3 sc_greatest_sum.nd iop_add of_add de_int)
    (dss_cons (ds_for [6, 7, 8] bd (di_seq (de_of (df_tl1 (call_listDc bd.calm) of_listDc m_list (by decide +kernel) (do_name 2)))) (dg_name 5 sc_greatest_sum.nd) (dss_one (ds_for [6, 7, 8] bd (di_seq (de_getD (bd.hr.units) (do_name 0) (do_name 5))) (dg_tup bd (dgs_cons (dg_name 6 sc_greatest_sum.nd) (dgs_cons (dg_name 7 sc_greatest_sum.nd) (dgs_cons (dg_name 8 sc_greatest_sum.nd) dgs_nil)))) (dss_one (ds_if (dt_of (dw_or (dt_cmp (op_notInDc (bd.hr.units)) of_notInD (do_name 7) (do_name 2)) (dw_or1 (dt_cmp op_gt of_gt (do_of (de_bin op_add of_add (do_of (de_getD (bd.hr.units) (do_name 2) (do_name 5))) (do_name 8))) (do_of (de_getD (bd.hr.units) (do_name 2) (do_name 7))))))) (dss_cons (ds_putD (bd.hr.units) 2 (de_bin op_add of_add (do_of (de_getD (bd.hr.units) (do_name 2) (do_name 5))) (do_name 8)) (de_name 7))
    (dss_one (ds_set 4 sc_greatest_sum.nd (df_of de_bool)))) dss_nil)))))
    (dss_one (ds_if (dt_cmp op_gt of_gt (do_name 3) (do_of (de_bin op_add of_add (do_of (de_b1 call_lenDc of_lenDc m_len (by decide +kernel) (do_name 0))) (do_of de_int)))) (dss_one (ds_ret (df_of de_none))) dss_nil))))))
    (dss_one (ds_ret (df_of (de_b1 (cr_max bd.calm) of_maxL m_max (by decide +kernel) (do_of (de_of (df_lc (own := [("place", 5)]) bd sc_greatest_sum.nd (di_keys (de_name 2)) (blkOk_by (by first | rfl | kernel_rfl | decide +kernel)) (by decide) (fun _ _ _ _ _ bdc => (dg_name 5 sc_greatest_sum.nd)) (fun _ _ _ _ _ bdc => dts_nil) (fun _ _ _ _ _ bdc => (de_getD (bdc.hr.units) (do_name 2) (do_name 5))))))))))))) (fun ds h => runG h)

theorem sc_least_ever : FnScope ["form", "machine", "lot", "found"] ["form", "machine", "lot"] (defScope s_least_ever) := ⟨rfl, rfl, rfl, by decide +kernel, rfl, by decide +kernel, by decide +kernel⟩
theorem ok_least_ever {f : Addr} {fd : FuncData} (F : L2.Fun K "least_ever" "least_ever" s_least_ever f fd) (gm : mg "least_ever" = some (.ref f)) (H_need_endless : FnP P w K mg base "need_endless" 8 G_need_endless) (H_greatest_sum : FnP P w K mg base "greatest_sum" 1 G_greatest_sum) (H_begun : FnP P w K mg base "begun" 1 G_begun) (H_graph_of : FnP P w K mg base "graph_of" 10 G_graph_of) : FnP P w K mg base "least_ever" 11 G_least_ever :=
  fnP_of (N := ["form", "machine", "lot", "found"]) (ps := ["form", "machine", "lot"]) F_least_ever F sc_least_ever gm (F.binds fun _ _ _ _ _ _ us hl => match us, hl with | [_, _, _], _ => rfl) (fun ds h => lenG h) (fun _ _ _ _ _ _ bd => by
    unfold F_least_ever
    exact (dss_cons (ds_expr (df_call bd H_need_endless (dl_cons (de_name 0) (dl_cons (de_name 1) (dl_cons (de_name 2) dl_nil)))))
    (dss_cons (ds_set 3 sc_least_ever.nd (df_call bd H_greatest_sum (dl_cons (de_of (df_call bd H_graph_of (dl_cons (de_name 0) (dl_cons (de_name 1) (dl_cons (de_name 2) (dl_cons (de_un un_neg of_neg (do_of de_int)) dl_nil)))))) (dl_cons (de_of (df_call bd H_begun (dl_cons (de_name 1) dl_nil))) dl_nil))))
    (dss_one (ds_ret (df_of (de_ifExp (dt_cmp op_isN of_isN (do_name 3) (do_of de_none)) de_none (de_un un_neg of_neg (do_name 3))))))))) (fun ds h => runG h)

theorem sc_is_row_of : FnScope ["form", "value", "one"] ["form", "value"] (defScope s_is_row_of) := ⟨rfl, rfl, rfl, by decide +kernel, rfl, by decide +kernel, by decide +kernel⟩
theorem ok_is_row_of {f : Addr} {fd : FuncData} (F : L2.Fun K "is_row_of" "is_row_of" s_is_row_of f fd) (gm : mg "is_row_of" = some (.ref f)) (H_is_number_of : FnP P w K mg base "is_number_of" 4 G_is_number_of) (m_isinstance : mg "isinstance" = none) (m_list : mg "list" = none) (m_len : mg "len" = none) (m_all : mg "all" = none) (c_LONGEST : GlP w K mg "LONGEST" K_LONGEST) : FnP P w K mg base "is_row_of" 5 G_is_row_of :=
  fnP_of (N := ["form", "value", "one"]) (ps := ["form", "value"]) F_is_row_of F sc_is_row_of gm (F.binds fun _ _ _ _ _ _ us hl => match us, hl with | [_, _], _ => rfl) (fun ds h => lenG h) (fun _ _ _ _ _ _ bd => by
    unfold F_is_row_of
    exact (dss_one (ds_ret (df_of (de_and (de_isi kit_list m_isinstance m_list boot_list_ (do_name 1)) (de_and (de_cmp op_le of_le (do_of (de_b1 call_len_seq of_len m_len (by decide +kernel) (do_name 1))) (do_of (de_gl c_LONGEST))) (de_one (de_b1 (cr_all bd.calm) of_all m_all (by decide +kernel) (do_of (de_of (df_lc (own := [("one", 2)]) bd sc_is_row_of.nd (di_seq (de_name 1)) (blkOk_by (by first | rfl | kernel_rfl | decide +kernel)) (by decide) (fun _ _ _ _ _ bdc => (dg_name 2 sc_is_row_of.nd)) (fun _ _ _ _ _ bdc => dts_nil) (fun _ _ _ _ _ bdc => (de_of (df_callB bdc H_is_number_of (dos_cons (do_name 0) (dos_cons (do_name 2) dos_nil)))))))))))))))) (fun ds h => runG h)

theorem sc_need_row : FnScope ["form", "machine", "row"] ["form", "machine", "row"] (defScope s_need_row) := ⟨rfl, rfl, rfl, by decide +kernel, rfl, by decide +kernel, by decide +kernel⟩
theorem ok_need_row {f : Addr} {fd : FuncData} (F : L2.Fun K "need_row" "need_row" s_need_row f fd) (gm : mg "need_row" = some (.ref f)) (H_need_machine : FnP P w K mg base "need_machine" 4 G_need_machine) (H_is_row_of : FnP P w K mg base "is_row_of" 5 G_is_row_of) (x_InvalidRow : ExP K mg "InvalidRow") : FnP P w K mg base "need_row" 6 G_need_row :=
  fnP_of (N := ["form", "machine", "row"]) (ps := ["form", "machine", "row"]) F_need_row F sc_need_row gm (F.binds fun _ _ _ _ _ _ us hl => match us, hl with | [_, _, _], _ => rfl) (fun ds h => lenG h) (fun _ _ _ _ _ _ bd => by
    unfold F_need_row
    exact (dss_cons (ds_expr (df_call bd H_need_machine (dl_cons (de_name 0) (dl_cons (de_name 1) dl_nil))))
    (dss_one (ds_if (dt_not (dt_val (de_of (df_call bd H_is_row_of (dl_cons (de_name 0) (dl_cons (de_name 2) dl_nil)))))) (dss_one (ds_raise bd x_InvalidRow)) dss_nil)))) (fun ds h => runG h)

theorem sc_run : FnScope ["form", "machine", "row", "place", "found", "number"] ["form", "machine", "row"] (defScope s_run) := ⟨rfl, rfl, rfl, by decide +kernel, rfl, by decide +kernel, by decide +kernel⟩
theorem ok_run {f : Addr} {fd : FuncData} (F : L2.Fun K "run" "run" s_run f fd) (gm : mg "run" = some (.ref f)) (H_begun : FnP P w K mg base "begun" 1 G_begun) (H_step : FnP P w K mg base "step" 8 G_step) : FnP P w K mg base "run" 9 G_run :=
  fnP_of (N := ["form", "machine", "row", "place", "found", "number"]) (ps := ["form", "machine", "row"]) F_run F sc_run gm (F.binds fun _ _ _ _ _ _ us hl => match us, hl with | [_, _, _], _ => rfl) (fun ds h => lenG h) (fun _ _ _ _ _ _ bd => by
    unfold F_run
    exact (dss_cons (ds_par2 3 4 bd sc_run.nd (dfl_cons (df_call bd H_begun (dl_cons (de_name 1) dl_nil)) (dfl_cons (df_lst dl_nil) dfl_nil)))
    (dss_cons (ds_for [5] bd (di_seq (de_name 2)) (dg_name 5 sc_run.nd) (dss_cons (ds_set 3 sc_run.nd (df_ifExp (dt_cmp op_notN of_notN (do_name 3) (do_of de_none)) (df_call bd H_step (dl_cons (de_name 0) (dl_cons (de_name 1) (dl_cons (de_name 3) (dl_cons (de_name 5) dl_nil))))) (df_of de_none)))
    (dss_one (ds_expr (df_append 4 (de_name 3))))))
    (dss_one (ds_ret (df_name 4)))))) (fun ds h => runG h)

theorem sc_totals_of : FnScope ["form", "machine", "row", "place"] ["form", "machine", "row"] (defScope s_totals_of) := ⟨rfl, rfl, rfl, by decide +kernel, rfl, by decide +kernel, by decide +kernel⟩
theorem ok_totals_of {f : Addr} {fd : FuncData} (F : L2.Fun K "totals_of" "totals_of" s_totals_of f fd) (gm : mg "totals_of" = some (.ref f)) (H_run : FnP P w K mg base "run" 9 G_run) (H_total_told : FnP P w K mg base "total_told" 7 G_total_told) : FnP P w K mg base "totals_of" 10 G_totals_of :=
  fnP_of (N := ["form", "machine", "row", "place"]) (ps := ["form", "machine", "row"]) F_totals_of F sc_totals_of gm (F.binds fun _ _ _ _ _ _ us hl => match us, hl with | [_, _, _], _ => rfl) (fun ds h => lenG h) (fun _ _ _ _ _ _ bd => by
    unfold F_totals_of
    exact (dss_one (ds_ret (df_lc (own := [("place", 3)]) bd sc_totals_of.nd (di_seq (de_of (df_call bd H_run (dl_cons (de_name 0) (dl_cons (de_name 1) (dl_cons (de_name 2) dl_nil)))))) (blkOk_by (by first | rfl | kernel_rfl | decide +kernel)) (by decide) (fun _ _ _ _ _ bdc => (dg_name 3 sc_totals_of.nd)) (fun _ _ _ _ _ bdc => dts_nil) (fun _ _ _ _ _ bdc => (de_ifExp (dt_cmp op_isN of_isN (do_name 3) (do_of de_none)) de_none (de_of (df_call bdc H_total_told (dl_cons (de_name 0) (dl_cons (de_name 1) (dl_cons (de_name 3) dl_nil))))))))))) (fun ds h => runG h)

theorem sc_totals : FnScope ["form", "machine", "row"] ["form", "machine", "row"] (defScope s_totals) := ⟨rfl, rfl, rfl, by decide +kernel, rfl, by decide +kernel, by decide +kernel⟩
theorem ok_totals {f : Addr} {fd : FuncData} (F : L2.Fun K "totals" "totals" s_totals f fd) (gm : mg "totals" = some (.ref f)) (H_need_row : FnP P w K mg base "need_row" 6 G_need_row) (H_totals_of : FnP P w K mg base "totals_of" 10 G_totals_of) : FnP P w K mg base "totals" 11 G_totals :=
  fnP_of (N := ["form", "machine", "row"]) (ps := ["form", "machine", "row"]) F_totals F sc_totals gm (F.binds fun _ _ _ _ _ _ us hl => match us, hl with | [_, _, _], _ => rfl) (fun ds h => lenG h) (fun _ _ _ _ _ _ bd => by
    unfold F_totals
    exact (dss_cons (ds_expr (df_call bd H_need_row (dl_cons (de_name 0) (dl_cons (de_name 1) (dl_cons (de_name 2) dl_nil)))))
    (dss_one (ds_ret (df_call bd H_totals_of (dl_cons (de_name 0) (dl_cons (de_name 1) (dl_cons (de_name 2) dl_nil)))))))) (fun ds h => runG h)

theorem sc_greatest_ever : FnScope ["form", "machine", "lot"] ["form", "machine", "lot"] (defScope s_greatest_ever) := ⟨rfl, rfl, rfl, by decide +kernel, rfl, by decide +kernel, by decide +kernel⟩
theorem ok_greatest_ever {f : Addr} {fd : FuncData} (F : L2.Fun K "greatest_ever" "greatest_ever" s_greatest_ever f fd) (gm : mg "greatest_ever" = some (.ref f)) (H_need_endless : FnP P w K mg base "need_endless" 8 G_need_endless) (H_greatest_sum : FnP P w K mg base "greatest_sum" 1 G_greatest_sum) (H_begun : FnP P w K mg base "begun" 1 G_begun) (H_graph_of : FnP P w K mg base "graph_of" 10 G_graph_of) : FnP P w K mg base "greatest_ever" 11 G_greatest_ever :=
  fnP_of (N := ["form", "machine", "lot"]) (ps := ["form", "machine", "lot"]) F_greatest_ever F sc_greatest_ever gm (F.binds fun _ _ _ _ _ _ us hl => match us, hl with | [_, _, _], _ => rfl) (fun ds h => lenG h) (fun _ _ _ _ _ _ bd => by
    unfold F_greatest_ever
    exact (dss_cons (ds_expr (df_call bd H_need_endless (dl_cons (de_name 0) (dl_cons (de_name 1) (dl_cons (de_name 2) dl_nil)))))
    (dss_one (ds_ret (df_call bd H_greatest_sum (dl_cons (de_of (df_call bd H_graph_of (dl_cons (de_name 0) (dl_cons (de_name 1) (dl_cons (de_name 2) (dl_cons de_int dl_nil)))))) (dl_cons (de_of (df_call bd H_begun (dl_cons (de_name 1) dl_nil))) dl_nil))))))) (fun ds h => runG h)

theorem sc_l_law : FnScope ["_law_script", "_law_town", "_law_form_here", "_law_mode_here", "_law_machine", "_law_power", "_law_due", "_law_told", "_law_lost"] ["_law_script"] (defScope s_l_law) := ⟨rfl, rfl, rfl, by decide +kernel, rfl, by decide +kernel, by decide +kernel⟩
theorem ok_l_law {f : Addr} {fd : FuncData} (F : L2.Fun K "law" "law" s_l_law f fd) (H_l_pick : FnM P w K mg base "_law_pick" 2 G_l_pick) (H_l_mode : FnM P w K mg base "_law_mode" 3 G_l_mode) (H_l_top : FnP P w K mg base "_law_top" 1 G_l_top) (H_spoiling_row : FnP P w K mg base "spoiling_row" 10 G_spoiling_row) (H_drifts : FnP P w K mg base "drifts" 11 G_drifts) (H_places : FnP P w K mg base "places" 10 G_places) (H_least_ever : FnP P w K mg base "least_ever" 11 G_least_ever) (H_totals : FnP P w K mg base "totals" 11 G_totals) (H_greatest_ever : FnP P w K mg base "greatest_ever" 11 G_greatest_ever) (m_len : mg "len" = none) (m_max : mg "max" = none) : FnOk P w K mg base (L2.CX P w) 12 f fd ["_law_script"] (spM ⟨w, K, mg⟩ G_l_law) :=
  fnM_ok (N := ["_law_script", "_law_town", "_law_form_here", "_law_mode_here", "_law_machine", "_law_power", "_law_due", "_law_told", "_law_lost"]) (ps := ["_law_script"]) F_l_law F sc_l_law (fun ds _ h => lenG h) (fun _ _ _ _ _ _ bd => by
    unfold F_l_law
    exact (dss_cons (ds_cell 1 sc_l_law.nd (df_lst (dl_cons de_int (dl_cons de_int dl_nil))))
    (dss_cons (ds_set 2 sc_l_law.nd (df_callM bd H_l_pick (da_cons (da_name 0) (da_cons (da_name 1) (da_cons (da_of (de_of (df_lst (dl_cons (de_tup (dl_cons de_int (dl_cons de_int dl_nil))) (dl_cons (de_tup (dl_cons de_int (dl_cons de_int dl_nil))) (dl_cons (de_tup (dl_cons de_int (dl_cons de_int dl_nil))) dl_nil)))))) da_nil)))))
    (dss_cons (ds_set 3 sc_l_law.nd (df_callM bd H_l_mode (da_cons (da_name 0) (da_cons (da_name 1) da_nil))))
    (dss_cons (ds_par2 4 5 bd sc_l_law.nd (dfl_cons (df_of (de_tup (dl_cons de_str (dl_cons (de_name 3) dl_nil)))) (dfl_cons (df_of (de_bin op_add of_add (do_of (de_of (df_call bd H_l_top (dl_cons (de_tup (dl_cons (de_ix (do_name 2) (do_of de_int)) (dl_cons de_int dl_nil))) dl_nil)))) (do_of de_int))) dfl_nil)))
    (dss_cons (ds_set 6 sc_l_law.nd (df_of (de_dget1 (Nat.lt_of_le_of_lt (Nat.add_le_add_left (by decide) _) (hu65 bd.hr)) (.cons (de_name 5) (.cons (de_name 5) (.cons (de_name 5) (.cons (de_bin op_mul of_mul (do_of de_int) (do_name 5)) .nil)))) (de_name 3) (by decide) ⟨by rfl, by rfl, by rfl, by rfl⟩)))
    (dss_cons (ds_if (dt_of (dw_and (dt_cmp (op_eqD (bd.hr.units)) of_eq (do_name 3) (do_of de_str)) (dw_and1 (dt_cmp (op_eqD (bd.hr.units)) of_eq (do_of (de_ix (do_name 2) (do_of de_int))) (do_of de_int))))) (dss_one (ds_set 6 sc_l_law.nd (df_of de_none))) dss_nil)
    (dss_cons (ds_par2 7 8 bd sc_l_law.nd (dfl_cons (df_call bd H_drifts (dl_cons (de_name 2) (dl_cons (de_name 4) (dl_cons (de_tup (dl_cons de_int dl_nil)) dl_nil)))) (dfl_cons (df_call bd H_spoiling_row (dl_cons (de_name 2) (dl_cons (de_name 4) (dl_cons (de_tup (dl_cons de_int dl_nil)) dl_nil)))) dfl_nil)))
    (dss_cons (ds_if (dt_cmp op_isN of_isN (do_name 6) (do_of de_none)) (dss_cons (ds_if (dt_cmp op_isN of_isN (do_name 8) (do_of de_none)) (dss_one (ds_ret (df_of de_bool))) dss_nil)
    (dss_one (ds_ret (df_of (de_and (de_cmp op_isN of_isN (do_name 7) (do_of de_none)) (de_one (de_cmp (op_eqD (bd.hr.units)) of_eq (do_name 8) (do_of (de_of (df_rep (df_lst (dl_cons de_int dl_nil)) (de_b1 call_len_seq of_len m_len (by decide +kernel) (do_name 8)))))))))))) dss_nil)
    (dss_cons (ds_if (dt_of (dw_or (dt_cmp (op_neD (bd.hr.units)) of_ne (do_name 7) (do_of (de_tup (dl_cons (de_tup (dl_cons (de_un un_neg of_neg (do_of de_int)) (dl_cons de_int dl_nil))) (dl_cons (de_tup (dl_cons (de_un un_neg of_neg (do_of de_int)) (dl_cons de_int dl_nil))) dl_nil))))) (dw_or (dt_cmp op_notN of_notN (do_name 8) (do_of de_none)) (dw_or1 (dt_cmp (op_neD (bd.hr.units)) of_ne (do_of (de_b1 (cr_maxDD bd.calm (bd.hr.units)) of_maxDD m_max (by decide +kernel) (do_of (de_of (df_call bd H_places (dl_cons (de_name 2) (dl_cons (de_name 4) (dl_cons (de_tup (dl_cons de_int dl_nil)) dl_nil)))))))) (do_of (de_tup (dl_cons (de_name 6) dl_nil)))))))) (dss_one (ds_ret (df_of de_bool))) dss_nil)
    (dss_cons (ds_if (dt_of (dw_or (dt_cmp op_notN of_notN (do_of (de_of (df_call bd H_least_ever (dl_cons (de_name 2) (dl_cons (de_name 4) (dl_cons (de_tup (dl_cons de_int dl_nil)) dl_nil)))))) (do_of de_none)) (dw_or1 (dt_cmp (op_neD (bd.hr.units)) of_ne (do_of (de_ix (do_of (de_of (df_call bd H_totals (dl_cons (de_name 2) (dl_cons (de_name 4) (dl_cons (de_of (df_rep (df_lst (dl_cons de_int dl_nil)) de_int)) dl_nil)))))) (do_of (de_un un_neg of_neg (do_of de_int))))) (do_name 6))))) (dss_one (ds_ret (df_of de_bool))) dss_nil)
    (dss_one (ds_ret (df_of (de_cmp op_ge of_ge (do_of (de_of (df_call bd H_greatest_ever (dl_cons (de_name 2) (dl_cons (de_name 4) (dl_cons (de_tup (dl_cons de_int dl_nil)) dl_nil)))))) (do_of de_int)))))))))))))))) (fun ds _ h => runG h)

end
end DL

namespace DL
open PySem PySem.Spec PyProof.Rows L2
theorem factsL {P : Program} {w : World} {K : PySem.W.Frag} {h : Heap} {mg : Str → Option Value} {f : Addr} (X : K.In h) (G : h.Ns mainGlobals mg) (hfa : mg ("law" : Str) = some (.ref f)) (c : SaysX faL tuL fnL K) :
    ∃ fd : FuncData, (∀ (s : Shared) (v : Value), BindsTo s fd ⟨[v], []⟩ [("_law_script", v)]) ∧ ∀ base : Heap, K.In base → base.Ns mainGlobals mg → FnOk P w K mg base (L2.CX P w) 12 f fd ["_law_script"] (spM ⟨w, K, mg⟩ G_l_law) := by
  have m_len : mg "len" = none := He.free_ok X G (c.fact 57 (f := .free "len") rfl)
  have m_range : mg "range" = none := He.free_ok X G (c.fact 58 (f := .free "range") rfl)
  have m_isinstance : mg "isinstance" = none := He.free_ok X G (c.fact 59 (f := .free "isinstance") rfl)
  have m_int : mg "int" = none := He.free_ok X G (c.fact 60 (f := .free "int") rfl)
  have m_bool : mg "bool" = none := He.free_ok X G (c.fact 61 (f := .free "bool") rfl)
  have m_tuple : mg "tuple" = none := He.free_ok X G (c.fact 62 (f := .free "tuple") rfl)
  have m_all : mg "all" = none := He.free_ok X G (c.fact 63 (f := .free "all") rfl)
  have m_str : mg "str" = none := He.free_ok X G (c.fact 64 (f := .free "str") rfl)
  have m_abs : mg "abs" = none := He.free_ok X G (c.fact 65 (f := .free "abs") rfl)
  have m_zip : mg "zip" = none := He.free_ok X G (c.fact 66 (f := .free "zip") rfl)
  have m_sorted : mg "sorted" = none := He.free_ok X G (c.fact 67 (f := .free "sorted") rfl)
  have m_list : mg "list" = none := He.free_ok X G (c.fact 68 (f := .free "list") rfl)
  have m_max : mg "max" = none := He.free_ok X G (c.fact 69 (f := .free "max") rfl)
  have x_InvalidFormat : ExP K mg "InvalidFormat" := exP_of X G (c.fact 70 rfl) (c.fact 71 rfl)
  have x_InvalidMachine : ExP K mg "InvalidMachine" := exP_of X G (c.fact 72 rfl) (c.fact 73 rfl)
  have x_InvalidLot : ExP K mg "InvalidLot" := exP_of X G (c.fact 74 rfl) (c.fact 75 rfl)
  have x_InvalidRow : ExP K mg "InvalidRow" := exP_of X G (c.fact 76 rfl) (c.fact 77 rfl)
  have c_WAYS : GlP w K mg "WAYS" K_WAYS := glP_tup X G (c.tup 0 rfl)
  have c_ROUNDINGS : GlP w K mg "ROUNDINGS" K_ROUNDINGS := glP_tup X G (c.tup 1 rfl)
  have c_LONGEST : GlP w K mg "LONGEST" K_LONGEST := glP_int X G (c.fact 78 rfl)
  have cl_Rests : ClP K mg "Rests" ["form", "machine", "lot", "known"] := clP_of X G (c.fact 49 rfl) (c.fact 50 rfl) (by
    intro f hf
    simp only [List.mem_cons, List.not_mem_nil, or_false] at hf
    rcases hf with rfl | rfl | rfl | rfl
    · exact He.noat_ok (c.fact 52 rfl)
    · exact He.noat_ok (c.fact 53 rfl)
    · exact He.noat_ok (c.fact 54 rfl)
    · exact He.noat_ok (c.fact 55 rfl)
    )
  obtain ⟨fd_l_draw, F_l_draw, g_l_draw⟩ := c.fn_ X G 0 0 (x := "_law_draw") (st := s_l_draw) rfl rfl
  obtain ⟨fd_l_pick, F_l_pick, g_l_pick⟩ := c.fn_ X G 1 1 (x := "_law_pick") (st := s_l_pick) rfl rfl
  obtain ⟨fd_l_mode, F_l_mode, g_l_mode⟩ := c.fn_ X G 2 2 (x := "_law_mode") (st := s_l_mode) rfl rfl
  obtain ⟨fd_l_top, F_l_top, g_l_top⟩ := c.fn_ X G 3 3 (x := "_law_top") (st := s_l_top) rfl rfl
  obtain ⟨fd_is_int, F_is_int, g_is_int⟩ := c.fn_ X G 4 4 (x := "is_int") (st := s_is_int) rfl rfl
  obtain ⟨fd_is_format, F_is_format, g_is_format⟩ := c.fn_ X G 5 5 (x := "is_format") (st := s_is_format) rfl rfl
  obtain ⟨fd_need_few, F_need_few, g_need_few⟩ := c.fn_ X G 6 6 (x := "need_few") (st := s_need_few) rfl rfl
  obtain ⟨fd_need_format, F_need_format, g_need_format⟩ := c.fn_ X G 7 7 (x := "need_format") (st := s_need_format) rfl rfl
  obtain ⟨fd_is_machine, F_is_machine, g_is_machine⟩ := c.fn_ X G 8 8 (x := "is_machine") (st := s_is_machine) rfl rfl
  obtain ⟨fd_need_machine, F_need_machine, g_need_machine⟩ := c.fn_ X G 9 9 (x := "need_machine") (st := s_need_machine) rfl rfl
  obtain ⟨fd_doubled, F_doubled, g_doubled⟩ := c.fn_ X G 10 10 (x := "doubled") (st := s_doubled) rfl rfl
  obtain ⟨fd_greatest_of, F_greatest_of, g_greatest_of⟩ := c.fn_ X G 11 11 (x := "greatest_of") (st := s_greatest_of) rfl rfl
  obtain ⟨fd_distance, F_distance, g_distance⟩ := c.fn_ X G 12 12 (x := "distance") (st := s_distance) rfl rfl
  obtain ⟨fd_fits, F_fits, g_fits⟩ := c.fn_ X G 13 13 (x := "fits") (st := s_fits) rfl rfl
  obtain ⟨fd_is_number_of, F_is_number_of, g_is_number_of⟩ := c.fn_ X G 14 14 (x := "is_number_of") (st := s_is_number_of) rfl rfl
  obtain ⟨fd_is_lot_of, F_is_lot_of, g_is_lot_of⟩ := c.fn_ X G 15 15 (x := "is_lot_of") (st := s_is_lot_of) rfl rfl
  obtain ⟨fd_need_lot, F_need_lot, g_need_lot⟩ := c.fn_ X G 16 16 (x := "need_lot") (st := s_need_lot) rfl rfl
  obtain ⟨fd_need_summed, F_need_summed, g_need_summed⟩ := c.fn_ X G 17 17 (x := "need_summed") (st := s_need_summed) rfl rfl
  obtain ⟨fd_need_endless, F_need_endless, g_need_endless⟩ := c.fn_ X G 18 18 (x := "need_endless") (st := s_need_endless) rfl rfl
  obtain ⟨fd_with_rings, F_with_rings, g_with_rings⟩ := c.fn_ X G 19 19 (x := "with_rings") (st := s_with_rings) rfl rfl
  obtain ⟨fd_Rests___init__, F_Rests___init__⟩ := c.fnQ_ 20 (c := "Rests") (m := "__init__") (q := "Rests.__init__") (st := s_Rests___init__) rfl
  have M_Rests___init__ := mkF_of X G (c.fact 49 rfl) (c.fact 51 rfl)
  obtain ⟨fd_begun, F_begun, g_begun⟩ := c.fn_ X G 21 20 (x := "begun") (st := s_begun) rfl rfl
  obtain ⟨fd_sides, F_sides, g_sides⟩ := c.fn_ X G 22 21 (x := "sides") (st := s_sides) rfl rfl
  obtain ⟨fd_chosen, F_chosen, g_chosen⟩ := c.fn_ X G 23 22 (x := "chosen") (st := s_chosen) rfl rfl
  obtain ⟨fd_round_to, F_round_to, g_round_to⟩ := c.fn_ X G 24 23 (x := "round_to") (st := s_round_to) rfl rfl
  obtain ⟨fd_plus, F_plus, g_plus⟩ := c.fn_ X G 25 24 (x := "plus") (st := s_plus) rfl rfl
  obtain ⟨fd_less, F_less, g_less⟩ := c.fn_ X G 26 25 (x := "less") (st := s_less) rfl rfl
  obtain ⟨fd_kept_step, F_kept_step, g_kept_step⟩ := c.fn_ X G 27 26 (x := "kept_step") (st := s_kept_step) rfl rfl
  obtain ⟨fd_beside_step, F_beside_step, g_beside_step⟩ := c.fn_ X G 28 27 (x := "beside_step") (st := s_beside_step) rfl rfl
  obtain ⟨fd_wider, F_wider, g_wider⟩ := c.fn_ X G 29 28 (x := "wider") (st := s_wider) rfl rfl
  obtain ⟨fd_total_told, F_total_told, g_total_told⟩ := c.fn_ X G 30 29 (x := "total_told") (st := s_total_told) rfl rfl
  obtain ⟨fd_step, F_step, g_step⟩ := c.fn_ X G 31 30 (x := "step") (st := s_step) rfl rfl
  obtain ⟨fd_first_rows, F_first_rows, g_first_rows⟩ := c.fn_ X G 32 31 (x := "first_rows") (st := s_first_rows) rfl rfl
  obtain ⟨fd_gain, F_gain, g_gain⟩ := c.fn_ X G 33 32 (x := "gain") (st := s_gain) rfl rfl
  obtain ⟨fd_Rests_steps, F_Rests_steps⟩ := c.fnQ_ 34 (c := "Rests") (m := "steps") (q := "Rests.steps") (st := s_Rests_steps) rfl
  have M_Rests_steps := mtF_of X G (c.fact 49 rfl) (c.fact 50 rfl) (c.fact 56 rfl)
  obtain ⟨fd_graph_of, F_graph_of, g_graph_of⟩ := c.fn_ X G 35 33 (x := "graph_of") (st := s_graph_of) rfl rfl
  obtain ⟨fd_sums_of, F_sums_of, g_sums_of⟩ := c.fn_ X G 36 34 (x := "sums_of") (st := s_sums_of) rfl rfl
  obtain ⟨fd_lowest, F_lowest, g_lowest⟩ := c.fn_ X G 37 35 (x := "lowest") (st := s_lowest) rfl rfl
  obtain ⟨fd_mean_of, F_mean_of, g_mean_of⟩ := c.fn_ X G 38 36 (x := "mean_of") (st := s_mean_of) rfl rfl
  obtain ⟨fd_drifts, F_drifts, g_drifts⟩ := c.fn_ X G 39 37 (x := "drifts") (st := s_drifts) rfl rfl
  obtain ⟨fd_spoiling_row, F_spoiling_row, g_spoiling_row⟩ := c.fn_ X G 40 38 (x := "spoiling_row") (st := s_spoiling_row) rfl rfl
  obtain ⟨fd_places, F_places, g_places⟩ := c.fn_ X G 41 39 (x := "places") (st := s_places) rfl rfl
  obtain ⟨fd_greatest_sum, F_greatest_sum, g_greatest_sum⟩ := c.fn_ X G 42 40 (x := "greatest_sum") (st := s_greatest_sum) rfl rfl
  obtain ⟨fd_least_ever, F_least_ever, g_least_ever⟩ := c.fn_ X G 43 41 (x := "least_ever") (st := s_least_ever) rfl rfl
  obtain ⟨fd_is_row_of, F_is_row_of, g_is_row_of⟩ := c.fn_ X G 44 42 (x := "is_row_of") (st := s_is_row_of) rfl rfl
  obtain ⟨fd_need_row, F_need_row, g_need_row⟩ := c.fn_ X G 45 43 (x := "need_row") (st := s_need_row) rfl rfl
  obtain ⟨fd_run, F_run, g_run⟩ := c.fn_ X G 46 44 (x := "run") (st := s_run) rfl rfl
  obtain ⟨fd_totals_of, F_totals_of, g_totals_of⟩ := c.fn_ X G 47 45 (x := "totals_of") (st := s_totals_of) rfl rfl
  obtain ⟨fd_totals, F_totals, g_totals⟩ := c.fn_ X G 48 46 (x := "totals") (st := s_totals) rfl rfl
  obtain ⟨fd_greatest_ever, F_greatest_ever, g_greatest_ever⟩ := c.fn_ X G 49 47 (x := "greatest_ever") (st := s_greatest_ever) rfl rfl
  obtain ⟨fd_l_law, F_l_law, g_l_law⟩ := c.fn_ X G 50 48 (x := "law") (st := s_l_law) rfl rfl
  have e := hfa.symm.trans g_l_law
  cases e
  refine ⟨fd_l_law, fun s v => ?_, fun base _ _ => ?_⟩
  · have b := F_l_law.binds (ps := ["_law_script"]) fun _ _ _ _ _ _ us hl => match us, hl with | [_], _ => rfl
    obtain ⟨_, _, _, _, _, _, _, _, _, e, _⟩ := F_l_law.ex
    rw [e]
    exact .of_eq rfl
  · have H_l_draw : FnM P w K mg base "_law_draw" 1 G_l_draw := ok_l_draw F_l_draw g_l_draw m_len
    have H_l_pick : FnM P w K mg base "_law_pick" 2 G_l_pick := ok_l_pick F_l_pick g_l_pick H_l_draw m_len
    have H_l_mode : FnM P w K mg base "_law_mode" 3 G_l_mode := ok_l_mode F_l_mode g_l_mode H_l_pick
    have H_l_top : FnP P w K mg base "_law_top" 1 G_l_top := ok_l_top F_l_top g_l_top m_range
    have H_is_int : FnP P w K mg base "is_int" 1 G_is_int := ok_is_int F_is_int g_is_int m_isinstance m_int m_bool
    have H_is_format : FnP P w K mg base "is_format" 2 G_is_format := ok_is_format F_is_format g_is_format H_is_int m_isinstance m_tuple m_len
    have H_need_few : FnP P w K mg base "need_few" 3 G_need_few := ok_need_few F_need_few g_need_few H_is_format x_InvalidFormat
    have H_need_format : FnP P w K mg base "need_format" 3 G_need_format := ok_need_format F_need_format g_need_format H_is_format x_InvalidFormat
    have H_is_machine : FnP P w K mg base "is_machine" 1 G_is_machine := ok_is_machine F_is_machine g_is_machine m_isinstance m_tuple m_len m_all m_str c_WAYS c_ROUNDINGS
    have H_need_machine : FnP P w K mg base "need_machine" 4 G_need_machine := ok_need_machine F_need_machine g_need_machine H_need_format H_is_machine x_InvalidMachine
    have H_doubled : FnP P w K mg base "doubled" 1 G_doubled := ok_doubled F_doubled g_doubled m_range
    have H_greatest_of : FnP P w K mg base "greatest_of" 2 G_greatest_of := ok_greatest_of F_greatest_of g_greatest_of H_doubled
    have H_distance : FnP P w K mg base "distance" 2 G_distance := ok_distance F_distance g_distance H_doubled
    have H_fits : FnP P w K mg base "fits" 3 G_fits := ok_fits F_fits g_fits H_greatest_of H_distance m_abs
    have H_is_number_of : FnP P w K mg base "is_number_of" 4 G_is_number_of := ok_is_number_of F_is_number_of g_is_number_of H_is_int H_fits
    have H_is_lot_of : FnP P w K mg base "is_lot_of" 5 G_is_lot_of := ok_is_lot_of F_is_lot_of g_is_lot_of H_is_number_of m_isinstance m_tuple m_len m_all m_zip
    have H_need_lot : FnP P w K mg base "need_lot" 6 G_need_lot := ok_need_lot F_need_lot g_need_lot H_is_lot_of x_InvalidLot
    have H_need_summed : FnP P w K mg base "need_summed" 7 G_need_summed := ok_need_summed F_need_summed g_need_summed H_need_machine H_need_lot
    have H_need_endless : FnP P w K mg base "need_endless" 8 G_need_endless := ok_need_endless F_need_endless g_need_endless H_need_few H_need_summed
    have H_with_rings : FnP P w K mg base "with_rings" 1 G_with_rings := ok_with_rings F_with_rings g_with_rings 
    have H_Rests___init__ : MkM P w K mg base "Rests" 1 G_Rests___init__ := ok_Rests___init__ F_Rests___init__ M_Rests___init__ cl_Rests
    have H_begun : FnP P w K mg base "begun" 1 G_begun := ok_begun F_begun g_begun 
    have H_sides : FnP P w K mg base "sides" 3 G_sides := ok_sides F_sides g_sides H_distance m_abs
    have H_chosen : FnP P w K mg base "chosen" 4 G_chosen := ok_chosen F_chosen g_chosen H_sides m_abs
    have H_round_to : FnP P w K mg base "round_to" 5 G_round_to := ok_round_to F_round_to g_round_to H_chosen H_greatest_of m_abs
    have H_plus : FnP P w K mg base "plus" 6 G_plus := ok_plus F_plus g_plus H_round_to
    have H_less : FnP P w K mg base "less" 1 G_less := ok_less F_less g_less 
    have H_kept_step : FnP P w K mg base "kept_step" 7 G_kept_step := ok_kept_step F_kept_step g_kept_step H_plus H_less
    have H_beside_step : FnP P w K mg base "beside_step" 7 G_beside_step := ok_beside_step F_beside_step g_beside_step H_plus H_less m_abs
    have H_wider : FnP P w K mg base "wider" 1 G_wider := ok_wider F_wider g_wider 
    have H_total_told : FnP P w K mg base "total_told" 7 G_total_told := ok_total_told F_total_told g_total_told H_round_to H_plus
    have H_step : FnP P w K mg base "step" 8 G_step := ok_step F_step g_step H_kept_step H_beside_step H_plus H_wider H_total_told
    have H_first_rows : FnP P w K mg base "first_rows" 9 G_first_rows := ok_first_rows F_first_rows g_first_rows H_begun H_step
    have H_gain : FnP P w K mg base "gain" 8 G_gain := ok_gain F_gain g_gain H_total_told
    have H_Rests_steps : MtM P w K mg base "Rests" "steps" 9 G_Rests_steps := ok_Rests_steps F_Rests_steps M_Rests_steps H_step H_gain cl_Rests
    have H_graph_of : FnP P w K mg base "graph_of" 10 G_graph_of := ok_graph_of F_graph_of g_graph_of H_Rests___init__ H_first_rows H_Rests_steps
    have H_sums_of : FnP P w K mg base "sums_of" 1 G_sums_of := ok_sums_of F_sums_of g_sums_of m_range m_len
    have H_lowest : FnP P w K mg base "lowest" 1 G_lowest := ok_lowest F_lowest g_lowest m_abs
    have H_mean_of : FnP P w K mg base "mean_of" 2 G_mean_of := ok_mean_of F_mean_of g_mean_of H_sums_of H_lowest m_len m_range
    have H_drifts : FnP P w K mg base "drifts" 11 G_drifts := ok_drifts F_drifts g_drifts H_need_endless H_with_rings H_graph_of H_mean_of
    have H_spoiling_row : FnP P w K mg base "spoiling_row" 10 G_spoiling_row := ok_spoiling_row F_spoiling_row g_spoiling_row H_need_summed H_first_rows H_step m_sorted m_len
    have H_places : FnP P w K mg base "places" 10 G_places := ok_places F_places g_places H_need_summed H_first_rows m_sorted
    have H_greatest_sum : FnP P w K mg base "greatest_sum" 1 G_greatest_sum := ok_greatest_sum F_greatest_sum g_greatest_sum m_list m_len m_max
    have H_least_ever : FnP P w K mg base "least_ever" 11 G_least_ever := ok_least_ever F_least_ever g_least_ever H_need_endless H_greatest_sum H_begun H_graph_of
    have H_is_row_of : FnP P w K mg base "is_row_of" 5 G_is_row_of := ok_is_row_of F_is_row_of g_is_row_of H_is_number_of m_isinstance m_list m_len m_all c_LONGEST
    have H_need_row : FnP P w K mg base "need_row" 6 G_need_row := ok_need_row F_need_row g_need_row H_need_machine H_is_row_of x_InvalidRow
    have H_run : FnP P w K mg base "run" 9 G_run := ok_run F_run g_run H_begun H_step
    have H_totals_of : FnP P w K mg base "totals_of" 10 G_totals_of := ok_totals_of F_totals_of g_totals_of H_run H_total_told
    have H_totals : FnP P w K mg base "totals" 11 G_totals := ok_totals F_totals g_totals H_need_row H_totals_of
    have H_greatest_ever : FnP P w K mg base "greatest_ever" 11 G_greatest_ever := ok_greatest_ever F_greatest_ever g_greatest_ever H_need_endless H_greatest_sum H_begun H_graph_of
    exact ok_l_law F_l_law H_l_pick H_l_mode H_l_top H_spoiling_row H_drifts H_places H_least_ever H_totals H_greatest_ever m_len m_max
end DL
open PySem PySem.W PySem.Calls PyProof.Rows
theorem endL (hL : ∀ ns : List Int, ns.length ≤ 63 → ∃ st, DL.G_l_law [.v (.list (ns.map .int))] [] = .ok (.d (.bool true)) st) : PySem.Challenge.rw_driftsums_k41_whole_stuck.Holds := by
  w_on; o_law
  refine HandSHeadRun.head_any (r := OpenLaw.row PySem.Challenge.rw_driftsums_k41_whole_stuck) (q := view (OpenLaw.row PySem.Challenge.rw_driftsums_k41_whole_stuck).prog [72]) (H := DL.hkL) (ob := DL.obL) (M := 8400) (loose := DL.looseL) (d := HandSHeadRun.topDef (OpenLaw.row PySem.Challenge.rw_driftsums_k41_whole_stuck).prog 72) (kwd := []) DL.obL_eq
    (by kernel_rfl) (fun s => by kernel_rfl) DL.runL (by kernel_rfl) (by kernel_rfl) (by kernel_rfl) (by rfl) (by first | assumption | decide +kernel) (by decide +kernel) ⟨rfl, rfl, rfl, rfl, rfl, by decide +kernel⟩ ?hw ?hc
  case hw => w_witness2
  case hc =>
    refine DL.walk_ofX (l := PySem.Challenge.rw_driftsums_k41_whole_stuck) (n := 63) (k := 12) (x := "_law_script") (CX := fun w => L2.CX (PySem.Challenge.rw_driftsums_k41_whole_stuck).prog w) rfl (by decide) (by kernel_rfl) ⟨rfl, by decide, by decide⟩ ?F (fun w _ _ _ _ z => DL.cx_none z)
    intro w mg fa h Y G hmg0
    obtain ⟨K, KX, c⟩ := Y
    have hmg : mg ("law" : PySem.Str) = some (.ref fa) := by
      have e : (HandSHeadRun.topDef (OpenLaw.row PySem.Challenge.rw_driftsums_k41_whole_stuck).prog 72).name = ("law" : PySem.Str) := by kernel_rfl
      rw [← e]
      exact hmg0
    obtain ⟨fd, hb, hF⟩ := DL.factsL (P := (PySem.Challenge.rw_driftsums_k41_whole_stuck).prog) (w := w) KX G hmg c
    exact ⟨K, fd, _, KX, hb, DL.law_sp (C := ⟨w, K, mg⟩) hL, hF⟩
theorem PySem.Challenge.cw_driftsums_k41_whole_stuck_holds : PySem.Challenge.rw_driftsums_k41_whole_stuck.Holds := by
  exact endL fun ns _ => DL.lawL ns
