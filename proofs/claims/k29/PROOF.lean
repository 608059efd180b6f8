import PyProof.Rows.All
import Wide.All
import OpenK.AllK
import Wide.FinOn
import HandS.ForMost
import HandS.ForExc
import HandS.Deep
import HandS.IsInst
import HandS.Flow
import HandS.Style
import HandS.Wide
import HandS.SortOrd
import HandS.RaiseMore
import HandS.Defaults
import KE.KDictCopyH
import PySem.Challenge.RW_lettertrees_k29_cells_that_are_let
set_option Elab.async false
set_option linter.all false
set_option maxRecDepth 100000
set_option maxHeartbeats 4000000
/-! J, first part: values as data D, a store M of what may change, the relation to the layer's heap, judgements with a function of data beside each reading. -/
namespace J
open PySem L2

inductive D where
  | non | bl (b : Bool) | int (i : Int) | str (s : Str) | ty (n : String) | tup (xs : List D) | rl (xs : List D) | m (k : Nat)
inductive MO where
  | lst (xs : List D) | dct (kvs : List (Key × D)) | bd (kvs : List (Bool × D)) | ins (c : Nat) (fs : List D)
abbrev Mem := List MO
inductive Rs (α : Type) where
  | ok (a : α) (M : Mem) | ex (c : Nat) (fs : List D) (M : Mem) | stuck
def Rs.bind {α β : Type} (r : Rs α) (k : α → Mem → Rs β) : Rs β := match r with
  | .ok a M => k a M | .ex c fs M => .ex c fs M | .stuck => .stuck
def Sat {α : Type} (r : Rs α) (P : α → Mem → Prop) (E : Nat → List D → Mem → Prop) : Prop := match r with
  | .ok a M => P a M | .ex c fs M => E c fs M | .stuck => False
theorem Sat.bind {α β : Type} {r : Rs α} {k : α → Mem → Rs β} {P : β → Mem → Prop} {E : Nat → List D → Mem → Prop} : Sat (r.bind k) P E ↔ Sat r (fun a M => Sat (k a M) P E) E := by
  cases r <;> exact Iff.rfl
theorem Sat.mono {α : Type} {r : Rs α} {P P' : α → Mem → Prop} {E E' : Nat → List D → Mem → Prop} (h : Sat r P E) (hp : ∀ a M, P a M → P' a M) (he : ∀ c fs M, E c fs M → E' c fs M) : Sat r P' E' := by
  cases r with
  | ok a M => exact hp a M h
  | ex c fs M => exact he c fs M h
  | stuck => exact h

structure Gc where
  P : Program
  w : World
  K : PySem.W.Frag
  ct : List (Addr × List Str)

/-! ### the relation -/
def FzL (K : PySem.W.Frag) (H : Hp) (a : Addr) (xs : List V) : Prop := (∃ o, H a = some (.frz o (.lst xs))) ∨
    ∃ (o : Obj) (its : Array Value) (n : Nat), K.lookup a = some o ∧ o.cls = .type "list" ∧ o.dict = none ∧ o.data = .seq its n ∧ its.size ≤ sizeLine ∧ Vals xs its.toList
theorem FzL.sq {K : PySem.W.Frag} {H : Hp} {a : Addr} {xs : List V} (h : FzL K H a xs) : SqL K H a xs := by
  rcases h with h | h
  · exact .inl (.inr h)
  · exact .inr h
mutual
inductive Rep (K : PySem.W.Frag) (ρ : List Addr) (H : Hp) : V → D → Prop
  | non : Rep K ρ H .non .non
  | bl (b : Bool) : Rep K ρ H (.bl b) (.bl b)
  | int (i : Int) : Rep K ρ H (.int i) (.int i)
  | str (s : Str) : Rep K ρ H (.str s) (.str s)
  | ty (n : String) : Rep K ρ H (.ty n) (.ty n)
  | tup {a : Addr} {xs : List V} {ds : List D} : SqT K H a xs → RepAll K ρ H xs ds → Rep K ρ H (.ref a) (.tup ds)
  | rl {a : Addr} {xs : List V} {ds : List D} : FzL K H a xs → RepAll K ρ H xs ds → Rep K ρ H (.ref a) (.rl ds)
  | m {a : Addr} {k : Nat} : ρ[k]? = some a → Rep K ρ H (.ref a) (.m k)
inductive RepAll (K : PySem.W.Frag) (ρ : List Addr) (H : Hp) : List V → List D → Prop
  | nil : RepAll K ρ H [] []
  | cons {v : V} {d : D} {vs : List V} {ds : List D} : Rep K ρ H v d → RepAll K ρ H vs ds → RepAll K ρ H (v :: vs) (d :: ds)
end
def Im : HO → Prop
  | .tup _ => True
  | .frz _ _ => True
  | _ => False
structure Ex (ρ : List Addr) (H : Hp) (ρ' : List Addr) (H' : Hp) : Prop where
  pre : ∀ (k : Nat) a, ρ[k]? = some a → ρ'[k]? = some a
  im : ∀ a u, H a = some u → Im u → H' a = some u
section
variable {K : PySem.W.Frag} {ρ ρ' ρ'' : List Addr} {H H' H'' : Hp} {a : Addr} {xs : List V} {v : V} {d : D} {vs : List V} {ds : List D}
theorem Ex.refl : Ex ρ H ρ H := ⟨fun _ _ h => h, fun _ _ h _ => h⟩
theorem Ex.trans (e : Ex ρ H ρ' H') (e' : Ex ρ' H' ρ'' H'') : Ex ρ H ρ'' H'' := ⟨fun k a h => e'.pre k a (e.pre k a h), fun a u h i => e'.im a u (e.im a u h i) i⟩
theorem Ex.sqT (e : Ex ρ H ρ' H') (h : SqT K H a xs) : SqT K H' a xs := by
  rcases h with (h | ⟨o, h⟩) | h
  · exact .inl (.inl (e.im _ _ h trivial))
  · exact .inl (.inr ⟨o, e.im _ _ h trivial⟩)
  · exact .inr h
theorem Ex.fzL (e : Ex ρ H ρ' H') (h : FzL K H a xs) : FzL K H' a xs := by
  rcases h with ⟨o, h⟩ | h
  · exact .inl ⟨o, e.im _ _ h trivial⟩
  · exact .inr h
theorem Rep.mono_all (e : Ex ρ H ρ' H') : (∀ v d, Rep K ρ H v d → Rep K ρ' H' v d) ∧ (∀ vs ds, RepAll K ρ H vs ds → RepAll K ρ' H' vs ds) := by
  refine ⟨fun v d h => ?_, fun vs ds h => ?_⟩
  · exact Rep.rec (motive_1 := fun v d _ => Rep K ρ' H' v d) (motive_2 := fun vs ds _ => RepAll K ρ' H' vs ds) .non .bl .int .str .ty (fun h _ q => .tup (e.sqT h) q) (fun h _ q => .rl (e.fzL h) q) (fun h => .m (e.pre _ _ h)) .nil (fun _ _ q1 q2 => .cons q1 q2) h
  · exact RepAll.rec (motive_1 := fun v d _ => Rep K ρ' H' v d) (motive_2 := fun vs ds _ => RepAll K ρ' H' vs ds) .non .bl .int .str .ty (fun h _ q => .tup (e.sqT h) q) (fun h _ q => .rl (e.fzL h) q) (fun h => .m (e.pre _ _ h)) .nil (fun _ _ q1 q2 => .cons q1 q2) h
theorem Rep.mono (e : Ex ρ H ρ' H') (h : Rep K ρ H v d) : Rep K ρ' H' v d := (Rep.mono_all e).1 _ _ h
theorem RepAll.mono (e : Ex ρ H ρ' H') (h : RepAll K ρ H vs ds) : RepAll K ρ' H' vs ds := (Rep.mono_all e).2 _ _ h
theorem RepAll.length (h : RepAll K ρ H vs ds) : vs.length = ds.length := by
  induction ds generalizing vs with
  | nil => cases h; rfl
  | cons d ds ih => cases h with | cons h1 h2 => simp [ih h2]
theorem RepAll.get {i : Nat} (h : RepAll K ρ H vs ds) (e : ds[i]? = some d) : ∃ v, vs[i]? = some v ∧ Rep K ρ H v d := by
  induction ds generalizing vs i with
  | nil => simp at e
  | cons d' ds ih =>
    cases h with
    | cons h1 h2 =>
      cases i with
      | zero => simp at e; subst e; exact ⟨_, rfl, h1⟩
      | succ i => simpa using ih h2 (by simpa using e)
theorem RepAll.get' {i : Nat} {v : V} (h : RepAll K ρ H vs ds) (e : vs[i]? = some v) : ∃ d, ds[i]? = some d ∧ Rep K ρ H v d := by
  induction ds generalizing vs i with
  | nil => cases h; simp at e
  | cons d' ds ih =>
    cases h with
    | cons h1 h2 =>
      cases i with
      | zero => simp at e; subst e; exact ⟨_, rfl, h1⟩
      | succ i => simpa using ih h2 (by simpa using e)
theorem RepAll.append {vs' : List V} {ds' : List D} (h : RepAll K ρ H vs ds) (h' : RepAll K ρ H vs' ds') : RepAll K ρ H (vs ++ vs') (ds ++ ds') := by
  induction ds generalizing vs with
  | nil => cases h; exact h'
  | cons d ds ih => cases h with | cons h1 h2 => exact .cons h1 (ih h2)
theorem RepAll.set (h : RepAll K ρ H vs ds) (i : Nat) (r : Rep K ρ H v d) : RepAll K ρ H (vs.set i v) (ds.set i d) := by
  induction ds generalizing vs i with
  | nil => cases h; exact .nil
  | cons d' ds ih =>
    cases h with
    | cons h1 h2 =>
      cases i with
      | zero => exact .cons r h2
      | succ i => exact .cons h1 (ih h2 i)
theorem RepAll.drop (h : RepAll K ρ H vs ds) (n : Nat) : RepAll K ρ H (vs.drop n) (ds.drop n) := by
  induction n generalizing vs ds with
  | zero => exact h
  | succ n ih => cases h with
    | nil => exact .nil
    | cons h1 h2 => exact ih h2
theorem RepAll.take (h : RepAll K ρ H vs ds) (n : Nat) : RepAll K ρ H (vs.take n) (ds.take n) := by
  induction n generalizing vs ds with
  | zero => exact .nil
  | succ n ih => cases h with
    | nil => exact .nil
    | cons h1 h2 => exact .cons h1 (ih h2)
theorem RepAll.erase (h : RepAll K ρ H vs ds) (n : Nat) : RepAll K ρ H (vs.eraseIdx n) (ds.eraseIdx n) := by
  induction n generalizing vs ds with
  | zero => cases h with
    | nil => exact .nil
    | cons h1 h2 => exact h2
  | succ n ih => cases h with
    | nil => exact .nil
    | cons h1 h2 => exact .cons h1 (ih h2)
theorem Rep.non_of (h : Rep K ρ H v .non) : v = .non := by cases h; rfl
theorem Rep.bl_of {b : Bool} (h : Rep K ρ H v (.bl b)) : v = .bl b := by cases h; rfl
theorem Rep.int_of {i : Int} (h : Rep K ρ H v (.int i)) : v = .int i := by cases h; rfl
theorem Rep.str_of {s : Str} (h : Rep K ρ H v (.str s)) : v = .str s := by cases h; rfl
theorem Rep.ty_of {s : String} (h : Rep K ρ H v (.ty s)) : v = .ty s := by cases h; rfl
theorem Rep.tup_of (h : Rep K ρ H v (.tup ds)) : ∃ a xs, v = .ref a ∧ SqT K H a xs ∧ RepAll K ρ H xs ds := by cases h with | tup h1 h2 => exact ⟨_, _, rfl, h1, h2⟩
theorem Rep.rl_of (h : Rep K ρ H v (.rl ds)) : ∃ a xs, v = .ref a ∧ FzL K H a xs ∧ RepAll K ρ H xs ds := by cases h with | rl h1 h2 => exact ⟨_, _, rfl, h1, h2⟩
theorem Rep.m_of {k : Nat} (h : Rep K ρ H v (.m k)) : ∃ a, v = .ref a ∧ ρ[k]? = some a := by cases h with | m h1 => exact ⟨_, rfl, h1⟩
theorem RepAll.ints {ns : List Int} : ∀ {vs : List V}, RepAll K ρ H vs (ns.map D.int) → vs = ns.map V.int := by
  induction ns with
  | nil => intro vs h; cases h; rfl
  | cons n ns ih => intro vs h; cases h with | cons h1 h2 => rw [h1.int_of, ih h2]; rfl
theorem RepAll.bls {ns : List Bool} : ∀ {vs : List V}, RepAll K ρ H vs (ns.map D.bl) → vs = ns.map V.bl := by
  induction ns with
  | nil => intro vs h; cases h; rfl
  | cons n ns ih => intro vs h; cases h with | cons h1 h2 => rw [h1.bl_of, ih h2]; rfl
theorem RepAll.of_ints {ns : List Int} : RepAll K ρ H (ns.map V.int) (ns.map D.int) := by
  induction ns with
  | nil => exact .nil
  | cons n ns ih => exact .cons (.int _) ih
end

/-- keys beside values -/
def RepKV {κ : Type} (K : PySem.W.Frag) (ρ : List Addr) (H : Hp) : List (κ × V) → List (κ × D) → Prop := Paired fun p q => p.1 = q.1 ∧ Rep K ρ H p.2 q.2
theorem RepKV.mono {κ : Type} {K : PySem.W.Frag} {ρ ρ' : List Addr} {H H' : Hp} (e : Ex ρ H ρ' H') {l : List (κ × V)} {l' : List (κ × D)} (h : RepKV K ρ H l l') : RepKV K ρ' H' l l' := Paired.mapP h fun _ _ q => ⟨q.1, q.2.mono e⟩

/-! ### dicts whose keys are bools -/
theorem isBool_shape {k : Bool} {v : Value} (h : (match v with | .bool b => b == k | _ => false) = true) : v = .bool k := by
  cases v <;> simp at h
  subst h; rfl
end J
/-! J, second part: dicts with bools for keys; the store's relation; judgements. -/
namespace J
open PySem L2

/-! ### dicts whose keys are bools -/
def isB (k : Bool) (v : Value) : Bool := match v with | .bool b => b == k | _ => false
theorem isB_shape {k : Bool} {v : Value} (h : isB k v = true) : v = .bool k := by
  unfold isB at h
  split at h
  · simp at h; rw [h]
  · cases h
def leafOf (b : Bool) : Leaf := .num (if b = true then 1 else 0)
theorem leaf_of {k : Bool} {v : Value} (h : isB k v = true) : Leaf.isOf (leafOf k) v = true := by
  rw [isB_shape h]
  cases k <;> rfl
def boolKind (prog : Program) (w : World) : KeyKind prog w Bool where
  is := isB
  hash := fun b => (leafOf b).key.hash w
  inj := fun v a b ha hb => by
    have e := (isB_shape ha).symm.trans (isB_shape hb)
    injection e
  byValue := fun k v h => by rw [isB_shape h]; rfl
  pyHash := fun hv h => pyHash_leaf (leaf_of hv) h
  eqBool := fun {A E s a b u v Q} hu hv h => by
    have e : decide (leafOf a = leafOf b) = decide (a = b) := by cases a <;> cases b <;> rfl
    exact eqAt_leaf (leaf_of hu) (leaf_of hv) _ _ _ _ (by rw [e]; exact h)
  «strs» := fun k x t v h => by
    have := isB_shape h
    cases this
def bdφ (P : Program) (w : World) (a : Addr) (kvs : List (Bool × V)) : Heap → Prop := fun h => kvs.length ≤ sizeLine ∧ (a == sysModules) = false ∧ ∃ vs, KV kvs vs ∧ h.DictOf (boolKind P w) a vs
def hBd (P : Program) (w : World) (a : Addr) (kvs : List (Bool × V)) : HO := .ext (bdφ P w a kvs)
theorem bd_ok {P : Program} {w : World} {H : Hp} {h : Heap} {a : Addr} {kvs : List (Bool × V)} (x : bdφ P w a kvs h) : ObjOk P w H h a (hBd P w a kvs) := by
  refine ⟨x, ?_, ?_⟩
  · obtain ⟨_, _, vs, _, ob, _, _, e, _⟩ := x
    exact ⟨ob, e⟩
  · rintro h1 h2 ⟨z, y, vs, r, ob, es, ep, e, c⟩ k
    exact ⟨z, y, vs, r, ob, es, ep, k _ e, c⟩
theorem bd_of {P : Program} {w : World} {H : Hp} {h : Heap} {a : Addr} {kvs : List (Bool × V)} (ok : HOk P w H h) (e : H a = some (hBd P w a kvs)) : bdφ P w a kvs h := (ok a _ e).1
theorem bV_is {P : Program} {w : World} {k : Bool} {u : Value} (r : RelV (.bl k) u) : (boolKind P w).is k u = true := by
  have e : u = .bool k := r
  rw [e]
  show (k == k) = true
  simp
section
variable {X : Cx} {pins : List (Addr × Obj)} {σ : St} {H : Hp} {s : Shared} {a : Addr} {k : Bool} {v d : V} {u r : Value} {kvs : List (Bool × V)} {A : Around} {E : Value → Shared → Prop}
theorem b_getItem {Q : Value → Shared → Prop} (I : Inv X pins σ H s) (e : H a = some (hBd X.prog X.w a kvs)) (l : valV kvs k = some v) (h : ∀ w' s', Inv X pins σ H s' → RelV v w' → Q w' s') :
    wpAny (model X.prog X.w) A (getItem (.ref a) (.bool k)) Q E s := by
  obtain ⟨z, hd, vs, rel, dd⟩ := bd_of I.hok e
  obtain ⟨w', hw, rw'⟩ := RelO.some_of (v := v) (o := valueAt vs k) (by rw [← l]; exact rel.val k)
  exact wpAny_getItem_of (bV_is rfl) dd.mapOf hw (h w' _ (I.tok _) rw')
theorem b_in {Q : Value → Shared → Prop} (I : Inv X pins σ H s) (e : H a = some (hBd X.prog X.w a kvs)) (h : ∀ s', Inv X pins σ H s' → Q (.bool (valV kvs k).isSome) s') :
    wpAny (model X.prog X.w) A (compareOp .In (.bool k) (.ref a)) Q E s := by
  obtain ⟨z, hd, vs, rel, dd⟩ := bd_of I.hok e
  refine wpAny_in_of (bV_is rfl) hd dd.mapOf ?_
  rw [← (rel.val k).isSome_eq]
  exact h _ (I.tok _)
theorem b_notIn {Q : Value → Shared → Prop} (I : Inv X pins σ H s) (e : H a = some (hBd X.prog X.w a kvs)) (h : ∀ s', Inv X pins σ H s' → Q (.bool (!(valV kvs k).isSome)) s') :
    wpAny (model X.prog X.w) A (compareOp .NotIn (.bool k) (.ref a)) Q E s := by
  obtain ⟨z, hd, vs, rel, dd⟩ := bd_of I.hok e
  refine wpAny_notIn_of (bV_is rfl) hd dd.mapOf ?_
  rw [← (rel.val k).isSome_eq]
  exact h _ (I.tok _)
theorem b_get1 {Q : Value → Shared → Prop} (I : Inv X pins σ H s) (e : H a = some (hBd X.prog X.w a kvs)) (h : ∀ w' s', Inv X pins σ H s' → RelV ((valV kvs k).getD .non) w' → Q w' s') :
    wpAny (model X.prog X.w) A (call (.builtin "dict.get") [.ref a, .bool k]) Q E s := by
  obtain ⟨z, hd, vs, rel, dd⟩ := bd_of I.hok e
  exact call_meetsIn PySem.F.slot_dict_get dd.typeIs PySem.F.entry_dict_get (PySem.F.args_dict_get_2 _ _) (meets_dict_get (boolKind X.prog X.w) a (bV_is rfl) hd) ⟨_, dd.mapOf, h _ _ (I.tok _) ((rel.val k).getD rfl)⟩
theorem b_get2 {Q : Value → Shared → Prop} (I : Inv X pins σ H s) (e : H a = some (hBd X.prog X.w a kvs)) (rd : RelV d r) (h : ∀ w' s', Inv X pins σ H s' → RelV ((valV kvs k).getD d) w' → Q w' s') :
    wpAny (model X.prog X.w) A (call (.builtin "dict.get") [.ref a, .bool k, r]) Q E s := by
  obtain ⟨z, hd, vs, rel, dd⟩ := bd_of I.hok e
  exact call_meetsIn PySem.F.slot_dict_get dd.typeIs PySem.F.entry_dict_get (PySem.F.args_dict_get_3 _ _ _) (meets_dict_get_default (boolKind X.prog X.w) a (bV_is rfl) hd r) ⟨_, dd.mapOf, h _ _ (I.tok _) ((rel.val k).getD rd)⟩
end
section
variable {X : Cx} {pins : List (Addr × Obj)} {σ : St} {H : Hp} {s : Shared} {a : Addr} {k : Bool} {v : V} {r : Value} {kvs : List (Bool × V)} {A : Around} {E : Value → Shared → Prop}
theorem b_setItem {Q : Unit → Shared → Prop} (I : Inv X pins σ H s) (e : H a = some (hBd X.prog X.w a kvs)) (rv : RelV v r) (hl : kvs.length < sizeLine) (h : ∀ s', Inv X pins σ (upd H a (hBd X.prog X.w a (putK kvs k v))) s' → Q () s') :
    wpAny (model X.prog X.w) A (setItem (.ref a) (.bool k) r) Q E s := by
  obtain ⟨z, hd, vs, rel, dd⟩ := bd_of I.hok e
  have hz : vs.length ≤ sizeLine := by rw [← rel.length]; exact z
  have hl : (putK kvs k v).length ≤ sizeLine := by have := length_putK kvs k v; omega
  refine wpAny_setItem_pairs (hsz := hz) (bV_is rfl) dd fun h' dd' hs => h _ ?_
  have he : ∃ q, h'.get? a = some q := let ⟨q, _, _, hq, _⟩ := dd'; ⟨q, hq⟩
  exact d_write I (by rw [e]; exact True.intro) hs he (bd_ok ⟨hl, hd, _, rel.put k rv, dd'⟩)
def tDNewB (P : Program) (w : World) : TE := fun _ H Q => ∀ p, H p = none → Q (.ref p) (upd H p (hBd P w p []))
theorem pe_dnewB {pos : Pos} : PE X (.Dict [] [] pos) (tDNewB X.prog X.w) := ⟨fun pins s σ H Q I h =>
  wpAny_Dict_empty ⟨.ref s.heap.objs.size, _, I.laid (a := s.heap.objs.size) (o := hBd X.prog X.w s.heap.objs.size []) (t' := s.toks) (fun _ _ q => Heap.get?_push_of_some _ q) (Nat.le_refl _)
    (bd_ok ⟨Nat.zero_le _, beq_eq_false_iff_ne.mpr (Ne.symm (Nat.ne_of_lt I.big)), [], .nil, Heap.DictOf.new s.heap⟩), rfl, h _ (I.hok.fresh (Nat.le_refl _))⟩⟩
end

/-! ### the store's relation -/
def MOk (G : Gc) (ρ : List Addr) (H : Hp) (a : Addr) : MO → Prop
  | .lst ds => ∃ vs, H a = some (.lst vs) ∧ RepAll G.K ρ H vs ds
  | .dct kvs => ∃ vs, H a = some (.dK vs) ∧ RepKV G.K ρ H vs kvs
  | .bd kvs => ∃ vs, H a = some (hBd G.P G.w a vs) ∧ RepKV G.K ρ H vs kvs
  | .ins c fs => ∃ C names dx vs, G.ct[c]? = some (C, names) ∧ names.Nodup ∧ fs.length ≤ names.length ∧ names.length ≤ 100 ∧ H a = some (.ins C dx (names.zip vs)) ∧ RepAll G.K ρ H vs fs
structure Rm (G : Gc) (ρ : List Addr) (H : Hp) (M : Mem) : Prop where
  len : ρ.length = M.length
  nd : ρ.Nodup
  at_ : ∀ (k : Nat) o, M[k]? = some o → ∃ a, ρ[k]? = some a ∧ MOk G ρ H a o
section
variable {G : Gc} {ρ ρ' : List Addr} {H H' : Hp} {M : Mem} {a p : Addr} {mo mo' : MO} {k : Nat} {o : HO}
theorem MOk.there (h : MOk G ρ H a mo) : ∃ u, H a = some u ∧ ¬ Im u := by
  cases mo with
  | lst ds => obtain ⟨vs, e, _⟩ := h; exact ⟨_, e, fun z => z⟩
  | dct ds => obtain ⟨vs, e, _⟩ := h; exact ⟨_, e, fun z => z⟩
  | bd ds => obtain ⟨vs, e, _⟩ := h; exact ⟨_, e, fun z => z⟩
  | ins c fs => obtain ⟨C, n, dx, vs, _, _, _, _, e, _⟩ := h; exact ⟨_, e, fun z => z⟩
theorem MOk.stay (h : MOk G ρ H a mo) (e : Ex ρ H ρ' H') (ea : H' a = H a) : MOk G ρ' H' a mo := by
  cases mo with
  | lst ds => obtain ⟨vs, q, r⟩ := h; exact ⟨vs, ea.trans q, r.mono e⟩
  | dct ds => obtain ⟨vs, q, r⟩ := h; exact ⟨vs, ea.trans q, r.mono e⟩
  | bd ds => obtain ⟨vs, q, r⟩ := h; exact ⟨vs, ea.trans q, r.mono e⟩
  | ins c fs => obtain ⟨C, n, dx, vs, q1, q2, q3, q4, q, r⟩ := h; exact ⟨C, n, dx, vs, q1, q2, q3, q4, ea.trans q, r.mono e⟩
theorem Rm.get (R : Rm G ρ H M) (e : M[k]? = some mo) (ea : ρ[k]? = some a) : MOk G ρ H a mo := by
  obtain ⟨b, eb, h⟩ := R.at_ k mo e
  rw [ea] at eb; cases eb; exact h
theorem Rm.addr (R : Rm G ρ H M) (ea : ρ[k]? = some a) : ∃ mo, M[k]? = some mo ∧ MOk G ρ H a mo := by
  have h1 : k < ρ.length := (List.getElem?_eq_some_iff.mp ea).1
  rw [R.len] at h1
  obtain ⟨b, eb, h⟩ := R.at_ k M[k] (List.getElem?_eq_getElem h1)
  rw [ea] at eb; cases eb
  exact ⟨_, List.getElem?_eq_getElem h1, h⟩
theorem ex_new (hp : H p = none) : Ex ρ H ρ (upd H p o) := ⟨fun _ _ h => h, fun b u e _ => by rw [upd_ne (ne_of_none e hp)]; exact e⟩
theorem ex_push : Ex ρ H (ρ ++ [p]) H := ⟨fun k a h => by rw [List.getElem?_append_left (List.getElem?_eq_some_iff.mp h).1]; exact h, fun _ _ h _ => h⟩
/-- an object that is not in the store is laid -/
theorem Rm.aside (R : Rm G ρ H M) (hp : H p = none) : Rm G ρ (upd H p o) M := ⟨R.len, R.nd, fun k mo e => by
  obtain ⟨a, ea, h⟩ := R.at_ k mo e
  obtain ⟨u, hu, _⟩ := h.there
  exact ⟨a, ea, h.stay (ex_new hp) (by rw [upd_ne (ne_of_none hu hp)])⟩⟩
theorem Rm.fresh (R : Rm G ρ H M) (hp : H p = none) : p ∉ ρ := fun hm => by
  obtain ⟨k, hk, e⟩ := List.mem_iff_getElem.mp hm
  obtain ⟨mo, _, h⟩ := R.addr (k := k) (a := p) (by rw [List.getElem?_eq_getElem hk, e])
  obtain ⟨u, hu, _⟩ := h.there
  rw [hp] at hu; cases hu
theorem Rm.new (R : Rm G ρ H M) (hp : H p = none) (h : MOk G (ρ ++ [p]) (upd H p o) p mo) : Rm G (ρ ++ [p]) (upd H p o) (M ++ [mo]) := by
  refine ⟨by simp [R.len], ?_, fun k mo' e => ?_⟩
  · rw [List.nodup_append]
    refine ⟨R.nd, by simp, fun x hx y hy => ?_⟩
    simp at hy
    subst hy
    rintro rfl
    exact R.fresh hp hx
  · by_cases hk : k < M.length
    · rw [List.getElem?_append_left hk] at e
      obtain ⟨a, ea, h'⟩ := R.at_ k mo' e
      obtain ⟨u, hu, _⟩ := h'.there
      exact ⟨a, ex_push.pre (H := H) k a ea, h'.stay ((ex_new hp).trans ex_push) (by rw [upd_ne (ne_of_none hu hp)])⟩
    · have hk' : k = M.length := by
        have := (List.getElem?_eq_some_iff.mp e).1
        simp at this
        omega
      subst hk'
      rw [List.getElem?_append_right (Nat.le_refl _)] at e
      simp at e
      subst e
      exact ⟨p, by rw [← R.len, List.getElem?_append_right (Nat.le_refl _)]; simp, h⟩
theorem ex_set (ea : H a = some o) (hi : ¬ Im o) {u : HO} : Ex ρ H ρ (upd H a u) := ⟨fun _ _ h => h, fun b x e i => by
  by_cases hb : b = a
  · subst hb
    rw [ea] at e; cases e
    exact absurd i hi
  · rw [upd_ne hb]; exact e⟩
theorem nodup_ixA {N : List Addr} (hN : N.Nodup) {i j : Nat} {x : Addr} (a : N[i]? = some x) (b : N[j]? = some x) : i = j := by
  obtain ⟨h1, e1⟩ := List.getElem?_eq_some_iff.mp a
  obtain ⟨h2, e2⟩ := List.getElem?_eq_some_iff.mp b
  exact (List.getElem_inj hN).mp (e1.trans e2.symm)
theorem Rm.ne (R : Rm G ρ H M) {j : Nat} {b : Addr} (ea : ρ[k]? = some a) (eb : ρ[j]? = some b) (h : j ≠ k) : b ≠ a := fun z => by
  subst z
  exact h (nodup_ixA R.nd eb ea)
theorem Rm.set (R : Rm G ρ H M) (e : M[k]? = some mo) (ea : ρ[k]? = some a) {u : HO} (h : MOk G ρ (upd H a u) a mo') : Rm G ρ (upd H a u) (M.set k mo') := by
  obtain ⟨o, ho, hi⟩ := (R.get e ea).there
  refine ⟨by simp [R.len], R.nd, fun j mo2 e2 => ?_⟩
  by_cases hj : j = k
  · subst hj
    have hk : j < M.length := (List.getElem?_eq_some_iff.mp e).1
    rw [List.getElem?_set_self hk] at e2
    cases e2
    exact ⟨a, ea, h⟩
  · rw [List.getElem?_set_ne (Ne.symm hj)] at e2
    obtain ⟨b, eb, h2⟩ := R.at_ j mo2 e2
    exact ⟨b, eb, h2.stay (ex_set ho hi) (upd_ne (R.ne ea eb hj))⟩
end

/-! ### judgements -/
abbrev Dv := List (Option D)
abbrev EF := Dv → Mem → Rs D
abbrev TF := Dv → Mem → Rs Bool
abbrev AF := Dv → Mem → Rs (List D)
inductive Fl where
  | nx (δ : Dv) | rt (d : D) | bk (δ : Dv) | ct (δ : Dv)
abbrev SF := Dv → Mem → Rs Fl
structure Sl (K : PySem.W.Frag) (ρ : List Addr) (H : Hp) (σ : St) (δ : Dv) : Prop where
  len : σ.length = δ.length
  at_ : ∀ (i : Nat) d, δ[i]? = some (some d) → ∃ v, σ[i]? = some (some v) ∧ Rep K ρ H v d
def GoE (G : Gc) (ρ : List Addr) (H : Hp) (Q : VK) : D → Mem → Prop := fun d M' => ∀ ρ' H' v, Ex ρ H ρ' H' → Rm G ρ' H' M' → Rep G.K ρ' H' v d → Q v H'
def GoT (G : Gc) (ρ : List Addr) (H : Hp) (Q : Bool → Hp → Prop) : Bool → Mem → Prop := fun b M' => ∀ ρ' H', Ex ρ H ρ' H' → Rm G ρ' H' M' → Q b H'
def GoA (G : Gc) (ρ : List Addr) (H : Hp) (Q : List V → Hp → Prop) : List D → Mem → Prop := fun ds M' => ∀ ρ' H' vs, Ex ρ H ρ' H' → Rm G ρ' H' M' → RepAll G.K ρ' H' vs ds → Q vs H'
/-- what is wanted of exceptions; none: none leaves -/
abbrev XE := Option XK
def GoX (G : Gc) (ρ : List Addr) (H : Hp) : XE → Nat → List D → Mem → Prop
  | none => fun _ _ _ => False
  | some E => fun c fs M' => ∀ ρ' H' C names dx vs, Ex ρ H ρ' H' → Rm G ρ' H' M' → G.ct[c]? = some (C, names) → H' dx = some (.xd (names.zip vs)) → RepAll G.K ρ' H' vs fs → E (.ref C) (some dx) H'
def GoS (G : Gc) (ρ : List Addr) (H : Hp) (D : Ends) : Fl → Mem → Prop := fun fl M' => match fl with
  | .nx δ => ∀ ρ' H' σ, Ex ρ H ρ' H' → Rm G ρ' H' M' → Sl G.K ρ' H' σ δ → D.nx σ H'
  | .bk δ => ∀ ρ' H' σ, Ex ρ H ρ' H' → Rm G ρ' H' M' → Sl G.K ρ' H' σ δ → D.bk σ H'
  | .ct δ => ∀ ρ' H' σ, Ex ρ H ρ' H' → Rm G ρ' H' M' → Sl G.K ρ' H' σ δ → D.ct σ H'
  | .rt d => ∀ ρ' H' v, Ex ρ H ρ' H' → Rm G ρ' H' M' → Rep G.K ρ' H' v d → D.rt v H'
def DE (G : Gc) (E : XE) (t : TE) (f : EF) : Prop := ∀ σ δ ρ H M Q, Sl G.K ρ H σ δ → Rm G ρ H M → Sat (f δ M) (GoE G ρ H Q) (GoX G ρ H E) → t σ H Q
def DT (G : Gc) (E : XE) (t : TT) (f : TF) : Prop := ∀ σ δ ρ H M Q, Sl G.K ρ H σ δ → Rm G ρ H M → Sat (f δ M) (GoT G ρ H Q) (GoX G ρ H E) → t σ H Q
def DA (G : Gc) (E : XE) (t : TA) (f : AF) : Prop := ∀ σ δ ρ H M Q, Sl G.K ρ H σ δ → Rm G ρ H M → Sat (f δ M) (GoA G ρ H Q) (GoX G ρ H E) → t σ H Q
def DS (G : Gc) (E : XE) (t : TS) (f : SF) : Prop := ∀ D σ δ ρ H M, Sl G.K ρ H σ δ → Rm G ρ H M → Sat (f δ M) (GoS G ρ H D) (GoX G ρ H E) → t D σ H
section
variable {G : Gc} {ρ ρ' : List Addr} {H H' : Hp} {M : Mem} {σ : St} {δ : Dv} {E : XE} {i : Nat} {v : V} {d : D}
theorem Sl.mono (h : Sl G.K ρ H σ δ) (e : Ex ρ H ρ' H') : Sl G.K ρ' H' σ δ := ⟨h.len, fun i d q => let ⟨v, h1, h2⟩ := h.at_ i d q; ⟨v, h1, h2.mono e⟩⟩
theorem Sl.set (h : Sl G.K ρ H σ δ) (r : Rep G.K ρ H v d) : Sl G.K ρ H (σ.set i (some v)) (δ.set i (some d)) := by
  refine ⟨by simp [h.len], fun j d' q => ?_⟩
  by_cases hj : j = i
  · subst hj
    have hl : j < δ.length := by
      have := (List.getElem?_eq_some_iff.mp q).1
      simpa using this
    rw [List.getElem?_set_self hl] at q
    cases q
    exact ⟨v, List.getElem?_set_self (by rw [h.len]; exact hl), r⟩
  · rw [List.getElem?_set_ne (Ne.symm hj)] at q ⊢
    exact h.at_ j d' q
theorem GoE.weak {Q : VK} {M : Mem} (e : Ex ρ H ρ' H') (h : GoE G ρ H Q d M) : GoE G ρ' H' Q d M := fun ρ2 H2 v e2 => h ρ2 H2 v (e.trans e2)
theorem GoT.weak {Q : Bool → Hp → Prop} {b : Bool} {M : Mem} (e : Ex ρ H ρ' H') (h : GoT G ρ H Q b M) : GoT G ρ' H' Q b M := fun ρ2 H2 e2 => h ρ2 H2 (e.trans e2)
theorem GoA.weak {Q : List V → Hp → Prop} {ds : List D} {M : Mem} (e : Ex ρ H ρ' H') (h : GoA G ρ H Q ds M) : GoA G ρ' H' Q ds M := fun ρ2 H2 v e2 => h ρ2 H2 v (e.trans e2)
theorem GoX.weak {c : Nat} {fs : List D} {M : Mem} (e : Ex ρ H ρ' H') (h : GoX G ρ H E c fs M) : GoX G ρ' H' E c fs M := by
  cases E with
  | none => exact h
  | some E => exact fun ρ2 H2 C n dx vs e2 => h ρ2 H2 C n dx vs (e.trans e2)
theorem GoS.weak {D : Ends} {fl : Fl} {M : Mem} (e : Ex ρ H ρ' H') (h : GoS G ρ H D fl M) : GoS G ρ' H' D fl M := by
  cases fl with
  | nx δ => exact fun ρ2 H2 v e2 => h ρ2 H2 v (e.trans e2)
  | bk δ => exact fun ρ2 H2 v e2 => h ρ2 H2 v (e.trans e2)
  | ct δ => exact fun ρ2 H2 v e2 => h ρ2 H2 v (e.trans e2)
  | rt d => exact fun ρ2 H2 v e2 => h ρ2 H2 v (e.trans e2)
/-- one part, then what hangs on its value -/
theorem DE.bind {α : Type} {t : TE} {f : EF} {k : D → Mem → Rs α} {P : α → Mem → Prop} {R : VK} (h : DE G E t f) (hs : Sl G.K ρ H σ δ) (hr : Rm G ρ H M) (q : Sat ((f δ M).bind k) P (GoX G ρ H E))
    (hk : ∀ d M1 ρ1 H1 v, Ex ρ H ρ1 H1 → Sl G.K ρ1 H1 σ δ → Rm G ρ1 H1 M1 → Rep G.K ρ1 H1 v d → Sat (k d M1) P (GoX G ρ1 H1 E) → R v H1) : t σ H R := by
  rw [Sat.bind] at q
  exact h σ δ ρ H M R hs hr (q.mono (fun d M1 q1 ρ1 H1 v e1 r1 rv => hk d M1 ρ1 H1 v e1 (hs.mono e1) r1 rv (q1.mono (fun _ _ z => z) fun _ _ _ z => z.weak e1)) fun _ _ _ z => z)
theorem DT.bind {α : Type} {t : TT} {f : TF} {k : Bool → Mem → Rs α} {P : α → Mem → Prop} {R : Bool → Hp → Prop} (h : DT G E t f) (hs : Sl G.K ρ H σ δ) (hr : Rm G ρ H M) (q : Sat ((f δ M).bind k) P (GoX G ρ H E))
    (hk : ∀ d M1 ρ1 H1, Ex ρ H ρ1 H1 → Sl G.K ρ1 H1 σ δ → Rm G ρ1 H1 M1 → Sat (k d M1) P (GoX G ρ1 H1 E) → R d H1) : t σ H R := by
  rw [Sat.bind] at q
  exact h σ δ ρ H M R hs hr (q.mono (fun d M1 q1 ρ1 H1 e1 r1 => hk d M1 ρ1 H1 e1 (hs.mono e1) r1 (q1.mono (fun _ _ z => z) fun _ _ _ z => z.weak e1)) fun _ _ _ z => z)
theorem DA.bind {α : Type} {t : TA} {f : AF} {k : List D → Mem → Rs α} {P : α → Mem → Prop} {R : List V → Hp → Prop} (h : DA G E t f) (hs : Sl G.K ρ H σ δ) (hr : Rm G ρ H M) (q : Sat ((f δ M).bind k) P (GoX G ρ H E))
    (hk : ∀ d M1 ρ1 H1 v, Ex ρ H ρ1 H1 → Sl G.K ρ1 H1 σ δ → Rm G ρ1 H1 M1 → RepAll G.K ρ1 H1 v d → Sat (k d M1) P (GoX G ρ1 H1 E) → R v H1) : t σ H R := by
  rw [Sat.bind] at q
  exact h σ δ ρ H M R hs hr (q.mono (fun d M1 q1 ρ1 H1 v e1 r1 rv => hk d M1 ρ1 H1 v e1 (hs.mono e1) r1 rv (q1.mono (fun _ _ z => z) fun _ _ _ z => z.weak e1)) fun _ _ _ z => z)
end

abbrev gOf (X : Cx) (ct : List (Addr × List Str)) : Gc := ⟨X.prog, X.w, X.K, ct⟩
structure JE (ct : List (Addr × List Str)) (X : Cx) (E : XE) (e : Expr) (t : TE) (f : EF) : Prop where
  p : PE X e t
  d : DE (gOf X ct) E t f
structure JT (ct : List (Addr × List Str)) (X : Cx) (E : XE) (e : Expr) (t : TT) (f : TF) : Prop where
  p : PT X e t
  d : DT (gOf X ct) E t f
structure JW (ct : List (Addr × List Str)) (X : Cx) (E : XE) (e : Expr) (t : TT) (f : TF) : Prop where
  p : PW X e t
  d : DT (gOf X ct) E t f
structure JA (ct : List (Addr × List Str)) (X : Cx) (E : XE) (es : List Expr) (t : TA) (f : AF) : Prop where
  p : PA X es t
  d : DA (gOf X ct) E t f
structure JS (ct : List (Addr × List Str)) (X : Cx) (E : XE) (st : Stmt) (t : TS) (f : SF) : Prop where
  p : PS X st t
  d : DS (gOf X ct) E t f
structure JSs (ct : List (Addr × List Str)) (X : Cx) (E : XE) (st : List Stmt) (t : TS) (f : SF) : Prop where
  p : PSs X st t
  d : DS (gOf X ct) E t f

/-! ### operations on values -/
def RO (G : Gc) (r : R2) (g : D → D → Mem → Rs D) : Prop := ∀ ρ H M x y dx dy Q E, Rm G ρ H M → Rep G.K ρ H x dx → Rep G.K ρ H y dy → Sat (g dx dy M) (GoE G ρ H Q) E → r x y H Q
def RC (G : Gc) (r : List V → Hp → VK → Prop) (g : List D → Mem → Rs D) : Prop := ∀ ρ H M xs ds Q E, Rm G ρ H M → RepAll G.K ρ H xs ds → Sat (g ds M) (GoE G ρ H Q) E → r xs H Q
theorem GoE.here {G : Gc} {ρ : List Addr} {H : Hp} {Q : VK} {d : D} {M : Mem} {v : V} (h : GoE G ρ H Q d M) (R : Rm G ρ H M) (r : Rep G.K ρ H v d) : Q v H := h ρ H v Ex.refl R r
end J
/-! J, third part: expressions. -/
namespace J
open PySem L2

def Rs.grd (c : Prop) [Decidable c] {α : Type} (r : Rs α) : Rs α := if c then r else .stuck
theorem Sat.grd {c : Prop} [Decidable c] {α : Type} {r : Rs α} {P : α → Mem → Prop} {E : Nat → List D → Mem → Prop} (h : Sat (Rs.grd c r) P E) : c ∧ Sat r P E := by
  unfold Rs.grd at h
  split at h
  · exact ⟨by assumption, h⟩
  · exact h.elim
instance (i j : Int) : Decidable (CMul i j) := by unfold CMul; infer_instance
instance (i j : Int) : Decidable (CDiv i j) := by unfold CDiv; infer_instance
instance (i j : Int) : Decidable (CPow i j) := by unfold CPow; infer_instance
instance (i j : Int) : Decidable (CMulW i j) := by unfold CMulW; infer_instance
instance (i j : Int) : Decidable (CDivW i j) := by unfold CDivW; infer_instance

/-! ### names, constants -/
def xVar (i : Nat) : EF := fun δ M => match δ[i]? with | some (some d) => .ok d M | _ => .stuck
def xC (d : D) : EF := fun _ M => .ok d M
section
variable {G : Gc} {E : XE}
theorem de_var {i : Nat} : DE G E (tVar i) (xVar i) := by
  intro σ δ ρ H M Q hs hr h
  unfold xVar at h
  split at h
  · rename_i d e
    obtain ⟨v, e1, r⟩ := hs.at_ i d e
    exact ⟨v, e1, GoE.here h hr r⟩
  · exact h.elim
theorem de_c {v : V} {d : D} (hv : ∀ ρ H, Rep G.K ρ H v d) : DE G E (tC v) (xC d) := fun σ δ ρ H M Q hs hr h => GoE.here (d := d) h hr (hv ρ H)
end
section
variable {ct : List (Addr × List Str)} {X : Cx} {E : XE} {pos : Pos}
theorem je_var (i : Nat) {x : Str} (hN : X.N[i]? = some x := by rfl) (hv : Vis X.env.scope x := by first | exact Or.inl rfl | exact Or.inr (Or.inl rfl) | exact Or.inr (Or.inr rfl)) (hd : (x == ("__debug__" : Str)) = false := by decide)
    (hcd : (x == ("__classdict__" : Str)) = false := by decide) : JE ct X E (.Name x pos) (tVar i) (xVar i) := ⟨pe_var hN hv hd hcd, de_var⟩
theorem je_int {i : Int} {j : Nat} : JE ct X E (.Constant (.int i) j pos) (tC (.int i)) (xC (.int i)) := ⟨pe_int, de_c fun _ _ => .int _⟩
theorem je_bl {b : Bool} {j : Nat} : JE ct X E (.Constant (.bool b) j pos) (tC (.bl b)) (xC (.bl b)) := ⟨pe_bl, de_c fun _ _ => .bl _⟩
theorem je_non {j : Nat} : JE ct X E (.Constant .none j pos) (tC .non) (xC .non) := ⟨pe_non, de_c fun _ _ => .non⟩
theorem je_str {x : Str} {j : Nat} : JE ct X E (.Constant (.str x) j pos) (tC (.str x)) (xC (.str x)) := ⟨pe_str, de_c fun _ _ => .str _⟩
theorem je_glob {x : Str} {v : V} {u : Value} {d : D} (hm : X.mg x = some u) (r : RelV v u) (hv : ∀ ρ H, Rep X.K ρ H v d) (hg : Gl X x := by rfl) (hd : (x == ("__debug__" : Str)) = false := by decide) : JE ct X E (.Name x pos) (tC v) (xC d) :=
  ⟨pe_glob hg hm r hd, de_c hv⟩
/-- a built-in type's name as a value -/
theorem je_ty {x : Str} {T : String} (hm : X.mg x = none) (hv : bootBuiltins x = some (.type T)) (hg : Gl X x := by rfl) (hn : x ≠ "__name__" := by decide) (hd : (x == ("__debug__" : Str)) = false := by decide) : JE ct X E (.Name x pos) (tC (.ty T)) (xC (.ty T)) :=
  ⟨pe_bltn hg hm hv rfl hn hd, de_c fun _ _ => .ty _⟩
end

/-! ### two operands, one operand -/
def xBin (g : D → D → Mem → Rs D) (fa fb : EF) : EF := fun δ M => (fa δ M).bind fun x M1 => (fb δ M1).bind fun y M2 => g x y M2
def xUn (g : D → Mem → Rs D) (fa : EF) : EF := fun δ M => (fa δ M).bind g
theorem de_op {G : Gc} {E : XE} {r : R2} {g : D → D → Mem → Rs D} {ta tb : TE} {fa fb : EF} (hg : RO G r g) (ha : DE G E ta fa) (hb : DE G E tb fb) : DE G E (tOp r ta tb) (xBin g fa fb) := by
  intro σ δ ρ H M Q hs hr h
  show ta σ H _
  refine DE.bind (P := GoE G ρ H Q) ha hs hr h fun x M1 ρ1 H1 v e1 s1 r1 rv h1 => ?_
  show tb σ H1 _
  refine DE.bind (P := GoE G ρ H Q) hb s1 r1 h1 fun y M2 ρ2 H2 u e2 s2 r2 ru h2 => ?_
  exact hg ρ2 H2 M2 v u x y Q _ r2 (rv.mono e2) ru (h2.mono (fun _ _ z => z.weak (e1.trans e2)) fun _ _ _ z => z)
def RU1 (G : Gc) (r : V → Hp → VK → Prop) (g : D → Mem → Rs D) : Prop := ∀ ρ H M x dx Q E, Rm G ρ H M → Rep G.K ρ H x dx → Sat (g dx M) (GoE G ρ H Q) E → r x H Q
theorem de_un {G : Gc} {E : XE} {r : V → Hp → VK → Prop} {g : D → Mem → Rs D} {ta : TE} {fa : EF} (hg : RU1 G r g) (ha : DE G E ta fa) : DE G E (tUn r ta) (xUn g fa) := by
  intro σ δ ρ H M Q hs hr h
  show ta σ H _
  refine DE.bind (P := GoE G ρ H Q) ha hs hr h fun x M1 ρ1 H1 v e1 s1 r1 rv h1 => ?_
  exact hg ρ1 H1 M1 v x Q _ r1 rv (h1.mono (fun _ _ z => z.weak e1) fun _ _ _ z => z)
section
variable {ct : List (Addr × List Str)} {X : Cx} {E : XE} {pos : Pos} {a b : Expr} {ta tb : TE} {fa fb : EF} {r : R2} {g : D → D → Mem → Rs D}
theorem je_op {op : Operator} (ho : OpR X (binaryOp op) r) (hg : RO (gOf X ct) r g) (ha : JE ct X E a ta fa) (hb : JE ct X E b tb fb) : JE ct X E (.BinOp a op b pos) (tOp r ta tb) (xBin g fa fb) := ⟨pe_op ho ha.p hb.p, de_op hg ha.d hb.d⟩
theorem je_cmp {op : CmpOp} (ho : OpR X (compareOp op) r) (hg : RO (gOf X ct) r g) (ha : JE ct X E a ta fa) (hb : JE ct X E b tb fb) (hm : behindInMarks op b = false := by first | exact nomark _ | rfl) : JE ct X E (.Compare a [op] [b] pos) (tOp r ta tb) (xBin g fa fb) := ⟨pe_cmpR ho ha.p hb.p hm, de_op hg ha.d hb.d⟩
theorem je_ix (hr : IxR X r) (hg : RO (gOf X ct) r g) (ha : JE ct X E a ta fa) (hb : JE ct X E b tb fb) (hs : PlainIx b := by exact fun _ _ => rfl) : JE ct X E (.Subscript a b pos) (tOp r ta tb) (xBin g fa fb) := ⟨pe_ix hr ha.p hb.p hs, de_op hg ha.d hb.d⟩
end

/-! ### arithmetic -/
section
variable {G : Gc}
def gSub (x y : D) (M : Mem) : Rs D := match x, y with | .int i, .int j => .ok (.int (i - j)) M | _, _ => .stuck
def gMul (x y : D) (M : Mem) : Rs D := match x, y with | .int i, .int j => Rs.grd (CMul i j ∨ CMulW i j) (.ok (.int (i * j)) M) | _, _ => .stuck
def gMod (x y : D) (M : Mem) : Rs D := match x, y with | .int i, .int j => Rs.grd (0 < j) (.ok (.int (i % j)) M) | _, _ => .stuck
def gDiv (x y : D) (M : Mem) : Rs D := match x, y with | .int i, .int j => Rs.grd (CDiv i j ∨ CDivW i j) (.ok (.int (i / j)) M) | _, _ => .stuck
def gPow (x y : D) (M : Mem) : Rs D := match x, y with | .int i, .int j => Rs.grd (CPow i j) (.ok (.int (i ^ j.toNat)) M) | _, _ => .stuck
abbrev rSubU : R2 := rI0 fun i j => .int (i - j)
abbrev rMulU : R2 := fun x y H Q => rI CMul (fun i j => .int (i * j)) x y H Q ∨ rI CMulW (fun i j => .int (i * j)) x y H Q
abbrev rModU : R2 := rI (fun _ j => 0 < j) fun i j => .int (i % j)
abbrev rDivU : R2 := fun x y H Q => rI CDiv (fun i j => .int (i / j)) x y H Q ∨ rI CDivW (fun i j => .int (i / j)) x y H Q
abbrev rPowU : R2 := rI CPow fun i j => .int (i ^ j.toNat)
abbrev rOrdU (p : Int → Int → Bool) : R2 := rI0 fun i j => .bl (p i j)
theorem ro_sub : RO G rSubU gSub := by
  intro ρ H M x y dx dy Q E R rx ry h
  unfold gSub at h
  split at h
  · rw [rx.int_of, ry.int_of]; exact ⟨_, _, rfl, rfl, GoE.here h R (.int _)⟩
  · exact h.elim
theorem ro_mul : RO G rMulU gMul := by
  intro ρ H M x y dx dy Q E R rx ry h
  unfold gMul at h
  split at h
  · obtain ⟨c, h⟩ := h.grd
    rw [rx.int_of, ry.int_of]
    rcases c with c | c
    · exact .inl ⟨_, _, rfl, rfl, c, GoE.here h R (.int _)⟩
    · exact .inr ⟨_, _, rfl, rfl, c, GoE.here h R (.int _)⟩
  · exact h.elim
theorem ro_mod : RO G rModU gMod := by
  intro ρ H M x y dx dy Q E R rx ry h
  unfold gMod at h
  split at h
  · obtain ⟨c, h⟩ := h.grd
    rw [rx.int_of, ry.int_of]; exact ⟨_, _, rfl, rfl, c, GoE.here h R (.int _)⟩
  · exact h.elim
theorem ro_div : RO G rDivU gDiv := by
  intro ρ H M x y dx dy Q E R rx ry h
  unfold gDiv at h
  split at h
  · obtain ⟨c, h⟩ := h.grd
    rw [rx.int_of, ry.int_of]
    rcases c with c | c
    · exact .inl ⟨_, _, rfl, rfl, c, GoE.here h R (.int _)⟩
    · exact .inr ⟨_, _, rfl, rfl, c, GoE.here h R (.int _)⟩
  · exact h.elim
theorem ro_pow : RO G rPowU gPow := by
  intro ρ H M x y dx dy Q E R rx ry h
  unfold gPow at h
  split at h
  · obtain ⟨c, h⟩ := h.grd
    rw [rx.int_of, ry.int_of]; exact ⟨_, _, rfl, rfl, c, GoE.here h R (.int _)⟩
  · exact h.elim
def gNeg (x : D) (M : Mem) : Rs D := match x with | .int i => .ok (.int (-i)) M | _ => .stuck
theorem ru_neg : RU1 G (rU fun i => .int (-i)) gNeg := by
  intro ρ H M x dx Q E R rx h
  unfold gNeg at h
  split at h
  · rw [rx.int_of]; exact ⟨_, rfl, GoE.here h R (.int _)⟩
  · exact h.elim
/-- + of ints, texts, lists, tuples -/
def gAdd (x y : D) (M : Mem) : Rs D := match x, y with
  | .int i, .int j => .ok (.int (i + j)) M
  | .str a, .str b => Rs.grd (a.length + b.length ≤ sizeLine) (.ok (.str (a ++ b)) M)
  | .m k, .m l => match M[k]?, M[l]? with
    | some (.lst xs), some (.lst ys) => Rs.grd (xs.length + ys.length ≤ sizeLine) (.ok (.m M.length) (M ++ [.lst (xs ++ ys)]))
    | _, _ => .stuck
  | .tup (x :: xs), .tup ys => Rs.grd ((x :: xs).length + ys.length ≤ sizeLine) (.ok (.tup (x :: xs ++ ys)) M)
  | _, _ => .stuck
abbrev rAddU (K : PySem.W.Frag) : R2 := fun x y H Q => rI0 (fun i j => .int (i + j)) x y H Q ∨ ((∃ i j, x = .str i ∧ y = .str j ∧ i.length + j.length ≤ sizeLine ∧ Q (.str (i ++ j)) H) ∨ (rCat x y H Q ∨ rCatT K x y H Q))
theorem op_addU {X : Cx} : OpR X (binaryOp .Add) (rAddU X.K) := op_add.or (op_add_str.or (op_cat.or op_catT))
theorem Rm.alloc {ρ : List Addr} {H : Hp} {M : Mem} {p : Addr} {vs : List V} {ds : List D} (R : Rm G ρ H M) (hp : H p = none) (r : RepAll G.K ρ H vs ds) {Q : VK} (h : GoE G ρ H Q (.m M.length) (M ++ [.lst ds])) : Q (.ref p) (upd H p (.lst vs)) := by
  have e : Ex ρ H (ρ ++ [p]) (upd H p (.lst vs)) := (ex_new hp).trans ex_push
  refine h (ρ ++ [p]) _ _ e (R.new hp ⟨vs, upd_same, r.mono e⟩) (.m ?_)
  rw [← R.len, List.getElem?_append_right (Nat.le_refl _)]
  simp
theorem Rm.alloc_tup {ρ : List Addr} {H : Hp} {M : Mem} {p : Addr} {vs : List V} {ds : List D} (R : Rm G ρ H M) (hp : H p = none) (r : RepAll G.K ρ H vs ds) {Q : VK} (h : GoE G ρ H Q (.tup ds) M) : Q (.ref p) (upd H p (.tup vs)) := by
  have e : Ex ρ H ρ (upd H p (.tup vs)) := ex_new hp
  exact h ρ _ _ e (R.aside hp) (.tup (SqT.of upd_same) (r.mono e))
theorem ro_add : RO G (rAddU G.K) gAdd := by
  intro ρ H M x y dx dy Q E R rx ry h
  unfold gAdd at h
  split at h
  · rw [rx.int_of, ry.int_of]; exact .inl ⟨_, _, rfl, rfl, GoE.here h R (.int _)⟩
  · obtain ⟨c, h⟩ := h.grd
    rw [rx.str_of, ry.str_of]; exact .inr (.inl ⟨_, _, rfl, rfl, c, GoE.here h R (.str _)⟩)
  · split at h
    · rename_i k l _ _ xs ys e1 e2
      obtain ⟨c, h⟩ := h.grd
      obtain ⟨p, rfl, ep⟩ := rx.m_of
      obtain ⟨q, rfl, eq⟩ := ry.m_of
      obtain ⟨vs, h1, r1⟩ := R.get e1 ep
      obtain ⟨us, h2, r2⟩ := R.get e2 eq
      exact .inr (.inr (.inl ⟨_, _, _, _, rfl, rfl, h1, h2, by rw [r1.length, r2.length]; exact c, fun a ha => R.alloc ha (r1.append r2) h⟩))
    · exact h.elim
  · rename_i x0 xs ys
    obtain ⟨c, h⟩ := h.grd
    obtain ⟨p, vs, rfl, h1, r1⟩ := rx.tup_of
    obtain ⟨q, us, rfl, h2, r2⟩ := ry.tup_of
    refine .inr (.inr (.inr ⟨_, _, vs, us, rfl, rfl, h1, h2, ?_, by rw [r1.length, r2.length]; exact c, fun e => ?_, fun e a ha => R.alloc_tup ha (r1.append r2) h⟩))
    · intro z; subst z; cases r1
    · subst e
      cases r2
      rw [List.append_nil] at h
      exact GoE.here h R rx
  · exact h.elim
end
section
variable {ct : List (Addr × List Str)} {X : Cx} {E : XE} {pos : Pos} {a b : Expr} {ta tb : TE} {fa fb : EF}
theorem je_add (ha : JE ct X E a ta fa) (hb : JE ct X E b tb fb) : JE ct X E (.BinOp a .Add b pos) (tOp (rAddU X.K) ta tb) (xBin gAdd fa fb) := je_op op_addU ro_add ha hb
theorem je_sub (ha : JE ct X E a ta fa) (hb : JE ct X E b tb fb) : JE ct X E (.BinOp a .Sub b pos) (tOp rSubU ta tb) (xBin gSub fa fb) := je_op op_sub ro_sub ha hb
theorem je_mul (ha : JE ct X E a ta fa) (hb : JE ct X E b tb fb) : JE ct X E (.BinOp a .Mult b pos) (tOp rMulU ta tb) (xBin gMul fa fb) := je_op (op_mul.or op_mulW) ro_mul ha hb
theorem je_mod (ha : JE ct X E a ta fa) (hb : JE ct X E b tb fb) : JE ct X E (.BinOp a .Mod b pos) (tOp rModU ta tb) (xBin gMod fa fb) := je_op op_mod ro_mod ha hb
theorem je_div (ha : JE ct X E a ta fa) (hb : JE ct X E b tb fb) : JE ct X E (.BinOp a .FloorDiv b pos) (tOp rDivU ta tb) (xBin gDiv fa fb) := je_op (op_fdiv.or op_fdivW) ro_div ha hb
theorem je_pow (ha : JE ct X E a ta fa) (hb : JE ct X E b tb fb) : JE ct X E (.BinOp a .Pow b pos) (tOp rPowU ta tb) (xBin gPow fa fb) := je_op op_pow ro_pow ha hb
theorem je_neg (ha : JE ct X E a ta fa) : JE ct X E (.UnaryOp .USub a pos) (tUn (rU fun i => .int (-i)) ta) (xUn gNeg fa) := ⟨pe_un un_neg ha.p, de_un ru_neg ha.d⟩
end

/-! ### comparisons -/
mutual
def toP : D → Option PyData
  | .non => some .none
  | .bl b => some (.bool b)
  | .int i => some (.int i)
  | .str s => some (.str s)
  | .ty _ => none
  | .tup xs => (toPs xs).map .tuple
  | .rl xs => (toPs xs).map .list
  | .m _ => none
def toPs : List D → Option (List PyData)
  | [] => some []
  | x :: xs => match toP x, toPs xs with | some p, some ps => some (p :: ps) | _, _ => none
end
section
variable {K : PySem.W.Frag} {ρ : List Addr} {H : Hp}
mutual
theorem toP_dp : ∀ (d : D) (v : V) (p : PyData), Rep K ρ H v d → toP d = some p → Dp K H v p
  | .non, v, p, r, e => by cases r; simp only [toP] at e; cases e; exact .non
  | .bl b, v, p, r, e => by cases r; simp only [toP] at e; cases e; exact .bl _
  | .int i, v, p, r, e => by cases r; simp only [toP] at e; cases e; exact .int _
  | .str i, v, p, r, e => by cases r; simp only [toP] at e; cases e; exact .str _
  | .ty n, v, p, r, e => by simp only [toP] at e; cases e
  | .m k, v, p, r, e => by simp only [toP] at e; cases e
  | .tup xs, v, p, r, e => by
    cases r with
    | tup h1 h2 =>
      simp only [toP] at e
      obtain ⟨ps, e1, e2⟩ := Option.map_eq_some_iff.mp e
      subst e2
      exact .tup h1 (toPs_dp xs _ ps h2 e1)
  | .rl xs, v, p, r, e => by
    cases r with
    | rl h1 h2 =>
      simp only [toP] at e
      obtain ⟨ps, e1, e2⟩ := Option.map_eq_some_iff.mp e
      subst e2
      exact .lst h1.sq (toPs_dp xs _ ps h2 e1)
theorem toPs_dp : ∀ (ds : List D) (vs : List V) (ps : List PyData), RepAll K ρ H vs ds → toPs ds = some ps → DpAll K H vs ps
  | [], vs, ps, r, e => by cases r; simp only [toPs] at e; cases e; exact .nil
  | d :: ds, vs, ps, r, e => by
    cases r with
    | cons h1 h2 =>
      simp only [toPs] at e
      split at e
      · cases e
        exact .cons (toP_dp d _ _ h1 (by assumption)) (toPs_dp ds _ _ h2 (by assumption))
      · cases e
end
end
def eqD (x y : D) : Option Bool := match x, y with
  | .int i, .int j => some (decide (i = j))
  | .bl i, .bl j => some (decide (i = j))
  | .str i, .str j => some (decide (i = j))
  | .non, .non => some true
  | .non, .int _ => some false
  | .int _, .non => some false
  | x, y => match toP x, toP y with
    | some p, some q => if (SeqAt.shaped p && SeqAt.shaped q) = true then some (PyData.eqv p q) else none
    | _, _ => none
def gEq (x y : D) (M : Mem) : Rs D := match eqD x y with | some b => .ok (.bl b) M | none => .stuck
def gNe (x y : D) (M : Mem) : Rs D := match eqD x y with | some b => .ok (.bl (!b)) M | none => .stuck
abbrev rEqU (K : PySem.W.Frag) : R2 := fun x y H Q => rEq x y H Q ∨ rEqD K x y H Q
abbrev rNeU (K : PySem.W.Frag) : R2 := fun x y H Q => rNe x y H Q ∨ rNeD K x y H Q
theorem eqD_cases {K : PySem.W.Frag} {ρ : List Addr} {H : Hp} {x y : D} {b : Bool} {v u : V} (rv : Rep K ρ H v x) (ru : Rep K ρ H u y) (h : eqD x y = some b) :
    (scal v u = true ∧ b = decide (v = u)) ∨ ∃ p q, Dp K H v p ∧ Dp K H u q ∧ SeqAt.shaped p = true ∧ SeqAt.shaped q = true ∧ b = PyData.eqv p q := by
  unfold eqD at h
  split at h
  · rw [rv.int_of, ru.int_of]; cases h; exact .inl ⟨rfl, by rw [dec_int, Bool.beq_eq_decide_eq]⟩
  · rw [rv.bl_of, ru.bl_of]; cases h; exact .inl ⟨rfl, by rw [dec_bl, Bool.beq_eq_decide_eq]⟩
  · rw [rv.str_of, ru.str_of]; cases h; exact .inl ⟨rfl, by rw [dec_str]; rename_i a b; by_cases e : a = b <;> simp [e]⟩
  · rw [rv.non_of, ru.non_of]; cases h; exact .inl ⟨rfl, by simp⟩
  · rw [rv.non_of, ru.int_of]; cases h; exact .inl ⟨rfl, by simp⟩
  · rw [rv.int_of, ru.non_of]; cases h; exact .inl ⟨rfl, by simp⟩
  · split at h
    · split at h
      · rename_i c
        cases h
        rw [Bool.and_eq_true] at c
        exact .inr ⟨_, _, toP_dp _ _ _ rv (by assumption), toP_dp _ _ _ ru (by assumption), c.1, c.2, rfl⟩
      · cases h
    · cases h
theorem ro_eq {G : Gc} : RO G (rEqU G.K) gEq := by
  intro ρ H M x y dx dy Q E R rx ry h
  unfold gEq at h
  split at h
  · rename_i b e
    rcases eqD_cases rx ry e with ⟨h1, rfl⟩ | ⟨p, q, d1, d2, s1, s2, rfl⟩
    · exact .inl ⟨h1, GoE.here h R (.bl _)⟩
    · exact .inr ⟨p, q, d1, d2, s1, s2, GoE.here h R (.bl _)⟩
  · exact h.elim
theorem ro_ne {G : Gc} : RO G (rNeU G.K) gNe := by
  intro ρ H M x y dx dy Q E R rx ry h
  unfold gNe at h
  split at h
  · rename_i b e
    rcases eqD_cases rx ry e with ⟨h1, rfl⟩ | ⟨p, q, d1, d2, s1, s2, rfl⟩
    · exact .inl ⟨h1, GoE.here h R (.bl _)⟩
    · exact .inr ⟨p, q, d1, d2, s1, s2, GoE.here h R (.bl _)⟩
  · exact h.elim
def gOrd (p : Int → Int → Bool) (x y : D) (M : Mem) : Rs D := match x, y with | .int i, .int j => .ok (.bl (p i j)) M | _, _ => .stuck
theorem ro_ord {G : Gc} {p : Int → Int → Bool} : RO G (rOrdU p) (gOrd p) := by
  intro ρ H M x y dx dy Q E R rx ry h
  unfold gOrd at h
  split at h
  · rw [rx.int_of, ry.int_of]; exact ⟨_, _, rfl, rfl, GoE.here h R (.bl _)⟩
  · exact h.elim
def gIs (neg : Bool) (x y : D) (M : Mem) : Rs D := match x, y with
  | .bl a, .bl b => .ok (.bl (if neg then !decide (a = b) else decide (a = b))) M
  | x, .non => match x with | .non => .ok (.bl (!neg)) M | _ => .ok (.bl neg) M
  | _, _ => .stuck
abbrev rIsU : R2 := fun x y H Q => rIsB x y H Q ∨ (y = .non ∧ Q (.bl (decide (x = .non))) H)
abbrev rIsNU : R2 := fun x y H Q => rNotB x y H Q ∨ (y = .non ∧ Q (.bl (!decide (x = .non))) H)
theorem non_ne {K : PySem.W.Frag} {ρ : List Addr} {H : Hp} {x : V} {dx : D} (r : Rep K ρ H x dx) (h : dx ≠ .non) : decide (x = .non) = false := by
  cases r <;> first | exact absurd rfl h | simp
theorem ro_is {G : Gc} : RO G rIsU (gIs false) := by
  intro ρ H M x y dx dy Q E R rx ry h
  unfold gIs at h
  split at h
  · rw [rx.bl_of, ry.bl_of]; exact .inl ⟨_, _, rfl, rfl, GoE.here (by simpa [Sat] using h) R (.bl _)⟩
  · rw [ry.non_of]
    refine .inr ⟨rfl, ?_⟩
    split at h
    · rw [rx.non_of]; exact GoE.here (d := .bl true) (by simpa [Sat] using h) R (.bl _)
    · rename_i h0
      rw [non_ne rx (fun z => h0 (by rw [z]))]
      exact GoE.here (d := .bl false) h R (.bl _)
  · exact h.elim
theorem ro_isn {G : Gc} : RO G rIsNU (gIs true) := by
  intro ρ H M x y dx dy Q E R rx ry h
  unfold gIs at h
  split at h
  · rw [rx.bl_of, ry.bl_of]; exact .inl ⟨_, _, rfl, rfl, GoE.here (by simpa [Sat] using h) R (.bl _)⟩
  · rw [ry.non_of]
    refine .inr ⟨rfl, ?_⟩
    split at h
    · rw [rx.non_of]; exact GoE.here (d := .bl false) (by simpa [Sat] using h) R (.bl _)
    · rename_i h0
      rw [non_ne rx (fun z => h0 (by rw [z]))]
      exact GoE.here (d := .bl true) h R (.bl _)
  · exact h.elim
section
variable {ct : List (Addr × List Str)} {X : Cx} {E : XE} {pos : Pos} {a b : Expr} {ta tb : TE} {fa fb : EF}
theorem je_eq (hu : X.A.units + 64 < cLine) (ha : JE ct X E a ta fa) (hb : JE ct X E b tb fb) : JE ct X E (.Compare a [.Eq] [b] pos) (tOp (rEqU X.K) ta tb) (xBin gEq fa fb) := je_cmp (op_eq.or (op_eqD hu)) ro_eq ha hb
theorem je_ne (hu : X.A.units + 64 < cLine) (ha : JE ct X E a ta fa) (hb : JE ct X E b tb fb) : JE ct X E (.Compare a [.NotEq] [b] pos) (tOp (rNeU X.K) ta tb) (xBin gNe fa fb) := je_cmp (op_ne.or (op_neD hu)) ro_ne ha hb
theorem je_lt (ha : JE ct X E a ta fa) (hb : JE ct X E b tb fb) : JE ct X E (.Compare a [.Lt] [b] pos) (tOp (rOrdU fun i j => decide (i < j)) ta tb) (xBin (gOrd fun i j => decide (i < j)) fa fb) := je_cmp op_lt ro_ord ha hb
theorem je_le (ha : JE ct X E a ta fa) (hb : JE ct X E b tb fb) : JE ct X E (.Compare a [.LtE] [b] pos) (tOp (rOrdU fun i j => decide (i ≤ j)) ta tb) (xBin (gOrd fun i j => decide (i ≤ j)) fa fb) := je_cmp op_le ro_ord ha hb
theorem je_gt (ha : JE ct X E a ta fa) (hb : JE ct X E b tb fb) : JE ct X E (.Compare a [.Gt] [b] pos) (tOp (rOrdU fun i j => decide (j < i)) ta tb) (xBin (gOrd fun i j => decide (j < i)) fa fb) := je_cmp op_gt ro_ord ha hb
theorem je_ge (ha : JE ct X E a ta fa) (hb : JE ct X E b tb fb) : JE ct X E (.Compare a [.GtE] [b] pos) (tOp (rOrdU fun i j => decide (j ≤ i)) ta tb) (xBin (gOrd fun i j => decide (j ≤ i)) fa fb) := je_cmp op_ge ro_ord ha hb
theorem je_is (ha : JE ct X E a ta fa) (hb : JE ct X E b tb fb) : JE ct X E (.Compare a [.Is] [b] pos) (tOp rIsU ta tb) (xBin (gIs false) fa fb) := je_cmp (op_isBl.or op_isN) ro_is ha hb
theorem je_isn (ha : JE ct X E a ta fa) (hb : JE ct X E b tb fb) : JE ct X E (.Compare a [.IsNot] [b] pos) (tOp rIsNU ta tb) (xBin (gIs true) fa fb) := je_cmp (op_notBl.or op_notN) ro_isn ha hb
end
end J
/-! J, fourth part: in, tests, displays, subscripts, slices, fields. -/
namespace J
open PySem L2

/-! ### tables of data -/
section
variable {κ : Type} [DecidableEq κ]
def valD (kvs : List (κ × D)) (k : κ) : Option D := (kvs.find? fun kv => decide (kv.1 = k)).map (·.2)
def putD (kvs : List (κ × D)) (k : κ) (v : D) : List (κ × D) :=
  if (kvs.any fun kv => decide (kv.1 = k)) = true then kvs.map (fun kv => if kv.1 = k then (kv.1, v) else kv) else kvs ++ [(k, v)]
variable {K : PySem.W.Frag} {ρ : List Addr} {H : Hp}
theorem RepKV.length {l : List (κ × V)} {l' : List (κ × D)} (h : RepKV K ρ H l l') : l.length = l'.length := Paired.length h
theorem RepKV.val {l : List (κ × V)} {l' : List (κ × D)} (h : RepKV K ρ H l l') (k : κ) : (∀ d, valD l' k = some d → ∃ v, valV l k = some v ∧ Rep K ρ H v d) ∧ (valD l' k = none → valV l k = none) := by
  induction h with
  | nil => exact ⟨fun d e => (by cases e), fun _ => rfl⟩
  | cons r t ih =>
    rename_i p q l l'
    obtain ⟨e, r⟩ := r
    by_cases hk : p.1 = k
    · have hk' : q.1 = k := e ▸ hk
      refine ⟨fun d h => ?_, fun h => ?_⟩
      · have h2 : valD (q :: l') k = some q.2 := by simp [valD, List.find?_cons, hk']
        rw [h2] at h; cases h
        exact ⟨p.2, valV_pos hk, r⟩
      · simp [valD, List.find?_cons, hk'] at h
    · have hk' : ¬ q.1 = k := e ▸ hk
      have h2 : valD (q :: l') k = valD l' k := by simp [valD, List.find?_cons, hk']
      rw [h2, valV_neg hk]
      exact ih
theorem RepKV.any {l : List (κ × V)} {l' : List (κ × D)} (h : RepKV K ρ H l l') (k : κ) : (l.any fun kv => decide (kv.1 = k)) = (l'.any fun kv => decide (kv.1 = k)) := by
  induction h with
  | nil => rfl
  | cons r t ih => rw [List.any_cons, List.any_cons, ih, r.1]
theorem RepKV.put1 {l : List (κ × V)} {l' : List (κ × D)} (h : RepKV K ρ H l l') (k : κ) {v : V} {d : D} (r : Rep K ρ H v d) : RepKV K ρ H (l.map fun kv => if kv.1 = k then (kv.1, v) else kv) (l'.map fun kv => if kv.1 = k then (kv.1, d) else kv) := by
  induction h with
  | nil => exact .nil
  | cons q t ih =>
    rename_i a b l l'
    rw [List.map_cons, List.map_cons]
    refine .cons ?_ ih
    obtain ⟨e, q⟩ := q
    by_cases hk : a.1 = k
    · rw [if_pos hk, if_pos (e ▸ hk)]; exact ⟨e, r⟩
    · rw [if_neg hk, if_neg (e ▸ hk)]; exact ⟨e, q⟩
theorem RepKV.put2 {l : List (κ × V)} {l' : List (κ × D)} (h : RepKV K ρ H l l') (k : κ) {v : V} {d : D} (r : Rep K ρ H v d) : RepKV K ρ H (l ++ [(k, v)]) (l' ++ [(k, d)]) := by
  induction h with
  | nil => exact .cons ⟨rfl, r⟩ .nil
  | cons q t ih => exact .cons q ih
theorem RepKV.put {l : List (κ × V)} {l' : List (κ × D)} (h : RepKV K ρ H l l') (k : κ) {v : V} {d : D} (r : Rep K ρ H v d) : RepKV K ρ H (putK l k v) (putD l' k d) := by
  unfold putK putD
  rw [h.any k]
  split
  · exact h.put1 k r
  · exact h.put2 k r
theorem RepKV.isSome {l : List (κ × V)} {l' : List (κ × D)} (h : RepKV K ρ H l l') (k : κ) : (valV l k).isSome = (valD l' k).isSome := by
  cases e : valD l' k with
  | none => rw [(h.val k).2 e]; rfl
  | some d => obtain ⟨v, e2, _⟩ := (h.val k).1 d e; rw [e2]; rfl
end
def keyOf : D → Option Key
  | .int i => some (.inl i)
  | .str s => some (.inr s)
  | _ => none
theorem keyOf_v {K : PySem.W.Frag} {ρ : List Addr} {H : Hp} {v : V} {d : D} {k : Key} (r : Rep K ρ H v d) (e : keyOf d = some k) : v = kV k := by
  unfold keyOf at e
  split at e
  · cases e; exact r.int_of
  · cases e; exact r.str_of
  · cases e

/-! ### in -/
def inP (x : D) (xs : List D) : Option Bool := match toP x, toPs xs with
  | some p, some ps => if (SeqAt.shaped p && SeqAt.shaped (.list ps)) = true then some (ps.any fun z => PyData.eqv z p) else none
  | _, _ => none
def gIn0 (x y : D) (M : Mem) : Option Bool := match y with
  | .m k => match M[k]? with
    | some (.dct kvs) => match keyOf x with | some q => some (valD kvs q).isSome | none => none
    | some (.bd kvs) => match x with | .bl b => some (valD kvs b).isSome | _ => none
    | some (.lst xs) => inP x xs
    | _ => none
  | .tup xs => inP x xs
  | .rl xs => inP x xs
  | _ => none
def gIn (x y : D) (M : Mem) : Rs D := match gIn0 x y M with | some b => .ok (.bl b) M | none => .stuck
def gNotIn (x y : D) (M : Mem) : Rs D := match gIn0 x y M with | some b => .ok (.bl (!b)) M | none => .stuck
/-- what in asks: the answer b -/
def InB (P : Program) (w : World) (K : PySem.W.Frag) (x y : V) (H : Hp) (b : Bool) : Prop :=
  (∃ a o, y = .ref a ∧ DGet H a x o ∧ b = o.isSome) ∨ (∃ a k kvs, x = .bl k ∧ y = .ref a ∧ H a = some (hBd P w a kvs) ∧ b = (valV kvs k).isSome) ∨
  ∃ d ds, Dp K H x d ∧ (Dp K H y (.list ds) ∨ Dp K H y (.tuple ds)) ∧ SeqAt.shaped d = true ∧ SeqAt.shaped (.list ds) = true ∧ b = (ds.any fun z => PyData.eqv z d)
def rInU (P : Program) (w : World) (K : PySem.W.Frag) : R2 := fun x y H Q => ∃ b, InB P w K x y H b ∧ Q (.bl b) H
def rNotInU (P : Program) (w : World) (K : PySem.W.Frag) : R2 := fun x y H Q => ∃ b, InB P w K x y H b ∧ Q (.bl (!b)) H
theorem op_inU {X : Cx} (hu : X.A.units + 65 < cLine) : OpR X (compareOp .In) (rInU X.prog X.w X.K) := by
  intro pins s σ H x y v u Q I rx ry h
  obtain ⟨b, h, q⟩ := h
  rcases h with ⟨a, o, rfl, g, rfl⟩ | ⟨a, k, kvs, rfl, rfl, e, rfl⟩ | ⟨d, ds, hd, he, sd, se, rfl⟩
  · cases ry
    exact d_in (by omega) I g rx fun s3 I3 => ⟨.bl o.isSome, H, I3, rfl, q⟩
  · cases ry
    cases (show v = Value.bool k from rx)
    exact b_in I e fun s3 I3 => ⟨.bl _, H, I3, rfl, q⟩
  · obtain ⟨as, r1⟩ := Dp.reads I d x v hd rx
    rcases he with he | he
    · obtain ⟨bs, r2⟩ := Dp.reads I (.list ds) y u he ry
      exact SeqAt.in_list_reads r2 r1 (SeqAt.canLay_of_shaped se) (SeqAt.canLay_of_shaped sd) (PyProof.Rows.room_in_shaped sd hu) ⟨.bl _, H, I, rfl, q⟩
    · obtain ⟨bs, r2⟩ := Dp.reads I (.tuple ds) y u he ry
      exact SeqAt.in_tuple_reads r2 r1 (SeqAt.canLay_of_shaped se) (SeqAt.canLay_of_shaped sd) (PyProof.Rows.room_in_shaped sd hu) ⟨.bl _, H, I, rfl, q⟩
theorem op_notInU {X : Cx} (hu : X.A.units + 65 < cLine) : OpR X (compareOp .NotIn) (rNotInU X.prog X.w X.K) := by
  intro pins s σ H x y v u Q I rx ry h
  obtain ⟨b, h, q⟩ := h
  rcases h with ⟨a, o, rfl, g, rfl⟩ | ⟨a, k, kvs, rfl, rfl, e, rfl⟩ | ⟨d, ds, hd, he, sd, se, rfl⟩
  · cases ry
    exact d_notIn (by omega) I g rx fun s3 I3 => ⟨.bl (!o.isSome), H, I3, rfl, q⟩
  · cases ry
    cases (show v = Value.bool k from rx)
    exact b_notIn I e fun s3 I3 => ⟨.bl _, H, I3, rfl, q⟩
  · obtain ⟨as, r1⟩ := Dp.reads I d x v hd rx
    rcases he with he | he
    · obtain ⟨bs, r2⟩ := Dp.reads I (.list ds) y u he ry
      exact SeqAt.notIn_list_reads r2 r1 (SeqAt.canLay_of_shaped se) (SeqAt.canLay_of_shaped sd) (PyProof.Rows.room_in_shaped sd hu) ⟨.bl _, H, I, rfl, q⟩
    · obtain ⟨bs, r2⟩ := Dp.reads I (.tuple ds) y u he ry
      exact SeqAt.notIn_tuple_reads r2 r1 (SeqAt.canLay_of_shaped se) (SeqAt.canLay_of_shaped sd) (PyProof.Rows.room_in_shaped sd hu) ⟨.bl _, H, I, rfl, q⟩
theorem inP_dp {K : PySem.W.Frag} {ρ : List Addr} {H : Hp} {v : V} {x : D} {vs : List V} {xs : List D} {b : Bool} (r : Rep K ρ H v x) (rs : RepAll K ρ H vs xs) (h : inP x xs = some b) :
    ∃ d ds, Dp K H v d ∧ DpAll K H vs ds ∧ SeqAt.shaped d = true ∧ SeqAt.shaped (.list ds) = true ∧ b = (ds.any fun z => PyData.eqv z d) := by
  unfold inP at h
  split at h
  · split at h
    · rename_i c
      cases h
      rw [Bool.and_eq_true] at c
      exact ⟨_, _, toP_dp _ _ _ r (by assumption), toPs_dp _ _ _ rs (by assumption), c.1, c.2, rfl⟩
    · cases h
  · cases h
theorem in_ok {G : Gc} {ρ : List Addr} {H : Hp} {M : Mem} {x y : V} {dx dy : D} {b : Bool} (R : Rm G ρ H M) (rx : Rep G.K ρ H x dx) (ry : Rep G.K ρ H y dy) (h : gIn0 dx dy M = some b) : InB G.P G.w G.K x y H b := by
  unfold gIn0 at h
  split at h
  · obtain ⟨a, rfl, ea⟩ := ry.m_of
    split at h
    · rename_i kvs e
      obtain ⟨vs, hv, rv⟩ := R.get e ea
      split at h
      · rename_i q eq
        cases h
        rw [keyOf_v rx eq]
        exact .inl ⟨a, _, rfl, DGet.k hv, (rv.isSome q).symm⟩
      · cases h
    · rename_i kvs e
      obtain ⟨vs, hv, rv⟩ := R.get e ea
      split at h
      · cases h
        rw [rx.bl_of]
        exact .inr (.inl ⟨a, _, vs, rfl, rfl, hv, (rv.isSome _).symm⟩)
      · cases h
    · rename_i xs e
      obtain ⟨vs, hv, rv⟩ := R.get e ea
      obtain ⟨d, ds, h1, h2, h3, h4, h5⟩ := inP_dp rx rv h
      exact .inr (.inr ⟨d, ds, h1, .inl (.lst (SqL.of hv) h2), h3, h4, h5⟩)
    · cases h
  · obtain ⟨a, vs, rfl, ht, rv⟩ := ry.tup_of
    obtain ⟨d, ds, h1, h2, h3, h4, h5⟩ := inP_dp rx rv h
    exact .inr (.inr ⟨d, ds, h1, .inr (.tup ht h2), h3, h4, h5⟩)
  · obtain ⟨a, vs, rfl, ht, rv⟩ := ry.rl_of
    obtain ⟨d, ds, h1, h2, h3, h4, h5⟩ := inP_dp rx rv h
    exact .inr (.inr ⟨d, ds, h1, .inl (.lst ht.sq h2), h3, h4, h5⟩)
  · cases h
theorem ro_in {G : Gc} : RO G (rInU G.P G.w G.K) gIn := by
  intro ρ H M x y dx dy Q E R rx ry h
  unfold gIn at h
  split at h
  · rename_i b e
    exact ⟨b, in_ok R rx ry e, GoE.here (d := .bl b) h R (.bl _)⟩
  · exact h.elim
theorem ro_notIn {G : Gc} : RO G (rNotInU G.P G.w G.K) gNotIn := by
  intro ρ H M x y dx dy Q E R rx ry h
  unfold gNotIn at h
  split at h
  · rename_i b e
    exact ⟨b, in_ok R rx ry e, GoE.here (d := .bl (!b)) h R (.bl _)⟩
  · exact h.elim

/-! ### tests -/
def gTru (d : D) (M : Mem) : Option Bool := match d with
  | .non => some false
  | .bl b => some b
  | .int i => some (i != 0)
  | .str s => if s.length ≤ sizeLine then some ((s.length : Int) != 0) else none
  | .tup xs => some (!xs.isEmpty)
  | .rl xs => some (!xs.isEmpty)
  | .m k => match M[k]? with
    | some (.lst xs) => some (!xs.isEmpty)
    | some (.dct kvs) => some (!kvs.isEmpty)
    | _ => none
  | _ => none
def xTru (f : EF) : TF := fun δ M => (f δ M).bind fun d M1 => match gTru d M1 with | some b => .ok b M1 | none => .stuck
def xTst (f : EF) : TF := fun δ M => (f δ M).bind fun d M1 => match d with | .bl b => .ok b M1 | _ => .stuck
def xAnd (f g : TF) : TF := fun δ M => (f δ M).bind fun b M1 => if b = true then g δ M1 else .ok false M1
def xOr (f g : TF) : TF := fun δ M => (f δ M).bind fun b M1 => if b = true then .ok true M1 else g δ M1
def xNot (f : TF) : TF := fun δ M => (f δ M).bind fun b M1 => .ok (!b) M1
theorem isEmpty_all {K : PySem.W.Frag} {ρ : List Addr} {H : Hp} {vs : List V} {ds : List D} (r : RepAll K ρ H vs ds) : vs.isEmpty = ds.isEmpty := by cases r <;> rfl
section
variable {G : Gc} {E : XE}
theorem tru_ok {ρ : List Addr} {H : Hp} {M : Mem} {v : V} {d : D} {b : Bool} (R : Rm G ρ H M) (r : Rep G.K ρ H v d) (h : gTru d M = some b) : TruV G.K v H b := by
  unfold gTru at h
  split at h
  · cases h; rw [r.non_of]; exact rfl
  · cases h; rw [r.bl_of]; exact rfl
  · cases h; rw [r.int_of]; exact rfl
  · split at h
    · cases h; rw [r.str_of]; exact ⟨by assumption, rfl⟩
    · cases h
  · cases h
    obtain ⟨a, vs, rfl, ht, rv⟩ := r.tup_of
    exact .inr (.inl ⟨vs, ht, by rw [isEmpty_all rv]⟩)
  · cases h
    obtain ⟨a, vs, rfl, ht, rv⟩ := r.rl_of
    exact .inl ⟨vs, ht.sq, by rw [isEmpty_all rv]⟩
  · obtain ⟨a, rfl, ea⟩ := r.m_of
    split at h
    · rename_i e
      cases h
      obtain ⟨vs, hv, rv⟩ := R.get e ea
      exact .inl ⟨vs, SqL.of hv, by rw [isEmpty_all rv]⟩
    · rename_i e
      cases h
      obtain ⟨vs, hv, rv⟩ := R.get e ea
      refine .inr (.inr ⟨vs, hv, ?_⟩)
      cases rv <;> rfl
    · cases h
  · cases h
theorem dt_tru {ta : TE} {fa : EF} (ha : DE G E ta fa) : DT G E (fun σ H Q => ta σ H fun x H' => ∃ k, TruV G.K x H' k ∧ Q k H') (xTru fa) := by
  intro σ δ ρ H M Q hs hr h
  refine DE.bind (P := GoT G ρ H Q) ha hs hr h fun x M1 ρ1 H1 v e1 s1 r1 rv h1 => ?_
  try dsimp only at h1
  split at h1
  · rename_i b e
    exact ⟨b, tru_ok r1 rv e, h1 ρ1 H1 e1 r1⟩
  · exact h1.elim
theorem dt_tst {ta : TE} {fa : EF} (ha : DE G E ta fa) : DT G E (tTest ta) (xTst fa) := by
  intro σ δ ρ H M Q hs hr h
  show ta σ H _
  refine DE.bind (P := GoT G ρ H Q) ha hs hr h fun x M1 ρ1 H1 v e1 s1 r1 rv h1 => ?_
  try dsimp only at h1
  split at h1
  · exact ⟨_, rv.bl_of, h1 ρ1 H1 e1 r1⟩
  · exact h1.elim
theorem dt_and {t u : TT} {f g : TF} (ha : DT G E t f) (hb : DT G E u g) : DT G E (tAnd t u) (xAnd f g) := by
  intro σ δ ρ H M Q hs hr h
  show t σ H _
  refine DT.bind (P := GoT G ρ H Q) ha hs hr h fun b M1 ρ1 H1 e1 s1 r1 h1 => ?_
  cases b with
  | true => exact hb σ δ ρ1 H1 M1 Q s1 r1 (Sat.mono (show Sat (g δ M1) _ _ from h1) (fun _ _ z => z.weak e1) fun _ _ _ z => z)
  | false => exact h1 ρ1 H1 e1 r1
theorem dt_or {t u : TT} {f g : TF} (ha : DT G E t f) (hb : DT G E u g) : DT G E (tOr t u) (xOr f g) := by
  intro σ δ ρ H M Q hs hr h
  show t σ H _
  refine DT.bind (P := GoT G ρ H Q) ha hs hr h fun b M1 ρ1 H1 e1 s1 r1 h1 => ?_
  cases b with
  | false => exact hb σ δ ρ1 H1 M1 Q s1 r1 (Sat.mono (show Sat (g δ M1) _ _ from h1) (fun _ _ z => z.weak e1) fun _ _ _ z => z)
  | true => exact h1 ρ1 H1 e1 r1
theorem dt_not {t : TT} {f : TF} (ha : DT G E t f) : DT G E (tNot t) (xNot f) := by
  intro σ δ ρ H M Q hs hr h
  show t σ H _
  refine DT.bind (P := GoT G ρ H Q) ha hs hr h fun b M1 ρ1 H1 e1 s1 r1 h1 => ?_
  exact h1 ρ1 H1 e1 r1
end
section
variable {ct : List (Addr × List Str)} {X : Cx} {E : XE} {pos : Pos} {a b : Expr} {rest : List Expr} {ta tb : TE} {fa fb : EF} {t u : TT} {f g : TF} {r : R2} {gg : D → D → Mem → Rs D}
theorem jt_tru (ha : JE ct X E a ta fa) (he : ∀ whole, isTrue a X.env whole = (do let v ← whole; standAt a.pos; holding [v] (truthy v)) := by intro _; rfl) : JT ct X E a (fun σ H Q => ta σ H fun x H' => ∃ k, TruV X.K x H' k ∧ Q k H') (xTru fa) := ⟨pt_truth ha.p he, dt_tru ha.d⟩
theorem jt_cmp {op : CmpOp} (ho : OpR X (compareOp op) r) (hg : RO (gOf X ct) r gg) (ha : JE ct X E a ta fa) (hb : JE ct X E b tb fb) (hm : behindInMarks op b = false := by first | exact nomark _ | rfl) : JT ct X E (.Compare a [op] [b] pos) (tTest (tOp r ta tb)) (xTst (xBin gg fa fb)) := ⟨pt_cmpR ho ha.p hb.p hm, dt_tst (de_op hg ha.d hb.d)⟩
theorem jw_and1 (ha : JT ct X E a t f) : JW ct X E (.BoolOp .And [a] pos) t f := ⟨pw_and1 ha.p, ha.d⟩
theorem jw_or1 (ha : JT ct X E a t f) : JW ct X E (.BoolOp .Or [a] pos) t f := ⟨pw_or1 ha.p, ha.d⟩
theorem jw_and (ha : JT ct X E a t f) (hb : JW ct X E (.BoolOp .And (b :: rest) pos) u g) : JW ct X E (.BoolOp .And (a :: b :: rest) pos) (tAnd t u) (xAnd f g) := ⟨pw_and ha.p hb.p, dt_and ha.d hb.d⟩
theorem jw_or (ha : JT ct X E a t f) (hb : JW ct X E (.BoolOp .Or (b :: rest) pos) u g) : JW ct X E (.BoolOp .Or (a :: b :: rest) pos) (tOr t u) (xOr f g) := ⟨pw_or ha.p hb.p, dt_or ha.d hb.d⟩
theorem jt_w {e : Expr} (h : JW ct X E e t f) : JT ct X E e t f := ⟨h.p.pt, h.d⟩
theorem jt_not (ha : JT ct X E a t f) : JT ct X E (.UnaryOp .Not a pos) (tNot t) (xNot f) := ⟨pt_not ha.p, dt_not ha.d⟩
end
/-- and, or, not of bools as values -/
def xAndV (f g : EF) : EF := fun δ M => (f δ M).bind fun d M1 => match d with | .bl b => if b = true then g δ M1 else .ok (.bl false) M1 | _ => .stuck
def xOrV (f g : EF) : EF := fun δ M => (f δ M).bind fun d M1 => match d with | .bl b => if b = true then .ok (.bl true) M1 else g δ M1 | _ => .stuck
def xNotV (f : EF) : EF := fun δ M => (f δ M).bind fun d M1 => match d with | .bl b => .ok (.bl (!b)) M1 | _ => .stuck
def xIf (c : TF) (f g : EF) : EF := fun δ M => (c δ M).bind fun b M1 => if b = true then f δ M1 else g δ M1
def xChain (g g' : D → D → Mem → Rs D) (fa fb fc : EF) : EF := fun δ M => (fa δ M).bind fun x M1 => (fb δ M1).bind fun y M2 => (g x y M2).bind fun z M3 => match z with
  | .bl b => if b = true then (fc δ M3).bind fun w M4 => g' y w M4 else .ok (.bl false) M3
  | _ => .stuck
section
variable {G : Gc} {E : XE} {ta tb tc : TE} {fa fb fc : EF} {t : TT} {f : TF}
theorem de_and (ha : DE G E ta fa) (hb : DE G E tb fb) : DE G E (tAndV ta tb) (xAndV fa fb) := by
  intro σ δ ρ H M Q hs hr h
  show ta σ H _
  refine DE.bind (P := GoE G ρ H Q) ha hs hr h fun x M1 ρ1 H1 v e1 s1 r1 rv h1 => ?_
  try dsimp only at h1
  split at h1
  · rename_i b
    refine ⟨b, rv.bl_of, ?_⟩
    cases b with
    | true => exact hb σ δ ρ1 H1 M1 Q s1 r1 (Sat.mono (show Sat (fb δ M1) _ _ from h1) (fun _ _ z => z.weak e1) fun _ _ _ z => z)
    | false => exact GoE.here (d := .bl false) (h1.weak e1) r1 (.bl _)
  · exact h1.elim
theorem de_or (ha : DE G E ta fa) (hb : DE G E tb fb) : DE G E (tOrV ta tb) (xOrV fa fb) := by
  intro σ δ ρ H M Q hs hr h
  show ta σ H _
  refine DE.bind (P := GoE G ρ H Q) ha hs hr h fun x M1 ρ1 H1 v e1 s1 r1 rv h1 => ?_
  try dsimp only at h1
  split at h1
  · rename_i b
    refine ⟨b, rv.bl_of, ?_⟩
    cases b with
    | false => exact hb σ δ ρ1 H1 M1 Q s1 r1 (Sat.mono (show Sat (fb δ M1) _ _ from h1) (fun _ _ z => z.weak e1) fun _ _ _ z => z)
    | true => exact GoE.here (d := .bl true) (h1.weak e1) r1 (.bl _)
  · exact h1.elim
theorem de_not (ha : DE G E ta fa) : DE G E (tNotV ta) (xNotV fa) := by
  intro σ δ ρ H M Q hs hr h
  show ta σ H _
  refine DE.bind (P := GoE G ρ H Q) ha hs hr h fun x M1 ρ1 H1 v e1 s1 r1 rv h1 => ?_
  try dsimp only at h1
  split at h1
  · rename_i b
    exact ⟨b, rv.bl_of, GoE.here (d := .bl !b) (h1.weak e1) r1 (.bl _)⟩
  · exact h1.elim
theorem de_if (hc : DT G E t f) (ha : DE G E ta fa) (hb : DE G E tb fb) : DE G E (tIf t ta tb) (xIf f fa fb) := by
  intro σ δ ρ H M Q hs hr h
  show t σ H _
  refine DT.bind (P := GoE G ρ H Q) hc hs hr h fun b M1 ρ1 H1 e1 s1 r1 h1 => ?_
  cases b with
  | true => exact ha σ δ ρ1 H1 M1 Q s1 r1 (Sat.mono (show Sat (fa δ M1) _ _ from h1) (fun _ _ z => z.weak e1) fun _ _ _ z => z)
  | false => exact hb σ δ ρ1 H1 M1 Q s1 r1 (Sat.mono (show Sat (fb δ M1) _ _ from h1) (fun _ _ z => z.weak e1) fun _ _ _ z => z)
theorem de_chain {r r' : R2} {g g' : D → D → Mem → Rs D} (hg : RO G r g) (hg' : RO G r' g') (ha : DE G E ta fa) (hb : DE G E tb fb) (hc : DE G E tc fc) : DE G E (tChain r r' ta tb tc) (xChain g g' fa fb fc) := by
  intro σ δ ρ H M Q hs hr h
  show ta σ H _
  refine DE.bind (P := GoE G ρ H Q) ha hs hr h fun x M1 ρ1 H1 v e1 s1 r1 rv h1 => ?_
  show tb σ H1 _
  refine DE.bind (P := GoE G ρ H Q) hb s1 r1 h1 fun y M2 ρ2 H2 u e2 s2 r2 ru h2 => ?_
  rw [Sat.bind] at h2
  refine hg ρ2 H2 M2 v u x y _ _ r2 (rv.mono e2) ru (h2.mono (fun z M3 h3 ρ3 H3 vz e3 r3 rz => ?_) fun _ _ _ z => z)
  try dsimp only at h3
  split at h3
  · rename_i b
    refine ⟨b, rz.bl_of, ?_⟩
    cases b with
    | true =>
      show tc σ H3 _
      refine DE.bind (P := GoE G ρ H Q) hc (s2.mono e3) r3 (Sat.mono (show Sat ((fc δ M3).bind fun w M4 => g' y w M4) _ _ from h3) (fun _ _ z => z) fun _ _ _ z => z.weak e3) fun w M4 ρ4 H4 vw e4 s4 r4 rw' h4 => ?_
      exact hg' ρ4 H4 M4 u vw y w Q _ r4 (ru.mono (e3.trans e4)) rw' (h4.mono (fun _ _ z => z.weak (((e1.trans e2).trans e3).trans e4)) fun _ _ _ z => z)
    | false => exact GoE.here (d := .bl false) (GoE.weak ((e1.trans e2).trans e3) h3) r3 (.bl _)
  · exact h3.elim
end
section
variable {ct : List (Addr × List Str)} {X : Cx} {E : XE} {pos : Pos} {a b c : Expr} {rest : List Expr} {ta tb tc : TE} {fa fb fc : EF} {t : TT} {f : TF} {r r' : R2} {g g' : D → D → Mem → Rs D}
theorem je_one {op : BoolOp} (h : JE ct X E a ta fa) : JE ct X E (.BoolOp op [a] pos) ta fa := ⟨pe_one h.p, h.d⟩
theorem je_and (ha : JE ct X E a ta fa) (hb : JE ct X E (.BoolOp .And (b :: rest) pos) tb fb) : JE ct X E (.BoolOp .And (a :: b :: rest) pos) (tAndV ta tb) (xAndV fa fb) := ⟨pe_and ha.p hb.p, de_and ha.d hb.d⟩
theorem je_or (ha : JE ct X E a ta fa) (hb : JE ct X E (.BoolOp .Or (b :: rest) pos) tb fb) : JE ct X E (.BoolOp .Or (a :: b :: rest) pos) (tOrV ta tb) (xOrV fa fb) := ⟨pe_or ha.p hb.p, de_or ha.d hb.d⟩
theorem je_not (ha : JE ct X E a ta fa) : JE ct X E (.UnaryOp .Not a pos) (tNotV ta) (xNotV fa) := ⟨pe_not ha.p, de_not ha.d⟩
theorem je_if (hc : JT ct X E c t f) (ha : JE ct X E a ta fa) (hb : JE ct X E b tb fb) : JE ct X E (.IfExp c a b pos) (tIf t ta tb) (xIf f fa fb) := ⟨pe_ifExp hc.p ha.p hb.p, de_if hc.d ha.d hb.d⟩
theorem je_chain {op op' : CmpOp} (ho : OpR X (compareOp op) r) (hg : RO (gOf X ct) r g) (ho' : OpR X (compareOp op') r') (hg' : RO (gOf X ct) r' g') (ha : JE ct X E a ta fa) (hb : JE ct X E b tb fb) (hc : JE ct X E c tc fc)
    (hm : lastMarks [op, op'] [b, c] = false := by with_unfolding_all rfl) : JE ct X E (.Compare a [op, op'] [b, c] pos) (tChain r r' ta tb tc) (xChain g g' fa fb fc) := ⟨pe_chain ho ho' ha.p hb.p hc.p hm, de_chain hg hg' ha.d hb.d hc.d⟩
theorem jt_chain {op op' : CmpOp} (ho : OpR X (compareOp op) r) (hg : RO (gOf X ct) r g) (ho' : OpR X (compareOp op') r') (hg' : RO (gOf X ct) r' g') (ha : JE ct X E a ta fa) (hb : JE ct X E b tb fb) (hc : JE ct X E c tc fc)
    (hm : lastMarks [op, op'] [b, c] = false := by with_unfolding_all rfl) : JT ct X E (.Compare a [op, op'] [b, c] pos) (tTest (tChain r r' ta tb tc)) (xTst (xChain g g' fa fb fc)) := ⟨pt_chain ho ho' ha.p hb.p hc.p hm, dt_tst (de_chain hg hg' ha.d hb.d hc.d)⟩
end

/-! ### argument lists, displays -/
def xNil : AF := fun _ M => .ok [] M
def xCons (f : EF) (g : AF) : AF := fun δ M => (f δ M).bind fun d M1 => (g δ M1).bind fun ds M2 => .ok (d :: ds) M2
def xTup (f : AF) : EF := fun δ M => (f δ M).bind fun ds M1 => Rs.grd (ds.length ≤ sizeLine) (.ok (.tup ds) M1)
def xLst (f : AF) : EF := fun δ M => (f δ M).bind fun ds M1 => Rs.grd (ds.length ≤ sizeLine) (.ok (.m M1.length) (M1 ++ [.lst ds]))
section
variable {G : Gc} {E : XE} {te : TE} {fe : EF} {tr : TA} {fr : AF}
theorem da_nil : DA G E tNil xNil := fun σ δ ρ H M Q hs hr h => h ρ H [] Ex.refl hr .nil
theorem da_cons (ha : DE G E te fe) (hr : DA G E tr fr) : DA G E (tCons te tr) (xCons fe fr) := by
  intro σ δ ρ H M Q hs hR h
  show te σ H _
  refine DE.bind (P := GoA G ρ H Q) ha hs hR h fun x M1 ρ1 H1 v e1 s1 r1 rv h1 => ?_
  show tr σ H1 _
  refine DA.bind (P := GoA G ρ H Q) hr s1 r1 h1 fun xs M2 ρ2 H2 vs e2 s2 r2 rvs h2 => ?_
  exact h2 ρ2 H2 _ (e1.trans e2) r2 (.cons (rv.mono e2) rvs)
theorem de_tup (ha : DA G E tr fr) : DE G E (tTup tr) (xTup fr) := by
  intro σ δ ρ H M Q hs hR h
  show tr σ H _
  refine DA.bind (P := GoE G ρ H Q) ha hs hR h fun xs M1 ρ1 H1 vs e1 s1 r1 rvs h1 => ?_
  obtain ⟨c, h1⟩ := h1.grd
  exact ⟨by rw [rvs.length]; exact c, fun p hp => r1.alloc_tup hp rvs (GoE.weak e1 h1)⟩
theorem de_lst (ha : DA G E tr fr) : DE G E (tLst tr) (xLst fr) := by
  intro σ δ ρ H M Q hs hR h
  show tr σ H _
  refine DA.bind (P := GoE G ρ H Q) ha hs hR h fun xs M1 ρ1 H1 vs e1 s1 r1 rvs h1 => ?_
  obtain ⟨c, h1⟩ := h1.grd
  exact ⟨by rw [rvs.length]; exact c, fun p hp => r1.alloc hp rvs (GoE.weak e1 h1)⟩
end
section
variable {ct : List (Addr × List Str)} {X : Cx} {E : XE} {pos : Pos} {e : Expr} {es : List Expr} {te : TE} {fe : EF} {tr : TA} {fr : AF}
theorem ja_nil : JA ct X E [] tNil xNil := ⟨pa_nil, da_nil⟩
theorem ja_cons (ha : JE ct X E e te fe) (hr : JA ct X E es tr fr) (hs : starEach (e :: es) X.env = (false, eval e X.env) :: starEach es X.env := by rfl) : JA ct X E (e :: es) (tCons te tr) (xCons fe fr) := ⟨pa_cons ha.p hr.p hs, da_cons ha.d hr.d⟩
theorem je_tup {x1 : Nat} (h : JA ct X E es tr fr) : JE ct X E (.Tuple es x1 pos) (tTup tr) (xTup fr) := ⟨pe_tup h.p, de_tup h.d⟩
theorem je_lst (h : JA ct X E es tr fr) : JE ct X E (.List es pos) (tLst tr) (xLst fr) := ⟨pe_lst h.p, de_lst h.d⟩
end
end J
/-! J, fifth part: subscripts, slices, fields, calls, built-ins. -/
namespace J
open PySem L2

/-! ### subscripts -/
theorem atI_rep {K : PySem.W.Frag} {ρ : List Addr} {H : Hp} {vs : List V} {ds : List D} {i : Int} {d : D} (r : RepAll K ρ H vs ds) (h : atI ds i = some d) : ∃ v, atI vs i = some v ∧ Rep K ρ H v d := by
  unfold atI at h ⊢
  rw [r.length]
  cases e : ixN ds.length i with
  | none => rw [e] at h; cases h
  | some j =>
    rw [e] at h
    exact r.get h
def gIx (x y : D) (M : Mem) : Rs D := match x, y with
  | .tup xs, .int i => match atI xs i with | some d => .ok d M | none => .stuck
  | .rl xs, .int i => match atI xs i with | some d => .ok d M | none => .stuck
  | .m k, .int i => match M[k]? with
    | some (.lst xs) => match atI xs i with | some d => .ok d M | none => .stuck
    | _ => .stuck
  | .str s, .int i => if s.length ≤ sizeLine then match atI s.cps.toList i with | some c => .ok (.str ⟨#[c]⟩) M | none => .stuck else .stuck
  | _, _ => .stuck
theorem ro_ix {G : Gc} : RO G (rIx G.K) gIx := by
  intro ρ H M x y dx dy Q E R rx ry h
  unfold gIx at h
  split at h
  · split at h
    · rename_i e
      obtain ⟨a, vs, rfl, ht, rv⟩ := rx.tup_of
      obtain ⟨v, e2, r2⟩ := atI_rep rv e
      rw [ry.int_of]
      exact .inr (.inl ⟨a, vs, _, v, rfl, rfl, ht, e2, GoE.here h R r2⟩)
    · exact h.elim
  · split at h
    · rename_i e
      obtain ⟨a, vs, rfl, ht, rv⟩ := rx.rl_of
      obtain ⟨v, e2, r2⟩ := atI_rep rv e
      rw [ry.int_of]
      exact .inl ⟨a, vs, _, v, rfl, rfl, ht.sq, e2, GoE.here h R r2⟩
    · exact h.elim
  · split at h
    · rename_i e0
      split at h
      · rename_i e
        obtain ⟨a, rfl, ea⟩ := rx.m_of
        obtain ⟨vs, hv, rv⟩ := R.get e0 ea
        obtain ⟨v, e2, r2⟩ := atI_rep rv e
        rw [ry.int_of]
        exact .inl ⟨a, vs, _, v, rfl, rfl, SqL.of hv, e2, GoE.here h R r2⟩
      · exact h.elim
    · exact h.elim
  · split at h
    · rename_i c
      split at h
      · rename_i e
        rw [rx.str_of, ry.int_of]
        exact .inr (.inr ⟨_, _, _, rfl, rfl, c, e, GoE.here h R (.str _)⟩)
      · exact h.elim
    · exact h.elim
  · exact h.elim
section
variable {ct : List (Addr × List Str)} {X : Cx} {E : XE} {pos : Pos} {a b : Expr} {ta tb : TE} {fa fb : EF}
theorem je_ixs (ha : JE ct X E a ta fa) (hb : JE ct X E b tb fb) (hs : PlainIx b := by exact fun _ _ => rfl) : JE ct X E (.Subscript a b pos) (tOp (rIx X.K) ta tb) (xBin gIx fa fb) := je_ix ix_seq ro_ix ha hb hs
end

/-! ### d[k] -/
def DGetU (P : Program) (w : World) (H : Hp) (a : Addr) (y : V) (o : Option V) : Prop := DGet H a y o ∨ ∃ k kvs, y = .bl k ∧ H a = some (hBd P w a kvs) ∧ o = valV kvs k
def tDGetU (P : Program) (w : World) (td ty : TE) : TE := fun σ H Q => td σ H fun x H1 => ty σ H1 fun y H2 => ∃ a v, x = .ref a ∧ DGetU P w H2 a y (some v) ∧ Q v H2
theorem bd_typeIs {X : Cx} {pins : List (Addr × Obj)} {σ : St} {H : Hp} {s : Shared} {a : Addr} {kvs : List (Bool × V)} (I : Inv X pins σ H s) (e : H a = some (hBd X.prog X.w a kvs)) : s.TypeIs (.ref a) "dict" := by
  obtain ⟨_, _, vs, _, dd⟩ := bd_of I.hok e
  exact dd.typeIs
theorem pe_dgetU {X : Cx} {o i : Expr} {pos : Pos} {td ty : TE} (hu : X.A.units + 1 < cLine) (ho : PE X o td) (hi : PE X i ty) (hs : NoSl i) : PE X (.Subscript o i pos) (tDGetU X.prog X.w td ty) := by
  refine ⟨fun pins s σ H Q I h => ?_⟩
  refine subD_of PySem.F.slot_dict_getitem.lookup hs (thn (ho.run pins s σ H _ I h) fun u s1 ⟨x, H1, I1, rx, q1⟩ => thn (hi.run pins s1 σ H1 _ I1 q1) fun iv s2 ⟨y, H2, I2, ry, a, v, ex, g, q2⟩ => ?_)
  subst ex
  obtain rfl : u = Value.ref a := rx
  rcases g with g | ⟨k, kvs, rfl, e, l⟩
  · exact ⟨dict_typeIs I2 g, d_getItem hu I2 g ry fun w' s3 I3 rw' => ⟨v, H2, I3, rw', q2⟩⟩
  · cases (show iv = Value.bool k from ry)
    exact ⟨bd_typeIs I2 e, b_getItem I2 e l.symm fun w' s3 I3 rw' => ⟨v, H2, I3, rw', q2⟩⟩
def lkD (x y : D) (M : Mem) : Option (Option D) := match x with
  | .m k => match M[k]? with
    | some (.dct kvs) => (keyOf y).map fun q => valD kvs q
    | some (.bd kvs) => match y with | .bl b => some (valD kvs b) | _ => none
    | _ => none
  | _ => none
theorem lkD_ok {G : Gc} {ρ : List Addr} {H : Hp} {M : Mem} {x y : V} {dx dy : D} {o : Option D} (R : Rm G ρ H M) (rx : Rep G.K ρ H x dx) (ry : Rep G.K ρ H y dy) (h : lkD dx dy M = some o) :
    ∃ a ov, x = .ref a ∧ DGetU G.P G.w H a y ov ∧ (∀ d, o = some d → ∃ v, ov = some v ∧ Rep G.K ρ H v d) ∧ (o = none → ov = none) := by
  unfold lkD at h
  split at h
  · obtain ⟨a, rfl, ea⟩ := rx.m_of
    split at h
    · rename_i e
      obtain ⟨vs, hv, rv⟩ := R.get e ea
      obtain ⟨q, eq, rfl⟩ := Option.map_eq_some_iff.mp h
      rw [keyOf_v ry eq]
      exact ⟨a, _, rfl, .inl (DGet.k hv), (rv.val q).1, (rv.val q).2⟩
    · rename_i e
      obtain ⟨vs, hv, rv⟩ := R.get e ea
      split at h
      · cases h
        rw [ry.bl_of]
        exact ⟨a, _, rfl, .inr ⟨_, vs, rfl, hv, rfl⟩, (rv.val _).1, (rv.val _).2⟩
      · cases h
    · cases h
  · cases h
def gDGet (x y : D) (M : Mem) : Rs D := match lkD x y M with | some (some d) => .ok d M | _ => .stuck
def xDGet (fa fb : EF) : EF := xBin gDGet fa fb
theorem de_dget {G : Gc} {E : XE} {ta tb : TE} {fa fb : EF} (ha : DE G E ta fa) (hb : DE G E tb fb) : DE G E (tDGetU G.P G.w ta tb) (xDGet fa fb) := by
  intro σ δ ρ H M Q hs hr h
  show ta σ H _
  refine DE.bind (P := GoE G ρ H Q) ha hs hr h fun x M1 ρ1 H1 v e1 s1 r1 rv h1 => ?_
  show tb σ H1 _
  refine DE.bind (P := GoE G ρ H Q) hb s1 r1 h1 fun y M2 ρ2 H2 u e2 s2 r2 ru h2 => ?_
  unfold gDGet at h2
  split at h2
  · rename_i d e
    obtain ⟨a, ov, ea, g, k1, _⟩ := lkD_ok r2 (rv.mono e2) ru e
    obtain ⟨v', rfl, rv'⟩ := k1 d rfl
    exact ⟨a, v', ea, g, GoE.here (GoE.weak (e1.trans e2) h2) r2 rv'⟩
  · exact h2.elim
/-- d.get(k), d.get(k, x) -/
def IsDU (P : Program) (w : World) (H : Hp) (a : Addr) : Prop := IsD H a ∨ ∃ kvs, H a = some (hBd P w a kvs)
theorem isDU_at {X : Cx} {pins : List (Addr × Obj)} {σ : St} {H : Hp} {s : Shared} {a : Addr} (I : Inv X pins σ H s) (d : IsDU X.prog X.w H a) :
    s.TypeIs (.ref a) "dict" ∧ (∀ b, Value.ref a = .ref b → ∃ ob, s.heap.get? b = some ob ∧ ob.dict = none) := by
  rcases d with d | ⟨kvs, e⟩
  · obtain ⟨h1, h2, _⟩ := isD_at I d
    exact ⟨h1, h2⟩
  · obtain ⟨_, hd, vs, _, dd⟩ := bd_of I.hok e
    refine ⟨dd.typeIs, fun b q => ?_⟩
    cases q
    obtain ⟨ob, _, _, h1, h2, _⟩ := dd
    exact ⟨ob, h1, h2.2.1⟩
def tDGet1U (P : Program) (w : World) (td ty : TE) : TE := fun σ H Q => td σ H fun x H1 => ∃ a, x = .ref a ∧ IsDU P w H1 a ∧ ty σ H1 fun y H2 => ∃ o, DGetU P w H2 a y o ∧ Q (o.getD .non) H2
def tDGet2U (P : Program) (w : World) (td ty tx : TE) : TE := fun σ H Q => td σ H fun x H1 => ∃ a, x = .ref a ∧ IsDU P w H1 a ∧ ty σ H1 fun y H2 => tx σ H2 fun z H3 => ∃ o, DGetU P w H3 a y o ∧ Q (o.getD z) H3
section
variable {X : Cx} {o e f : Expr} {apos cpos : Pos} {td ty tx : TE}
theorem pe_dget1U (hu : X.A.units + 1 < cLine) (ho : PE X o td) (he : PE X e ty) (m : M1 X o "get" apos e cpos) : PE X (.Call (.Attribute o "get" apos) [e] [] cpos) (tDGet1U X.prog X.w td ty) := by
  refine ⟨fun pins s σ H Q I h => ?_⟩
  refine wpAny_Call_method m.base m.few m.line PySem.F.plainAttrs_dict PySem.F.slot_dict_get PySem.F.type_dict_get (thn (ho.run pins s σ H _ I h) fun u s1 ⟨x, H1, I1, rx, a, ex, d, q1⟩ => ?_)
  subst ex
  obtain rfl : u = Value.ref a := rx
  obtain ⟨t1, t2⟩ := isDU_at I1 d
  refine ⟨t1, t2, ?_⟩
  rw [m.trees]
  refine Calls.callWith_builtin rfl (Calls.evalArgs_plain (Calls.spliced_cons (thn (he.run pins s1 σ H1 _ I1 q1) fun iv s2 ⟨y, H2, I2, ry, ov, g, q2⟩ => Calls.spliced_nil ?_)))
  rcases g with g | ⟨k, kvs, rfl, e, l⟩
  · exact d_get1 hu I2 g ry fun w' s3 I3 rw' => ⟨_, H2, I3, rw', q2⟩
  · cases (show iv = Value.bool k from ry)
    exact b_get1 I2 e fun w' s3 I3 rw' => ⟨_, H2, I3, by rw [l]; exact rw', q2⟩
theorem pe_dget2U (hu : X.A.units + 1 < cLine) (ho : PE X o td) (he : PE X e ty) (hf : PE X f tx) (m : M2 X o "get" apos e f cpos) : PE X (.Call (.Attribute o "get" apos) [e, f] [] cpos) (tDGet2U X.prog X.w td ty tx) := by
  refine ⟨fun pins s σ H Q I h => ?_⟩
  refine wpAny_Call_method m.base m.few m.line PySem.F.plainAttrs_dict PySem.F.slot_dict_get PySem.F.type_dict_get (thn (ho.run pins s σ H _ I h) fun u s1 ⟨x, H1, I1, rx, a, ex, d, q1⟩ => ?_)
  subst ex
  obtain rfl : u = Value.ref a := rx
  obtain ⟨t1, t2⟩ := isDU_at I1 d
  refine ⟨t1, t2, ?_⟩
  rw [m.trees]
  refine Calls.callWith_builtin rfl (Calls.evalArgs_plain (Calls.spliced_cons (thn (he.run pins s1 σ H1 _ I1 q1) fun iv s2 ⟨y, H2, I2, ry, q2⟩ =>
    Calls.spliced_cons (thn (hf.run pins s2 σ H2 _ I2 q2) fun fv s3 ⟨z, H3, I3, rz, ov, g, q3⟩ => Calls.spliced_nil ?_))))
  rcases g with g | ⟨k, kvs, rfl, e, l⟩
  · exact d_get2 hu I3 g ry rz fun w' s4 I4 rw' => ⟨_, H3, I4, rw', q3⟩
  · cases (show iv = Value.bool k from ry)
    exact b_get2 I3 e rz fun w' s4 I4 rw' => ⟨_, H3, I4, by rw [l]; exact rw', q3⟩
end
def isDct (x : D) (M : Mem) : Bool := match x with | .m k => (match M[k]? with | some (.dct _) => true | some (.bd _) => true | _ => false) | _ => false
theorem isDct_ok {G : Gc} {ρ : List Addr} {H : Hp} {M : Mem} {x : V} {dx : D} (R : Rm G ρ H M) (rx : Rep G.K ρ H x dx) (h : isDct dx M = true) : ∃ a, x = .ref a ∧ IsDU G.P G.w H a := by
  unfold isDct at h
  split at h
  · obtain ⟨a, rfl, ea⟩ := rx.m_of
    split at h
    · rename_i e
      obtain ⟨vs, hv, rv⟩ := R.get e ea
      exact ⟨a, rfl, .inl (.inl ⟨vs, .inl hv⟩)⟩
    · rename_i e
      obtain ⟨vs, hv, rv⟩ := R.get e ea
      exact ⟨a, rfl, .inr ⟨vs, hv⟩⟩
    · cases h
  · cases h
def xDGet1 (fa fb : EF) : EF := fun δ M => (fa δ M).bind fun x M1 => Rs.grd (isDct x M1 = true) ((fb δ M1).bind fun y M2 => match lkD x y M2 with | some o => .ok (o.getD .non) M2 | none => .stuck)
def xDGet2 (fa fb fc : EF) : EF := fun δ M => (fa δ M).bind fun x M1 => Rs.grd (isDct x M1 = true) ((fb δ M1).bind fun y M2 => (fc δ M2).bind fun z M3 => match lkD x y M3 with | some o => .ok (o.getD z) M3 | none => .stuck)
section
variable {G : Gc} {E : XE} {ta tb tc : TE} {fa fb fc : EF}
theorem de_dget1 (ha : DE G E ta fa) (hb : DE G E tb fb) : DE G E (tDGet1U G.P G.w ta tb) (xDGet1 fa fb) := by
  intro σ δ ρ H M Q hs hr h
  show ta σ H _
  refine DE.bind (P := GoE G ρ H Q) ha hs hr h fun x M1 ρ1 H1 v e1 s1 r1 rv h1 => ?_
  obtain ⟨c, h1⟩ := h1.grd
  obtain ⟨a, rfl, da⟩ := isDct_ok r1 rv c
  refine ⟨a, rfl, da, ?_⟩
  refine DE.bind (P := GoE G ρ H Q) hb s1 r1 h1 fun y M2 ρ2 H2 u e2 s2 r2 ru h2 => ?_
  try dsimp only at h2
  split at h2
  · rename_i d e
    obtain ⟨a', ov, ea, g, k1, k2⟩ := lkD_ok r2 (rv.mono e2) ru e
    cases ea
    refine ⟨ov, g, ?_⟩
    cases d with
    | none => rw [k2 rfl]; exact GoE.here (GoE.weak (e1.trans e2) h2) r2 .non
    | some d => obtain ⟨v', rfl, rv'⟩ := k1 d rfl; exact GoE.here (GoE.weak (e1.trans e2) h2) r2 rv'
  · exact h2.elim
theorem de_dget2 (ha : DE G E ta fa) (hb : DE G E tb fb) (hc : DE G E tc fc) : DE G E (tDGet2U G.P G.w ta tb tc) (xDGet2 fa fb fc) := by
  intro σ δ ρ H M Q hs hr h
  show ta σ H _
  refine DE.bind (P := GoE G ρ H Q) ha hs hr h fun x M1 ρ1 H1 v e1 s1 r1 rv h1 => ?_
  obtain ⟨c, h1⟩ := h1.grd
  obtain ⟨a, rfl, da⟩ := isDct_ok r1 rv c
  refine ⟨a, rfl, da, ?_⟩
  refine DE.bind (P := GoE G ρ H Q) hb s1 r1 h1 fun y M2 ρ2 H2 u e2 s2 r2 ru h2 => ?_
  refine DE.bind (P := GoE G ρ H Q) hc s2 r2 h2 fun z M3 ρ3 H3 vz e3 s3 r3 rz h3 => ?_
  try dsimp only at h3
  split at h3
  · rename_i d e
    obtain ⟨a', ov, ea, g, k1, k2⟩ := lkD_ok r3 (rv.mono (e2.trans e3)) (ru.mono e3) e
    cases ea
    refine ⟨ov, g, ?_⟩
    cases d with
    | none => rw [k2 rfl]; exact GoE.here (GoE.weak ((e1.trans e2).trans e3) h3) r3 rz
    | some d => obtain ⟨v', rfl, rv'⟩ := k1 d rfl; exact GoE.here (GoE.weak ((e1.trans e2).trans e3) h3) r3 rv'
  · exact h3.elim
end
section
variable {ct : List (Addr × List Str)} {X : Cx} {E : XE} {pos apos : Pos} {a b c : Expr} {ta tb tc : TE} {fa fb fc : EF}
theorem je_dget (hu : X.A.units + 1 < cLine) (ha : JE ct X E a ta fa) (hb : JE ct X E b tb fb) (hs : NoSl b := by exact fun _ _ => rfl) : JE ct X E (.Subscript a b pos) (tDGetU X.prog X.w ta tb) (xDGet fa fb) := ⟨pe_dgetU hu ha.p hb.p hs, de_dget ha.d hb.d⟩
theorem je_dget1 (hu : X.A.units + 1 < cLine) (ha : JE ct X E a ta fa) (hb : JE ct X E b tb fb) (m : M1 X a "get" apos b pos := by exact ⟨rfl, rfl, rfl, rfl⟩) : JE ct X E (.Call (.Attribute a "get" apos) [b] [] pos) (tDGet1U X.prog X.w ta tb) (xDGet1 fa fb) := ⟨pe_dget1U hu ha.p hb.p m, de_dget1 ha.d hb.d⟩
theorem je_dget2 (hu : X.A.units + 1 < cLine) (ha : JE ct X E a ta fa) (hb : JE ct X E b tb fb) (hc : JE ct X E c tc fc) (m : M2 X a "get" apos b c pos := by exact ⟨rfl, rfl, rfl, rfl⟩) : JE ct X E (.Call (.Attribute a "get" apos) [b, c] [] pos) (tDGet2U X.prog X.w ta tb tc) (xDGet2 fa fb fc) := ⟨pe_dget2U hu ha.p hb.p hc.p m, de_dget2 ha.d hb.d hc.d⟩
end

/-! ### slices -/
abbrev PF := Dv → Mem → Rs (Option Int)
def DO (G : Gc) (E : XE) (t : TO) (f : PF) : Prop := ∀ σ δ ρ H M (Q : Option Int → Hp → Prop), Sl G.K ρ H σ δ → Rm G ρ H M → Sat (f δ M) (fun o M' => ∀ ρ' H', Ex ρ H ρ' H' → Rm G ρ' H' M' → Q o H') (GoX G ρ H E) → t σ H Q
def xNoPart : PF := fun _ M => .ok none M
def xPart (f : EF) : PF := fun δ M => (f δ M).bind fun d M1 => match d with | .int i => .ok (some i) M1 | _ => .stuck
def cutA {α : Type} (xs : List α) (lo hi : Option Int) : List α := (xs.drop (HT.sIx xs.length 0 lo)).take (HT.sIx xs.length xs.length hi - HT.sIx xs.length 0 lo)
def gSl (x : D) (lo hi : Option Int) (M : Mem) : Rs D := match x with
  | .m k => match M[k]? with
    | some (.lst xs) => .ok (.m M.length) (M ++ [.lst (cutA xs lo hi)])
    | _ => .stuck
  | .rl xs => .ok (.m M.length) (M ++ [.lst (cutA xs lo hi)])
  | .tup xs => Rs.grd (¬ (HT.sIx xs.length 0 lo = 0 ∧ HT.sIx xs.length xs.length hi = xs.length)) (.ok (.tup (cutA xs lo hi)) M)
  | .str s => Rs.grd (s.length ≤ sizeLine) (.ok (.str (cutS s lo hi)) M)
  | _ => .stuck
def xSl (fe : EF) (fl fh : PF) : EF := fun δ M => (fe δ M).bind fun x M1 => (fl δ M1).bind fun lo M2 => (fh δ M2).bind fun hi M3 => gSl x lo hi M3
abbrev rSlU (K : PySem.W.Frag) : V → Option Int → Option Int → Hp → VK → Prop := fun x lo hi H Q => rSlL K x lo hi H Q ∨ (rSlT K x lo hi H Q ∨ rSlS x lo hi H Q)
theorem cut_rep {K : PySem.W.Frag} {ρ : List Addr} {H : Hp} {vs : List V} {ds : List D} {lo hi : Option Int} (r : RepAll K ρ H vs ds) : RepAll K ρ H (cutV vs lo hi) (cutA ds lo hi) := by
  unfold cutV cutA
  rw [r.length]
  exact (r.drop _).take _
section
variable {G : Gc} {E : XE} {te : TE} {fe : EF} {tl th : TO} {fl fh : PF}
theorem do_none : DO G E tNoPart xNoPart := fun σ δ ρ H M Q hs hr h => h ρ H Ex.refl hr
theorem do_some (ha : DE G E te fe) : DO G E (tPart te) (xPart fe) := by
  intro σ δ ρ H M Q hs hr h
  show te σ H _
  refine DE.bind (P := fun o M' => ∀ ρ' H', Ex ρ H ρ' H' → Rm G ρ' H' M' → Q o H') ha hs hr h fun x M1 ρ1 H1 v e1 s1 r1 rv h1 => ?_
  try dsimp only at h1
  split at h1
  · exact ⟨_, rv.int_of, h1 ρ1 H1 e1 r1⟩
  · exact h1.elim
theorem de_sl (ha : DE G E te fe) (hl : DO G E tl fl) (hh : DO G E th fh) : DE G E (tSl (rSlU G.K) te tl th) (xSl fe fl fh) := by
  intro σ δ ρ H M Q hs hr h
  show te σ H _
  refine DE.bind (P := GoE G ρ H Q) ha hs hr h fun x M1 ρ1 H1 v e1 s1 r1 rv h1 => ?_
  rw [Sat.bind] at h1
  refine hl σ δ ρ1 H1 M1 _ s1 r1 (h1.mono (fun lo M2 h2 ρ2 H2 e2 r2 => ?_) fun _ _ _ z => z)
  rw [Sat.bind] at h2
  refine hh σ δ ρ2 H2 M2 _ (s1.mono e2) r2 (h2.mono (fun hi M3 h3 ρ3 H3 e3 r3 => ?_) fun _ _ _ z => z.weak e2)
  have rv3 := rv.mono (e2.trans e3)
  have h3' : Sat (gSl x lo hi M3) (GoE G ρ3 H3 Q) (GoX G ρ1 H1 E) := h3.mono (fun _ _ z => z.weak ((e1.trans e2).trans e3)) fun _ _ _ z => z
  unfold gSl at h3'
  split at h3'
  · split at h3'
    · rename_i e
      obtain ⟨a, rfl, ea⟩ := rv3.m_of
      obtain ⟨vs, hv, rvs⟩ := r3.get e ea
      exact .inl ⟨a, vs, rfl, SqL.of hv, fun p hp => r3.alloc hp (cut_rep rvs) h3'⟩
    · exact h3'.elim
  · obtain ⟨a, vs, rfl, ht, rvs⟩ := rv3.rl_of
    exact .inl ⟨a, vs, rfl, ht.sq, fun p hp => r3.alloc hp (cut_rep rvs) h3'⟩
  · obtain ⟨c, h4⟩ := h3'.grd
    obtain ⟨a, vs, rfl, ht, rvs⟩ := rv3.tup_of
    exact .inr (.inl ⟨a, vs, rfl, ht, by rw [rvs.length]; exact c, fun p hp => r3.alloc_tup hp (cut_rep rvs) h4⟩)
  · obtain ⟨c, h4⟩ := h3'.grd
    rw [rv3.str_of]
    exact .inr (.inr ⟨_, rfl, c, GoE.here h4 r3 (.str _)⟩)
  · exact h3'.elim
end
structure JO (ct : List (Addr × List Str)) (X : Cx) (E : XE) (e : Option Expr) (t : TO) (f : PF) : Prop where
  p : PO X e t
  d : DO (gOf X ct) E t f
section
variable {ct : List (Addr × List Str)} {X : Cx} {E : XE} {pos p2 : Pos} {e : Expr} {lo hi : Option Expr} {te : TE} {fe : EF} {tl th : TO} {fl fh : PF}
theorem jo_none : JO ct X E none tNoPart xNoPart := ⟨po_none, do_none⟩
theorem jo_some (h : JE ct X E e te fe) : JO ct X E (some e) (tPart te) (xPart fe) := ⟨po_some h.p, do_some h.d⟩
theorem je_sl (he : JE ct X E e te fe) (hl : JO ct X E lo tl fl) (hh : JO ct X E hi th fh) : JE ct X E (.Subscript e (.Slice lo hi none p2) pos) (tSl (rSlU X.K) te tl th) (xSl fe fl fh) := ⟨pe_slice (sl_list.or (sl_tup.or sl_str)) he.p hl.p hh.p, de_sl he.d hl.d hh.d⟩
end

/-! ### fields -/
theorem zip_lookup : ∀ {names : List Str} {vs : List V} {i : Nat} {f : Str} {v : V}, names.Nodup → names[i]? = some f → vs[i]? = some v → (names.zip vs).lookup f = some v
  | [], _, i, _, _, _, h, _ => by simp at h
  | n :: ns, [], i, _, _, _, _, h => by simp at h
  | n :: ns, v :: vs, 0, f, x, hn, h1, h2 => by
    simp at h1 h2; subst h1 h2
    simp [List.lookup_cons]
  | n :: ns, v :: vs, i + 1, f, x, hn, h1, h2 => by
    rw [List.nodup_cons] at hn
    have h1' : ns[i]? = some f := by simpa using h1
    have hne : (f == n) = false := by
      rw [beq_eq_false_iff_ne]
      rintro rfl
      exact hn.1 (List.mem_of_getElem? h1')
    rw [List.zip_cons_cons, List.lookup_cons, hne]
    exact zip_lookup hn.2 h1' (by simpa using h2)
theorem zip_none : ∀ {names : List Str} {vs : List V} {f : Str}, f ∉ names → (names.zip vs).lookup f = none
  | [], _, _, _ => rfl
  | n :: ns, [], _, _ => rfl
  | n :: ns, v :: vs, f, h => by
    simp only [List.mem_cons, not_or] at h
    have hne : (f == n) = false := by rw [beq_eq_false_iff_ne]; exact h.1
    rw [List.zip_cons_cons, List.lookup_cons, hne]
    exact zip_none h.2
theorem putF_cons (f g : Str) (v u : V) (r : List (Str × V)) : putF f v ((g, u) :: r) = if g = f then (g, v) :: r else (g, u) :: putF f v r := by
  rfl
theorem zip_put : ∀ {names : List Str} {vs : List V} {i : Nat} {f : Str} {v : V}, names.Nodup → names[i]? = some f → vs.length ≤ names.length →
    (i < vs.length → putF f v (names.zip vs) = names.zip (vs.set i v)) ∧ (i = vs.length → putF f v (names.zip vs) = names.zip (vs ++ [v]))
  | [], _, i, _, _, _, h, _ => by simp at h
  | n :: ns, [], i, f, v, hn, h1, hl => by
    refine ⟨fun h => absurd h (by simp), fun h => ?_⟩
    simp at h; subst h
    simp at h1; subst h1
    rw [List.zip_nil_right, List.nil_append, List.zip_cons_cons, List.zip_nil_right]
    rfl
  | n :: ns, x :: vs, 0, f, v, hn, h1, hl => by
    simp at h1; subst h1
    refine ⟨fun _ => ?_, fun h => absurd h (by simp)⟩
    rw [List.zip_cons_cons, putF_cons, if_pos rfl]
    rfl
  | n :: ns, x :: vs, i + 1, f, v, hn, h1, hl => by
    rw [List.nodup_cons] at hn
    have h1' : ns[i]? = some f := by simpa using h1
    have hne : ¬ n = f := by
      rintro rfl
      exact hn.1 (List.mem_of_getElem? h1')
    obtain ⟨k1, k2⟩ := zip_put (v := v) hn.2 h1' (vs := vs) (by simpa using hl)
    refine ⟨fun h => ?_, fun h => ?_⟩
    · rw [List.zip_cons_cons, putF_cons, if_neg hne, k1 (by simpa using h)]
      rfl
    · rw [List.zip_cons_cons, putF_cons, if_neg hne, k2 (by simpa using h)]
      rfl
def xFld (c i : Nat) (f : EF) : EF := fun δ M => (f δ M).bind fun d M1 => match d with
  | .m k => match M1[k]? with
    | some (.ins c' fs) => if c' = c then match fs[i]? with | some x => .ok x M1 | none => .stuck else .stuck
    | _ => .stuck
  | _ => .stuck
end J
/-! J, sixth part: fields, calls of defs, built-in functions. -/
namespace J
open PySem L2

/-- what the top must have of a class c: its address, its attributes' names -/
structure CF (ct : List (Addr × List Str)) (K : PySem.W.Frag) (c i : Nat) (f : Str) (C : Addr) (names : List Str) : Prop where
  at_ : ct[c]? = some (C, names)
  cl : Cls K C
  no : NoAttr K C f
  ix : names[i]? = some f
theorem de_fld {G : Gc} {E : XE} {ta : TE} {fa : EF} {c i : Nat} {f : Str} {C : Addr} {names : List Str} (cf : CF G.ct G.K c i f C names) (ha : DE G E ta fa) : DE G E (tFld G.K ta f) (xFld c i fa) := by
  intro σ δ ρ H M Q hs hr h
  show ta σ H _
  refine DE.bind (P := GoE G ρ H Q) ha hs hr h fun x M1 ρ1 H1 v e1 s1 r1 rv h1 => ?_
  try dsimp only at h1
  split at h1
  · obtain ⟨a, rfl, ea⟩ := rv.m_of
    split at h1
    · rename_i c' fs e
      split at h1
      · rename_i ec
        subst ec
        split at h1
        · rename_i d ed
          obtain ⟨C', n', dx, vs, q1, q2, q3, q4, q5, q6⟩ := r1.get e ea
          rw [cf.at_] at q1; cases q1
          obtain ⟨v, ev, rv'⟩ := q6.get ed
          exact ⟨a, C, dx, _, v, rfl, q5, cf.cl, cf.no, zip_lookup q2 cf.ix ev, GoE.here (GoE.weak e1 h1) r1 rv'⟩
        · exact h1.elim
      · exact h1.elim
    · exact h1.elim
  · exact h1.elim
section
variable {ct : List (Addr × List Str)} {X : Cx} {E : XE} {pos : Pos} {a : Expr} {ta : TE} {fa : EF} {c i : Nat} {f : Str} {C : Addr} {names : List Str}
theorem je_fld (cf : CF ct X.K c i f C names) (ha : JE ct X E a ta fa) (hb : attributeBase a f X.env (eval a X.env) = eval a X.env := by rfl) : JE ct X E (.Attribute a f pos) (tFld X.K ta f) (xFld c i fa) := ⟨pe_fld ha.p hb, de_fld cf ha.d⟩
end

/-! ### calls -/
abbrev DF := List D → Mem → Rs D
/-- THE PROMISE of a def whose function of data is g (no exception leaves it) -/
def spF (G : Gc) (g : DF) : Sp := fun vs H Q _ => ∃ ρ M ds, RepAll G.K ρ H vs ds ∧ Rm G ρ H M ∧ Sat (g ds M) (GoE G ρ H Q) (GoX G ρ H none)
def xCall (g : DF) (fa : AF) : EF := fun δ M => (fa δ M).bind g
section
variable {G : Gc} {t : TA} {fa : AF} {g : DF}
theorem de_call {dvs : List V} {dds : List D} (hd : ∀ ρ H, RepAll G.K ρ H dvs dds) (ha : DA G none t fa) : DE G none (tCall (spF G g) dvs E0 t) (xCall (fun ds => g (ds ++ dds)) fa) := by
  intro σ δ ρ H M Q hs hr h
  show t σ H _
  refine DA.bind (P := GoE G ρ H Q) ha hs hr h fun ds M1 ρ1 H1 vs e1 s1 r1 rvs h1 => ?_
  exact ⟨ρ1, M1, ds ++ dds, rvs.append (hd ρ1 H1), r1, h1.mono (fun _ _ z => z.weak e1) fun _ _ _ z => z⟩
theorem de_call0 (ha : DA G none t fa) : DE G none (tCall (spF G g) [] E0 t) (xCall g fa) := by
  intro σ δ ρ H M Q hs hr h
  show t σ H _
  refine DA.bind (P := GoE G ρ H Q) ha hs hr h fun ds M1 ρ1 H1 vs e1 s1 r1 rvs h1 => ?_
  exact ⟨ρ1, M1, ds, by rw [List.append_nil]; exact rvs, r1, h1.mono (fun _ _ z => z.weak e1) fun _ _ _ z => z⟩
def xMeth (c : Nat) (g : DF) (fo : EF) (fa : AF) : EF := fun δ M => (fo δ M).bind fun d M1 => match d with
  | .m k => match M1[k]? with
    | some (.ins c' fs) => if c' = c then (fa δ M1).bind fun ds M2 => g (.m k :: ds) M2 else .stuck
    | _ => .stuck
  | _ => .stuck
theorem de_meth {to : TE} {fo : EF} {c : Nat} {m : Str} {C : Addr} {names : List Str} (ec : G.ct[c]? = some (C, names)) (hm : m ∉ names) (ho : DE G none to fo) (ha : DA G none t fa) : DE G none (tMeth C m (spF G g) [] E0 to t) (xMeth c g fo fa) := by
  intro σ δ ρ H M Q hs hr h
  show to σ H _
  refine DE.bind (P := GoE G ρ H Q) ho hs hr h fun x M1 ρ1 H1 v e1 s1 r1 rv h1 => ?_
  try dsimp only at h1
  split at h1
  · obtain ⟨a, rfl, ea⟩ := rv.m_of
    split at h1
    · rename_i c' fs e
      split at h1
      · rename_i e0
        subst e0
        obtain ⟨C', n', dx, vs, q1, q2, q3, q4, q5, q6⟩ := r1.get e ea
        rw [ec] at q1; cases q1
        refine ⟨a, dx, _, rfl, q5, zip_none hm, ?_⟩
        refine DA.bind (P := GoE G ρ H Q) ha s1 r1 h1 fun ds M2 ρ2 H2 us e2 s2 r2 rus h2 => ?_
        refine ⟨ρ2, M2, .m _ :: ds, by rw [List.append_nil]; exact .cons (rv.mono e2) rus, r2, h2.mono (fun _ _ z => z.weak (e1.trans e2)) fun _ _ _ z => z⟩
      · exact h1.elim
    · exact h1.elim
  · exact h1.elim
def xMake (c : Nat) (g : DF) (fa : AF) : EF := fun δ M => (fa δ M).bind fun ds M1 => (g (.m M1.length :: ds) (M1 ++ [.ins c []])).bind fun d M2 => match d with | .non => .ok (.m M1.length) M2 | _ => .stuck
theorem de_make {c : Nat} {C : Addr} {names : List Str} {dvs : List V} {dds : List D} (ec : G.ct[c]? = some (C, names)) (hn : names.Nodup) (hl : names.length ≤ 100) (hd : ∀ ρ H, RepAll G.K ρ H dvs dds) (ha : DA G none t fa) :
    DE G none (tMake C (spF G g) dvs E0 t) (xMake c (fun ds => g (ds ++ dds)) fa) := by
  intro σ δ ρ H M Q hs hr h
  show t σ H _
  refine DA.bind (P := GoE G ρ H Q) ha hs hr h fun ds M1 ρ1 H1 vs e1 s1 r1 rvs h1 => ?_
  intro x dx hx hdx hne
  have r2 : Rm G ρ1 (upd H1 dx (.own x)) M1 := r1.aside hdx
  have hx2 : (upd H1 dx (.own x)) x = none := by rw [upd_ne (Ne.symm hne)]; exact hx
  have e2 : Ex ρ1 H1 (ρ1 ++ [x]) (upd (upd H1 dx (.own x)) x (.ins C dx [])) := (ex_new hdx).trans ((ex_new hx2).trans ex_push)
  have r3 : Rm G (ρ1 ++ [x]) (upd (upd H1 dx (.own x)) x (.ins C dx [])) (M1 ++ [.ins c []]) := r2.new hx2 ⟨C, names, dx, [], ec, hn, Nat.zero_le _, hl, by rw [List.zip_nil_right]; exact upd_same, .nil⟩
  have hk : (ρ1 ++ [x])[M1.length]? = some x := by rw [← r1.len, List.getElem?_append_right (Nat.le_refl _)]; simp
  rw [Sat.bind] at h1
  have h1' : Sat (g (.m M1.length :: (ds ++ dds)) (M1 ++ [.ins c []])) _ _ := h1
  refine ⟨ρ1 ++ [x], M1 ++ [.ins c []], .m M1.length :: (ds ++ dds), .cons (.m hk) ((rvs.mono e2).append (hd _ _)), r3, Sat.mono (P' := GoE G _ _ fun v H2 => v = V.non ∧ Q (V.ref x) H2) h1' (fun d M2 h2 => ?_) fun _ _ _ z => GoX.weak e2 z⟩
  intro ρ2 H2 v e3 r4 rv
  try dsimp only at h2
  split at h2
  · exact ⟨rv.non_of, GoE.here (GoE.weak ((e1.trans e2).trans e3) h2) r4 (.m (e3.pre _ _ hk))⟩
  · exact h2.elim
end
section
variable {ct : List (Addr × List Str)} {X : Cx} {CX : CXT} {k : Nat} {f C : Addr} {fd : FuncData} {ps names : List Str} {g : DF} {ds : List Value} {dvs : List V} {dds : List D} {x m : Str} {p pos apos : Pos} {e o : Expr} {es : List Expr} {to : TE} {fo : EF} {t : TA} {fa : AF} {c : Nat}
theorem je_call (F : FnOk X.prog X.w X.K X.mg X.base CX k f fd ps (spF (gOf X ct) g)) (hr : Room k X.A) (hm : X.mg x = some (.ref f)) (hk : PySem.W.keepIn X.K (.ref f) = true) (hb : Binds X.K fd ps []) (hx : Passes CX X E0)
    (ha : JA ct X none (e :: es) t fa) (hg : Gl X x := by rfl) (hdb : (x == ("__debug__" : Str)) = false := by decide) (he : starEach (e :: es) X.env = (false, eval e X.env) :: starEach es X.env := by rfl) (hpl : (backTo pos (starEach es X.env)).any (·.1) = false := by rfl) :
    JE ct X none (.Call (.Name x p) (e :: es) [] pos) (tCall (spF (gOf X ct) g) [] E0 t) (xCall g fa) := ⟨pe_call F hr hg hm hk hb .nil hx ha.p hdb he hpl, de_call0 ha.d⟩
theorem je_call0 (F : FnOk X.prog X.w X.K X.mg X.base CX k f fd ps (spF (gOf X ct) g)) (hr : Room k X.A) (hm : X.mg x = some (.ref f)) (hk : PySem.W.keepIn X.K (.ref f) = true) (hb : Binds X.K fd ps []) (hx : Passes CX X E0)
    (hg : Gl X x := by rfl) (hdb : (x == ("__debug__" : Str)) = false := by decide) : JE ct X none (.Call (.Name x p) [] [] pos) (tCall (spF (gOf X ct) g) [] E0 tNil) (xCall g xNil) := ⟨pe_call0 F hr hg hm hk hb .nil hx hdb, de_call0 da_nil⟩
theorem je_meth {pl : Sem Bool} (ho : JE ct X none o to fo) (cl : Cls X.K C) (hm : Meth X.K C m f) (ec : ct[c]? = some (C, names)) (hn : m ∉ names) (F : FnOk X.prog X.w X.K X.mg X.base CX k f fd ps (spF (gOf X ct) g)) (hr : Room k X.A) (hb : Binds X.K fd ps []) (hx : Passes CX X E0) (ha : JA ct X none (e :: es) t fa)
    (hst : starEach (e :: es) X.env = (false, eval e X.env) :: starEach es X.env := by rfl) (hpl : (backTo pos (starEach es X.env)).any (·.1) = false := by rfl)
    (ht : eval (.Call (.Attribute o m apos) (e :: es) [] pos) X.env = (do
      let ov ← eval o X.env
      standAt apos.atName
      let (f, first) ← holding [ov] (getMethod ov m pl)
      callWith pos f first (backTo pos (starEach (e :: es) X.env)) (backToKw pos (keywordEach [] X.env))) := by rfl) :
    JE ct X none (.Call (.Attribute o m apos) (e :: es) [] pos) (tMeth C m (spF (gOf X ct) g) [] E0 to t) (xMeth c g fo fa) := ⟨pe_meth (pl := pl) ho.p cl hm F hr hb .nil hx ha.p hst hpl ht, de_meth ec hn ho.d ha.d⟩
theorem je_meth0 {pl : Sem Bool} (ho : JE ct X none o to fo) (cl : Cls X.K C) (hm : Meth X.K C m f) (ec : ct[c]? = some (C, names)) (hn : m ∉ names) (F : FnOk X.prog X.w X.K X.mg X.base CX k f fd ps (spF (gOf X ct) g)) (hr : Room k X.A) (hb : Binds X.K fd ps []) (hx : Passes CX X E0)
    (ht : eval (.Call (.Attribute o m apos) [] [] pos) X.env = (do
      let ov ← eval o X.env
      standAt apos.atName
      let (f, first) ← holding [ov] (getMethod ov m pl)
      callWith pos f first (backTo pos (starEach [] X.env)) (backToKw pos (keywordEach [] X.env))) := by rfl) :
    JE ct X none (.Call (.Attribute o m apos) [] [] pos) (tMeth C m (spF (gOf X ct) g) [] E0 to tNil) (xMeth c g fo xNil) := ⟨pe_meth0 (pl := pl) ho.p cl hm F hr hb .nil hx ht, de_meth ec hn ho.d da_nil⟩
theorem je_make (M : Mk X.K C f) (F : FnOk X.prog X.w X.K X.mg X.base CX k f fd ps (spF (gOf X ct) g)) (hr : Room (k + 1) X.A) (hm : X.mg x = some (.ref C)) (ec : ct[c]? = some (C, names)) (hn : names.Nodup) (hl : names.length ≤ 100) (hb : Binds X.K fd ps ds) (hd : Vals dvs ds) (hdd : ∀ ρ H, RepAll X.K ρ H dvs dds) (hx : Passes CX X E0)
    (ha : JA ct X none (e :: es) t fa) (hg : Gl X x := by rfl) (hdb : (x == ("__debug__" : Str)) = false := by decide) (he : starEach (e :: es) X.env = (false, eval e X.env) :: starEach es X.env := by rfl) (hpl : (backTo pos (starEach es X.env)).any (·.1) = false := by rfl) :
    JE ct X none (.Call (.Name x p) (e :: es) [] pos) (tMake C (spF (gOf X ct) g) dvs E0 t) (xMake c (fun ds => g (ds ++ dds)) fa) := ⟨pe_make M F hr hg hm hb hd hx ha.p hdb he hpl, de_make ec hn hl hdd ha.d⟩
end

/-! ### built-ins by name -/
theorem de_cb {G : Gc} {E : XE} {r : List V → Hp → VK → Prop} {g : DF} {t : TA} {fa : AF} (hg : RC G r g) (ha : DA G E t fa) : DE G E (tCB r t) (xCall g fa) := by
  intro σ δ ρ H M Q hs hr h
  show t σ H _
  refine DA.bind (P := GoE G ρ H Q) ha hs hr h fun ds M1 ρ1 H1 vs e1 s1 r1 rvs h1 => ?_
  exact hg ρ1 H1 M1 vs ds Q _ r1 rvs (h1.mono (fun _ _ z => z.weak e1) fun _ _ _ z => z)
section
variable {ct : List (Addr × List Str)} {X : Cx} {E : XE} {p pos : Pos} {e : Expr} {es : List Expr} {t : TA} {fa : AF} {r : List V → Hp → VK → Prop} {g : DF} {x : Str} {id T : String}
theorem je_cb (hc : CallR X (.builtin id) r) (hg : RC (gOf X ct) r g) (hm : X.mg x = none) (hv : bootBuiltins x = some (.builtin id)) (ha : JA ct X E (e :: es) t fa) (gl : Gl X x := by rfl) (hn : x ≠ "__name__" := by decide) (hdb : (x == ("__debug__" : Str)) = false := by decide)
    (he : starEach (e :: es) X.env = (false, eval e X.env) :: starEach es X.env := by rfl) (hpl : (backTo pos (starEach es X.env)).any (·.1) = false := by rfl) : JE ct X E (.Call (.Name x p) (e :: es) [] pos) (tCB r t) (xCall g fa) :=
  ⟨pe_callB hc gl hm hv ha.p hn hdb he hpl, de_cb hg ha.d⟩
theorem je_cty (hc : CallR X (.type T) r) (hg : RC (gOf X ct) r g) (hm : X.mg x = none) (hv : bootBuiltins x = some (.type T)) (ha : JA ct X E (e :: es) t fa) (gl : Gl X x := by rfl) (hn : x ≠ "__name__" := by decide) (hdb : (x == ("__debug__" : Str)) = false := by decide)
    (he : starEach (e :: es) X.env = (false, eval e X.env) :: starEach es X.env := by rfl) (hpl : (backTo pos (starEach es X.env)).any (·.1) = false := by rfl) : JE ct X E (.Call (.Name x p) (e :: es) [] pos) (tCB r t) (xCall g fa) :=
  ⟨pe_callTy hc gl hm hv ha.p hn hdb he hpl, de_cb hg ha.d⟩
end

section
variable {G : Gc}
theorem RepAll.one {K : PySem.W.Frag} {ρ : List Addr} {H : Hp} {xs : List V} {d : D} (h : RepAll K ρ H xs [d]) : ∃ v, xs = [v] ∧ Rep K ρ H v d := by
  cases h with | cons h1 h2 => cases h2; exact ⟨_, rfl, h1⟩
theorem RepAll.two {K : PySem.W.Frag} {ρ : List Addr} {H : Hp} {xs : List V} {d d' : D} (h : RepAll K ρ H xs [d, d']) : ∃ v v', xs = [v, v'] ∧ Rep K ρ H v d ∧ Rep K ρ H v' d' := by
  cases h with | cons h1 h2 => cases h2 with | cons h2 h3 => cases h3; exact ⟨_, _, rfl, h1, h2⟩
def gAbs : DF := fun ds M => match ds with | [.int i] => .ok (.int (if i < 0 then -i else i)) M | _ => .stuck
theorem rc_abs : RC G (fun xs H Q => ∃ i, xs = [.int i] ∧ Q (.int (if i < 0 then -i else i)) H) gAbs := by
  intro ρ H M xs ds Q E R r h
  unfold gAbs at h
  split at h
  · obtain ⟨v, rfl, rv⟩ := r.one
    rw [rv.int_of]; exact ⟨_, rfl, GoE.here h R (.int _)⟩
  · exact h.elim
def gMin2 : DF := fun ds M => match ds with | [.int i, .int j] => .ok (.int (if j < i then j else i)) M | _ => .stuck
theorem rc_min2 : RC G (fun xs H Q => ∃ i j, xs = [.int i, .int j] ∧ Q (.int (if j < i then j else i)) H) gMin2 := by
  intro ρ H M xs ds Q E R r h
  unfold gMin2 at h
  split at h
  · obtain ⟨v, u, rfl, rv, ru⟩ := r.two
    rw [rv.int_of, ru.int_of]; exact ⟨_, _, rfl, GoE.here h R (.int _)⟩
  · exact h.elim
def gInt : DF := fun ds M => match ds with | [.int i] => .ok (.int i) M | [.bl k] => .ok (.int (if k then 1 else 0)) M | _ => .stuck
theorem rc_int : RC G (fun xs H Q => (∃ i, xs = [.int i] ∧ Q (.int i) H) ∨ ∃ k, xs = [.bl k] ∧ Q (.int (if k then 1 else 0)) H) gInt := by
  intro ρ H M xs ds Q E R r h
  unfold gInt at h
  split at h
  · obtain ⟨v, rfl, rv⟩ := r.one
    rw [rv.int_of]; exact .inl ⟨_, rfl, GoE.here h R (.int _)⟩
  · obtain ⟨v, rfl, rv⟩ := r.one
    rw [rv.bl_of]; exact .inr ⟨_, rfl, GoE.here h R (.int _)⟩
  · exact h.elim
/-- len of a text, a list, a tuple, a dict by texts and ints -/
def gLen : DF := fun ds M => match ds with
  | [.str s] => Rs.grd (s.length ≤ sizeLine) (.ok (.int s.length) M)
  | [.tup xs] => .ok (.int xs.length) M
  | [.rl xs] => .ok (.int xs.length) M
  | [.m k] => match M[k]? with
    | some (.lst xs) => .ok (.int xs.length) M
    | some (.dct xs) => .ok (.int xs.length) M
    | _ => .stuck
  | _ => .stuck
abbrev rLenU (K : PySem.W.Frag) : List V → Hp → VK → Prop := fun xs H Q => (∃ x n, xs = [x] ∧ LenV K x H n ∧ Q (.int n) H) ∨ (∃ a kvs, xs = [V.ref a] ∧ H a = some (.dK kvs) ∧ Q (.int kvs.length) H)
theorem rc_len : RC G (rLenU G.K) gLen := by
  intro ρ H M xs ds Q E R r h
  unfold gLen at h
  split at h
  · obtain ⟨c, h⟩ := h.grd
    obtain ⟨v, rfl, rv⟩ := r.one
    rw [rv.str_of]; exact .inl ⟨_, _, rfl, ⟨c, rfl⟩, GoE.here h R (.int _)⟩
  · obtain ⟨v, rfl, rv⟩ := r.one
    obtain ⟨a, vs, rfl, ht, rvs⟩ := rv.tup_of
    exact .inl ⟨_, _, rfl, .inr ⟨vs, ht, rvs.length.symm⟩, GoE.here h R (.int _)⟩
  · obtain ⟨v, rfl, rv⟩ := r.one
    obtain ⟨a, vs, rfl, ht, rvs⟩ := rv.rl_of
    exact .inl ⟨_, _, rfl, .inl ⟨vs, ht.sq, rvs.length.symm⟩, GoE.here h R (.int _)⟩
  · obtain ⟨v, rfl, rv⟩ := r.one
    obtain ⟨a, rfl, ea⟩ := rv.m_of
    split at h
    · rename_i e
      obtain ⟨vs, hv, rvs⟩ := R.get e ea
      exact .inl ⟨_, _, rfl, .inl ⟨vs, SqL.of hv, rvs.length.symm⟩, GoE.here h R (.int _)⟩
    · rename_i e
      obtain ⟨vs, hv, rvs⟩ := R.get e ea
      exact .inr ⟨_, vs, rfl, hv, by rw [rvs.length]; exact GoE.here h R (.int _)⟩
    · exact h.elim
  · exact h.elim
/-- list(x) of a list, a tuple -/
def gList : DF := fun ds M => match ds with
  | [.tup xs] => .ok (.m M.length) (M ++ [.lst xs])
  | [.rl xs] => .ok (.m M.length) (M ++ [.lst xs])
  | [.m k] => match M[k]? with
    | some (.lst xs) => .ok (.m M.length) (M ++ [.lst xs])
    | _ => .stuck
  | _ => .stuck
theorem rc_list : RC G (fun xs H Q => ∃ p ys, xs = [.ref p] ∧ (SqL G.K H p ys ∨ SqT G.K H p ys) ∧ ∀ l, H l = none → Q (.ref l) (upd H l (.lst ys))) gList := by
  intro ρ H M xs ds Q E R r h
  unfold gList at h
  split at h
  · obtain ⟨v, rfl, rv⟩ := r.one
    obtain ⟨a, vs, rfl, ht, rvs⟩ := rv.tup_of
    exact ⟨a, vs, rfl, .inr ht, fun p hp => R.alloc hp rvs h⟩
  · obtain ⟨v, rfl, rv⟩ := r.one
    obtain ⟨a, vs, rfl, ht, rvs⟩ := rv.rl_of
    exact ⟨a, vs, rfl, .inl ht.sq, fun p hp => R.alloc hp rvs h⟩
  · obtain ⟨v, rfl, rv⟩ := r.one
    obtain ⟨a, rfl, ea⟩ := rv.m_of
    split at h
    · rename_i e
      obtain ⟨vs, hv, rvs⟩ := R.get e ea
      exact ⟨a, vs, rfl, .inl (SqL.of hv), fun p hp => R.alloc hp rvs h⟩
    · exact h.elim
  · exact h.elim
def gTuple : DF := fun ds M => match ds with
  | [.tup xs] => .ok (.tup xs) M
  | [.rl xs] => .ok (.tup xs) M
  | [.m k] => match M[k]? with
    | some (.lst xs) => .ok (.tup xs) M
    | _ => .stuck
  | _ => .stuck
theorem rc_tuple : RC G (fun xs H Q => ∃ p ys, xs = [.ref p] ∧ ((SqL G.K H p ys ∧ ∀ l, H l = none → Q (.ref l) (upd H l (.tup ys))) ∨ (SqT G.K H p ys ∧ Q (.ref p) H))) gTuple := by
  intro ρ H M xs ds Q E R r h
  unfold gTuple at h
  split at h
  · obtain ⟨v, rfl, rv⟩ := r.one
    have rv' := rv
    obtain ⟨a, vs, rfl, ht, rvs⟩ := rv.tup_of
    exact ⟨a, vs, rfl, .inr ⟨ht, GoE.here h R rv'⟩⟩
  · obtain ⟨v, rfl, rv⟩ := r.one
    obtain ⟨a, vs, rfl, ht, rvs⟩ := rv.rl_of
    exact ⟨a, vs, rfl, .inl ⟨ht.sq, fun p hp => R.alloc_tup hp rvs h⟩⟩
  · obtain ⟨v, rfl, rv⟩ := r.one
    obtain ⟨a, rfl, ea⟩ := rv.m_of
    split at h
    · rename_i e
      obtain ⟨vs, hv, rvs⟩ := R.get e ea
      exact ⟨a, vs, rfl, .inl ⟨SqL.of hv, fun p hp => R.alloc_tup hp rvs h⟩⟩
    · exact h.elim
  · exact h.elim
/-- a list of ints, of bools -/
def toInts : List D → Option (List Int)
  | [] => some []
  | .int i :: r => (toInts r).map (i :: ·)
  | _ => none
def toBls : List D → Option (List Bool)
  | [] => some []
  | .bl i :: r => (toBls r).map (i :: ·)
  | _ => none
theorem toInts_of : ∀ {ds : List D} {ns : List Int}, toInts ds = some ns → ds = ns.map D.int
  | [], ns, h => by simp [toInts] at h; subst h; rfl
  | d :: r, ns, h => by
    cases d <;> simp [toInts] at h
    obtain ⟨a, h, rfl⟩ := h
    rw [toInts_of h]; rfl
theorem toBls_of : ∀ {ds : List D} {ns : List Bool}, toBls ds = some ns → ds = ns.map D.bl
  | [], ns, h => by simp [toBls] at h; subst h; rfl
  | d :: r, ns, h => by
    cases d <;> simp [toBls] at h
    obtain ⟨a, h, rfl⟩ := h
    rw [toBls_of h]; rfl
def itemsOf (d : D) (M : Mem) : Option (List D) := match d with
  | .rl xs => some xs
  | .m k => match M[k]? with | some (.lst xs) => some xs | _ => none
  | _ => none
theorem itemsOf_ok {ρ : List Addr} {H : Hp} {M : Mem} {v : V} {d : D} {xs : List D} (R : Rm G ρ H M) (r : Rep G.K ρ H v d) (h : itemsOf d M = some xs) : ∃ a vs, v = .ref a ∧ SqL G.K H a vs ∧ RepAll G.K ρ H vs xs := by
  unfold itemsOf at h
  split at h
  · cases h
    obtain ⟨a, vs, rfl, ht, rvs⟩ := r.rl_of
    exact ⟨a, vs, rfl, ht.sq, rvs⟩
  · obtain ⟨a, rfl, ea⟩ := r.m_of
    split at h
    · rename_i e
      cases h
      obtain ⟨vs, hv, rvs⟩ := R.get e ea
      exact ⟨a, vs, rfl, SqL.of hv, rvs⟩
    · cases h
  · cases h
def gSum : DF := fun ds M => match ds with | [d] => (match (itemsOf d M).bind toInts with | some ns => .ok (.int ns.sum) M | none => .stuck) | _ => .stuck
def gAny : DF := fun ds M => match ds with | [d] => (match (itemsOf d M).bind toBls with | some bs => .ok (.bl (bs.any id)) M | none => .stuck) | _ => .stuck
def gAll : DF := fun ds M => match ds with | [d] => (match (itemsOf d M).bind toBls with | some bs => .ok (.bl (bs.all id)) M | none => .stuck) | _ => .stuck
theorem rc_sum : RC G (rSum G.K) gSum := by
  intro ρ H M xs ds Q E R r h
  unfold gSum at h
  split at h
  · obtain ⟨v, rfl, rv⟩ := r.one
    split at h
    · rename_i ns e
      obtain ⟨ys, e1, e2⟩ := Option.bind_eq_some_iff.mp e
      obtain ⟨a, vs, rfl, hs, rvs⟩ := itemsOf_ok R rv e1
      rw [toInts_of e2] at rvs
      rw [rvs.ints] at hs
      exact ⟨a, ns, rfl, hs, GoE.here h R (.int _)⟩
    · exact h.elim
  · exact h.elim
theorem rc_any : RC G (rAny G.K) gAny := by
  intro ρ H M xs ds Q E R r h
  unfold gAny at h
  split at h
  · obtain ⟨v, rfl, rv⟩ := r.one
    split at h
    · rename_i ns e
      obtain ⟨ys, e1, e2⟩ := Option.bind_eq_some_iff.mp e
      obtain ⟨a, vs, rfl, hs, rvs⟩ := itemsOf_ok R rv e1
      rw [toBls_of e2] at rvs
      rw [rvs.bls] at hs
      exact ⟨a, ns, rfl, hs, GoE.here h R (.bl _)⟩
    · exact h.elim
  · exact h.elim
theorem rc_all : RC G (rAll G.K) gAll := by
  intro ρ H M xs ds Q E R r h
  unfold gAll at h
  split at h
  · obtain ⟨v, rfl, rv⟩ := r.one
    split at h
    · rename_i ns e
      obtain ⟨ys, e1, e2⟩ := Option.bind_eq_some_iff.mp e
      obtain ⟨a, vs, rfl, hs, rvs⟩ := itemsOf_ok R rv e1
      rw [toBls_of e2] at rvs
      rw [rvs.bls] at hs
      exact ⟨a, ns, rfl, hs, GoE.here h R (.bl _)⟩
    · exact h.elim
  · exact h.elim
/-- isinstance of built-in types -/
def tyName (d : D) (M : Mem) : Option String := match d with
  | .non => some "NoneType" | .bl _ => some "bool" | .int _ => some "int" | .str _ => some "str" | .tup _ => some "tuple" | .rl _ => some "list"
  | .m k => (match M[k]? with | some (.lst _) => some "list" | some (.dct _) => some "dict" | _ => none)
  | .ty _ => none
def isAny (a : String) : List D → Option Bool
  | [] => some false
  | .ty b :: r => match kitB a b, isAny a r with | some p, some q => some (p || q) | _, _ => none
  | _ => none
def gIsi : DF := fun ds M => match ds with
  | [d, .ty b] => (match (tyName d M).bind (kitB · b) with | some r => .ok (.bl r) M | none => .stuck)
  | _ => .stuck
def gIsiT : DF := fun ds M => match ds with
  | [d, .tup ts] => (match (tyName d M).bind (isAny · ts) with | some r => .ok (.bl r) M | none => .stuck)
  | _ => .stuck
theorem tyName_ok {ρ : List Addr} {H : Hp} {M : Mem} {v : V} {d : D} {T : String} (R : Rm G ρ H M) (r : Rep G.K ρ H v d) (h : tyName d M = some T) : TyX G.K H v (.type T) := by
  unfold tyName at h
  split at h
  · cases h; rw [r.non_of]; exact .base .non
  · cases h; rw [r.bl_of]; exact .base (.bl _)
  · cases h; rw [r.int_of]; exact .base (.int _)
  · cases h; rw [r.str_of]; exact .base (.str _)
  · cases h
    obtain ⟨a, vs, rfl, ht, rvs⟩ := r.tup_of
    rcases ht with (ht | ⟨o, ht⟩) | ⟨o, its, n, h1, h2, _⟩
    · exact .base (.tup ht)
    · exact .fTuple ht
    · exact .kTuple h1 h2
  · cases h
    obtain ⟨a, vs, rfl, ht, rvs⟩ := r.rl_of
    rcases ht with ⟨o, ht⟩ | ⟨o, its, n, h1, h2, _⟩
    · exact .base (.frz ht)
    · exact .kList h1 h2
  · obtain ⟨a, rfl, ea⟩ := r.m_of
    split at h
    · rename_i e
      cases h
      obtain ⟨vs, hv, rvs⟩ := R.get e ea
      exact .base (.lst hv)
    · rename_i e
      cases h
      obtain ⟨vs, hv, rvs⟩ := R.get e ea
      exact .base (.dK hv)
    · cases h
  · cases h
theorem rc_isi : RC G (rIsi G.K) gIsi := by
  intro ρ H M xs ds Q E R r h
  unfold gIsi at h
  split at h
  · split at h
    · rename_i b e
      obtain ⟨T, e1, e2⟩ := Option.bind_eq_some_iff.mp e
      obtain ⟨v, u, rfl, rv, ru⟩ := r.two
      rw [ru.ty_of]
      exact ⟨v, _, _, _, b, rfl, .ty _, tyName_ok R rv e1, kit_ty e2, GoE.here h R (.bl _)⟩
    · exact h.elim
  · exact h.elim
theorem isAny_ok {K : PySem.W.Frag} {a : String} {ρ : List Addr} {H : Hp} : ∀ {ts : List D} {cs : List V} {b : Bool}, RepAll K ρ H cs ts → isAny a ts = some b → ∃ us, Paired ClsV cs us ∧ PySem.W.kitAny K (.type a) us = some b
  | [], cs, b, r, h => by
    cases r
    simp [isAny] at h; subst h
    exact ⟨[], .nil, kitAny_nil⟩
  | t :: ts, cs, b, r, h => by
    cases r with
    | cons r1 r2 =>
      cases t <;> simp [isAny] at h
      split at h
      · rename_i p q e1 e2
        cases h
        obtain ⟨us, h1, h2⟩ := isAny_ok r2 e2
        rw [r1.ty_of]
        refine ⟨_ :: us, .cons (.ty _) h1, kitAny_cons (kit_ty e1) (fun e => by rw [h2, e]; rfl) fun e => by rw [e]; rfl⟩
      · cases h
end
end J
/-! J, seventh part: more built-ins, methods, statements. -/
namespace J
open PySem L2

/-! ### isinstance by a tuple, repr -/
def rIsiU (K : PySem.W.Frag) : List V → Hp → VK → Prop := fun xs H Q => ∃ (x : V) (tp : Addr) (cs : List V) (t : Value) (us : List Value) (b : Bool), xs = [x, .ref tp] ∧ SqT K H tp cs ∧ Paired ClsV cs us ∧ TyX K H x t ∧ PySem.W.kitAny K t us = some b ∧ Q (.bl b) H
theorem call_isiU {X : Cx} : CallR X (.builtin "isinstance") (rIsiU X.K) := by
  intro pins s σ H xs us Q I r h
  obtain ⟨x, tp, cs, t, ws, b, rfl, hT, k, ty, e, q⟩ := h
  obtain ⟨u1, u2, rfl, r1, r2⟩ := vals2 r
  cases (show u2 = Value.ref tp from r2)
  obtain ⟨P, Z, p, hx⟩ := kit_of I r1 ty
  obtain ⟨its, rv, ⟨o, h1, h2, n, h3⟩, _⟩ := I.tuple hT
  have e3 := ClsV.all k rv
  subst e3
  obtain ⟨oc, od, dt, sl⟩ := o
  simp only at h2 h3
  subst h2 h3
  exact PySem.W.kia_tup Z I.kIn p h1 e hx fun tk => ⟨.bl b, H, I.tok tk, rfl, q⟩
theorem rc_isiT {G : Gc} : RC G (rIsiU G.K) gIsiT := by
  intro ρ H M xs ds Q E R r h
  unfold gIsiT at h
  split at h
  · split at h
    · rename_i b e
      obtain ⟨T, e1, e2⟩ := Option.bind_eq_some_iff.mp e
      obtain ⟨v, u, rfl, rv, ru⟩ := r.two
      obtain ⟨a, cs, rfl, ht, rcs⟩ := ru.tup_of
      obtain ⟨us, h1, h2⟩ := isAny_ok rcs e2
      exact ⟨v, a, cs, _, us, b, rfl, ht, h1, tyName_ok R rv e1, h2, GoE.here h R (.bl _)⟩
    · exact h.elim
  · exact h.elim
def gRepr : DF := fun ds M => match ds with
  | [.bl b] => .ok (.str (if b then "True" else "False")) M
  | [.non] => .ok (.str "None") M
  | [.int i] => Rs.grd (i.natAbs.log2 < 1920) (.ok (.str (toString i)) M)
  | _ => .stuck
def rRepr : List V → Hp → VK → Prop := fun xs H Q => (∃ b : Bool, xs = [.bl b] ∧ Q (.str (if b then "True" else "False")) H) ∨ (xs = [.non] ∧ Q (.str "None") H) ∨ ∃ i : Int, xs = [.int i] ∧ i.natAbs.log2 < 1920 ∧ Q (.str (toString i)) H
theorem call_repr {X : Cx} : CallR X (.builtin "repr") rRepr := by
  intro pins s σ H xs us Q I r h
  rcases h with ⟨b, rfl, q⟩ | ⟨rfl, q⟩ | ⟨i, rfl, c, q⟩
  · obtain ⟨u, rfl, ru⟩ := vals1 r
    cases (show u = Value.bool b from ru)
    exact PySem.P.repr_of_bool ⟨.str _, H, I.tok _, ⟨_, rfl⟩, q⟩
  · obtain ⟨u, rfl, ru⟩ := vals1 r
    cases (show u = Value.none from ru)
    exact PySem.P.repr_of_none ⟨.str _, H, I.tok _, ⟨_, rfl⟩, q⟩
  · obtain ⟨u, rfl, ru⟩ := vals1 r
    obtain ⟨t, rfl⟩ := ru
    exact PySem.P.repr_of_int c ⟨.str _, H, I.tok _, ⟨_, rfl⟩, q⟩
theorem rc_repr {G : Gc} : RC G rRepr gRepr := by
  intro ρ H M xs ds Q E R r h
  unfold gRepr at h
  split at h
  · obtain ⟨v, rfl, rv⟩ := r.one
    rw [rv.bl_of]; exact .inl ⟨_, rfl, GoE.here h R (.str _)⟩
  · obtain ⟨v, rfl, rv⟩ := r.one
    rw [rv.non_of]; exact .inr (.inl ⟨rfl, GoE.here h R (.str _)⟩)
  · obtain ⟨c, h⟩ := h.grd
    obtain ⟨v, rfl, rv⟩ := r.one
    rw [rv.int_of]; exact .inr (.inr ⟨_, rfl, c, GoE.here h R (.str _)⟩)
  · exact h.elim

/-! ### methods of lists -/
def RM (G : Gc) (T : String) (r : V → List V → Hp → VK → Prop) (g : D → List D → Mem → Rs D) (ok : D → Mem → Bool) : Prop :=
  (∀ ρ H M x dx, Rm G ρ H M → Rep G.K ρ H x dx → ok dx M = true → tyV G.K T x H) ∧
  ∀ ρ H M x dx xs ds Q E, Rm G ρ H M → Rep G.K ρ H x dx → RepAll G.K ρ H xs ds → Sat (g dx ds M) (GoE G ρ H Q) E → r x xs H Q
def xBM (g : D → List D → Mem → Rs D) (ok : D → Mem → Bool) (fo : EF) (fa : AF) : EF := fun δ M => (fo δ M).bind fun x M1 => Rs.grd (ok x M1 = true) ((fa δ M1).bind fun ds M2 => g x ds M2)
theorem de_bm {G : Gc} {E : XE} {T : String} {r : V → List V → Hp → VK → Prop} {g : D → List D → Mem → Rs D} {ok : D → Mem → Bool} {to : TE} {fo : EF} {t : TA} {fa : AF} (hg : RM G T r g ok) (ho : DE G E to fo) (ha : DA G E t fa) : DE G E (tBM G.K T r to t) (xBM g ok fo fa) := by
  intro σ δ ρ H M Q hs hr h
  show to σ H _
  refine DE.bind (P := GoE G ρ H Q) ho hs hr h fun x M1 ρ1 H1 v e1 s1 r1 rv h1 => ?_
  obtain ⟨c, h1⟩ := h1.grd
  refine ⟨hg.1 ρ1 H1 M1 v x r1 rv c, ?_⟩
  refine DA.bind (P := GoE G ρ H Q) ha s1 r1 h1 fun ds M2 ρ2 H2 vs e2 s2 r2 rvs h2 => ?_
  exact hg.2 ρ2 H2 M2 v x vs ds Q _ r2 (rv.mono e2) rvs (h2.mono (fun _ _ z => z.weak (e1.trans e2)) fun _ _ _ z => z)
def isLst (x : D) (M : Mem) : Bool := match x with | .m k => (match M[k]? with | some (.lst _) => true | _ => false) | _ => false
theorem isLst_ok {G : Gc} {ρ : List Addr} {H : Hp} {M : Mem} {x : V} {dx : D} (R : Rm G ρ H M) (r : Rep G.K ρ H x dx) (h : isLst dx M = true) : tyV G.K "list" x H := by
  unfold isLst at h
  split at h
  · obtain ⟨a, rfl, ea⟩ := r.m_of
    split at h
    · rename_i e
      obtain ⟨vs, hv, _⟩ := R.get e ea
      exact .inl ⟨rfl, vs, SqL.of hv⟩
    · cases h
  · cases h
/-- a list of the store is replaced -/
theorem Rm.put {G : Gc} {ρ : List Addr} {H : Hp} {M : Mem} {k : Nat} {a : Addr} {mo : MO} {vs : List V} {ds : List D} {Q : VK} {v : V} {d : D} (R : Rm G ρ H M) (e : M[k]? = some mo) (ea : ρ[k]? = some a) (rv : RepAll G.K ρ H vs ds) (r : Rep G.K ρ H v d)
    (h : GoE G ρ H Q d (M.set k (.lst ds))) : Q v (upd H a (.lst vs)) := by
  obtain ⟨o, ho, hi⟩ := (R.get e ea).there
  have ex : Ex ρ H ρ (upd H a (.lst vs)) := ex_set ho hi
  exact h ρ _ _ ex (R.set e ea ⟨vs, upd_same, rv.mono ex⟩) (r.mono ex)
def gAppend (x : D) (ds : List D) (M : Mem) : Rs D := match x, ds with
  | .m k, [y] => match M[k]? with
    | some (.lst xs) => Rs.grd (xs.length < sizeLine) (.ok .non (M.set k (.lst (xs ++ [y]))))
    | _ => .stuck
  | _, _ => .stuck
theorem rm_append {G : Gc} : RM G "list" rAppend gAppend isLst := by
  refine ⟨fun ρ H M x dx R r h => isLst_ok R r h, fun ρ H M x dx xs ds Q E R r rs h => ?_⟩
  unfold gAppend at h
  split at h
  · split at h
    · rename_i e
      obtain ⟨c, h⟩ := h.grd
      obtain ⟨a, rfl, ea⟩ := r.m_of
      obtain ⟨y, rfl, ry⟩ := rs.one
      obtain ⟨vs, hv, rvs⟩ := R.get e ea
      exact ⟨a, vs, y, rfl, rfl, hv, by rw [rvs.length]; exact c, R.put e ea (rvs.append (.cons ry .nil)) .non h⟩
    · exact h.elim
  · exact h.elim
def gPopAt (x : D) (ds : List D) (M : Mem) : Rs D := match x, ds with
  | .m k, [.int i] => match M[k]? with
    | some (.lst xs) => match seqIndex? i xs.length with
      | some j => match xs[j]? with
        | some d => Rs.grd (-(2 ^ 63) ≤ i ∧ i < 2 ^ 63) (.ok d (M.set k (.lst (xs.eraseIdx j))))
        | none => .stuck
      | none => .stuck
    | _ => .stuck
  | _, _ => .stuck
theorem rm_popAt {G : Gc} : RM G "list" rPopAt gPopAt isLst := by
  refine ⟨fun ρ H M x dx R r h => isLst_ok R r h, fun ρ H M x dx xs ds Q E R r rs h => ?_⟩
  unfold gPopAt at h
  split at h
  · split at h
    · rename_i e
      split at h
      · rename_i j ej
        split at h
        · rename_i d ed
          obtain ⟨c, h⟩ := h.grd
          obtain ⟨a, rfl, ea⟩ := r.m_of
          obtain ⟨y, rfl, ry⟩ := rs.one
          obtain ⟨vs, hv, rvs⟩ := R.get e ea
          obtain ⟨v, ev, rv⟩ := rvs.get ed
          rw [ry.int_of]
          exact ⟨a, vs, _, j, v, rfl, rfl, hv, c.1, c.2, by rw [rvs.length]; exact ej, ev, R.put e ea (rvs.erase j) rv h⟩
        · exact h.elim
      · exact h.elim
    · exact h.elim
  · exact h.elim
section
variable {ct : List (Addr × List Str)} {X : Cx} {E : XE} {apos cpos : Pos} {o e : Expr} {es : List Expr} {to : TE} {fo : EF} {t : TA} {fa : AF} {T id : String} {name : Str} {r : V → List V → Hp → VK → Prop} {g : D → List D → Mem → Rs D} {ok : D → Mem → Bool}
theorem je_bm (pa : PlainAttrs T) (slot : Slot T name id) (hty : typeOf (.builtin id) = pure (.type "method_descriptor")) (hm : MtR X id r) (hg : RM (gOf X ct) T r g ok) (ho : JE ct X E o to fo) (ha : JA ct X E (e :: es) t fa)
    (hbase : attributeBase o name X.env (eval o X.env) = eval o X.env := by rfl)
    (hfew : ((backTo cpos (starEach (e :: es) X.env)).all (fun x => !x.1) && (backToKw cpos (keywordEach [] X.env)).all (fun x => x.1.isSome)
      && decide ((e :: es).length + ([] : List Keyword).length + (if ([] : List Keyword).isEmpty then 0 else 1) < 30)) = true := by rfl)
    (hline : (apos.endLine == cpos.line) = true := by rfl) (hs : starEach (e :: es) X.env = (false, eval e X.env) :: starEach es X.env := by rfl) (hplain : (backTo cpos (starEach es X.env)).any (·.1) = false := by rfl) :
    JE ct X E (.Call (.Attribute o name apos) (e :: es) [] cpos) (tBM X.K T r to t) (xBM g ok fo fa) := ⟨pe_bm pa slot hty hm ho.p ha.p hbase hfew hline hs hplain, de_bm hg ho.d ha.d⟩
end
end J
/-! J, eighth part: statements without loops. -/
namespace J
open PySem L2

def sSkip : SF := fun δ M => .ok (.nx δ) M
def sStuck : SF := fun _ _ => .stuck
def sBreak : SF := fun δ M => .ok (.bk δ) M
def sCont : SF := fun δ M => .ok (.ct δ) M
def sSeq (f g : SF) : SF := fun δ M => (f δ M).bind fun fl M1 => match fl with | .nx δ1 => g δ1 M1 | fl => .ok fl M1
def sDrop (f : EF) : SF := fun δ M => (f δ M).bind fun _ M1 => .ok (.nx δ) M1
def sRet (f : EF) : SF := fun δ M => (f δ M).bind fun d M1 => .ok (.rt d) M1
def sRetN : SF := fun _ M => .ok (.rt .non) M
def sIf (c : TF) (f g : SF) : SF := fun δ M => (c δ M).bind fun b M1 => if b = true then f δ M1 else g δ M1
/-- targets -/
abbrev GF := D → Dv → Mem → Rs Dv
abbrev GFs := List D → Dv → Mem → Rs Dv
def GoG (G : Gc) (ρ : List Addr) (H : Hp) (Q : St → Hp → Prop) : Dv → Mem → Prop := fun δ M' => ∀ ρ' H' σ, Ex ρ H ρ' H' → Rm G ρ' H' M' → Sl G.K ρ' H' σ δ → Q σ H'
def DG (G : Gc) (E : XE) (t : TG) (f : GF) : Prop := ∀ v d σ δ ρ H M Q, Rep G.K ρ H v d → Sl G.K ρ H σ δ → Rm G ρ H M → Sat (f d δ M) (GoG G ρ H Q) (GoX G ρ H E) → t v σ H Q
def DGs (G : Gc) (E : XE) (t : TGs) (f : GFs) : Prop := ∀ vs ds σ δ ρ H M Q, RepAll G.K ρ H vs ds → Sl G.K ρ H σ δ → Rm G ρ H M → Sat (f ds δ M) (GoG G ρ H Q) (GoX G ρ H E) → t vs σ H Q
def tgName (i : Nat) : GF := fun d δ M => .ok (δ.set i (some d)) M
def tgNil : GFs := fun ds δ M => match ds with | [] => .ok δ M | _ => .stuck
def tgCons (f : GF) (g : GFs) : GFs := fun ds δ M => match ds with | d :: r => (f d δ M).bind fun δ1 M1 => g r δ1 M1 | [] => .stuck
def tgTup (n : Nat) (f : GFs) : GF := fun d δ M => match d with | .tup xs => Rs.grd (xs.length = n) (f xs δ M) | _ => .stuck
def sAsg (f : EF) (g : GF) : SF := fun δ M => (f δ M).bind fun d M1 => (g d δ M1).bind fun δ1 M2 => .ok (.nx δ1) M2
def sPar (i j : Nat) (f : AF) : SF := fun δ M => (f δ M).bind fun ds M1 => match ds with | [a, b] => .ok (.nx ((δ.set i (some a)).set j (some b))) M1 | _ => .stuck
section
variable {G : Gc} {E : XE}
theorem GoG.weak {ρ ρ' : List Addr} {H H' : Hp} {Q : St → Hp → Prop} {δ : Dv} {M : Mem} (e : Ex ρ H ρ' H') (h : GoG G ρ H Q δ M) : GoG G ρ' H' Q δ M := fun ρ2 H2 v e2 => h ρ2 H2 v (e.trans e2)
theorem dg_name {i : Nat} : DG G E (gName i) (tgName i) := fun v d σ δ ρ H M Q r hs hr h => h ρ H _ Ex.refl hr (hs.set r)
theorem dgs_nil : DGs G E gNil tgNil := by
  intro vs ds σ δ ρ H M Q r hs hr h
  unfold tgNil at h
  split at h
  · cases r; exact ⟨rfl, h ρ H σ Ex.refl hr hs⟩
  · exact h.elim
theorem dgs_cons {t : TG} {u : TGs} {f : GF} {g : GFs} (h1 : DG G E t f) (h2 : DGs G E u g) : DGs G E (gCons t u) (tgCons f g) := by
  intro vs ds σ δ ρ H M Q r hs hr h
  unfold tgCons at h
  split at h
  · cases r with
    | cons r1 r2 =>
      refine ⟨_, _, rfl, ?_⟩
      rw [Sat.bind] at h
      refine h1 _ _ σ δ ρ H M _ r1 hs hr (h.mono (fun δ1 M1 q ρ1 H1 σ1 e1 R1 s1 => ?_) fun _ _ _ z => z)
      exact h2 _ _ σ1 δ1 ρ1 H1 M1 Q (r2.mono e1) s1 R1 (q.mono (fun _ _ z => z.weak e1) fun _ _ _ z => z.weak e1)
  · exact h.elim
theorem dg_tup {n : Nat} {u : TGs} {g : GFs} (h2 : DGs G E u g) : DG G E (gTup G.K n u) (tgTup n g) := by
  intro v d σ δ ρ H M Q r hs hr h
  unfold tgTup at h
  split at h
  · obtain ⟨c, h⟩ := h.grd
    obtain ⟨a, vs, rfl, ht, rvs⟩ := r.tup_of
    exact ⟨a, vs, rfl, ht, by rw [rvs.length]; exact c, h2 vs _ σ δ ρ H M Q rvs hs hr h⟩
  · exact h.elim
theorem ds_skip : DS G E tNext sSkip := fun D σ δ ρ H M hs hr h => h ρ H σ Ex.refl hr hs
theorem ds_never : DS G E tNever sStuck := fun D σ δ ρ H M hs hr h => h
theorem ds_break : DS G E tBreak sBreak := fun D σ δ ρ H M hs hr h => h ρ H σ Ex.refl hr hs
theorem ds_cont : DS G E tCont sCont := fun D σ δ ρ H M hs hr h => h ρ H σ Ex.refl hr hs
theorem ds_seq {t u : TS} {f g : SF} (h1 : DS G E t f) (h2 : DS G E u g) : DS G E (tSeq t u) (sSeq f g) := by
  intro D σ δ ρ H M hs hr h
  unfold sSeq at h
  rw [Sat.bind] at h
  refine h1 { D with nx := u D } σ δ ρ H M hs hr (h.mono (fun fl M1 q => ?_) fun _ _ _ z => z)
  cases fl with
  | nx δ1 => exact fun ρ1 H1 σ1 e1 R1 s1 => h2 D σ1 δ1 ρ1 H1 M1 s1 R1 (Sat.mono (show Sat (g δ1 M1) _ _ from q) (fun _ _ z => z.weak e1) fun _ _ _ z => z.weak e1)
  | rt d => exact q
  | bk δ1 => exact q
  | ct δ1 => exact q
theorem ds_drop {te : TE} {f : EF} (ha : DE G E te f) : DS G E (L2.tDrop te) (sDrop f) := by
  intro D σ δ ρ H M hs hr h
  show te σ H _
  refine DE.bind (P := GoS G ρ H D) ha hs hr h fun d M1 ρ1 H1 v e1 s1 r1 rv h1 => ?_
  exact h1 ρ1 H1 σ e1 r1 s1
theorem ds_ret {te : TE} {f : EF} (ha : DE G E te f) : DS G E (tRet te) (sRet f) := by
  intro D σ δ ρ H M hs hr h
  show te σ H _
  refine DE.bind (P := GoS G ρ H D) ha hs hr h fun d M1 ρ1 H1 v e1 s1 r1 rv h1 => ?_
  exact h1 ρ1 H1 v e1 r1 rv
theorem ds_retN : DS G E tRetN sRetN := fun D σ δ ρ H M hs hr h => h ρ H .non Ex.refl hr .non
theorem ds_if {tc : TT} {t u : TS} {c : TF} {f g : SF} (hc : DT G E tc c) (h1 : DS G E t f) (h2 : DS G E u g) : DS G E (tIfS tc t u) (sIf c f g) := by
  intro D σ δ ρ H M hs hr h
  show tc σ H _
  refine DT.bind (P := GoS G ρ H D) hc hs hr h fun b M1 ρ1 H1 e1 s1 r1 q => ?_
  cases b with
  | true => exact h1 D σ δ ρ1 H1 M1 s1 r1 (Sat.mono (show Sat (f δ M1) _ _ from q) (fun _ _ z => z.weak e1) fun _ _ _ z => z)
  | false => exact h2 D σ δ ρ1 H1 M1 s1 r1 (Sat.mono (show Sat (g δ M1) _ _ from q) (fun _ _ z => z.weak e1) fun _ _ _ z => z)
theorem ds_asg {te : TE} {f : EF} {t : TG} {g : GF} (ha : DE G E te f) (hg : DG G E t g) : DS G E (tAsg te t) (sAsg f g) := by
  intro D σ δ ρ H M hs hr h
  show te σ H _
  refine DE.bind (P := GoS G ρ H D) ha hs hr h fun d M1 ρ1 H1 v e1 s1 r1 rv h1 => ?_
  rw [Sat.bind] at h1
  refine hg v d σ δ ρ1 H1 M1 _ rv s1 r1 (h1.mono (fun δ1 M2 q ρ2 H2 σ2 e2 R2 s2 => ?_) fun _ _ _ z => z)
  exact q ρ2 H2 σ2 (e1.trans e2) R2 s2
theorem ds_par {i j : Nat} {ta : TA} {f : AF} (ha : DA G E ta f) : DS G E (tPar i j ta) (sPar i j f) := by
  intro D σ δ ρ H M hs hr h
  show ta σ H _
  refine DA.bind (P := GoS G ρ H D) ha hs hr h fun ds M1 ρ1 H1 vs e1 s1 r1 rvs h1 => ?_
  try dsimp only at h1
  split at h1
  · obtain ⟨v, u, rfl, rv, ru⟩ := rvs.two
    exact ⟨v, u, rfl, h1 ρ1 H1 _ e1 r1 ((s1.set rv).set ru)⟩
  · exact h1.elim
end

/-! ### d[k] = v, o.f = v -/
def DPutU (P : Program) (w : World) (H : Hp) (a : Addr) (y v : V) (H' : Hp) : Prop := DPut H a y v H' ∨ ∃ k kvs, y = .bl k ∧ H a = some (hBd P w a kvs) ∧ kvs.length < sizeLine ∧ H' = upd H a (hBd P w a (putK kvs k v))
def sDPutU (P : Program) (w : World) (td ty tv : TE) : TS := fun D σ H => tv σ H fun v H1 => td σ H1 fun x H2 => ty σ H2 fun y H3 => ∃ a H4, x = .ref a ∧ DPutU P w H3 a y v H4 ∧ D.nx σ H4
theorem ps_dputU {X : Cx} {o i value : Expr} {pos pos' : Pos} {td ty tv : TE} (hu : X.A.units + 1 < cLine) (ho : PE X o td) (hi : PE X i ty) (hv : PE X value tv) (hs : swapsWith value (some (.Subscript o i pos')) pos.line X.env = pure false) :
    PS X (.Assign [.Subscript o i pos'] value pos) (sDPutU X.prog X.w td ty tv) := by
  refine ⟨fun pins s σ H D I h => ?_⟩
  refine wpAny_Assign_Subscript (thn (hv.run pins s σ H _ I h) fun r s1 ⟨v, H1, I1, rv, q1⟩ => thn (ho.run pins s1 σ H1 _ I1 q1) fun u s2 ⟨x, H2, I2, rx, q2⟩ => thn (hi.run pins s2 σ H2 _ I2 q2) fun iv s3 ⟨y, H3, I3, ry, a, H4, ex, g, q3⟩ => ?_) hs
  subst ex
  obtain rfl : u = Value.ref a := rx
  rcases g with g | ⟨k, kvs, rfl, e, l, rfl⟩
  · exact d_setItem hu I3 g ry rv fun s4 I4 => ⟨σ, H4, I4, q3⟩
  · cases (show iv = Value.bool k from ry)
    exact b_setItem I3 e rv l fun s4 I4 => ⟨σ, _, I4, q3⟩
def gDPut (x y v : D) (M : Mem) : Option Mem := match x with
  | .m k => match M[k]? with
    | some (.dct kvs) => if kvs.length < sizeLine then (keyOf y).map fun q => M.set k (.dct (putD kvs q v)) else none
    | some (.bd kvs) => if kvs.length < sizeLine then match y with | .bl b => some (M.set k (.bd (putD kvs b v))) | _ => none else none
    | _ => none
  | _ => none
def sDPut (fv fo fi : EF) : SF := fun δ M => (fv δ M).bind fun v M1 => (fo δ M1).bind fun x M2 => (fi δ M2).bind fun y M3 => match gDPut x y v M3 with | some M4 => .ok (.nx δ) M4 | none => .stuck
def sSFld (c i : Nat) (fv fo : EF) : SF := fun δ M => (fv δ M).bind fun v M1 => (fo δ M1).bind fun x M2 => match x with
  | .m k => match M2[k]? with
    | some (.ins c' fs) => if c' = c then (if i < fs.length then .ok (.nx δ) (M2.set k (.ins c (fs.set i v))) else if i = fs.length then .ok (.nx δ) (M2.set k (.ins c (fs ++ [v]))) else .stuck) else .stuck
    | _ => .stuck
  | _ => .stuck
section
variable {G : Gc} {E : XE} {tv to ti : TE} {fv fo fi : EF}
theorem ds_dput (hv : DE G E tv fv) (ho : DE G E to fo) (hi : DE G E ti fi) : DS G E (sDPutU G.P G.w to ti tv) (sDPut fv fo fi) := by
  intro D σ δ ρ H M hs hr h
  show tv σ H _
  refine DE.bind (P := GoS G ρ H D) hv hs hr h fun v M1 ρ1 H1 vv e1 s1 r1 rv h1 => ?_
  refine DE.bind (P := GoS G ρ H D) ho s1 r1 h1 fun x M2 ρ2 H2 vx e2 s2 r2 rx h2 => ?_
  refine DE.bind (P := GoS G ρ H D) hi s2 r2 h2 fun y M3 ρ3 H3 vy e3 s3 r3 ry h3 => ?_
  try dsimp only at h3
  split at h3
  · rename_i M4 e
    unfold gDPut at e
    split at e
    · obtain ⟨a, rfl, ea⟩ := rx.m_of
      have ea3 := e3.pre _ _ ea
      have rv3 := rv.mono (e2.trans e3)
      split at e
      · rename_i kvs ek
        split at e
        · rename_i c
          obtain ⟨q, eq, rfl⟩ := Option.map_eq_some_iff.mp e
          obtain ⟨vs, hv, rvs⟩ := r3.get ek ea3
          have ex : Ex ρ3 H3 ρ3 (upd H3 a (.dK (putK vs q vv))) := ex_set hv (fun z => z)
          rw [keyOf_v ry eq]
          exact ⟨a, _, rfl, .inl (DPut.k hv (by rw [rvs.length]; exact c)), h3 ρ3 _ σ (((e1.trans e2).trans e3).trans ex) (r3.set ek ea3 ⟨_, upd_same, (rvs.put q rv3).mono ex⟩) (s3.mono ex)⟩
        · cases e
      · rename_i kvs ek
        split at e
        · rename_i c
          split at e
          · rename_i b0
            cases e
            obtain ⟨vs, hv, rvs⟩ := r3.get ek ea3
            have ex : Ex ρ3 H3 ρ3 (upd H3 a (hBd G.P G.w a (putK vs b0 vv))) := ex_set hv (fun z => z)
            rw [ry.bl_of]
            exact ⟨a, _, rfl, .inr ⟨_, vs, rfl, hv, by rw [rvs.length]; exact c, rfl⟩, h3 ρ3 _ σ (((e1.trans e2).trans e3).trans ex) (r3.set ek ea3 ⟨_, upd_same, (rvs.put _ rv3).mono ex⟩) (s3.mono ex)⟩
          · cases e
        · cases e
      · cases e
    · cases e
  · exact h3.elim
theorem ds_sfld {c i : Nat} {f : Str} {C : Addr} {names : List Str} (cf : CF G.ct G.K c i f C names) (hv : DE G E tv fv) (ho : DE G E to fo) : DS G E (sFld G.K to tv f) (sSFld c i fv fo) := by
  intro D σ δ ρ H M hs hr h
  show tv σ H _
  refine DE.bind (P := GoS G ρ H D) hv hs hr h fun v M1 ρ1 H1 vv e1 s1 r1 rv h1 => ?_
  refine DE.bind (P := GoS G ρ H D) ho s1 r1 h1 fun x M2 ρ2 H2 vx e2 s2 r2 rx h2 => ?_
  try dsimp only at h2
  split at h2
  · obtain ⟨a, rfl, ea⟩ := rx.m_of
    split at h2
    · rename_i c' fs e
      split at h2
      · rename_i ec
        subst ec
        obtain ⟨C', n', dx, vs, q1, q2, q3, q4, q5, q6⟩ := r2.get e ea
        rw [cf.at_] at q1; cases q1
        have hl := q6.length
        have rv2 := rv.mono e2
        obtain ⟨z1, z2⟩ := zip_put (v := vv) q2 cf.ix (vs := vs) (by omega)
        refine ⟨a, C, dx, _, rfl, q5, cf.cl, cf.no, by rw [List.length_zip]; omega, ?_⟩
        split at h2
        · rename_i hi
          rw [z1 (by omega)]
          have ex : Ex ρ2 H2 ρ2 (upd H2 a (.ins C dx (names.zip (vs.set i vv)))) := ex_set q5 (fun z => z)
          exact h2 ρ2 _ σ ((e1.trans e2).trans ex) (r2.set e ea ⟨C, names, dx, _, cf.at_, q2, by simpa using q3, q4, upd_same, (q6.set i rv2).mono ex⟩) (s2.mono ex)
        · split at h2
          · rename_i hi
            rw [z2 (by omega)]
            have hin : i < names.length := (List.getElem?_eq_some_iff.mp cf.ix).1
            have ex : Ex ρ2 H2 ρ2 (upd H2 a (.ins C dx (names.zip (vs ++ [vv])))) := ex_set q5 (fun z => z)
            exact h2 ρ2 _ σ ((e1.trans e2).trans ex) (r2.set e ea ⟨C, names, dx, _, cf.at_, q2, by simp; omega, q4, upd_same, (q6.append (.cons rv2 .nil)).mono ex⟩) (s2.mono ex)
          · exact h2.elim
      · exact h2.elim
    · exact h2.elim
  · exact h2.elim
end

/-! ### the rules with their texts -/
section
variable {ct : List (Addr × List Str)} {X : Cx} {E : XE} {pos pos' : Pos} {e c o i : Expr} {st : Stmt} {rest a b : List Stmt} {te to ti : TE} {fe fo fi : EF} {t u : TS} {f g : SF} {tc : TT} {fc : TF}
structure JG (ct : List (Addr × List Str)) (X : Cx) (E : XE) (tg : Expr) (t : TG) (f : GF) : Prop where
  p : PG X tg t
  d : DG (gOf X ct) E t f
structure JGs (ct : List (Addr × List Str)) (X : Cx) (E : XE) (tg : List Expr) (t : TGs) (f : GFs) : Prop where
  p : PGs X tg t
  d : DGs (gOf X ct) E t f
theorem jg_name (i : Nat) {x : Str} (hN : X.N.Nodup) (hi : X.N[i]? = some x := by rfl) (hx : Loc X.env.scope x := by first | exact Or.inl rfl | exact Or.inr rfl) (hf : X.fn x = true ∨ X.env.scope.names.lookup x = some .local := by first | exact .inl rfl | exact .inr rfl) : JG ct X E (.Name x pos) (gName i) (tgName i) := ⟨pg_name hN hi hx hf, dg_name⟩
theorem jgs_nil : JGs ct X E [] gNil tgNil := ⟨pgs_nil, dgs_nil⟩
theorem jgs_cons {e : Expr} {es : List Expr} {t : TG} {u : TGs} {f : GF} {g : GFs} (h1 : JG ct X E e t f) (h2 : JGs ct X E es u g) (hs : (assignEach (e :: es) X.env).map (·.2) = assign e X.env :: (assignEach es X.env).map (·.2) := by rfl) : JGs ct X E (e :: es) (gCons t u) (tgCons f g) := ⟨pgs_cons h1.p h2.p hs, dgs_cons h1.d h2.d⟩
theorem jg_tup {es : List Expr} {k : Nat} {t : TGs} {f : GFs} (n : Nat) (hc : X.calm = true) (h : JGs ct X E es t f) (hn : (assignEach es X.env).length = n := by rfl) (hst : (assignEach es X.env).findIdx? (·.1) = none := by rfl) : JG ct X E (.Tuple es k pos) (gTup X.K n t) (tgTup n f) := ⟨pg_tup hc h.p hn hst, dg_tup h.d⟩
theorem jss_nil : JSs ct X E [] tNext sSkip := ⟨pss_nil, ds_skip⟩
theorem jss_cons (h1 : JS ct X E st t f) (h2 : JSs ct X E rest u g) : JSs ct X E (st :: rest) (tSeq t u) (sSeq f g) := ⟨pss_cons h1.p h2.p, ds_seq h1.d h2.d⟩
theorem jss_one (h1 : JS ct X E st t f) : JSs ct X E [st] t f := ⟨pss_one h1.p, h1.d⟩
theorem js_pass : JS ct X E (.Pass pos) tNext sSkip := ⟨ps_pass, ds_skip⟩
theorem js_never : JS ct X E st tNever sStuck := ⟨ps_never, ds_never⟩
theorem jss_never {sts : List Stmt} : JSs ct X E sts tNever sStuck := ⟨pss_never, ds_never⟩
theorem js_break : JS ct X E (.Break pos) tBreak sBreak := ⟨ps_break, ds_break⟩
theorem js_cont : JS ct X E (.Continue pos) tCont sCont := ⟨ps_continue, ds_cont⟩
theorem js_expr (he : JE ct X E e te fe) (hs : swapsWith e none pos.line X.env = pure false := by rfl) : JS ct X E (.Expr e pos) (L2.tDrop te) (sDrop fe) := ⟨ps_expr he.p hs, ds_drop he.d⟩
theorem js_ret (he : JE ct X E e te fe) : JS ct X E (.Return (some e) pos) (tRet te) (sRet fe) := ⟨ps_ret he.p, ds_ret he.d⟩
theorem js_retN : JS ct X E (.Return none pos) tRetN sRetN := ⟨ps_retN, ds_retN⟩
theorem js_if (hc : JT ct X E c tc fc) (h1 : JSs ct X E a t f) (h2 : JSs ct X E b u g) : JS ct X E (.If c a b pos) (tIfS tc t u) (sIf fc f g) := ⟨ps_if hc.p h1.p h2.p, ds_if hc.d h1.d h2.d⟩
theorem js_set (i : Nat) {x : Str} (hN : X.N.Nodup) (he : JE ct X E e te fe) (hi : X.N[i]? = some x := by rfl) (hx : Loc X.env.scope x := by first | exact Or.inl rfl | exact Or.inr rfl) (hs : swapsWith e (some (.Name x pos')) pos.line X.env = pure false := by rfl)
    (hf : X.fn x = true ∨ X.env.scope.names.lookup x = some .local := by first | exact .inl rfl | exact .inr rfl) : JS ct X E (.Assign [.Name x pos'] e pos) (tAsg te (gName i)) (sAsg fe (tgName i)) := ⟨ps_set hN hi hx he.p hs hf, ds_asg he.d dg_name⟩
theorem js_asg {tg : Expr} {tt : TG} {ff : GF} (he : JE ct X E e te fe) (hg : JG ct X E tg tt ff) (hs : swapsWithSole [tg] e pos.line X.env = pure false := by rfl) (hw : swappedStores [tg] e X.env = pure none := by rfl) (h1 : (assignEach [tg] X.env).map (·.2) = [assign tg X.env] := by rfl) : JS ct X E (.Assign [tg] e pos) (tAsg te tt) (sAsg fe ff) := ⟨ps_asg he.p hg.p hs hw h1, ds_asg he.d hg.d⟩
theorem js_par (i j : Nat) {x y : Str} {a b : Expr} {ta : TA} {fa : AF} {px py pt : Pos} {kt k2 pt2} (hc : X.calm = true) (hN : X.N.Nodup) (ha : JA ct X E [a, b] ta fa) (hi : X.N[i]? = some x := by rfl) (hj : X.N[j]? = some y := by rfl) (hij : i ≠ j := by decide)
    (hx : X.env.scope.names.lookup x = some .local := by rfl) (hy : X.env.scope.names.lookup y = some .local := by rfl)
    (hw : swappedStores [.Tuple [.Name x px, .Name y py] kt pt] (.Tuple [a, b] k2 pt2) X.env = pure (some [x, y]) := by rfl)
    (hs : swapsWithSole [.Tuple [.Name x px, .Name y py] kt pt] (.Tuple [a, b] k2 pt2) pos.line X.env = pure false := by rfl) :
    JS ct X E (.Assign [.Tuple [.Name x px, .Name y py] kt pt] (.Tuple [a, b] k2 pt2) pos) (tPar i j ta) (sPar i j fa) := ⟨ps_par hc hN hi hj hij hx hy ha.p hw hs, ds_par ha.d⟩
theorem js_dput {tv : TE} {fv : EF} {value : Expr} (hu : X.A.units + 1 < cLine) (hv : JE ct X E value tv fv) (ho : JE ct X E o to fo) (hi : JE ct X E i ti fi) (hs : swapsWith value (some (.Subscript o i pos')) pos.line X.env = pure false := by rfl) :
    JS ct X E (.Assign [.Subscript o i pos'] value pos) (sDPutU X.prog X.w to ti tv) (sDPut fv fo fi) := ⟨ps_dputU hu ho.p hi.p hv.p hs, ds_dput hv.d ho.d hi.d⟩
theorem js_fld {tv : TE} {fv : EF} {value : Expr} {n k : Nat} {nm : Str} {C : Addr} {names : List Str} (cf : CF ct X.K n k nm C names) (hv : JE ct X E value tv fv) (ho : JE ct X E o to fo) (hs : swapsWith value (some (.Attribute o nm pos')) pos.line X.env = pure false := by rfl) :
    JS ct X E (.Assign [.Attribute o nm pos'] value pos) (sFld X.K to tv nm) (sSFld n k fv fo) := ⟨ps_fld ho.p hv.p hs, ds_sfld cf hv.d ho.d⟩
end
end J
/-! J, ninth part: loops. -/
namespace J
open PySem L2

def loopV (f : D → SF) : List D → SF
  | [] => fun δ M => .ok (.nx δ) M
  | x :: xs => fun δ M => (f x δ M).bind fun fl M1 => match fl with
    | .nx δ1 => loopV f xs δ1 M1
    | .ct δ1 => loopV f xs δ1 M1
    | .bk δ1 => .ok (.nx δ1) M1
    | .rt d => .ok (.rt d) M1
def loopK (f : D → SF) (w : Nat → D → D) (k : Nat) : Nat → Nat → SF
  | 0, _ => fun _ _ => .stuck
  | n + 1, i => fun δ M => match M[k]? with
    | some (.lst xs) => match xs[i]? with
      | some x => (f (w i x) δ M).bind fun fl M1 => match fl with
        | .nx δ1 => loopK f w k n (i + 1) δ1 M1
        | .ct δ1 => loopK f w k n (i + 1) δ1 M1
        | .bk δ1 => .ok (.nx δ1) M1
        | .rt d => .ok (.rt d) M1
      | none => .ok (.nx δ) M
    | _ => .stuck
def bodyF (tg : GF) (b : SF) : D → SF := fun x δ M => (tg x δ M).bind b
def wId : Nat → D → D := fun _ x => x
def wEn : Nat → D → D := fun i x => .tup [.int (i : Nat), x]
def enumD : Nat → List D → List D
  | _, [] => []
  | i, x :: xs => wEn i x :: enumD (i + 1) xs
def rangeD (lo : Int) (n : Nat) : List D := (List.range n).map fun i => D.int (lo + (i : Nat))
def sFor (src : EF) (tg : GF) (b : SF) : SF := fun δ M => (src δ M).bind fun d M1 => match d with
  | .tup xs => loopV (bodyF tg b) xs δ M1
  | .rl xs => loopV (bodyF tg b) xs δ M1
  | .m k => match M1[k]? with
    | some (.lst xs) => loopK (bodyF tg b) wId k (xs.length + 1) 0 δ M1
    | _ => .stuck
  | _ => .stuck
def sForR1 (src : AF) (tg : GF) (b : SF) : SF := fun δ M => (src δ M).bind fun ds M1 => match ds with
  | [.int j] => Rs.grd (-(2 ^ 62) ≤ j ∧ j < 2 ^ 62) (loopV (bodyF tg b) (rangeD 0 j.toNat) δ M1)
  | _ => .stuck
def sForR2 (src : AF) (tg : GF) (b : SF) : SF := fun δ M => (src δ M).bind fun ds M1 => match ds with
  | [.int i, .int j] => Rs.grd (-(2 ^ 62) ≤ i ∧ i < 2 ^ 62 ∧ -(2 ^ 62) ≤ j ∧ j < 2 ^ 62) (loopV (bodyF tg b) (rangeD i (j - i).toNat) δ M1)
  | _ => .stuck
def sForE (src : AF) (tg : GF) (b : SF) : SF := fun δ M => (src δ M).bind fun ds M1 => match ds with
  | [.rl xs] => loopV (bodyF tg b) (enumD 0 xs) δ M1
  | [.m k] => match M1[k]? with
    | some (.lst xs) => loopK (bodyF tg b) wEn k (xs.length + 1) 0 δ M1
    | _ => .stuck
  | _ => .stuck

/-! ### the loops' readings -/
theorem loopV_drop (f : D → SF) {xs : List D} {i : Nat} {x : D} (h : xs[i]? = some x) (δ : Dv) (M : Mem) : loopV f (xs.drop i) δ M = (f x δ M).bind fun fl M1 => match fl with
    | .nx δ1 => loopV f (xs.drop (i + 1)) δ1 M1
    | .ct δ1 => loopV f (xs.drop (i + 1)) δ1 M1
    | .bk δ1 => .ok (.nx δ1) M1
    | .rt d => .ok (.rt d) M1 := by
  obtain ⟨hi, e⟩ := List.getElem?_eq_some_iff.mp h
  rw [List.drop_eq_getElem_cons hi, e]
  rfl
section
variable {G : Gc} {E : XE} {JJ : It} {g : TG} {tb : TS} {tg : GF} {b : SF} {D : Ends} {σ : St} {δ : Dv} {ρ : List Addr} {H : Hp} {M : Mem}
/-- what a turn gives, for the loop that goes on with k -/
theorem turn_ok {k : Dv → Mem → Rs Fl} {N : St → Hp → Prop} {x : V} {d : J.D} (hg : DG G E g tg) (hb : DS G E tb b) (r : Rep G.K ρ H x d) (hs : Sl G.K ρ H σ δ) (hr : Rm G ρ H M)
    (h : Sat ((bodyF tg b d δ M).bind fun fl M1 => match fl with | .nx δ1 => k δ1 M1 | .ct δ1 => k δ1 M1 | .bk δ1 => .ok (.nx δ1) M1 | .rt d => .ok (.rt d) M1) (GoS G ρ H D) (GoX G ρ H E))
    (hN : ∀ δ1 M1 ρ1 H1 σ1, Ex ρ H ρ1 H1 → Rm G ρ1 H1 M1 → Sl G.K ρ1 H1 σ1 δ1 → Sat (k δ1 M1) (GoS G ρ1 H1 D) (GoX G ρ1 H1 E) → N σ1 H1) :
    g x σ H fun σ2 H2 => tb { D with nx := N, ct := N, bk := D.nx } σ2 H2 := by
  unfold bodyF at h
  rw [Sat.bind, Sat.bind] at h
  refine hg x d σ δ ρ H M _ r hs hr (h.mono (fun δ1 M1 q ρ1 H1 σ1 e1 R1 s1 => ?_) fun _ _ _ z => z)
  refine hb _ σ1 δ1 ρ1 H1 M1 s1 R1 (q.mono (fun fl M2 q2 => ?_) fun _ _ _ z => z.weak e1)
  cases fl with
  | nx δ2 => exact fun ρ2 H2 σ2 e2 R2 s2 => hN δ2 M2 ρ2 H2 σ2 (e1.trans e2) R2 s2 (Sat.mono (show Sat (k δ2 M2) _ _ from q2) (fun _ _ z => z.weak (e1.trans e2)) fun _ _ _ z => z.weak (e1.trans e2))
  | ct δ2 => exact fun ρ2 H2 σ2 e2 R2 s2 => hN δ2 M2 ρ2 H2 σ2 (e1.trans e2) R2 s2 (Sat.mono (show Sat (k δ2 M2) _ _ from q2) (fun _ _ z => z.weak (e1.trans e2)) fun _ _ _ z => z.weak (e1.trans e2))
  | bk δ2 => exact fun ρ2 H2 σ2 e2 R2 s2 => GoS.weak (D := D) (fl := .nx δ2) e1 q2 ρ2 H2 σ2 e2 R2 s2
  | rt d2 => exact fun ρ2 H2 v e2 R2 s2 => GoS.weak (D := D) (fl := .rt d2) e1 q2 ρ2 H2 v e2 R2 s2
/-- over items that stay -/
theorem for_vals (hg : DG G E g tg) (hb : DS G E tb b) (items : List J.D) (hs : Sl G.K ρ H σ δ) (hr : Rm G ρ H M)
    (hgo : ∀ i ρ' H', i < items.length → Ex ρ H ρ' H' → JJ.go i H') (hstop : ∀ i ρ' H', items.length ≤ i → Ex ρ H ρ' H' → JJ.stop i H')
    (hyl : ∀ i ρ' H' M' x H'' d, Ex ρ H ρ' H' → Rm G ρ' H' M' → JJ.yld i H' x H'' → items[i]? = some d → Ex ρ' H' ρ' H'' ∧ Rm G ρ' H'' M' ∧ Rep G.K ρ' H'' x d)
    (h : Sat (loopV (bodyF tg b) items δ M) (GoS G ρ H D) (GoX G ρ H E)) :
    ∃ W : Nat → Nat → St → Hp → Prop, (∃ m, W 0 m σ H) ∧ ∀ i m σ H, W i m σ H →
      (JJ.stop i H ∧ D.nx σ H) ∨ (JJ.go i H ∧ ∃ N : St → Hp → Prop, (∀ σ' H', N σ' H' → ∃ m', m' < m ∧ W (i + 1) m' σ' H') ∧ ∀ x H', JJ.yld i H x H' → g x σ H' fun σ2 H2 => tb { D with nx := N, ct := N, bk := D.nx } σ2 H2) := by
  refine ⟨fun i m σ' H' => i ≤ items.length ∧ m = items.length - i ∧ ∃ δ' ρ' M', Ex ρ H ρ' H' ∧ Rm G ρ' H' M' ∧ Sl G.K ρ' H' σ' δ' ∧ Sat (loopV (bodyF tg b) (items.drop i) δ' M') (GoS G ρ' H' D) (GoX G ρ' H' E), ⟨_, Nat.zero_le _, rfl, δ, ρ, M, Ex.refl, hr, hs, h⟩, ?_⟩
  rintro i m σ' H' ⟨hi, rfl, δ', ρ', M', e', R', s', h'⟩
  by_cases hlt : i < items.length
  · have hx : items[i]? = some items[i] := List.getElem?_eq_getElem hlt
    rw [loopV_drop _ hx] at h'
    refine .inr ⟨hgo i ρ' H' hlt e', fun σ2 H2 => i + 1 ≤ items.length ∧ ∃ δ' ρ' M', Ex ρ H ρ' H2 ∧ Rm G ρ' H2 M' ∧ Sl G.K ρ' H2 σ2 δ' ∧ Sat (loopV (bodyF tg b) (items.drop (i + 1)) δ' M') (GoS G ρ' H2 D) (GoX G ρ' H2 E), fun σ2 H2 ⟨q1, q2⟩ => ⟨items.length - (i + 1), by omega, q1, rfl, q2⟩, fun x H2 y => ?_⟩
    obtain ⟨e2, R2, r2⟩ := hyl i ρ' H' M' x H2 _ e' R' y hx
    exact turn_ok (k := fun δ1 M1 => loopV (bodyF tg b) (items.drop (i + 1)) δ1 M1) hg hb r2 (s'.mono e2) R2 (h'.mono (fun _ _ z => z.weak e2) fun _ _ _ z => z.weak e2) fun δ1 M1 ρ1 H1 σ1 e3 R3 s3 h3 => ⟨hlt, δ1, ρ1, M1, (e'.trans e2).trans e3, R3, s3, h3⟩
  · have e : i = items.length := by omega
    subst e
    rw [List.drop_length] at h'
    exact .inl ⟨hstop _ ρ' H' (Nat.le_refl _) e', h' ρ' H' σ' Ex.refl R' s'⟩
/-- over a list of the store, as it stands at each turn -/
theorem for_cell (hg : DG G E g tg) (hb : DS G E tb b) {w : Nat → J.D → J.D} {k n : Nat} {a : Addr} (ea : ρ[k]? = some a) (hs : Sl G.K ρ H σ δ) (hr : Rm G ρ H M)
    (hgo : ∀ i H' vs x, H' a = some (.lst vs) → vs[i]? = some x → JJ.go i H') (hstop : ∀ i H' vs, H' a = some (.lst vs) → vs[i]? = none → JJ.stop i H')
    (hyl : ∀ i ρ' H' M' x H'' vs v d, Ex ρ H ρ' H' → Rm G ρ' H' M' → JJ.yld i H' x H'' → H' a = some (.lst vs) → vs[i]? = some v → Rep G.K ρ' H' v d → Ex ρ' H' ρ' H'' ∧ Rm G ρ' H'' M' ∧ Rep G.K ρ' H'' x (w i d))
    (h : Sat (loopK (bodyF tg b) w k n 0 δ M) (GoS G ρ H D) (GoX G ρ H E)) :
    ∃ W : Nat → Nat → St → Hp → Prop, (∃ m, W 0 m σ H) ∧ ∀ i m σ H, W i m σ H →
      (JJ.stop i H ∧ D.nx σ H) ∨ (JJ.go i H ∧ ∃ N : St → Hp → Prop, (∀ σ' H', N σ' H' → ∃ m', m' < m ∧ W (i + 1) m' σ' H') ∧ ∀ x H', JJ.yld i H x H' → g x σ H' fun σ2 H2 => tb { D with nx := N, ct := N, bk := D.nx } σ2 H2) := by
  refine ⟨fun i m σ' H' => ∃ δ' ρ' M', Ex ρ H ρ' H' ∧ Rm G ρ' H' M' ∧ Sl G.K ρ' H' σ' δ' ∧ Sat (loopK (bodyF tg b) w k m i δ' M') (GoS G ρ' H' D) (GoX G ρ' H' E), ⟨n, δ, ρ, M, Ex.refl, hr, hs, h⟩, ?_⟩
  rintro i m σ' H' ⟨δ', ρ', M', e', R', s', h'⟩
  cases m with
  | zero => exact h'.elim
  | succ m =>
    unfold loopK at h'
    split at h'
    · rename_i xs ek
      obtain ⟨vs, hv, rvs⟩ := R'.get ek (e'.pre _ _ ea)
      split at h'
      · rename_i d ed
        obtain ⟨v, ev, rv⟩ := rvs.get ed
        refine .inr ⟨hgo i H' vs v hv ev, fun σ2 H2 => ∃ δ' ρ' M', Ex ρ H ρ' H2 ∧ Rm G ρ' H2 M' ∧ Sl G.K ρ' H2 σ2 δ' ∧ Sat (loopK (bodyF tg b) w k m (i + 1) δ' M') (GoS G ρ' H2 D) (GoX G ρ' H2 E), fun σ2 H2 q => ⟨m, Nat.lt_succ_self _, q⟩, fun x H2 y => ?_⟩
        obtain ⟨e2, R2, r2⟩ := hyl i ρ' H' M' x H2 vs v d e' R' y hv ev rv
        exact turn_ok (k := fun δ1 M1 => loopK (bodyF tg b) w k m (i + 1) δ1 M1) hg hb r2 (s'.mono e2) R2 (h'.mono (fun _ _ z => z.weak e2) fun _ _ _ z => z.weak e2) fun δ1 M1 ρ1 H1 σ1 e3 R3 s3 h3 => ⟨δ1, ρ1, M1, (e'.trans e2).trans e3, R3, s3, h3⟩
      · rename_i ed
        have hvn : vs[i]? = none := by
          rw [List.getElem?_eq_none_iff] at ed ⊢
          rw [rvs.length]; exact ed
        exact .inl ⟨hstop i H' vs hv hvn, h' ρ' H' σ' Ex.refl R' s'⟩
    · exact h'.elim
end

/-! ### what is walked -/
def iSeq (K : PySem.W.Frag) (tl : TE) : TI := fun σ H R => tl σ H fun x H1 => ∃ a, x = .ref a ∧ (((∃ xs, SqL K H1 a xs) ∧ R (Itl K a) H1) ∨ ((∃ xs, SqT K H1 a xs) ∧ R (Itt K a) H1))
theorem pi_seq {X : Cx} {tg l : Expr} {tl : TE} (hl : PE X l tl) : PI X tg l (iSeq X.K tl) := by
  refine ⟨fun pins s σ H R I h => ?_⟩
  refine thn (hl.run pins s σ H _ I h) fun v s1 ⟨x, H1, I1, r1, q1⟩ => ?_
  obtain ⟨a, e, q1⟩ := q1
  subst e
  cases r1
  rcases q1 with ⟨⟨xs, hq⟩, q⟩ | ⟨⟨xs, hq⟩, q⟩
  · obtain ⟨its, rv, p, hz⟩ := I1.list hq
    refine wpAny_pyIter_list p.isList ?_
    refine ⟨s1.heap.objs.size, [s1.heap.objs.size], _, _, H1, rfl, I1.kept (t' := s1.toks) fun b o e => Heap.get?_push_of_some _ e, turn_list a _, ⟨_, Heap.get?_push_size _ rfl, rfl, rfl⟩, fun b hb => ?_, q⟩
    have e : b = s1.heap.objs.size := by simpa using hb
    subst e
    exact I1.fpOk (Nat.le_refl _) (I1.hok.fresh (Nat.le_refl _))
  · obtain ⟨its, rv, p, hz⟩ := I1.tuple hq
    refine wpAny_pyIter_tuple (show s1.heap.IsTuple a its.toArray from p) ?_
    refine ⟨s1.heap.objs.size, [s1.heap.objs.size], _, _, H1, rfl, I1.kept (t' := s1.toks) fun b o e => Heap.get?_push_of_some _ e, turn_tuple a _, ⟨_, Heap.get?_push_size _ rfl, rfl, rfl⟩, fun b hb => ?_, q⟩
    have e : b = s1.heap.objs.size := by simpa using hb
    subst e
    exact I1.fpOk (Nat.le_refl _) (I1.hok.fresh (Nat.le_refl _))
theorem get_ge {α : Type} {xs : List α} {i : Nat} (h : xs.length ≤ i) : xs[i]? = none := List.getElem?_eq_none_iff.mpr h
theorem enumD_get : ∀ (xs : List D) (s i : Nat), (enumD s xs)[i]? = (xs[i]?).map (wEn (s + i))
  | [], s, i => by simp [enumD]
  | x :: xs, s, 0 => by simp [enumD]
  | x :: xs, s, i + 1 => by
    rw [enumD, List.getElem?_cons_succ, List.getElem?_cons_succ, enumD_get xs (s + 1) i]
    have e : s + 1 + i = s + (i + 1) := by omega
    rw [e]
theorem enumD_length : ∀ (xs : List D) (s : Nat), (enumD s xs).length = xs.length
  | [], s => rfl
  | x :: xs, s => by simp [enumD, enumD_length xs]
section
variable {G : Gc} {E : XE} {g : TG} {tb : TS} {tg : GF} {b : SF}
theorem ds_for {te : TE} {fe : EF} (he : DE G E te fe) (hg : DG G E g tg) (hb : DS G E tb b) : DS G E (tFor (iSeq G.K te) g tb) (sFor fe tg b) := by
  intro D σ δ ρ H M hs hr h
  show te σ H _
  refine DE.bind (P := GoS G ρ H D) he hs hr h fun d M1 ρ1 H1 v e1 s1 r1 rv h1 => ?_
  replace h1 : Sat _ (GoS G ρ1 H1 D) (GoX G ρ1 H1 E) := h1.mono (fun _ _ z => z.weak e1) fun _ _ _ z => z
  split at h1
  · obtain ⟨a, vs, rfl, ht, rvs⟩ := rv.tup_of
    refine ⟨a, rfl, .inr ⟨⟨vs, ht⟩, for_vals hg hb _ s1 r1 (fun i ρ' H' hi e => ?_) (fun i ρ' H' hi e => ⟨vs, e.sqT ht, by rw [rvs.length]; exact hi⟩) (fun i ρ' H' M' x H'' d e R y ed => ?_) h1⟩⟩
    · rw [← rvs.length] at hi
      exact ⟨vs, vs[i], e.sqT ht, List.getElem?_eq_getElem hi⟩
    · obtain ⟨rfl, y⟩ := y
      obtain ⟨v, ev, rv'⟩ := rvs.get (by first | exact ed2 | exact ed)
      have := y vs (e.sqT ht)
      rw [ev] at this; cases this
      exact ⟨Ex.refl, R, rv'.mono e⟩
  · obtain ⟨a, vs, rfl, ht, rvs⟩ := rv.rl_of
    refine ⟨a, rfl, .inl ⟨⟨vs, ht.sq⟩, for_vals hg hb _ s1 r1 (fun i ρ' H' hi e => ?_) (fun i ρ' H' hi e => ⟨vs, (e.fzL ht).sq, by rw [rvs.length]; exact hi⟩) (fun i ρ' H' M' x H'' d e R y ed => ?_) h1⟩⟩
    · rw [← rvs.length] at hi
      exact ⟨vs, vs[i], (e.fzL ht).sq, List.getElem?_eq_getElem hi⟩
    · obtain ⟨rfl, y⟩ := y
      obtain ⟨v, ev, rv'⟩ := rvs.get (by first | exact ed2 | exact ed)
      have := y vs (e.fzL ht).sq
      rw [ev] at this; cases this
      exact ⟨Ex.refl, R, rv'.mono e⟩
  · obtain ⟨a, rfl, ea⟩ := rv.m_of
    split at h1
    · rename_i xs ek
      obtain ⟨vs, hv, rvs⟩ := r1.get ek ea
      refine ⟨a, rfl, .inl ⟨⟨vs, SqL.of hv⟩, for_cell hg hb ea s1 r1 (fun i H' vs x hv hx => ⟨vs, x, SqL.of hv, hx⟩) (fun i H' vs hv hn => ⟨vs, SqL.of hv, List.getElem?_eq_none_iff.mp hn⟩) (fun i ρ' H' M' x H'' vs v d e R y hv ev rv' => ?_) h1⟩⟩
      obtain ⟨rfl, y⟩ := y
      have := y vs (SqL.of hv)
      rw [ev] at this; cases this
      exact ⟨Ex.refl, R, rv'⟩
    · exact h1.elim
  · exact h1.elim
theorem rangeD_get {lo : Int} {n i : Nat} {d : D} (h : (rangeD lo n)[i]? = some d) : d = .int (lo + (i : Nat)) := by
  unfold rangeD at h
  rw [List.getElem?_map] at h
  obtain ⟨j, hj, rfl⟩ := Option.map_eq_some_iff.mp h
  obtain ⟨hi, e⟩ := List.getElem?_eq_some_iff.mp hj
  simp at e; subst e; rfl
theorem rangeD_length {lo : Int} {n : Nat} : (rangeD lo n).length = n := by simp [rangeD]
theorem ds_forR1 {ta : TA} {fa : AF} (he : DA G E ta fa) (hg : DG G E g tg) (hb : DS G E tb b) : DS G E (tFor (iRng1 ta) g tb) (sForR1 fa tg b) := by
  intro D σ δ ρ H M hs hr h
  show ta σ H _
  refine DA.bind (P := GoS G ρ H D) he hs hr h fun ds M1 ρ1 H1 vs e1 s1 r1 rvs h1 => ?_
  replace h1 : Sat _ (GoS G ρ1 H1 D) (GoX G ρ1 H1 E) := h1.mono (fun _ _ z => z.weak e1) fun _ _ _ z => z
  split at h1
  · rename_i j
    obtain ⟨c, h1⟩ := h1.grd
    obtain ⟨v, rfl, rv⟩ := rvs.one
    rw [rv.int_of]
    refine ⟨j, rfl, c.1, c.2, for_vals hg hb _ s1 r1 (fun i ρ' H' hi e => by rw [rangeD_length] at hi; exact hi) (fun i ρ' H' hi e => by rw [rangeD_length] at hi; exact hi) (fun i ρ' H' M' x H'' d e R y ed => ?_) h1⟩
    obtain ⟨rfl, rfl⟩ := y
    rw [rangeD_get ed]
    exact ⟨Ex.refl, R, .int _⟩
  · exact h1.elim
theorem ds_forR2 {ta : TA} {fa : AF} (he : DA G E ta fa) (hg : DG G E g tg) (hb : DS G E tb b) : DS G E (tFor (iRng2 ta) g tb) (sForR2 fa tg b) := by
  intro D σ δ ρ H M hs hr h
  show ta σ H _
  refine DA.bind (P := GoS G ρ H D) he hs hr h fun ds M1 ρ1 H1 vs e1 s1 r1 rvs h1 => ?_
  replace h1 : Sat _ (GoS G ρ1 H1 D) (GoX G ρ1 H1 E) := h1.mono (fun _ _ z => z.weak e1) fun _ _ _ z => z
  split at h1
  · rename_i i0 j
    obtain ⟨c, h1⟩ := h1.grd
    obtain ⟨v, u, rfl, rv, ru⟩ := rvs.two
    rw [rv.int_of, ru.int_of]
    refine ⟨i0, j, rfl, c, for_vals hg hb _ s1 r1 (fun i ρ' H' hi e => by rw [rangeD_length] at hi; exact hi) (fun i ρ' H' hi e => by rw [rangeD_length] at hi; exact hi) (fun i ρ' H' M' x H'' d e R y ed => ?_) h1⟩
    obtain ⟨rfl, rfl⟩ := y
    rw [rangeD_get ed]
    exact ⟨Ex.refl, R, .int _⟩
  · exact h1.elim
theorem ds_forE {ta : TA} {fa : AF} (he : DA G E ta fa) (hg : DG G E g tg) (hb : DS G E tb b) : DS G E (tFor (iEnum G.K ta) g tb) (sForE fa tg b) := by
  intro D σ δ ρ H M hs hr h
  show ta σ H _
  refine DA.bind (P := GoS G ρ H D) he hs hr h fun ds M1 ρ1 H1 vs e1 s1 r1 rvs h1 => ?_
  replace h1 : Sat _ (GoS G ρ1 H1 D) (GoX G ρ1 H1 E) := h1.mono (fun _ _ z => z.weak e1) fun _ _ _ z => z
  split at h1
  · rename_i xs
    obtain ⟨v, rfl, rv⟩ := rvs.one
    obtain ⟨a, vs, rfl, ht, rvs⟩ := rv.rl_of
    refine ⟨a, vs, rfl, ht.sq, for_vals hg hb _ s1 r1 (fun i ρ' H' hi e => ?_) (fun i ρ' H' hi e => ⟨vs, (e.fzL ht).sq, by rw [rvs.length, ← enumD_length xs 0]; exact hi⟩) (fun i ρ' H' M' x H'' d e R y ed => ?_) h1⟩
    · rw [enumD_length, ← rvs.length] at hi
      exact ⟨vs, vs[i], (e.fzL ht).sq, List.getElem?_eq_getElem hi⟩
    · obtain ⟨T, x', rfl, hT, rfl, y⟩ := y
      rw [enumD_get] at ed
      obtain ⟨d0, ed2, rfl⟩ := Option.map_eq_some_iff.mp ed
      obtain ⟨v, ev, rv'⟩ := rvs.get (by first | exact ed2 | exact ed)
      have := y vs (e.fzL ht).sq
      rw [ev] at this; cases this
      rw [Nat.zero_add]
      exact ⟨ex_new hT, R.aside hT, .tup (SqT.of upd_same) (.cons (.int _) (.cons ((rv'.mono e).mono (ex_new hT)) .nil))⟩
  · rename_i k
    obtain ⟨v, rfl, rv⟩ := rvs.one
    obtain ⟨a, rfl, ea⟩ := rv.m_of
    split at h1
    · rename_i xs ek
      obtain ⟨vs, hv, rvs⟩ := r1.get ek ea
      refine ⟨a, vs, rfl, SqL.of hv, for_cell hg hb ea s1 r1 (fun i H' vs x hv hx => ⟨vs, x, SqL.of hv, hx⟩) (fun i H' vs hv hn => ⟨vs, SqL.of hv, List.getElem?_eq_none_iff.mp hn⟩) (fun i ρ' H' M' x H'' vs v d e R y hv ev rv' => ?_) h1⟩
      obtain ⟨T, x', rfl, hT, rfl, y⟩ := y
      have := y vs (SqL.of hv)
      rw [ev] at this; cases this
      exact ⟨ex_new hT, R.aside hT, .tup (SqT.of upd_same) (.cons (.int _) (.cons (rv'.mono (ex_new hT)) .nil))⟩
    · exact h1.elim
  · exact h1.elim
end

/-! ### while -/
def loopW (c : TF) (b : SF) : Nat → SF
  | 0 => fun _ _ => .stuck
  | n + 1 => fun δ M => (c δ M).bind fun t M1 => if t = true then (b δ M1).bind fun fl M2 => match fl with
      | .nx δ1 => loopW c b n δ1 M2
      | .ct δ1 => loopW c b n δ1 M2
      | .bk δ1 => .ok (.nx δ1) M2
      | .rt d => .ok (.rt d) M2
    else .ok (.nx δ) M1
theorem ds_while {G : Gc} {E : XE} {tc : TT} {tb : TS} {c : TF} {b : SF} (n : Nat) (hc : DT G E tc c) (hb : DS G E tb b) : DS G E (tWhile tc tb) (loopW c b n) := by
  intro D σ δ ρ H M hs hr h
  refine ⟨fun m σ' H' => ∃ δ' ρ' M', Ex ρ H ρ' H' ∧ Rm G ρ' H' M' ∧ Sl G.K ρ' H' σ' δ' ∧ Sat (loopW c b m δ' M') (GoS G ρ' H' D) (GoX G ρ' H' E), ⟨n, δ, ρ, M, Ex.refl, hr, hs, h⟩, ?_⟩
  rintro m σ' H' ⟨δ', ρ', M', e', R', s', h'⟩
  cases m with
  | zero => exact h'.elim
  | succ m =>
    unfold loopW at h'
    refine DT.bind (P := GoS G ρ' H' D) hc s' R' h' fun t M1 ρ1 H1 e1 s1 r1 q => ?_
    cases t with
    | true =>
      refine ⟨fun σ2 H2 => ∃ δ' ρ' M', Ex ρ H ρ' H2 ∧ Rm G ρ' H2 M' ∧ Sl G.K ρ' H2 σ2 δ' ∧ Sat (loopW c b m δ' M') (GoS G ρ' H2 D) (GoX G ρ' H2 E), fun σ2 H2 q => ⟨m, Nat.lt_succ_self _, q⟩, ?_⟩
      have q : Sat ((b δ' M1).bind _) _ _ := q
      rw [Sat.bind] at q
      refine hb _ σ' δ' ρ1 H1 M1 s1 r1 (q.mono (fun fl M2 q2 => ?_) fun _ _ _ z => z)
      cases fl with
      | nx δ2 => exact fun ρ2 H2 σ2 e2 R2 s2 => ⟨δ2, ρ2, M2, (e'.trans e1).trans e2, R2, s2, Sat.mono (show Sat (loopW c b m δ2 M2) _ _ from q2) (fun _ _ z => z.weak (e1.trans e2)) fun _ _ _ z => z.weak e2⟩
      | ct δ2 => exact fun ρ2 H2 σ2 e2 R2 s2 => ⟨δ2, ρ2, M2, (e'.trans e1).trans e2, R2, s2, Sat.mono (show Sat (loopW c b m δ2 M2) _ _ from q2) (fun _ _ z => z.weak (e1.trans e2)) fun _ _ _ z => z.weak e2⟩
      | bk δ2 => exact fun ρ2 H2 σ2 e2 R2 s2 => GoS.weak (D := D) (fl := .nx δ2) e1 q2 ρ2 H2 σ2 e2 R2 s2
      | rt d2 => exact fun ρ2 H2 v e2 R2 s2 => GoS.weak (D := D) (fl := .rt d2) e1 q2 ρ2 H2 v e2 R2 s2
    | false => exact q ρ1 H1 σ' e1 r1 s1
section
variable {ct : List (Addr × List Str)} {X : Cx} {E : XE} {pos p : Pos} {tg e : Expr} {g : TG} {tb : TS} {gf : GF} {b : SF} {te : TE} {fe : EF} {ta : TA} {fa : AF} {body : List Stmt} {c : Expr} {tc : TT} {fc : TF}
theorem js_for (hp : PassesOwn (model X.prog X.w) X.A X.env X.xe) (hc : X.calm = true) (he : JE ct X E e te fe) (hg : JG ct X E tg g gf) (hb : JSs ct X E body tb b) (hs : ∀ x, foldedSetIterable e X.env x = pure x := by intro _; rfl) : JS ct X E (.For tg e body [] pos) (tFor (iSeq X.K te) g tb) (sFor fe gf b) :=
  ⟨ps_for hp hc (pi_seq he.p) hg.p hb.p hs, ds_for he.d hg.d hb.d⟩
theorem js_forR1 {a : Expr} {p2 : Pos} (hp : PassesOwn (model X.prog X.w) X.A X.env X.xe) (hc : X.calm = true) (hm : X.mg "range" = none) (he : JA ct X E [a] ta fa) (hg : JG ct X E tg g gf) (hb : JSs ct X E body tb b) (gl : Gl X "range" := by rfl) (hst : starEach [a] X.env = [(false, eval a X.env)] := by rfl) (hs : ∀ x, foldedSetIterable (.Call (.Name "range" p) [a] [] p2) X.env x = pure x := by intro _; rfl) : JS ct X E (.For tg (.Call (.Name "range" p) [a] [] p2) body [] pos) (tFor (iRng1 ta) g tb) (sForR1 fa gf b) :=
  ⟨ps_for hp hc (pi_range1 gl hm he.p hst) hg.p hb.p hs, ds_forR1 he.d hg.d hb.d⟩
theorem js_forR2 {a a2 : Expr} {p2 : Pos} (hp : PassesOwn (model X.prog X.w) X.A X.env X.xe) (hc : X.calm = true) (hm : X.mg "range" = none) (he : JA ct X E [a, a2] ta fa) (hg : JG ct X E tg g gf) (hb : JSs ct X E body tb b) (gl : Gl X "range" := by rfl) (hst : starEach [a, a2] X.env = [(false, eval a X.env), (false, eval a2 X.env)] := by rfl) (hst2 : starEach [a2] X.env = [(false, eval a2 X.env)] := by rfl) (hs : ∀ x, foldedSetIterable (.Call (.Name "range" p) [a, a2] [] p2) X.env x = pure x := by intro _; rfl) : JS ct X E (.For tg (.Call (.Name "range" p) [a, a2] [] p2) body [] pos) (tFor (iRng2 ta) g tb) (sForR2 fa gf b) :=
  ⟨ps_for hp hc (pi_range2 gl hm he.p hst hst2) hg.p hb.p hs, ds_forR2 he.d hg.d hb.d⟩
theorem js_forE {a : Expr} {p2 tpos : Pos} {elts : List Expr} {kk : Nat} (hp : PassesOwn (model X.prog X.w) X.A X.env X.xe) (hc : X.calm = true) (hm : X.mg "enumerate" = none) (he : JA ct X E [a] ta fa) (hg : JG ct X E (.Tuple elts kk tpos) g gf) (hb : JSs ct X E body tb b) (gl : Gl X "enumerate" := by rfl) (hst : starEach [a] X.env = [(false, eval a X.env)] := by rfl) (hs : ∀ x, foldedSetIterable (.Call (.Name "enumerate" p) [a] [] p2) X.env x = pure x := by intro _; rfl) : JS ct X E (.For (.Tuple elts kk tpos) (.Call (.Name "enumerate" p) [a] [] p2) body [] pos) (tFor (iEnum X.K ta) g tb) (sForE fa gf b) :=
  ⟨ps_for hp hc (pi_enum gl hm he.p hst) hg.p hb.p hs, ds_forE he.d hg.d hb.d⟩
theorem js_while (n : Nat) (hp : PassesOwn (model X.prog X.w) X.A X.env X.xe) (hc : JT ct X E c tc fc) (hb : JSs ct X E body tb b) : JS ct X E (.While c body [] pos) (tWhile tc tb) (loopW fc b n) := ⟨ps_while hp hc.p hb.p, ds_while n hc.d hb.d⟩
end
end J
/-! J, tenth part: comprehensions, dict displays, defs. -/
namespace J
open PySem L2

def wD (δ : Dv) : List Nat → Dv
  | [] => δ
  | v :: vs => (wD δ vs).set v none
theorem wipe_sl {K : PySem.W.Frag} {ρ : List Addr} {H : Hp} {σ : St} {δ : Dv} (h : Sl K ρ H σ δ) : ∀ vs : List Nat, Sl K ρ H (wipe σ vs) (wD δ vs)
  | [] => h
  | v :: vs => by
    have ih := wipe_sl h vs
    refine ⟨by show ((wipe σ vs).set v none).length = ((wD δ vs).set v none).length; rw [List.length_set, List.length_set, ih.len], fun i d q => ?_⟩
    have q : ((wD δ vs).set v none)[i]? = some (some d) := q
    show ∃ x, ((wipe σ vs).set v none)[i]? = some (some x) ∧ _
    by_cases hi : v = i
    · subst hi
      by_cases hl : v < (wD δ vs).length
      · rw [List.getElem?_set_self hl] at q; cases q
      · rw [List.getElem?_eq_none (by simpa using hl)] at q; cases q
    · rw [List.getElem?_set_ne hi] at q ⊢
      exact ih.at_ i d q
theorem wipe_set : ∀ {vs : List Nat} {σ : St} {i : Nat} {x : Option V}, i ∈ vs → wipe (σ.set i x) vs = wipe σ vs
  | v :: vs, σ, i, x, h => by
    show (wipe (σ.set i x) vs).set v none = (wipe σ vs).set v none
    by_cases hi : i ∈ vs
    · rw [wipe_set hi]
    · have e : i = v := by
        rcases List.mem_cons.mp h with e | e
        · exact e
        · exact absurd e hi
      subst e
      have : ∀ (ws : List Nat), i ∉ ws → wipe (σ.set i x) ws = (wipe σ ws).set i x := by
        intro ws
        induction ws with
        | nil => intro _; rfl
        | cons w ws ih =>
          intro hw
          simp only [List.mem_cons, not_or] at hw
          show (wipe (σ.set i x) ws).set w none = ((wipe σ ws).set w none).set i x
          rw [ih hw.2, List.set_comm _ _ hw.1]
      rw [this vs hi, List.set_set]
theorem wipe_wipe : ∀ (ws vs : List Nat) (σ : St), (∀ i ∈ ws, i ∈ vs) → wipe (wipe σ ws) vs = wipe σ vs
  | [], vs, σ, _ => rfl
  | w :: ws, vs, σ, h => by
    show wipe ((wipe σ ws).set w none) vs = _
    rw [wipe_set (h w (by simp)), wipe_wipe ws vs σ fun i hi => h i (by simp [hi])]
/-- a target that stores names of vs alone -/
def Own (vs : List Nat) (g : TG) : Prop := ∀ v σ τ H Q, wipe σ vs = τ → g v σ H Q → g v σ H fun σ2 H2 => wipe σ2 vs = τ ∧ Q σ2 H2
def Owns (vs : List Nat) (g : TGs) : Prop := ∀ xs σ τ H Q, wipe σ vs = τ → g xs σ H Q → g xs σ H fun σ2 H2 => wipe σ2 vs = τ ∧ Q σ2 H2
theorem own_name {vs : List Nat} {i : Nat} (h : i ∈ vs) : Own vs (gName i) := fun v σ τ H Q e q => ⟨by rw [wipe_set h]; exact e, q⟩
theorem owns_nil {vs : List Nat} : Owns vs gNil := fun xs σ τ H Q e q => ⟨q.1, e, q.2⟩
theorem own_tup1 {vs : List Nat} {K : PySem.W.Frag} {n : Nat} {u : TGs} (h : Owns vs u) : Own vs (gTup K n u) := fun v σ τ H Q e ⟨a, xs, h1, h2, h3, h4⟩ => ⟨a, xs, h1, h2, h3, h xs σ τ H Q e h4⟩
theorem owns_cons {vs : List Nat} {i : Nat} {u : TGs} (hi : i ∈ vs) (h : Owns vs u) : Owns vs (gCons (gName i) u) := fun xs σ τ H Q e ⟨v, r, h1, h2⟩ => ⟨v, r, h1, h r _ τ H Q (by rw [wipe_set hi]; exact e) h2⟩

/-! ### what a comprehension does -/
def pushK (k : Nat) (y : D) (M : Mem) : Rs Unit := match M[k]? with
  | some (.lst acc) => Rs.grd (acc.length < sizeLine) (.ok () (M.set k (.lst (acc ++ [y]))))
  | _ => .stuck
def stepC (k : Nat) (tg : GF) (tt : TF) (te : EF) (δ : Dv) (x : D) (M : Mem) : Rs Unit :=
  (tg x δ M).bind fun δ1 M1 => (tt δ1 M1).bind fun b M2 => if b = true then (te δ1 M2).bind fun y M3 => pushK k y M3 else .ok () M2
def compV (f : D → Mem → Rs Unit) : List D → Mem → Rs Unit
  | [], M => .ok () M
  | x :: xs, M => (f x M).bind fun _ M1 => compV f xs M1
def compK (f : D → Mem → Rs Unit) (k : Nat) : Nat → Nat → Mem → Rs Unit
  | 0, _, _ => .stuck
  | n + 1, i, M => match M[k]? with
    | some (.lst xs) => match xs[i]? with
      | some x => (f x M).bind fun _ M1 => compK f k n (i + 1) M1
      | none => .ok () M
    | _ => .stuck
/-- over what d tells -/
def compS (f : D → Mem → Rs Unit) (d : D) (M : Mem) : Rs Unit := match d with
  | .tup xs => compV f xs M
  | .rl xs => compV f xs M
  | .m k => match M[k]? with
    | some (.lst xs) => compK f k (xs.length + 1) 0 M
    | _ => .stuck
  | _ => .stuck
theorem compS_cell {f : D → Mem → Rs Unit} {k : Nat} {M : Mem} {xs : List D} (h : M[k]? = some (.lst xs)) : compS f (.m k) M = compK f k (xs.length + 1) 0 M := by simp only [compS, h]
theorem compS_not {f : D → Mem → Rs Unit} {k : Nat} {M : Mem} (h : ∀ xs, M[k]? ≠ some (.lst xs)) : compS f (.m k) M = .stuck := by
  unfold compS
  dsimp only
  split <;> first | rfl | (rename_i e; exact absurd e (h _))
def xLc (src : EF) (tg : GF) (tt : TF) (te : EF) (vs : List Nat) : EF := fun δ M => (src δ M).bind fun d M1 => (compS (stepC M1.length tg tt te (wD δ vs)) d (M1 ++ [.lst []])).bind fun _ M2 => .ok (.m M1.length) M2
def xLcR1 (src : AF) (tg : GF) (tt : TF) (te : EF) (vs : List Nat) : EF := fun δ M => (src δ M).bind fun ds M1 => match ds with
  | [.int j] => Rs.grd (-(2 ^ 62) ≤ j ∧ j < 2 ^ 62) ((compV (stepC M1.length tg tt te (wD δ vs)) (rangeD 0 j.toNat) (M1 ++ [.lst []])).bind fun _ M2 => .ok (.m M1.length) M2)
  | _ => .stuck
theorem compV_drop (f : D → Mem → Rs Unit) {xs : List D} {i : Nat} {x : D} (h : xs[i]? = some x) (M : Mem) : compV f (xs.drop i) M = (f x M).bind fun _ M1 => compV f (xs.drop (i + 1)) M1 := by
  obtain ⟨hi, e⟩ := List.getElem?_eq_some_iff.mp h
  rw [List.drop_eq_getElem_cons hi, e]
  rfl
def GoU (G : Gc) (ρ : List Addr) (H : Hp) (Q : Hp → Prop) : Unit → Mem → Prop := fun _ M' => ∀ ρ' H', Ex ρ H ρ' H' → Rm G ρ' H' M' → Q H'
section
variable {G : Gc} {E : XE} {JJ : It} {g : TG} {tt : TT} {te : TE} {tg : GF} {tf : TF} {ef : EF} {σ : St} {δ : Dv} {ρ : List Addr} {H : Hp} {M : Mem} {vs : List Nat} {L : Addr} {kL : Nat}
theorem GoU.weak {ρ' : List Addr} {H' : Hp} {Q : Hp → Prop} {M : Mem} (e : Ex ρ H ρ' H') (h : GoU G ρ H Q () M) : GoU G ρ' H' Q () M := fun ρ2 H2 e2 => h ρ2 H2 (e.trans e2)
/-- one turn -/
theorem turnC {N : Hp → Prop} {x : V} {d : J.D} {k : Mem → Rs Unit} {Q : Hp → Prop} (hg : DG G E g tg) (ho : Own vs g) (ht : DT G E tt tf) (he : DE G E te ef) (eL : ρ[kL]? = some L) (r : Rep G.K ρ H x d) (hs : Sl G.K ρ H (wipe σ vs) δ) (hr : Rm G ρ H M)
    (h : Sat ((stepC kL tg tf ef δ d M).bind fun _ M1 => k M1) (GoU G ρ H Q) (GoX G ρ H E))
    (hN : ∀ M1 ρ1 H1, Ex ρ H ρ1 H1 → Rm G ρ1 H1 M1 → Sat (k M1) (GoU G ρ1 H1 Q) (GoX G ρ1 H1 E) → N H1) :
    g x (wipe σ vs) H fun σ2 H2 => wipe σ2 vs = wipe σ vs ∧ tt σ2 H2 fun b H3 => if b = true then te σ2 H3 fun y H4 => ∃ acc, H4 L = some (.lst acc) ∧ acc.length < sizeLine ∧ N (upd H4 L (.lst (acc ++ [y]))) else N H3 := by
  refine ho x _ _ H _ (wipe_wipe vs vs σ fun _ h => h) ?_
  unfold stepC at h
  rw [Sat.bind, Sat.bind] at h
  refine hg x d _ δ ρ H M _ r hs hr (h.mono (fun δ1 M1 q ρ1 H1 σ1 e1 R1 s1 => ?_) fun _ _ _ z => z)
  rw [Sat.bind] at q
  refine ht σ1 δ1 ρ1 H1 M1 _ s1 R1 (q.mono (fun b M2 q2 ρ2 H2 e2 R2 => ?_) fun _ _ _ z => z.weak e1)
  cases b with
  | false => exact hN M2 ρ2 H2 (e1.trans e2) R2 (Sat.mono (show Sat (k M2) _ _ from q2) (fun _ _ z => GoU.weak (e1.trans e2) z) fun _ _ _ z => z.weak (e1.trans e2))
  | true =>
    have q2 : Sat ((ef δ1 M2).bind fun y M3 => pushK kL y M3) (fun _ M1 => Sat (k M1) (GoU G ρ H Q) (GoX G ρ H E)) (GoX G ρ H E) := q2
    rw [Sat.bind] at q2
    refine he σ1 δ1 ρ2 H2 M2 _ (s1.mono e2) R2 (q2.mono (fun y M3 q3 ρ3 H3 vy e3 R3 ry => ?_) fun _ _ _ z => z.weak (e1.trans e2))
    unfold pushK at q3
    split at q3
    · rename_i acc ek
      obtain ⟨c, q3⟩ := q3.grd
      have eL3 := ((e1.trans e2).trans e3).pre _ _ eL
      obtain ⟨us, hu, rus⟩ := R3.get ek eL3
      have ex : Ex ρ3 H3 ρ3 (upd H3 L (.lst (us ++ [vy]))) := ex_set hu (fun z => z)
      have e4 := ((e1.trans e2).trans e3).trans ex
      exact ⟨us, hu, by rw [rus.length]; exact c, hN _ ρ3 _ e4 (R3.set (mo' := .lst (acc ++ [y])) ek eL3 ⟨_, upd_same, (rus.append (.cons ry .nil)).mono ex⟩) (Sat.mono (show Sat (k _) _ _ from q3) (fun _ _ z => GoU.weak e4 z) fun _ _ _ z => z.weak e4)⟩
    · exact q3.elim
/-- what a turn is to give: T, by the step f -/
def TurnU (G : Gc) (E : XE) (ρ : List Addr) (H : Hp) (Q : Hp → Prop) (f : D → Mem → Rs Unit) (T : V → Hp → (Hp → Prop) → Prop) : Prop :=
  ∀ x d ρ' H' M' (k : Mem → Rs Unit) (N : Hp → Prop), Ex ρ H ρ' H' → Rm G ρ' H' M' → Rep G.K ρ' H' x d → Sat ((f d M').bind fun _ M1 => k M1) (GoU G ρ' H' Q) (GoX G ρ' H' E) →
    (∀ M1 ρ1 H1, Ex ρ' H' ρ1 H1 → Rm G ρ1 H1 M1 → Sat (k M1) (GoU G ρ1 H1 Q) (GoX G ρ1 H1 E) → N H1) → T x H' N
theorem comp_vals {Q : Hp → Prop} {f : D → Mem → Rs Unit} {T : V → Hp → (Hp → Prop) → Prop} (hT : TurnU G E ρ H Q f T) (items : List J.D) (hr : Rm G ρ H M)
    (hgo : ∀ i ρ' H', i < items.length → Ex ρ H ρ' H' → JJ.go i H') (hstop : ∀ i ρ' H', items.length ≤ i → Ex ρ H ρ' H' → JJ.stop i H')
    (hyl : ∀ i ρ' H' M' x H'' d, Ex ρ H ρ' H' → Rm G ρ' H' M' → JJ.yld i H' x H'' → items[i]? = some d → Ex ρ' H' ρ' H'' ∧ Rm G ρ' H'' M' ∧ Rep G.K ρ' H'' x d)
    (h : Sat (compV f items M) (GoU G ρ H Q) (GoX G ρ H E)) :
    ∃ W : Nat → Nat → Hp → Prop, (∃ m, W 0 m H) ∧ ∀ i m H, W i m H →
      (JJ.stop i H ∧ Q H) ∨ (JJ.go i H ∧ ∃ Nx : Hp → Prop, (∀ H', Nx H' → ∃ m', m' < m ∧ W (i + 1) m' H') ∧ ∀ x H', JJ.yld i H x H' → T x H' Nx) := by
  refine ⟨fun i m H' => i ≤ items.length ∧ m = items.length - i ∧ ∃ ρ' M', Ex ρ H ρ' H' ∧ Rm G ρ' H' M' ∧ Sat (compV f (items.drop i) M') (GoU G ρ' H' Q) (GoX G ρ' H' E), ⟨_, Nat.zero_le _, rfl, ρ, M, Ex.refl, hr, h⟩, ?_⟩
  rintro i m H' ⟨hi, rfl, ρ', M', e', R', h'⟩
  by_cases hlt : i < items.length
  · have hx : items[i]? = some items[i] := List.getElem?_eq_getElem hlt
    rw [compV_drop _ hx] at h'
    refine .inr ⟨hgo i ρ' H' hlt e', fun H2 => i + 1 ≤ items.length ∧ ∃ ρ' M', Ex ρ H ρ' H2 ∧ Rm G ρ' H2 M' ∧ Sat (compV f (items.drop (i + 1)) M') (GoU G ρ' H2 Q) (GoX G ρ' H2 E), fun H2 ⟨q1, q2⟩ => ⟨items.length - (i + 1), by omega, q1, rfl, q2⟩, fun x H2 y => ?_⟩
    obtain ⟨e2, R2, r2⟩ := hyl i ρ' H' M' x H2 _ e' R' y hx
    exact hT x _ ρ' H2 M' _ _ (e'.trans e2) R2 r2 (h'.mono (fun _ _ z => GoU.weak e2 z) fun _ _ _ z => z.weak e2) fun M1 ρ1 H1 e3 R3 h3 => ⟨hlt, ρ1, M1, (e'.trans e2).trans e3, R3, h3⟩
  · have e : i = items.length := by omega
    subst e
    rw [List.drop_length] at h'
    exact .inl ⟨hstop _ ρ' H' (Nat.le_refl _) e', h' ρ' H' Ex.refl R'⟩
theorem comp_cell {Q : Hp → Prop} {k n : Nat} {a : Addr} {f : D → Mem → Rs Unit} {T : V → Hp → (Hp → Prop) → Prop} (hT : TurnU G E ρ H Q f T) (ea : ρ[k]? = some a) (hr : Rm G ρ H M)
    (hgo : ∀ i H' vs x, H' a = some (.lst vs) → vs[i]? = some x → JJ.go i H') (hstop : ∀ i H' vs, H' a = some (.lst vs) → vs[i]? = none → JJ.stop i H')
    (hyl : ∀ i H' x H'' vs v, JJ.yld i H' x H'' → H' a = some (.lst vs) → vs[i]? = some v → H'' = H' ∧ x = v)
    (h : Sat (compK f k n 0 M) (GoU G ρ H Q) (GoX G ρ H E)) :
    ∃ W : Nat → Nat → Hp → Prop, (∃ m, W 0 m H) ∧ ∀ i m H, W i m H →
      (JJ.stop i H ∧ Q H) ∨ (JJ.go i H ∧ ∃ Nx : Hp → Prop, (∀ H', Nx H' → ∃ m', m' < m ∧ W (i + 1) m' H') ∧ ∀ x H', JJ.yld i H x H' → T x H' Nx) := by
  refine ⟨fun i m H' => ∃ ρ' M', Ex ρ H ρ' H' ∧ Rm G ρ' H' M' ∧ Sat (compK f k m i M') (GoU G ρ' H' Q) (GoX G ρ' H' E), ⟨n, ρ, M, Ex.refl, hr, h⟩, ?_⟩
  rintro i m H' ⟨ρ', M', e', R', h'⟩
  cases m with
  | zero => exact h'.elim
  | succ m =>
    unfold compK at h'
    split at h'
    · rename_i xs ek
      obtain ⟨us, hv, rvs⟩ := R'.get ek (e'.pre _ _ ea)
      split at h'
      · rename_i d ed
        obtain ⟨v, ev, rv⟩ := rvs.get ed
        refine .inr ⟨hgo i H' us v hv ev, fun H2 => ∃ ρ' M', Ex ρ H ρ' H2 ∧ Rm G ρ' H2 M' ∧ Sat (compK f k m (i + 1) M') (GoU G ρ' H2 Q) (GoX G ρ' H2 E), fun H2 q => ⟨m, Nat.lt_succ_self _, q⟩, fun x H2 y => ?_⟩
        obtain ⟨rfl, rfl⟩ := hyl i H' x H2 us v y hv ev
        exact hT _ _ ρ' H2 M' _ _ e' R' rv h' fun M1 ρ1 H1 e3 R3 h3 => ⟨ρ1, M1, e'.trans e3, R3, h3⟩
      · rename_i ed
        have hvn : us[i]? = none := by
          rw [List.getElem?_eq_none_iff] at ed ⊢
          rw [rvs.length]; exact ed
        exact .inl ⟨hstop i H' us hv hvn, h' ρ' H' Ex.refl R'⟩
    · exact h'.elim
/-- the new list, laid ahead of the turns -/
theorem lc_start {Q : VK} (hr : Rm G ρ H M) (hL : H L = none) : Ex ρ H (ρ ++ [L]) (upd H L (.lst [])) ∧ Rm G (ρ ++ [L]) (upd H L (.lst [])) (M ++ [.lst []]) ∧ (ρ ++ [L])[M.length]? = some L :=
  ⟨(ex_new hL).trans ex_push, hr.new hL ⟨[], upd_same, .nil⟩, by rw [← hr.len, List.getElem?_append_right (Nat.le_refl _)]; simp⟩
theorem turn_step (hg : DG G E g tg) (ho : Own vs g) (ht : DT G E tt tf) (he : DE G E te ef) (eL : ρ[kL]? = some L) (hs : Sl G.K ρ H (wipe σ vs) δ) {Q : Hp → Prop} :
    TurnU G E ρ H Q (stepC kL tg tf ef δ) fun x H' N => g x (wipe σ vs) H' fun σ2 H2 => wipe σ2 vs = wipe σ vs ∧ tt σ2 H2 fun b H3 => if b = true then te σ2 H3 fun y H4 => ∃ acc, H4 L = some (.lst acc) ∧ acc.length < sizeLine ∧ N (upd H4 L (.lst (acc ++ [y]))) else N H3 :=
  fun x d ρ' H' M' k N e R r h hN => turnC hg ho ht he (e.pre _ _ eL) r (hs.mono e) R h hN
/-- the turns over JJ are walked by f, T -/
def Walks1 (JJ : It) (H : Hp) (Q : Hp → Prop) (T : V → Hp → (Hp → Prop) → Prop) : Prop := ∃ W : Nat → Nat → Hp → Prop, (∃ m, W 0 m H) ∧ ∀ i m H, W i m H →
  (JJ.stop i H ∧ Q H) ∨ (JJ.go i H ∧ ∃ Nx : Hp → Prop, (∀ H', Nx H' → ∃ m', m' < m ∧ W (i + 1) m' H') ∧ ∀ x H', JJ.yld i H x H' → T x H' Nx)
def SrcOk (G : Gc) (E : XE) (JJ : It) (ρ1 : List Addr) (H1 : Hp) (M1 : Mem) (d : J.D) : Prop := ∀ ρ H M Q f T, Ex ρ1 H1 ρ H → Rm G ρ H M → TurnU G E ρ H Q f T → (∀ k, k < M1.length → M[k]? = M1[k]?) → Sat (compS f d M) (GoU G ρ H Q) (GoX G ρ H E) → Walks1 JJ H Q T
/-- what a value tells, as it is met at H1 -/
theorem src_cases {ρ1 : List Addr} {H1 : Hp} {M1 : Mem} {v : V} {d : J.D} (r1 : Rm G ρ1 H1 M1) (rv : Rep G.K ρ1 H1 v d) :
    (∃ a, v = .ref a ∧ (∃ xs, SqL G.K H1 a xs) ∧ SrcOk G E (Itl G.K a) ρ1 H1 M1 d) ∨ (∃ a, v = .ref a ∧ (∃ xs, SqT G.K H1 a xs) ∧ SrcOk G E (Itt G.K a) ρ1 H1 M1 d) ∨ (∀ f M, (∀ k, k < M1.length → M[k]? = M1[k]?) → compS f d M = .stuck) := by
  cases d with
  | tup xs =>
    obtain ⟨a, us, rfl, hu, rus⟩ := rv.tup_of
    refine .inr (.inl ⟨a, rfl, ⟨us, hu⟩, fun ρ H M Q f T e hr hT hM h => ?_⟩)
    refine comp_vals hT xs hr (fun i ρ' H' hi e' => ?_) (fun i ρ' H' hi e' => ⟨us, (e.trans e').sqT hu, by rw [rus.length]; exact hi⟩) (fun i ρ' H' M' x H'' d e' R y ed => ?_) h
    · rw [← rus.length] at hi
      exact ⟨us, us[i], (e.trans e').sqT hu, List.getElem?_eq_getElem hi⟩
    · obtain ⟨rfl, y⟩ := y
      obtain ⟨v, ev, rv'⟩ := rus.get ed
      have := y us ((e.trans e').sqT hu)
      rw [ev] at this; cases this
      exact ⟨Ex.refl, R, rv'.mono (e.trans e')⟩
  | rl xs =>
    obtain ⟨a, us, rfl, hu, rus⟩ := rv.rl_of
    refine .inl ⟨a, rfl, ⟨us, hu.sq⟩, fun ρ H M Q f T e hr hT hM h => ?_⟩
    refine comp_vals hT xs hr (fun i ρ' H' hi e' => ?_) (fun i ρ' H' hi e' => ⟨us, ((e.trans e').fzL hu).sq, by rw [rus.length]; exact hi⟩) (fun i ρ' H' M' x H'' d e' R y ed => ?_) h
    · rw [← rus.length] at hi
      exact ⟨us, us[i], ((e.trans e').fzL hu).sq, List.getElem?_eq_getElem hi⟩
    · obtain ⟨rfl, y⟩ := y
      obtain ⟨v, ev, rv'⟩ := rus.get ed
      have := y us ((e.trans e').fzL hu).sq
      rw [ev] at this; cases this
      exact ⟨Ex.refl, R, rv'.mono (e.trans e')⟩
  | m k =>
    obtain ⟨a, rfl, ea⟩ := rv.m_of
    obtain ⟨mo, em, hmo⟩ := r1.addr ea
    have hk : k < M1.length := (List.getElem?_eq_some_iff.mp em).1
    cases mo with
    | lst xs =>
      obtain ⟨us, hu, rus⟩ := hmo
      refine .inl ⟨a, rfl, ⟨us, SqL.of hu⟩, fun ρ H M Q f T e hr hT hM h => ?_⟩
      rw [compS_cell ((hM k hk).trans em)] at h
      refine comp_cell hT (e.pre _ _ ea) hr (fun i H' us x hv hx => ⟨us, x, SqL.of hv, hx⟩) (fun i H' us hv hn => ⟨us, SqL.of hv, List.getElem?_eq_none_iff.mp hn⟩) (fun i H' x H'' us v y hv ev => ?_) h
      obtain ⟨rfl, y⟩ := y
      have := y us (SqL.of hv)
      rw [ev] at this; cases this
      exact ⟨rfl, rfl⟩
    | dct kvs => exact .inr (.inr fun f M hM => compS_not (fun xs z => by rw [hM k hk, em] at z; cases z))
    | bd kvs => exact .inr (.inr fun f M hM => compS_not (fun xs z => by rw [hM k hk, em] at z; cases z))
    | ins c fs => exact .inr (.inr fun f M hM => compS_not (fun xs z => by rw [hM k hk, em] at z; cases z))
  | non => exact .inr (.inr fun f M hM => rfl)
  | bl b => exact .inr (.inr fun f M hM => rfl)
  | int i => exact .inr (.inr fun f M hM => rfl)
  | str s => exact .inr (.inr fun f M hM => rfl)
  | ty n => exact .inr (.inr fun f M hM => rfl)
theorem get_push {M1 : Mem} {mo : MO} {k : Nat} (hk : k < M1.length) : (M1 ++ [mo])[k]? = M1[k]? := List.getElem?_append_left hk
theorem lc_end {ρ1 : List Addr} {H1 : Hp} {M1 : Mem} {Q : VK} {r : Rs Unit} {L : Addr} (e1 : Ex ρ H ρ1 H1) (r1 : Rm G ρ1 H1 M1) (hL : H1 L = none) (h1 : Sat (r.bind fun _ M2 => .ok (.m M1.length) M2) (GoE G ρ H Q) (GoX G ρ1 H1 E)) :
    Sat r (GoU G (ρ1 ++ [L]) (upd H1 L (.lst [])) fun H2 => Q (.ref L) H2) (GoX G (ρ1 ++ [L]) (upd H1 L (.lst [])) E) := by
  obtain ⟨e2, R2, eL⟩ := lc_start (Q := Q) r1 hL
  rw [Sat.bind] at h1
  refine h1.mono (fun _ M2 q ρ3 H3 e3 R3 => ?_) fun _ _ _ z => z.weak e2
  exact GoE.here (d := .m M1.length) (GoE.weak ((e1.trans e2).trans e3) q) R3 (.m (e3.pre _ _ eL))
theorem de_lc {ts : TE} {fs : EF} (hsrc : DE G E ts fs) (hg : DG G E g tg) (ho : Own vs g) (ht : DT G E tt tf) (he : DE G E te ef) : DE G E (tLc (iSeq G.K ts) g tt te vs) (xLc fs tg tf ef vs) := by
  intro σ δ ρ H M Q hs hr h
  show ts σ H _
  refine DE.bind (P := GoE G ρ H Q) hsrc hs hr h fun d M1 ρ1 H1 v e1 s1 r1 rv h1 => ?_
  rcases src_cases (E := E) r1 rv with ⟨a, rfl, hx, q⟩ | ⟨a, rfl, hx, q⟩ | q
  · refine ⟨a, rfl, .inl ⟨hx, fun L hL => ?_⟩⟩
    obtain ⟨e2, R2, eL⟩ := lc_start (Q := Q) r1 hL
    exact q _ _ _ _ _ _ e2 R2 (turn_step hg ho ht he eL (wipe_sl (s1.mono e2) vs)) (fun k hk => get_push hk) (lc_end e1 r1 hL h1)
  · refine ⟨a, rfl, .inr ⟨hx, fun L hL => ?_⟩⟩
    obtain ⟨e2, R2, eL⟩ := lc_start (Q := Q) r1 hL
    exact q _ _ _ _ _ _ e2 R2 (turn_step hg ho ht he eL (wipe_sl (s1.mono e2) vs)) (fun k hk => get_push hk) (lc_end e1 r1 hL h1)
  · rw [q _ _ fun k hk => get_push hk] at h1
    exact h1.elim
/-- two clauses -/
def stepC2 (k : Nat) (tg : GF) (tt : TF) (src : EF) (tg1 : GF) (tt1 : TF) (te : EF) (vs1 : List Nat) (δ : Dv) (x : D) (M : Mem) : Rs Unit :=
  (tg x δ M).bind fun δ1 M1 => (tt δ1 M1).bind fun b M2 => if b = true then (src δ1 M2).bind fun d M3 => compS (stepC k tg1 tt1 te (wD δ1 vs1)) d M3 else .ok () M2
def xLc2 (src : EF) (tg : GF) (tt : TF) (src1 : EF) (tg1 : GF) (tt1 : TF) (te : EF) (vs vs1 : List Nat) : EF := fun δ M => (src δ M).bind fun d M1 => (compS (stepC2 M1.length tg tt src1 tg1 tt1 te vs1 (wD δ vs)) d (M1 ++ [.lst []])).bind fun _ M2 => .ok (.m M1.length) M2
theorem turn_step2 {g1 : TG} {tg1 : GF} {tt1 : TT} {tf1 : TF} {ts1 : TE} {fs1 : EF} {vs1 : List Nat} (hg : DG G E g tg) (ho : Own vs g) (ht : DT G E tt tf) (h1s : DE G E ts1 fs1) (hg1 : DG G E g1 tg1) (ho1 : Own vs1 g1) (ht1 : DT G E tt1 tf1) (he : DE G E te ef) (eL : ρ[kL]? = some L) (hs : Sl G.K ρ H (wipe σ vs) δ) {Q : Hp → Prop} :
    TurnU G E ρ H Q (stepC2 kL tg tf fs1 tg1 tf1 ef vs1 δ) fun x H' N => g x (wipe σ vs) H' fun σ2 H2 => wipe σ2 vs = wipe σ vs ∧ tt σ2 H2 fun b H3 => if b = true then iSeq G.K ts1 σ2 H3 fun J1 H4 => ∃ W1 : Nat → Nat → Hp → Prop, (∃ m, W1 0 m H4) ∧ ∀ j k H, W1 j k H →
      (J1.stop j H ∧ N H) ∨ (J1.go j H ∧ ∃ Nx1 : Hp → Prop, (∀ H', Nx1 H' → ∃ k', k' < k ∧ W1 (j + 1) k' H') ∧ ∀ x H', J1.yld j H x H' → g1 x (wipe σ2 vs1) H' fun σ3 H5 => wipe σ3 vs1 = wipe σ2 vs1 ∧ tt1 σ3 H5 fun b H6 =>
        if b = true then te σ3 H6 fun y H7 => ∃ acc, H7 L = some (.lst acc) ∧ acc.length < sizeLine ∧ Nx1 (upd H7 L (.lst (acc ++ [y]))) else Nx1 H6)
    else N H3 := by
  intro x d ρ' H' M' k N e R r h hN
  refine ho x _ _ H' _ (wipe_wipe vs vs σ fun _ h => h) ?_
  unfold stepC2 at h
  rw [Sat.bind, Sat.bind] at h
  refine hg x d _ δ ρ' H' M' _ r (hs.mono e) R (h.mono (fun δ1 M1 q ρ1 H1 σ1 e1 R1 s1 => ?_) fun _ _ _ z => z)
  rw [Sat.bind] at q
  refine ht σ1 δ1 ρ1 H1 M1 _ s1 R1 (q.mono (fun b M2 q2 ρ2 H2 e2 R2 => ?_) fun _ _ _ z => z.weak e1)
  cases b with
  | false => exact hN M2 ρ2 H2 (e1.trans e2) R2 (Sat.mono (show Sat (k M2) _ _ from q2) (fun _ _ z => GoU.weak (e1.trans e2) z) fun _ _ _ z => z.weak (e1.trans e2))
  | true =>
    have q2 : Sat ((fs1 δ1 M2).bind fun d M3 => compS (stepC kL tg1 tf1 ef (wD δ1 vs1)) d M3) (fun _ M1 => Sat (k M1) (GoU G ρ' H' Q) (GoX G ρ' H' E)) (GoX G ρ' H' E) := q2
    show ts1 σ1 H2 _
    refine DE.bind h1s (s1.mono e2) R2 (q2.mono (fun _ _ z => z) fun _ _ _ z => z.weak (e1.trans e2)) fun d M3 ρ3 H3 v e3 s3 R3 rv q3 => ?_
    have e4 := (e1.trans e2).trans e3
    have q4 : Sat (compS (stepC kL tg1 tf1 ef (wD δ1 vs1)) d M3) (GoU G ρ3 H3 N) (GoX G ρ3 H3 E) :=
      q3.mono (fun _ M4 z ρ4 H4 e5 R4 => hN M4 ρ4 H4 (e4.trans e5) R4 (z.mono (fun _ _ z => GoU.weak (e4.trans e5) z) fun _ _ _ z => z.weak (e4.trans e5))) fun _ _ _ z => z
    rcases src_cases (E := E) R3 rv with ⟨a, rfl, hx, w⟩ | ⟨a, rfl, hx, w⟩ | w
    · exact ⟨a, rfl, .inl ⟨hx, w _ _ _ _ _ _ Ex.refl R3 (turn_step hg1 ho1 ht1 he ((e.trans e4).pre _ _ eL) (wipe_sl s3 vs1)) (fun _ _ => rfl) q4⟩⟩
    · exact ⟨a, rfl, .inr ⟨hx, w _ _ _ _ _ _ Ex.refl R3 (turn_step hg1 ho1 ht1 he ((e.trans e4).pre _ _ eL) (wipe_sl s3 vs1)) (fun _ _ => rfl) q4⟩⟩
    · rw [w _ _ fun _ _ => rfl] at q4
      exact q4.elim
theorem de_lc2 {ts : TE} {fs : EF} {g1 : TG} {tg1 : GF} {tt1 : TT} {tf1 : TF} {ts1 : TE} {fs1 : EF} {vs1 : List Nat} (hsrc : DE G E ts fs) (hg : DG G E g tg) (ho : Own vs g) (ht : DT G E tt tf) (h1s : DE G E ts1 fs1) (hg1 : DG G E g1 tg1) (ho1 : Own vs1 g1) (ht1 : DT G E tt1 tf1) (he : DE G E te ef) :
    DE G E (tLc2 (iSeq G.K ts) g tt (iSeq G.K ts1) g1 tt1 te vs vs1) (xLc2 fs tg tf fs1 tg1 tf1 ef vs vs1) := by
  intro σ δ ρ H M Q hs hr h
  show ts σ H _
  refine DE.bind (P := GoE G ρ H Q) hsrc hs hr h fun d M1 ρ1 H1 v e1 s1 r1 rv h1 => ?_
  rcases src_cases (E := E) r1 rv with ⟨a, rfl, hx, q⟩ | ⟨a, rfl, hx, q⟩ | q
  · refine ⟨a, rfl, .inl ⟨hx, fun L hL => ?_⟩⟩
    obtain ⟨e2, R2, eL⟩ := lc_start (Q := Q) r1 hL
    exact q _ _ _ _ _ _ e2 R2 (turn_step2 hg ho ht h1s hg1 ho1 ht1 he eL (wipe_sl (s1.mono e2) vs)) (fun k hk => get_push hk) (lc_end e1 r1 hL h1)
  · refine ⟨a, rfl, .inr ⟨hx, fun L hL => ?_⟩⟩
    obtain ⟨e2, R2, eL⟩ := lc_start (Q := Q) r1 hL
    exact q _ _ _ _ _ _ e2 R2 (turn_step2 hg ho ht h1s hg1 ho1 ht1 he eL (wipe_sl (s1.mono e2) vs)) (fun k hk => get_push hk) (lc_end e1 r1 hL h1)
  · rw [q _ _ fun k hk => get_push hk] at h1
    exact h1.elim
theorem de_lcR1 {ta : TA} {fa : AF} (hsrc : DA G E ta fa) (hg : DG G E g tg) (ho : Own vs g) (ht : DT G E tt tf) (he : DE G E te ef) : DE G E (tLc (iRng1 ta) g tt te vs) (xLcR1 fa tg tf ef vs) := by
  intro σ δ ρ H M Q hs hr h
  show ta σ H _
  refine DA.bind (P := GoE G ρ H Q) hsrc hs hr h fun ds M1 ρ1 H1 us e1 s1 r1 rvs h1 => ?_
  try dsimp only at h1
  split at h1
  · rename_i j
    obtain ⟨c, h1⟩ := h1.grd
    obtain ⟨v, rfl, rv⟩ := rvs.one
    rw [rv.int_of]
    refine ⟨j, rfl, c.1, c.2, fun L hL => ?_⟩
    obtain ⟨e2, R2, eL⟩ := lc_start (Q := Q) r1 hL
    refine comp_vals (turn_step hg ho ht he eL (wipe_sl (s1.mono e2) vs)) (rangeD 0 j.toNat) R2 (fun i ρ' H' hi e => by rw [rangeD_length] at hi; exact hi) (fun i ρ' H' hi e => by rw [rangeD_length] at hi; exact hi) (fun i ρ' H' M' x H'' d e R y ed => ?_) (lc_end e1 r1 hL h1)
    obtain ⟨rfl, rfl⟩ := y
    rw [rangeD_get ed]
    exact ⟨Ex.refl, R, .int _⟩
  · exact h1.elim
end
section
variable {ct : List (Addr × List Str)} {X : Cx} {E : XE} {pos p : Pos} {tg e elt : Expr} {ifs : List Expr} {scope : Scope} {own : List (Str × Nat)} {g : TG} {gf : GF} {ts te : TE} {fs fe : EF} {tt : TT} {ft : TF} {ta : TA} {fa : AF}
structure JTs (ct : List (Addr × List Str)) (X : Cx) (E : XE) (ifs : List Expr) (t : TT) (f : TF) : Prop where
  p : PTs X ifs t
  d : DT (gOf X ct) E t f
def xYes : TF := fun _ M => .ok true M
theorem jts_nil : JTs ct X E [] tYes xYes := ⟨pts_nil, fun σ δ ρ H M Q hs hr h => h ρ H Ex.refl hr⟩
theorem jts_one {c : Expr} (h : JT ct X E c tt ft) : JTs ct X E [c] tt ft := ⟨pts_one h.p, h.d⟩
theorem je_lc (hc : X.calm = true) (hN : X.N.Nodup) (hi : JE ct X E e ts fs) (ok : BlkOk X.N X.env.scope scope own) (ow : Own (own.map (·.2)) g)
    (hg : ∀ (s : Shared) (H : Hp) (C : Addr) (cl : List (Str × Addr)) (fp : List Addr), JG ct (X.blk s H scope (compEnvC scope cl C X.env) fp) E tg g gf) (ht : ∀ (s : Shared) (H : Hp) (C : Addr) (cl : List (Str × Addr)) (fp : List Addr), JTs ct (X.blk s H scope (compEnvC scope cl C X.env) fp) E ifs tt ft)
    (he : ∀ (s : Shared) (H : Hp) (C : Addr) (cl : List (Str × Addr)) (fp : List Addr), JE ct (X.blk s H scope (compEnvC scope cl C X.env) fp) E elt te fe) (hs : ∀ x, foldedSetIterable e X.env x = pure x := by intro _; rfl) :
    JE ct X E (.ListComp elt [⟨tg, e, ifs, 0⟩] scope pos) (tLc (iSeq X.K ts) g tt te (own.map (·.2))) (xLc fs gf ft fe (own.map (·.2))) :=
  ⟨pe_lc hc hN (pi_seq hi.p) ok (fun s H C cl fp => (hg s H C cl fp).p) (fun s H C cl fp => (ht s H C cl fp).p) (fun s H C cl fp => (he s H C cl fp).p) hs, de_lc hi.d (hg X.s_0 (fun _ => none) 0 [] []).d ow (ht X.s_0 (fun _ => none) 0 [] []).d (he X.s_0 (fun _ => none) 0 [] []).d⟩
theorem je_lc2 {tg1 e1 : Expr} {ifs1 : List Expr} {vs1 : List Nat} {ts1 : TE} {fs1 : EF} {g1 : TG} {gf1 : GF} {tt1 : TT} {ft1 : TF} (hc : X.calm = true) (hN : X.N.Nodup) (hi : JE ct X E e ts fs) (ok : BlkOk X.N X.env.scope scope own) (hv : ∀ i ∈ vs1, i ∈ own.map (·.2)) (ow : Own (own.map (·.2)) g) (ow1 : Own vs1 g1)
    (hg : ∀ (s : Shared) (H : Hp) (C : Addr) (cl : List (Str × Addr)) (fp : List Addr), JG ct (X.blk s H scope (compEnvC scope cl C X.env) fp) E tg g gf) (ht : ∀ (s : Shared) (H : Hp) (C : Addr) (cl : List (Str × Addr)) (fp : List Addr), JTs ct (X.blk s H scope (compEnvC scope cl C X.env) fp) E ifs tt ft)
    (hi1 : ∀ (s : Shared) (H : Hp) (C : Addr) (cl : List (Str × Addr)) (fp : List Addr), JE ct (X.blk s H scope (compEnvC scope cl C X.env) fp) E e1 ts1 fs1)
    (hg1 : ∀ (s : Shared) (H : Hp) (C : Addr) (cl : List (Str × Addr)) (fp : List Addr), JG ct (X.blk s H scope (compEnvC scope cl C X.env) fp) E tg1 g1 gf1) (ht1 : ∀ (s : Shared) (H : Hp) (C : Addr) (cl : List (Str × Addr)) (fp : List Addr), JTs ct (X.blk s H scope (compEnvC scope cl C X.env) fp) E ifs1 tt1 ft1)
    (he : ∀ (s : Shared) (H : Hp) (C : Addr) (cl : List (Str × Addr)) (fp : List Addr), JE ct (X.blk s H scope (compEnvC scope cl C X.env) fp) E elt te fe) (hs : ∀ x, foldedSetIterable e X.env x = pure x := by intro _; rfl) (hs1 : ∀ env x, foldedSetIterable e1 env x = pure x := by intro _ _; rfl) :
    JE ct X E (.ListComp elt [⟨tg, e, ifs, 0⟩, ⟨tg1, e1, ifs1, 0⟩] scope pos) (tLc2 (iSeq X.K ts) g tt (iSeq X.K ts1) g1 tt1 te (own.map (·.2)) vs1) (xLc2 fs gf ft fs1 gf1 ft1 fe (own.map (·.2)) vs1) :=
  ⟨pe_lc2 hc hN (pi_seq hi.p) ok hv (fun s H C cl fp => (hg s H C cl fp).p) (fun s H C cl fp => (ht s H C cl fp).p) (fun s H C cl fp => pi_seq (hi1 s H C cl fp).p) (fun s H C cl fp => (hg1 s H C cl fp).p) (fun s H C cl fp => (ht1 s H C cl fp).p) (fun s H C cl fp => (he s H C cl fp).p) hs hs1,
    de_lc2 hi.d (hg X.s_0 (fun _ => none) 0 [] []).d ow (ht X.s_0 (fun _ => none) 0 [] []).d (hi1 X.s_0 (fun _ => none) 0 [] []).d (hg1 X.s_0 (fun _ => none) 0 [] []).d ow1 (ht1 X.s_0 (fun _ => none) 0 [] []).d (he X.s_0 (fun _ => none) 0 [] []).d⟩
/-- y = [..] -/
theorem js_setLc (i : Nat) {y : Str} {py spos : Pos} (hc : X.calm = true) (hN : X.N.Nodup) (hi : JE ct X E e ts fs) (ok : BlkOk X.N X.env.scope scope own) (ow : Own (own.map (·.2)) g)
    (hg : ∀ (s : Shared) (H : Hp) (C : Addr) (cl : List (Str × Addr)) (fp : List Addr), JG ct (X.blk s H scope (compEnvC scope cl C X.env) fp) E tg g gf) (ht : ∀ (s : Shared) (H : Hp) (C : Addr) (cl : List (Str × Addr)) (fp : List Addr), JTs ct (X.blk s H scope (compEnvC scope cl C X.env) fp) E ifs tt ft)
    (he : ∀ (s : Shared) (H : Hp) (C : Addr) (cl : List (Str × Addr)) (fp : List Addr), JE ct (X.blk s H scope (compEnvC scope cl C X.env) fp) E elt te fe) (hy : X.N[i]? = some y := by rfl) (hyl : X.env.scope.names.lookup y = some .local := by rfl)
    (hsw : swapsWith (.ListComp elt [⟨tg, e, ifs, 0⟩] scope pos) (some (.Name y py)) spos.line X.env = pure true := by exact sw_true rfl rfl rfl (by decide +kernel)) (hs : ∀ x, foldedSetIterable e X.env x = pure x := by intro _; rfl) :
    JS ct X E (.Assign [.Name y py] (.ListComp elt [⟨tg, e, ifs, 0⟩] scope pos) spos) (tAsg (tLc (iSeq X.K ts) g tt te (own.map (·.2))) (gName i)) (sAsg (xLc fs gf ft fe (own.map (·.2))) (tgName i)) :=
  ⟨ps_setLc hc hN hy hyl hsw (pi_seq hi.p) ok (fun s H C cl fp => (hg s H C cl fp).p) (fun s H C cl fp => (ht s H C cl fp).p) (fun s H C cl fp => (he s H C cl fp).p) hs, ds_asg (de_lc hi.d (hg X.s_0 (fun _ => none) 0 [] []).d ow (ht X.s_0 (fun _ => none) 0 [] []).d (he X.s_0 (fun _ => none) 0 [] []).d) dg_name⟩
theorem js_setLcR1 {a : Expr} {p2 : Pos} (i : Nat) {y : Str} {py spos : Pos} (hm : X.mg "range" = none) (hc : X.calm = true) (hN : X.N.Nodup) (hi : JA ct X E [a] ta fa) (ok : BlkOk X.N X.env.scope scope own) (ow : Own (own.map (·.2)) g)
    (hg : ∀ (s : Shared) (H : Hp) (C : Addr) (cl : List (Str × Addr)) (fp : List Addr), JG ct (X.blk s H scope (compEnvC scope cl C X.env) fp) E tg g gf) (ht : ∀ (s : Shared) (H : Hp) (C : Addr) (cl : List (Str × Addr)) (fp : List Addr), JTs ct (X.blk s H scope (compEnvC scope cl C X.env) fp) E ifs tt ft)
    (he : ∀ (s : Shared) (H : Hp) (C : Addr) (cl : List (Str × Addr)) (fp : List Addr), JE ct (X.blk s H scope (compEnvC scope cl C X.env) fp) E elt te fe) (hy : X.N[i]? = some y := by rfl) (hyl : X.env.scope.names.lookup y = some .local := by rfl)
    (hsw : swapsWith (.ListComp elt [⟨tg, .Call (.Name "range" p) [a] [] p2, ifs, 0⟩] scope pos) (some (.Name y py)) spos.line X.env = pure true := by exact sw_true rfl rfl rfl (by decide +kernel)) (gl : Gl X "range" := by rfl) (hst : starEach [a] X.env = [(false, eval a X.env)] := by rfl) (hs : ∀ x, foldedSetIterable (.Call (.Name "range" p) [a] [] p2) X.env x = pure x := by intro _; rfl) :
    JS ct X E (.Assign [.Name y py] (.ListComp elt [⟨tg, .Call (.Name "range" p) [a] [] p2, ifs, 0⟩] scope pos) spos) (tAsg (tLc (iRng1 ta) g tt te (own.map (·.2))) (gName i)) (sAsg (xLcR1 fa gf ft fe (own.map (·.2))) (tgName i)) :=
  ⟨ps_setLc hc hN hy hyl hsw (pi_range1 gl hm hi.p hst) ok (fun s H C cl fp => (hg s H C cl fp).p) (fun s H C cl fp => (ht s H C cl fp).p) (fun s H C cl fp => (he s H C cl fp).p) hs, ds_asg (de_lcR1 hi.d (hg X.s_0 (fun _ => none) 0 [] []).d ow (ht X.s_0 (fun _ => none) 0 [] []).d (he X.s_0 (fun _ => none) 0 [] []).d) dg_name⟩
theorem je_lcR1 {a : Expr} {p2 : Pos} (hm : X.mg "range" = none) (hc : X.calm = true) (hN : X.N.Nodup) (hi : JA ct X E [a] ta fa) (ok : BlkOk X.N X.env.scope scope own) (ow : Own (own.map (·.2)) g)
    (hg : ∀ (s : Shared) (H : Hp) (C : Addr) (cl : List (Str × Addr)) (fp : List Addr), JG ct (X.blk s H scope (compEnvC scope cl C X.env) fp) E tg g gf) (ht : ∀ (s : Shared) (H : Hp) (C : Addr) (cl : List (Str × Addr)) (fp : List Addr), JTs ct (X.blk s H scope (compEnvC scope cl C X.env) fp) E ifs tt ft)
    (he : ∀ (s : Shared) (H : Hp) (C : Addr) (cl : List (Str × Addr)) (fp : List Addr), JE ct (X.blk s H scope (compEnvC scope cl C X.env) fp) E elt te fe) (gl : Gl X "range" := by rfl) (hst : starEach [a] X.env = [(false, eval a X.env)] := by rfl) (hs : ∀ x, foldedSetIterable (.Call (.Name "range" p) [a] [] p2) X.env x = pure x := by intro _; rfl) :
    JE ct X E (.ListComp elt [⟨tg, .Call (.Name "range" p) [a] [] p2, ifs, 0⟩] scope pos) (tLc (iRng1 ta) g tt te (own.map (·.2))) (xLcR1 fa gf ft fe (own.map (·.2))) :=
  ⟨pe_lc hc hN (pi_range1 gl hm hi.p hst) ok (fun s H C cl fp => (hg s H C cl fp).p) (fun s H C cl fp => (ht s H C cl fp).p) (fun s H C cl fp => (he s H C cl fp).p) hs, de_lcR1 hi.d (hg X.s_0 (fun _ => none) 0 [] []).d ow (ht X.s_0 (fun _ => none) 0 [] []).d (he X.s_0 (fun _ => none) 0 [] []).d⟩
end
end J
/-! J, eleventh part: sorted of (bool, bool, int), dict displays, defs. -/
namespace J
open PySem L2

/-! ### triples in order -/
abbrev T3 := Bool × Bool × Int
def b2 (b : Bool) : Int := if b = true then 1 else 0
def lt3 (p q : T3) : Bool := if p.1 = q.1 then (if p.2.1 = q.2.1 then decide (p.2.2 < q.2.2) else decide (b2 p.2.1 < b2 q.2.1)) else decide (b2 p.1 < b2 q.1)
def code3 (p : T3) : Int × Int × Int := (b2 p.1, b2 p.2.1, p.2.2)
theorem b2_lt {a b : Bool} : b2 a < b2 b ↔ a = false ∧ b = true := by cases a <;> cases b <;> simp [b2]
theorem swo3 : SrtO.Swo lt3 := by
  refine ⟨fun x y h => ?_, fun x y z h1 h2 => ?_⟩
  · obtain ⟨a, b, c⟩ := x
    obtain ⟨a', b', c'⟩ := y
    unfold lt3 at *
    cases a <;> cases a' <;> cases b <;> cases b' <;> simp_all [b2] <;> omega
  · obtain ⟨a, b, c⟩ := x
    obtain ⟨a', b', c'⟩ := y
    obtain ⟨a2, b2', c2⟩ := z
    unfold lt3 at *
    cases a <;> cases a' <;> cases a2 <;> cases b <;> cases b' <;> cases b2' <;> simp_all [b2] <;> omega
theorem anti3 {x y : T3} (h1 : lt3 x y = false) (h2 : lt3 y x = false) : x = y := by
  obtain ⟨a, b, c⟩ := x
  obtain ⟨a', b', c'⟩ := y
  unfold lt3 at *
  cases a <;> cases a' <;> cases b <;> cases b' <;> simp_all [b2] <;> omega
def ins3 (x : T3) : List T3 → List T3
  | [] => [x]
  | y :: ys => if lt3 x y = true then x :: y :: ys else y :: ins3 x ys
def sort3 : List T3 → List T3
  | [] => []
  | x :: xs => ins3 x (sort3 xs)
theorem ins3_perm (x : T3) : ∀ ys, (ins3 x ys).Perm (x :: ys)
  | [] => List.Perm.refl _
  | y :: ys => by
    unfold ins3
    split
    · exact List.Perm.refl _
    · exact ((ins3_perm x ys).cons y).trans (List.Perm.swap x y ys)
theorem sort3_perm : ∀ xs, (sort3 xs).Perm xs
  | [] => List.Perm.refl _
  | x :: xs => (ins3_perm x _).trans ((sort3_perm xs).cons x)
theorem ins3_srtd (x : T3) : ∀ ys, SrtO.Srtd lt3 ys → SrtO.Srtd lt3 (ins3 x ys)
  | [], _ => List.pairwise_singleton _ _
  | y :: ys, h => by
    have h0 := List.pairwise_cons.mp h
    unfold ins3
    split
    · rename_i c
      refine List.pairwise_cons.mpr ⟨fun z hz => ?_, h⟩
      have hxy := swo3.asym _ _ c
      rcases List.mem_cons.mp hz with rfl | hz
      · exact hxy
      · exact swo3.tr _ _ _ hxy (h0.1 z hz)
    · rename_i c
      refine List.pairwise_cons.mpr ⟨fun z hz => ?_, ins3_srtd x ys h0.2⟩
      rcases List.mem_cons.mp ((ins3_perm x ys).mem_iff.mp hz) with rfl | hz
      · simpa using c
      · exact h0.1 z hz
theorem sort3_srtd : ∀ xs, SrtO.Srtd lt3 (sort3 xs)
  | [] => List.Pairwise.nil
  | x :: xs => ins3_srtd x _ (sort3_srtd xs)
theorem sort3_uniq {us ts : List T3} (h : SrtO.Srtd lt3 us) (p : us.Perm ts) : us = sort3 ts :=
  (p.trans (sort3_perm ts).symm).eq_of_pairwise (le := fun x y => lt3 y x = false) (fun a b _ _ h1 h2 => anti3 h2 h1) h (sort3_srtd ts)

/-! ### the machine's sort of them -/
section
variable {prog : Program} {w : World} {A : Around} {E : Value → Shared → Prop} {s : Shared}
theorem oneLt_bools (c : Bool) {p q : Bool} {Q : Bool → Shared → Prop} (h : Q (decide (b2 p < b2 q)) s) : wpAny (model prog w) A (PyProof.Rows.oneLt' c (.bool p) (.bool q)) Q E s := by
  cases c with
  | true =>
    rw [PyProof.Rows.oneLt'_eq]
    simp only [if_true]
    refine wpAny_bind (wpAny_cRoomFor_byValue rfl ?_)
    refine wpAny_bind (wpAny_callSpecialIfBound?_slot (PyProof.Rows.typeIs_bool' s p) F.slot_bool_lt (call_gives F.slot_bool_lt (PyProof.Rows.typeIs_bool' s p) F.entry_int_lt (F.args_int_lt_2 _ _) (PyProof.Rows.gives_int_lt_bools p q) ?_))
    exact wpAny_truthy_bool h
  | false => exact PySem.W.kat_one _ _ (PyProof.Rows.lt_bool (Q := PySem.W.BoolBack Q) h)
def IsTrip (h : Heap) (v : Value) (k : T3) : Prop := ∃ a o t n, v = .ref a ∧ h.get? a = some o ∧ o.cls = .type "tuple" ∧ o.data = .seq #[.bool k.1, .bool k.2.1, .int k.2.2 t] n
theorem IsTrip.keeps {h h' : Heap} {v : Value} {k : T3} (p : IsTrip h v k) (f : ∀ b o, h.get? b = some o → o.cls = .type "tuple" → h'.get? b = some o) : IsTrip h' v k := by
  obtain ⟨a, o, t, n, e, ho, hc, hd⟩ := p
  exact ⟨a, o, t, n, e, f _ _ ho hc, hc, hd⟩
theorem trip_cmp {vs : List Value} {k : Value → T3} (hp : ∀ v ∈ vs, IsTrip s.heap v (k v)) : SrtO.Cmp prog w A s (PyProof.Rows.tuples' true) (fun p => p.1 ∈ vs) (SrtO.lt2 fun v u => lt3 (k v) (k u)) := by
  intro p q hm hm'
  have h1 := hp _ hm
  have h2 := hp _ hm'
  show wpAny (model prog w) A (PyProof.Rows.keyLt' (PyProof.Rows.tuples' true) p.1 q.1) (fun r s' => s' = s ∧ r = lt3 (k p.1) (k q.1)) (fun _ _ => False) s
  unfold lt3
  generalize k p.1 = x at h1 ⊢
  generalize k q.1 = y at h2 ⊢
  obtain ⟨x1, x2, x3⟩ := x
  obtain ⟨y1, y2, y3⟩ := y
  obtain ⟨a, o, t, n, e, ho, hc, hd⟩ := h1
  obtain ⟨a', o', t', n', e', ho', hc', hd'⟩ := h2
  rw [e, e']
  refine PySem.W.kat_lt ho hd ho' hd' ?_
  show PySem.W.KatLex prog w A true (decide (3 < 3)) _ [(.bool x1, .bool y1), (.bool x2, .bool y2), (.int x3 t, .int y3 t')] 0 s
  refine PySem.W.kat_cons (SeqAt.EqAt.bool_bool x1 y1 prog w _ _ ?_)
  by_cases e1 : x1 = y1
  · have c1 : (x1 == y1) = true := by simp [e1]
    first | rw [c1] | skip
    rw [if_pos e1]
    refine PySem.W.kat_go (fun _ => PySem.W.kat_yes (PySem.W.kat_cons (SeqAt.EqAt.bool_bool x2 y2 prog w _ _ ?_))) (fun z => ?_)
    · by_cases e2 : x2 = y2
      · rw [if_pos e2]
        refine PySem.W.kat_go (fun _ => PySem.W.kat_yes (PySem.W.kat_cons (SeqAt.EqAt.int_int x3 t y3 t' prog w _ _ ?_))) (fun z => ?_)
        · refine PySem.W.kat_go (fun e3 => ?_) (fun e3 => ?_)
          · have e4 : x3 = y3 := by simpa using e3
            subst e4
            exact PySem.W.kat_yes (PySem.W.kat_nil ⟨rfl, by simp⟩)
          · exact PySem.W.kat_no (PySem.W.kat_one _ _ (PyProof.Rows.lt_int ⟨rfl, rfl⟩))
        · simp [e2] at z
      · rw [if_neg e2]
        refine PySem.W.kat_go (fun z => ?_) (fun _ => PySem.W.kat_no (oneLt_bools _ ⟨rfl, rfl⟩))
        simp [e2] at z
    · simp at z
  · rw [if_neg e1]
    refine PySem.W.kat_go (fun z => ?_) (fun _ => PySem.W.kat_no (oneLt_bools _ ⟨rfl, rfl⟩))
    simp [e1] at z
theorem trips_first {h : Heap} {k : Value → T3} : ∀ {vs : List Value}, (∀ v ∈ vs, IsTrip h v (k v)) → ∃ fs : List Value, PySem.W.KatTups h vs fs ∧ fs.length = vs.length ∧ ∀ f ∈ fs, ∃ x, f = Value.bool x
  | [], _ => ⟨[], PySem.W.KatTups.nil, rfl, fun _ hm => by simp at hm⟩
  | v :: vs, hp => by
    obtain ⟨fs, h1, h2, h3⟩ := trips_first (vs := vs) fun v' hm => hp v' (List.mem_cons_of_mem _ hm)
    obtain ⟨a, o, t, n, e, ho, hc, hd⟩ := hp v (List.mem_cons_self ..)
    generalize k v = x at hd
    subst e
    refine ⟨.bool x.1 :: fs, PySem.W.KatTups.cons ho hc hd rfl h1, by rw [List.length_cons, List.length_cons, h2], fun f hm => ?_⟩
    rcases List.mem_cons.mp hm with rfl | hm
    · exact ⟨_, rfl⟩
    · exact h3 f hm
theorem trips_sortable {a : Addr} {vs : List Value} {k : Value → T3} (h0 : 0 < vs.length) (hp : ∀ v ∈ vs, IsTrip s.heap v (k v)) (ha : ∀ o, s.heap.get? a = some o → o.cls ≠ .type "tuple") : SrtO.SortableO prog w A s a vs fun v u => lt3 (k v) (k u) := by
  intro h' keep
  have hp' : ∀ v ∈ vs, IsTrip h' v (k v) := fun v hm => (hp v hm).keeps fun b o e c => keep b o (fun z => by subst z; exact ha o e c) e
  obtain ⟨fs, h1, h2, h3⟩ := trips_first hp'
  refine ⟨PyProof.Rows.tuples' true, fun Q E hq => ?_, trip_cmp hp'⟩
  refine PySem.W.kat_kind (T := .type "bool") h1 (by omega) (fun f hm => ?_) (by rfl) ?_
  · obtain ⟨x, rfl⟩ := h3 f hm
    exact PySem.W.Looks.now
  · have e : (Value.type "bool" != Value.type "tuple") = true := by first | decide +kernel | rfl | decide
    rw [e]
    exact hq
theorem swo_k (k : Value → T3) : SrtO.Swo fun v u => lt3 (k v) (k u) := ⟨fun x y => swo3.asym _ _, fun x y z => swo3.tr _ _ _⟩
theorem sorted_trips {l : Addr} {vs : List Value} {k : Value → T3} {Q : Value → Shared → Prop} (hl : s.heap.IsList l vs.toArray) (hz : vs.length ≤ sizeLine) (hp : ∀ v ∈ vs, IsTrip s.heap v (k v))
    (h : ∀ (h' : Heap) (d : Addr) (out : List Value), SrtO.Srtd (fun v u => lt3 (k v) (k u)) out → out.Perm vs → (∀ b o, s.heap.get? b = some o → h'.get? b = some o) → s.heap.objs.size ≤ d → (∃ n, h'.get? d = some (PyProof.Rows.seqObj "list" out.toArray n)) → Q (.ref d) { s with heap := h' }) :
    wpAny (model prog w) A (call (.builtin "sorted") [.ref l]) Q E s := by
  refine SrtO.sorted_ord (swo_k k) hl hz (fun h2 h₁ a ha kk => ?_) fun out hs hb => ?_
  · refine trips_sortable (s := { s with heap := h₁ }) (by omega) (fun v hm => (hp v hm).keeps fun b o e _ => (kk b o e).2) fun o e => ?_
    have e' : some o = some (PyProof.Rows.seqObj "list" vs.toArray 0) := e.symm.trans ha
    cases e'
    intro c
    exact absurd (Value.type.inj c) (by decide)
  · exact h _ _ out hs hb.perm (fun b o e => PyProof.Rows.sortedAll_old e) (Nat.le_succ _) (PyProof.Rows.sortedAll_at s.heap vs out.toArray)
end
def encV (k : T3) : List V := [.bl k.1, .bl k.2.1, .int k.2.2]
theorem encV_inj {k k' : T3} (h : encV k = encV k') : k = k' := by
  obtain ⟨a, b, c⟩ := k
  obtain ⟨a', b', c'⟩ := k'
  simp [encV] at h
  obtain ⟨h1, h2, h3⟩ := h
  subst h1 h2 h3; rfl
def TripsAt (K : PySem.W.Frag) (H : Hp) : List V → List T3 → Prop := Paired fun x k => ∃ t, x = .ref t ∧ SqT K H t (encV k)
def rSorted3 (K : PySem.W.Frag) : List V → Hp → VK → Prop := fun vs H Q => ∃ (a : Addr) (xs : List V) (ts : List T3), vs = [.ref a] ∧ SqL K H a xs ∧ TripsAt K H xs ts ∧
  ∀ zs us p, TripsAt K H zs us → us.Perm ts → SrtO.Srtd lt3 us → H p = none → Q (.ref p) (upd H p (.lst zs))
open Classical in
theorem call_sorted3 {X : Cx} : CallR X (.builtin "sorted") (rSorted3 X.K) := by
  intro pins s σ H vs us Q I r h
  obtain ⟨a, xs, ts, rfl, hs, ht, q⟩ := h
  obtain ⟨its, rv, hl, hz⟩ := I.list hs
  obtain ⟨u, rfl, ru⟩ := vals1 r
  obtain rfl : u = Value.ref a := ru
  let k : Value → T3 := fun v => if h : ∃ t3 t, v = .ref t ∧ SqT X.K H t (encV t3) then Classical.choose h else (false, false, 0)
  have kv : ∀ t t3, SqT X.K H t (encV t3) → k (.ref t) = t3 := fun t t3 hq => by
    have hx : ∃ t3 t', Value.ref t = .ref t' ∧ SqT X.K H t' (encV t3) := ⟨t3, t, rfl, hq⟩
    have : k (.ref t) = Classical.choose hx := dif_pos hx
    rw [this]
    obtain ⟨t', e, hq'⟩ := Classical.choose_spec hx
    cases e
    exact encV_inj (I.tuple_inj hq' hq)
  have all : ∀ {xs : List V} {ts : List T3} {its : List Value}, Vals xs its → TripsAt X.K H xs ts → its.map k = ts ∧ ∀ v ∈ its, ∃ t t3, v = .ref t ∧ SqT X.K H t (encV t3) := by
    intro xs ts its rv ht
    induction ht generalizing its with
    | nil => cases rv; exact ⟨rfl, fun v hv => by simp at hv⟩
    | cons h0 _ ih =>
      cases rv with
      | cons r1 r2 =>
        obtain ⟨t, rfl, hq⟩ := h0
        cases r1
        obtain ⟨e, h1⟩ := ih r2
        refine ⟨by rw [List.map_cons, e, kv _ _ hq], fun v hv => ?_⟩
        rcases List.mem_cons.mp hv with rfl | hv
        · exact ⟨t, _, rfl, hq⟩
        · exact h1 v hv
  obtain ⟨e1, h1⟩ := all rv ht
  have hT : ∀ v ∈ its, IsTrip s.heap v (k v) := fun v hv => by
    obtain ⟨t, t3, rfl, hq⟩ := h1 v hv
    rw [kv _ _ hq]
    obtain ⟨its2, r2, ⟨o, ho, hc, n, hd⟩, _⟩ := I.tuple hq
    cases r2 with
    | cons b1 r2 => cases r2 with
      | cons b2 r2 => cases r2 with
        | cons b3 r2 =>
          cases r2
          cases b1; cases b2
          obtain ⟨tk, rfl⟩ := b3
          exact ⟨t, o, tk, n, rfl, ho, hc, hd⟩
  refine sorted_trips hl.isList (by rw [← rv.length]; exact hz) hT fun h' d out h2 hp kp hd hn => ?_
  obtain ⟨n, hn⟩ := hn
  have h3 : ∀ v ∈ out, ∃ a, v = Value.ref a := fun v hv => by
    obtain ⟨t, _, e, _⟩ := h1 v (hp.mem_iff.mp hv)
    exact ⟨t, e⟩
  have back : ∀ {l : List Value}, (∀ v ∈ l, v ∈ its) → TripsAt X.K H (l.map backV) (l.map k) := by
    intro l hl
    induction l with
    | nil => exact .nil
    | cons v l ih =>
      obtain ⟨t, t3, rfl, hq⟩ := h1 v (hl v (by simp))
      refine .cons ⟨t, rfl, by rw [kv _ _ hq]; exact hq⟩ (ih fun x hx => hl x (by simp [hx]))
  have hlen : (out.map backV).length ≤ sizeLine := by
    rw [List.length_map, hp.length_eq, ← rv.length]; exact hz
  exact ⟨.ref d, upd H d (.lst (out.map backV)), I.laid (t' := s.toks) kp hd ⟨hlen, out, n, vals_back h3, hn⟩, rfl,
    q _ (out.map k) d (back fun v hv => hp.mem_iff.mp hv) (by rw [← e1]; exact hp.map k) (List.pairwise_map.mpr h2) (I.hok.fresh hd)⟩
def encD (k : T3) : D := .tup [.bl k.1, .bl k.2.1, .int k.2.2]
def toTrips : List D → Option (List T3)
  | [] => some []
  | .tup [.bl a, .bl b, .int c] :: r => (toTrips r).map ((a, b, c) :: ·)
  | _ => none
theorem toTrips_of : ∀ {ds : List D} {ts : List T3}, toTrips ds = some ts → ds = ts.map encD
  | [], ts, h => by simp [toTrips] at h; subst h; rfl
  | d :: r, ts, h => by
    unfold toTrips at h
    split at h
    · rename_i e; cases e
    · rename_i e
      cases e
      obtain ⟨us, h1, rfl⟩ := Option.map_eq_some_iff.mp h
      rw [toTrips_of h1]; rfl
    · cases h
def gSorted3 : DF := fun ds M => match ds with | [d] => (match (itemsOf d M).bind toTrips with | some ts => .ok (.m M.length) (M ++ [.lst ((sort3 ts).map encD)]) | none => .stuck) | _ => .stuck
theorem trips_rep {K : PySem.W.Frag} {ρ : List Addr} {H : Hp} : ∀ {ts : List T3} {vs : List V}, RepAll K ρ H vs (ts.map encD) → TripsAt K H vs ts
  | [], vs, h => by cases h; exact .nil
  | t :: ts, vs, h => by
    rw [List.map_cons] at h
    cases h with
    | cons h1 h2 =>
      obtain ⟨a, xs, rfl, hq, r⟩ := h1.tup_of
      cases r with
      | cons r1 r => cases r with
        | cons r2 r => cases r with
          | cons r3 r =>
            cases r
            rw [r1.bl_of, r2.bl_of, r3.int_of] at hq
            exact .cons ⟨a, rfl, hq⟩ (trips_rep h2)
theorem rep_trips {K : PySem.W.Frag} {ρ : List Addr} {H : Hp} {ts : List T3} {vs : List V} (h : TripsAt K H vs ts) : RepAll K ρ H vs (ts.map encD) := by
  induction h with
  | nil => exact .nil
  | cons h0 _ ih =>
    obtain ⟨t, rfl, hq⟩ := h0
    exact .cons (.tup hq (.cons (.bl _) (.cons (.bl _) (.cons (.int _) .nil)))) ih
theorem rc_sorted3 {G : Gc} : RC G (rSorted3 G.K) gSorted3 := by
  intro ρ H M xs ds Q E R r h
  unfold gSorted3 at h
  split at h
  · obtain ⟨v, rfl, rv⟩ := r.one
    split at h
    · rename_i ts e
      obtain ⟨ys, e1, e2⟩ := Option.bind_eq_some_iff.mp e
      obtain ⟨a, vs, rfl, hs, rvs⟩ := itemsOf_ok R rv e1
      rw [toTrips_of e2] at rvs
      refine ⟨a, vs, ts, rfl, hs, trips_rep rvs, fun zs us p hz hp hsd hn => ?_⟩
      rw [sort3_uniq hsd hp] at hz
      exact R.alloc hn (rep_trips hz) h
    · exact h.elim
  · exact h.elim

/-! ### dict displays -/
def xPairs : List (EF × EF) → Dv → Mem → Rs (List (D × D))
  | [], _, M => .ok [] M
  | (k, v) :: r, δ, M => (k δ M).bind fun x M1 => (v δ M1).bind fun y M2 => (xPairs r δ M2).bind fun ps M3 => .ok ((x, y) :: ps) M3
def keysOf : List (D × D) → Option (List (Key × D))
  | [] => some []
  | (k, v) :: r => match keyOf k, keysOf r with | some q, some qs => some ((q, v) :: qs) | _, _ => none
def mergeD (kvs more : List (Key × D)) : List (Key × D) := more.foldl (fun acc kv => putD acc kv.1 kv.2) kvs
def xDisp (trs : List (EF × EF)) : EF := fun δ M => (xPairs trs δ (M ++ [.dct []])).bind fun ps M2 => match M2[M.length]?, keysOf ps with
  | some (.dct []), some kvs => Rs.grd (kvs.length ≤ 15) (.ok (.m M.length) (M2.set M.length (.dct (mergeD [] kvs))))
  | _, _ => .stuck
inductive DPairs (G : Gc) (E : XE) : List (TE × TE) → List (EF × EF) → Prop
  | nil : DPairs G E [] []
  | cons {tk tv : TE} {fk fv : EF} {ts : List (TE × TE)} {fs : List (EF × EF)} : DE G E tk fk → DE G E tv fv → DPairs G E ts fs → DPairs G E ((tk, tv) :: ts) ((fk, fv) :: fs)
def RepPs (K : PySem.W.Frag) (ρ : List Addr) (H : Hp) : List (V × V) → List (D × D) → Prop := Paired fun p q => Rep K ρ H p.1 q.1 ∧ Rep K ρ H p.2 q.2
theorem dpairs {G : Gc} {E : XE} {ts : List (TE × TE)} {fs : List (EF × EF)} (h : DPairs G E ts fs) : ∀ {σ δ ρ H M} {P : List (D × D) → Mem → Prop} {R : List (V × V) → Hp → Prop}, Sl G.K ρ H σ δ → Rm G ρ H M → Sat (xPairs fs δ M) P (GoX G ρ H E) →
    (∀ ps M1 ρ1 H1 vps, Ex ρ H ρ1 H1 → Rm G ρ1 H1 M1 → RepPs G.K ρ1 H1 vps ps → P ps M1 → R vps H1) → tPairs ts σ H R := by
  induction h with
  | nil => exact fun hs hr h hk => hk [] _ _ _ [] Ex.refl hr .nil h
  | cons hk hv _ ih =>
    intro σ δ ρ H M P R hs hr h q
    refine DE.bind (P := P) hk hs hr h fun x M1 ρ1 H1 vx e1 s1 r1 rx h1 => ?_
    refine DE.bind (P := P) hv s1 r1 h1 fun y M2 ρ2 H2 vy e2 s2 r2 ry h2 => ?_
    rw [Sat.bind] at h2
    refine ih s2 r2 h2 fun ps M3 ρ3 H3 vps e3 r3 rps h3 => ?_
    exact q _ M3 ρ3 H3 _ ((e1.trans e2).trans e3) r3 (.cons ⟨rx.mono (e2.trans e3), ry.mono e3⟩ rps) h3
theorem keys_rep {K : PySem.W.Frag} {ρ : List Addr} {H : Hp} : ∀ {ps : List (D × D)} {vps : List (V × V)} {kvs : List (Key × D)}, RepPs K ρ H vps ps → keysOf ps = some kvs → ∃ vk : List (Key × V), vps = vk.map (fun kv => (kV kv.1, kv.2)) ∧ RepKV K ρ H vk kvs
  | [], vps, kvs, r, h => by cases r; simp [keysOf] at h; subst h; exact ⟨[], rfl, .nil⟩
  | (a, b) :: r, vps, kvs, h0, h => by
    cases h0 with
    | cons p t =>
      unfold keysOf at h
      split at h
      · rename_i q qs e1 e2
        cases h
        obtain ⟨vk, rfl, rk⟩ := keys_rep t e2
        obtain ⟨p1, p2⟩ := p
        refine ⟨(q, _) :: vk, ?_, .cons ⟨rfl, p2⟩ rk⟩
        rw [List.map_cons]
        congr 1
        exact Prod.ext (keyOf_v p1 e1) rfl
      · cases h
theorem merge_rep {K : PySem.W.Frag} {ρ : List Addr} {H : Hp} {more : List (Key × V)} {more' : List (Key × D)} (h : RepKV K ρ H more more') : ∀ {kvs : List (Key × V)} {kvs' : List (Key × D)}, RepKV K ρ H kvs kvs' → RepKV K ρ H (mergeK kvs more) (mergeD kvs' more') := by
  induction h with
  | nil => exact fun h => h
  | cons h0 _ ih =>
    intro kvs kvs' hk
    refine ih ?_
    show RepKV K ρ H (putK kvs _ _) (putD kvs' _ _)
    rw [← h0.1]
    exact hk.put _ h0.2
theorem de_disp {G : Gc} {E : XE} {ts : List (TE × TE)} {fs : List (EF × EF)} (h : DPairs G E ts fs) : DE G E (tDisp ts) (xDisp fs) := by
  intro σ δ ρ H M Q hs hr q
  intro p hp
  have e1 : Ex ρ H (ρ ++ [p]) (upd H p (.dK [])) := (ex_new hp).trans ex_push
  have r1 : Rm G (ρ ++ [p]) (upd H p (.dK [])) (M ++ [.dct []]) := hr.new hp ⟨[], upd_same, .nil⟩
  have ek : (ρ ++ [p])[M.length]? = some p := by rw [← hr.len, List.getElem?_append_right (Nat.le_refl _)]; simp
  unfold xDisp at q
  rw [Sat.bind] at q
  refine dpairs h (hs.mono e1) r1 (q.mono (fun _ _ z => z) fun _ _ _ z => z.weak e1) fun ps M2 ρ2 H2 vps e2 r2 rps q2 => ?_
  split at q2
  · rename_i em ekv
    obtain ⟨c, q2⟩ := q2.grd
    have ek2 := e2.pre _ _ ek
    obtain ⟨vs, hv, rv⟩ := r2.get em ek2
    cases rv
    obtain ⟨vk, rfl, rk⟩ := keys_rep rps ekv
    have ex : Ex ρ2 H2 ρ2 (upd H2 p (.dK (mergeK [] vk))) := ex_set hv (fun z => z)
    refine ⟨hv, vk, rfl, by rw [rk.length]; exact c, ?_⟩
    exact q2 ρ2 _ _ ((e1.trans e2).trans ex) (r2.set em ek2 ⟨_, upd_same, (merge_rep rk .nil).mono ex⟩) (.m ek2)
  · exact q2.elim
structure JPs (ct : List (Addr × List Str)) (X : Cx) (E : XE) (pos : Pos) (ks : List (Option Expr)) (vs : List Expr) (ts : List (TE × TE)) (fs : List (EF × EF)) : Prop where
  p : PPs X pos ks vs ts
  d : DPairs (gOf X ct) E ts fs
section
variable {ct : List (Addr × List Str)} {X : Cx} {E : XE} {pos : Pos} {k v : Expr} {ks : List (Option Expr)} {vs : List Expr} {tk tv : TE} {fk fv : EF} {ts : List (TE × TE)} {fs : List (EF × EF)}
theorem jps_nil : JPs ct X E pos [] [] [] [] := ⟨pps_nil, .nil⟩
theorem jps_cons (hk : JE ct X E k tk fk) (hv : JE ct X E v tv fv) (hr : JPs ct X E pos ks vs ts fs) : JPs ct X E pos (some k :: ks) (v :: vs) ((tk, tv) :: ts) ((fk, fv) :: fs) := ⟨pps_cons hk.p hv.p hr.p, .cons hk.d hv.d hr.d⟩
theorem je_disp (h : JPs ct X E pos ks vs ts fs) (hall : ks.all (·.isSome) = true := by rfl) (hl : ks.length = vs.length := by rfl) (h0 : ks ≠ [] := by intro z; cases z) (h15 : ks.length ≤ 15 := by decide) : JE ct X E (.Dict ks vs pos) (tDisp ts) (xDisp fs) := ⟨pe_disp h.p hall hl h0 h15, de_disp h.d⟩
/-- {}: by texts and ints; by bools -/
def xNewK : EF := fun _ M => .ok (.m M.length) (M ++ [.dct []])
def xNewB : EF := fun _ M => .ok (.m M.length) (M ++ [.bd []])
theorem je_newK : JE ct X E (.Dict [] [] pos) tDNewK xNewK := ⟨pe_dnewK, fun σ δ ρ H M Q hs hr h p hp => by
  have e1 : Ex ρ H (ρ ++ [p]) (upd H p (.dK [])) := (ex_new hp).trans ex_push
  exact h (ρ ++ [p]) _ _ e1 (hr.new hp ⟨[], upd_same, .nil⟩) (.m (by rw [← hr.len, List.getElem?_append_right (Nat.le_refl _)]; simp))⟩
theorem je_newB : JE ct X E (.Dict [] [] pos) (tDNewB X.prog X.w) xNewB := ⟨pe_dnewB, fun σ δ ρ H M Q hs hr h p hp => by
  have e1 : Ex ρ H (ρ ++ [p]) (upd H p (hBd X.prog X.w p [])) := (ex_new hp).trans ex_push
  exact h (ρ ++ [p]) _ _ e1 (hr.new hp ⟨[], upd_same, .nil⟩) (.m (by rw [← hr.len, List.getElem?_append_right (Nat.le_refl _)]; simp))⟩
end

/-! ### defs -/
def fnD (np nN : Nat) (body : SF) : DF := fun ds M => if ds.length = np then (body (ds.map some ++ List.replicate (nN - np) none) M).bind fun fl M1 => match fl with
    | .nx _ => .ok .non M1
    | .rt d => .ok d M1
    | _ => .stuck
  else .stuck
theorem RepAll.sl {K : PySem.W.Frag} {ρ : List Addr} {H : Hp} {vs : List V} {ds : List D} (r : RepAll K ρ H vs ds) (n : Nat) : Sl K ρ H (vs.map some ++ List.replicate n none) (ds.map some ++ List.replicate n none) := by
  refine ⟨by simp [r.length], fun i d h => ?_⟩
  by_cases hi : i < ds.length
  · rw [List.getElem?_append_left (by simpa using hi), List.getElem?_map] at h
    obtain ⟨d', e, ed⟩ := Option.map_eq_some_iff.mp h
    cases ed
    obtain ⟨v, ev, rv⟩ := r.get e
    refine ⟨v, ?_, rv⟩
    rw [List.getElem?_append_left (by rw [List.length_map, r.length]; exact hi), List.getElem?_map, ev]
    rfl
  · rw [List.getElem?_append_right (by simpa using hi)] at h
    have := List.mem_of_getElem? h
    rw [List.mem_replicate] at this
    cases this.2
section
variable {P : Program} {w : World} {K : PySem.W.Frag} {mg : Str → Option Value} {base : Heap}
/-- THE RULE for a def -/
theorem fn_ok (ct : List (Addr × List Str)) {x qual : Str} {st : Stmt} {f : Addr} {fd : FuncData} {N ps : List Str} {k : Nat} {body : SF} (F : Fun K x qual st f fd) (S : FnScope N ps (defScope st))
    (hb : ∀ (cdv : Value) (A : Around) (outer : List Env) (s : Shared) (H : Hp) (E : XK), Room k (A.deeper (PyProof.Rows.envOfC qual (defScope st) s.heap.objs.size f cdv)) →
      ∃ t, JSs ct (cxOf CX0 P w K mg base N qual (defScope st) f cdv A outer s H E).nox none (defBody st) t body) :
    FnOk P w K mg base CX0 (k + 1) f fd ps (spF ⟨P, w, K, ct⟩ (fnD ps.length N.length body)) := by
  refine F.ok S (fun vs H Q E h => ?_) (fun cdv A outer s H vs Q E hr h => ?_)
  · obtain ⟨ρ, M, ds, r, R, q⟩ := h
    unfold fnD at q
    split at q
    · rename_i e; rw [r.length]; exact e
    · exact q.elim
  · obtain ⟨ρ, M, ds, r, R, q⟩ := h
    obtain ⟨t, hp, hd⟩ := hb cdv A outer s H E hr
    refine ⟨t, hp, ?_⟩
    unfold fnD at q
    split at q
    · rename_i e
      rw [Sat.bind] at q
      have hs : Sl K ρ H (L2.start N vs) (ds.map some ++ List.replicate (N.length - ps.length) none) := by
        have := r.sl (N.length - ps.length)
        unfold L2.start
        rw [r.length, e]
        exact this
      refine hd _ _ _ ρ H M hs R (q.mono (fun fl M1 q1 => ?_) fun _ _ _ z => z)
      cases fl with
      | nx δ => exact fun ρ' H' σ e1 R1 s1 => q1 ρ' H' .non e1 R1 .non
      | rt d => exact fun ρ' H' v e1 R1 r1 => q1 ρ' H' v e1 R1 r1
      | bk δ => exact q1.elim
      | ct δ => exact q1.elim
    · exact q.elim
end
end J
/-! J, twelfth part: callees as facts. -/
namespace J
open PySem L2
theorem hu65 {k : Nat} {A : Around} (hr : Room k A) : A.units + 65 < cLine := by have := hr.un; omega
/-- a def of the module that may be called -/
structure Cal (P : Program) (w : World) (K : PySem.W.Frag) (mg : Str → Option Value) (base : Heap) (ct : List (Addr × List Str)) (x : Str) (k : Nat) (ps : List Str) (g : DF) : Prop where
  ex : ∃ f fd, FnOk P w K mg base CX0 k f fd ps (spF ⟨P, w, K, ct⟩ g) ∧ mg x = some (.ref f) ∧ PySem.W.keepIn K (.ref f) = true ∧ Binds K fd ps []
/-- a method -/
structure CalM (P : Program) (w : World) (K : PySem.W.Frag) (mg : Str → Option Value) (base : Heap) (ct : List (Addr × List Str)) (c : Nat) (C : Addr) (m : Str) (k : Nat) (ps : List Str) (g : DF) : Prop where
  ex : ∃ f fd names, FnOk P w K mg base CX0 k f fd ps (spF ⟨P, w, K, ct⟩ g) ∧ ct[c]? = some (C, names) ∧ Cls K C ∧ Meth K C m f ∧ m ∉ names ∧ Binds K fd ps []
/-- a class that may be made -/
structure CalI (P : Program) (w : World) (K : PySem.W.Frag) (mg : Str → Option Value) (base : Heap) (ct : List (Addr × List Str)) (x : Str) (c : Nat) (C : Addr) (k : Nat) (ps : List Str) (g : DF) (dvs : List V) (dds : List D) : Prop where
  ex : ∃ f fd names ds, FnOk P w K mg base CX0 k f fd ps (spF ⟨P, w, K, ct⟩ g) ∧ mg x = some (.ref C) ∧ ct[c]? = some (C, names) ∧ names.Nodup ∧ names.length ≤ 100 ∧ Mk K C f ∧ Binds K fd ps ds ∧ Vals dvs ds ∧ ∀ ρ H, RepAll K ρ H dvs dds
section
variable {ct : List (Addr × List Str)} {X : Cx} {k c : Nat} {C : Addr} {ps : List Str} {g : DF} {dvs : List V} {dds : List D} {x m : Str} {p pos apos : Pos} {e o : Expr} {es : List Expr} {to : TE} {fo : EF} {t : TA} {fa : AF}
theorem je_callC (F : Cal X.prog X.w X.K X.mg X.base ct x k ps g) (hr : Room k X.A) (ha : JA ct X none (e :: es) t fa) (hg : Gl X x := by rfl) (hdb : (x == ("__debug__" : Str)) = false := by decide) (he : starEach (e :: es) X.env = (false, eval e X.env) :: starEach es X.env := by rfl) (hpl : (backTo pos (starEach es X.env)).any (·.1) = false := by rfl) :
    JE ct X none (.Call (.Name x p) (e :: es) [] pos) (tCall (spF (gOf X ct) g) [] E0 t) (xCall g fa) := by
  obtain ⟨f, fd, F, hm, hk, hb⟩ := F.ex
  exact je_call F hr hm hk hb pass0 ha hg hdb he hpl
theorem je_callC0 (F : Cal X.prog X.w X.K X.mg X.base ct x k ps g) (hr : Room k X.A) (hg : Gl X x := by rfl) (hdb : (x == ("__debug__" : Str)) = false := by decide) : JE ct X none (.Call (.Name x p) [] [] pos) (tCall (spF (gOf X ct) g) [] E0 tNil) (xCall g xNil) := by
  obtain ⟨f, fd, F, hm, hk, hb⟩ := F.ex
  exact je_call0 F hr hm hk hb pass0 hg hdb
theorem je_methC {pl : Sem Bool} (ho : JE ct X none o to fo) (F : CalM X.prog X.w X.K X.mg X.base ct c C m k ps g) (hr : Room k X.A) (ha : JA ct X none (e :: es) t fa)
    (hst : starEach (e :: es) X.env = (false, eval e X.env) :: starEach es X.env := by rfl) (hpl : (backTo pos (starEach es X.env)).any (·.1) = false := by rfl)
    (ht : eval (.Call (.Attribute o m apos) (e :: es) [] pos) X.env = (do
      let ov ← eval o X.env
      standAt apos.atName
      let (f, first) ← holding [ov] (getMethod ov m pl)
      callWith pos f first (backTo pos (starEach (e :: es) X.env)) (backToKw pos (keywordEach [] X.env))) := by rfl) :
    JE ct X none (.Call (.Attribute o m apos) (e :: es) [] pos) (tMeth C m (spF (gOf X ct) g) [] E0 to t) (xMeth c g fo fa) := by
  obtain ⟨f, fd, names, F, ec, cl, hm, hn, hb⟩ := F.ex
  exact je_meth (pl := pl) ho cl hm ec hn F hr hb pass0 ha hst hpl ht
theorem je_methC0 {pl : Sem Bool} (ho : JE ct X none o to fo) (F : CalM X.prog X.w X.K X.mg X.base ct c C m k ps g) (hr : Room k X.A)
    (ht : eval (.Call (.Attribute o m apos) [] [] pos) X.env = (do
      let ov ← eval o X.env
      standAt apos.atName
      let (f, first) ← holding [ov] (getMethod ov m pl)
      callWith pos f first (backTo pos (starEach [] X.env)) (backToKw pos (keywordEach [] X.env))) := by rfl) :
    JE ct X none (.Call (.Attribute o m apos) [] [] pos) (tMeth C m (spF (gOf X ct) g) [] E0 to tNil) (xMeth c g fo xNil) := by
  obtain ⟨f, fd, names, F, ec, cl, hm, hn, hb⟩ := F.ex
  exact je_meth0 (pl := pl) ho cl hm ec hn F hr hb pass0 ht
theorem je_makeC (F : CalI X.prog X.w X.K X.mg X.base ct x c C k ps g dvs dds) (hr : Room (k + 1) X.A) (ha : JA ct X none (e :: es) t fa) (hg : Gl X x := by rfl) (hdb : (x == ("__debug__" : Str)) = false := by decide) (he : starEach (e :: es) X.env = (false, eval e X.env) :: starEach es X.env := by rfl) (hpl : (backTo pos (starEach es X.env)).any (·.1) = false := by rfl) :
    JE ct X none (.Call (.Name x p) (e :: es) [] pos) (tMake C (spF (gOf X ct) g) dvs E0 t) (xMake c (fun ds => g (ds ++ dds)) fa) := by
  obtain ⟨f, fd, names, ds, F, hm, ec, hn, hl, M, hb, hd, hdd⟩ := F.ex
  exact je_make M F hr hm ec hn hl hb hd hdd pass0 ha hg hdb he hpl
end
section
variable {P : Program} {w : World} {K : PySem.W.Frag} {mg : Str → Option Value} {base : Heap}
/-- the rule for a def with defaults -/
theorem fn_okD (ct : List (Addr × List Str)) {x qual : Str} {params : Arguments} {bd : List Stmt} {scope : Scope} {dvs : List V} {kws : List (Str × V)} {f : Addr} {fd : FuncData} {N ps : List Str} {k : Nat} {body : SF} (F : FunD K x qual params bd scope dvs kws f fd) (S : FnScope N ps scope)
    (hb : ∀ (cdv : Value) (A : Around) (outer : List Env) (s : Shared) (H : Hp) (E : XK), Room k (A.deeper (PyProof.Rows.envOfC qual scope s.heap.objs.size f cdv)) →
      ∃ t, JSs ct (cxOf CX0 P w K mg base N qual scope f cdv A outer s H E).nox none bd t body) :
    FnOk P w K mg base CX0 (k + 1) f fd ps (spF ⟨P, w, K, ct⟩ (fnD ps.length N.length body)) := by
  refine F.ok S (fun vs H Q E h => ?_) (fun cdv A outer s H vs Q E hr h => ?_)
  · obtain ⟨ρ, M, ds, r, R, q⟩ := h
    unfold fnD at q
    split at q
    · rename_i e; rw [r.length]; exact e
    · exact q.elim
  · obtain ⟨ρ, M, ds, r, R, q⟩ := h
    obtain ⟨t, hp, hd⟩ := hb cdv A outer s H E hr
    refine ⟨t, hp.nox, ?_⟩
    unfold fnD at q
    split at q
    · rename_i e
      rw [Sat.bind] at q
      have hs : Sl K ρ H (L2.start N vs) (ds.map some ++ List.replicate (N.length - ps.length) none) := by
        have := r.sl (N.length - ps.length)
        unfold L2.start
        rw [r.length, e]
        exact this
      refine hd _ _ _ ρ H M hs R (q.mono (fun fl M1 q1 => ?_) fun _ _ _ z => z)
      cases fl with
      | nx δ => exact fun ρ' H' σ e1 R1 s1 => q1 ρ' H' .non e1 R1 .non
      | rt d => exact fun ρ' H' v e1 R1 r1 => q1 ρ' H' v e1 R1 r1
      | bk δ => exact q1.elim
      | ct δ => exact q1.elim
    · exact q.elim
/-- nothing passes a loop's end -/
theorem hp0 {X : Cx} : PassesOwn (model X.prog X.w) X.A X.env (fun _ _ => False) := PassesOwn.never
theorem mem_k {names : List Str} {m : Str} (h : decide (m ∉ names) = true) : m ∉ names := of_decide_eq_true h
end
end J
/-! J, thirteenth part: the rules that speak of the written part, with it named (so that they serve within comprehensions). -/
namespace J
open PySem L2
section
variable {ct : List (Addr × List Str)} {X : Cx} {E : XE} {P : Program} {w : World} {K : PySem.W.Frag} {mg : Str → Option Value} {base : Heap} {pos apos p p2 : Pos} {a b c e o : Expr} {es : List Expr} {ta tb tc te to : TE} {fa fb fc fe fo : EF} {t : TA} {af : AF} {x m : Str}
theorem ke_add (ha : JE ct X E a ta fa) (hb : JE ct X E b tb fb) (eK : X.K = K := by rfl) : JE ct X E (.BinOp a .Add b pos) (tOp (rAddU K) ta tb) (xBin gAdd fa fb) := by subst eK; exact je_add ha hb
theorem ke_eq (hu : X.A.units + 64 < cLine) (ha : JE ct X E a ta fa) (hb : JE ct X E b tb fb) (eK : X.K = K := by rfl) : JE ct X E (.Compare a [.Eq] [b] pos) (tOp (rEqU K) ta tb) (xBin gEq fa fb) := by subst eK; exact je_cmp (op_eq.or (op_eqD hu)) ro_eq ha hb
theorem ke_ne (hu : X.A.units + 64 < cLine) (ha : JE ct X E a ta fa) (hb : JE ct X E b tb fb) (eK : X.K = K := by rfl) : JE ct X E (.Compare a [.NotEq] [b] pos) (tOp (rNeU K) ta tb) (xBin gNe fa fb) := by subst eK; exact je_cmp (op_ne.or (op_neD hu)) ro_ne ha hb
theorem kt_eq (hu : X.A.units + 64 < cLine) (ha : JE ct X E a ta fa) (hb : JE ct X E b tb fb) (eK : X.K = K := by rfl) : JT ct X E (.Compare a [.Eq] [b] pos) (tTest (tOp (rEqU K) ta tb)) (xTst (xBin gEq fa fb)) := by subst eK; exact jt_cmp (op_eq.or (op_eqD hu)) ro_eq ha hb
theorem kt_ne (hu : X.A.units + 64 < cLine) (ha : JE ct X E a ta fa) (hb : JE ct X E b tb fb) (eK : X.K = K := by rfl) : JT ct X E (.Compare a [.NotEq] [b] pos) (tTest (tOp (rNeU K) ta tb)) (xTst (xBin gNe fa fb)) := by subst eK; exact jt_cmp (op_ne.or (op_neD hu)) ro_ne ha hb
theorem ke_in (hu : X.A.units + 65 < cLine) (ha : JE ct X E a ta fa) (hb : JE ct X E b tb fb) (hm : behindInMarks .In b = false := by rfl) (e1 : X.prog = P := by rfl) (e2 : X.w = w := by rfl) (eK : X.K = K := by rfl) : JE ct X E (.Compare a [.In] [b] pos) (tOp (rInU P w K) ta tb) (xBin gIn fa fb) := by subst e1 e2 eK; exact je_cmp (op_inU hu) ro_in ha hb hm
theorem ke_notIn (hu : X.A.units + 65 < cLine) (ha : JE ct X E a ta fa) (hb : JE ct X E b tb fb) (hm : behindInMarks .NotIn b = false := by rfl) (e1 : X.prog = P := by rfl) (e2 : X.w = w := by rfl) (eK : X.K = K := by rfl) : JE ct X E (.Compare a [.NotIn] [b] pos) (tOp (rNotInU P w K) ta tb) (xBin gNotIn fa fb) := by subst e1 e2 eK; exact je_cmp (op_notInU hu) ro_notIn ha hb hm
theorem kt_in (hu : X.A.units + 65 < cLine) (ha : JE ct X E a ta fa) (hb : JE ct X E b tb fb) (hm : behindInMarks .In b = false := by rfl) (e1 : X.prog = P := by rfl) (e2 : X.w = w := by rfl) (eK : X.K = K := by rfl) : JT ct X E (.Compare a [.In] [b] pos) (tTest (tOp (rInU P w K) ta tb)) (xTst (xBin gIn fa fb)) := by subst e1 e2 eK; exact jt_cmp (op_inU hu) ro_in ha hb hm
theorem kt_notIn (hu : X.A.units + 65 < cLine) (ha : JE ct X E a ta fa) (hb : JE ct X E b tb fb) (hm : behindInMarks .NotIn b = false := by rfl) (e1 : X.prog = P := by rfl) (e2 : X.w = w := by rfl) (eK : X.K = K := by rfl) : JT ct X E (.Compare a [.NotIn] [b] pos) (tTest (tOp (rNotInU P w K) ta tb)) (xTst (xBin gNotIn fa fb)) := by subst e1 e2 eK; exact jt_cmp (op_notInU hu) ro_notIn ha hb hm
theorem kt_tru (ha : JE ct X E a ta fa) (eK : X.K = K := by rfl) (he : ∀ whole, isTrue a X.env whole = (do let v ← whole; standAt a.pos; holding [v] (truthy v)) := by intro _; rfl) : JT ct X E a (fun σ H Q => ta σ H fun x H' => ∃ k, TruV K x H' k ∧ Q k H') (xTru fa) := by subst eK; exact jt_tru ha he
theorem ke_ixs (ha : JE ct X E a ta fa) (hb : JE ct X E b tb fb) (hs : PlainIx b := by exact fun _ _ => rfl) (eK : X.K = K := by rfl) : JE ct X E (.Subscript a b pos) (tOp (rIx K) ta tb) (xBin gIx fa fb) := by subst eK; exact je_ixs ha hb hs
theorem ke_dget (hu : X.A.units + 1 < cLine) (ha : JE ct X E a ta fa) (hb : JE ct X E b tb fb) (hs : NoSl b := by exact fun _ _ => rfl) (e1 : X.prog = P := by rfl) (e2 : X.w = w := by rfl) : JE ct X E (.Subscript a b pos) (tDGetU P w ta tb) (xDGet fa fb) := by subst e1 e2; exact je_dget hu ha hb hs
theorem ke_dget1 (hu : X.A.units + 1 < cLine) (ha : JE ct X E a ta fa) (hb : JE ct X E b tb fb) (m : M1 X a "get" apos b pos := by exact ⟨rfl, rfl, rfl, rfl⟩) (e1 : X.prog = P := by rfl) (e2 : X.w = w := by rfl) : JE ct X E (.Call (.Attribute a "get" apos) [b] [] pos) (tDGet1U P w ta tb) (xDGet1 fa fb) := by subst e1 e2; exact je_dget1 hu ha hb m
theorem ke_dget2 (hu : X.A.units + 1 < cLine) (ha : JE ct X E a ta fa) (hb : JE ct X E b tb fb) (hc : JE ct X E c tc fc) (m : M2 X a "get" apos b c pos := by exact ⟨rfl, rfl, rfl, rfl⟩) (e1 : X.prog = P := by rfl) (e2 : X.w = w := by rfl) : JE ct X E (.Call (.Attribute a "get" apos) [b, c] [] pos) (tDGet2U P w ta tb tc) (xDGet2 fa fb fc) := by subst e1 e2; exact je_dget2 hu ha hb hc m
theorem ke_sl {lo hi : Option Expr} {tl th : TO} {fl fh : PF} (he : JE ct X E e te fe) (hl : JO ct X E lo tl fl) (hh : JO ct X E hi th fh) (eK : X.K = K := by rfl) : JE ct X E (.Subscript e (.Slice lo hi none p2) pos) (tSl (rSlU K) te tl th) (xSl fe fl fh) := by subst eK; exact je_sl he hl hh
theorem ke_fld {cc i : Nat} {f : Str} {C : Addr} {names : List Str} (cf : CF ct K cc i f C names) (ha : JE ct X E a ta fa) (hb : attributeBase a f X.env (eval a X.env) = eval a X.env := by rfl) (eK : X.K = K := by rfl) : JE ct X E (.Attribute a f pos) (tFld K ta f) (xFld cc i fa) := by subst eK; exact je_fld cf ha hb
theorem ke_bm {T id : String} {name : Str} {r : V → List V → Hp → VK → Prop} {g : D → List D → Mem → Rs D} {ok : D → Mem → Bool} (pa : PlainAttrs T) (slot : Slot T name id) (hty : typeOf (.builtin id) = pure (.type "method_descriptor")) (hm : MtR X id r) (hg : RM (gOf X ct) T r g ok) (ho : JE ct X E o to fo) (ha : JA ct X E (e :: es) t af)
    (eK : X.K = K := by rfl) (hbase : attributeBase o name X.env (eval o X.env) = eval o X.env := by rfl)
    (hfew : ((backTo pos (starEach (e :: es) X.env)).all (fun x => !x.1) && (backToKw pos (keywordEach [] X.env)).all (fun x => x.1.isSome)
      && decide ((e :: es).length + ([] : List Keyword).length + (if ([] : List Keyword).isEmpty then 0 else 1) < 30)) = true := by rfl)
    (hline : (apos.endLine == pos.line) = true := by rfl) (hs : starEach (e :: es) X.env = (false, eval e X.env) :: starEach es X.env := by rfl) (hplain : (backTo pos (starEach es X.env)).any (·.1) = false := by rfl) :
    JE ct X E (.Call (.Attribute o name apos) (e :: es) [] pos) (tBM K T r to t) (xBM g ok fo af) := by subst eK; exact je_bm pa slot hty hm hg ho ha hbase hfew hline hs hplain
theorem kg_tup {es : List Expr} {k : Nat} {t : TGs} {f : GFs} (n : Nat) (hc : X.calm = true) (h : JGs ct X E es t f) (eK : X.K = K := by rfl) (hn : (assignEach es X.env).length = n := by rfl) (hst : (assignEach es X.env).findIdx? (·.1) = none := by rfl) : JG ct X E (.Tuple es k pos) (gTup K n t) (tgTup n f) := by subst eK; exact jg_tup n hc h hn hst
theorem ke_newB (e1 : X.prog = P := by rfl) (e2 : X.w = w := by rfl) : JE ct X E (.Dict [] [] pos) (tDNewB P w) xNewB := by subst e1 e2; exact je_newB
/-! built-ins -/
theorem kc_len (eK : X.K = K := by rfl) : CallR X (.builtin "len") (rLenU K) := by subst eK; exact call_len.or call_lenD
theorem kc_sum (hc : X.calm = true) (eK : X.K = K := by rfl) : CallR X (.builtin "sum") (rSum K) := by subst eK; exact cr_sum hc
theorem kc_any (hc : X.calm = true) (eK : X.K = K := by rfl) : CallR X (.builtin "any") (rAny K) := by subst eK; exact cr_any hc
theorem kc_all (hc : X.calm = true) (eK : X.K = K := by rfl) : CallR X (.builtin "all") (rAll K) := by subst eK; exact cr_all hc
theorem kc_sorted3 (eK : X.K = K := by rfl) : CallR X (.builtin "sorted") (rSorted3 K) := by subst eK; exact call_sorted3
theorem kc_isi (eK : X.K = K := by rfl) : CallR X (.builtin "isinstance") (rIsi K) := by subst eK; exact call_isi
theorem kc_isiU (eK : X.K = K := by rfl) : CallR X (.builtin "isinstance") (rIsiU K) := by subst eK; exact call_isiU
abbrev rListU (K : PySem.W.Frag) : List V → Hp → VK → Prop := fun xs H Q => ∃ p ys, xs = [.ref p] ∧ (SqL K H p ys ∨ SqT K H p ys) ∧ ∀ l, H l = none → Q (.ref l) (upd H l (.lst ys))
theorem kc_list (eK : X.K = K := by rfl) : CallR X (.type "list") (rListU K) := by subst eK; exact call_list_of
abbrev rTupleU (K : PySem.W.Frag) : List V → Hp → VK → Prop := fun xs H Q => ∃ p ys, xs = [.ref p] ∧ ((SqL K H p ys ∧ ∀ l, H l = none → Q (.ref l) (upd H l (.tup ys))) ∨ (SqT K H p ys ∧ Q (.ref p) H))
theorem kc_tuple (eK : X.K = K := by rfl) : CallR X (.type "tuple") (rTupleU K) := by subst eK; exact call_tuple_of
/-! callees -/
theorem ke_call {k : Nat} {ps : List Str} {g : DF} (F : Cal P w K mg base ct x k ps g) (hr : Room k X.A) (ha : JA ct X none (e :: es) t af) (e1 : X.prog = P := by rfl) (e2 : X.w = w := by rfl) (eK : X.K = K := by rfl) (e4 : X.mg = mg := by rfl) (e5 : X.base = base := by rfl) (hg : Gl X x := by rfl) (hdb : (x == ("__debug__" : Str)) = false := by decide) (he : starEach (e :: es) X.env = (false, eval e X.env) :: starEach es X.env := by rfl) (hpl : (backTo pos (starEach es X.env)).any (·.1) = false := by rfl) :
    JE ct X none (.Call (.Name x p) (e :: es) [] pos) (tCall (spF ⟨P, w, K, ct⟩ g) [] E0 t) (xCall g af) := by subst e1 e2 eK e4 e5; exact je_callC F hr ha hg hdb he hpl
theorem ke_call0 {k : Nat} {ps : List Str} {g : DF} (F : Cal P w K mg base ct x k ps g) (hr : Room k X.A) (e1 : X.prog = P := by rfl) (e2 : X.w = w := by rfl) (eK : X.K = K := by rfl) (e4 : X.mg = mg := by rfl) (e5 : X.base = base := by rfl) (hg : Gl X x := by rfl) (hdb : (x == ("__debug__" : Str)) = false := by decide) :
    JE ct X none (.Call (.Name x p) [] [] pos) (tCall (spF ⟨P, w, K, ct⟩ g) [] E0 tNil) (xCall g xNil) := by subst e1 e2 eK e4 e5; exact je_callC0 F hr hg hdb
theorem ke_meth {k cc : Nat} {C : Addr} {ps : List Str} {g : DF} {pl : Sem Bool} (ho : JE ct X none o to fo) (F : CalM P w K mg base ct cc C m k ps g) (hr : Room k X.A) (ha : JA ct X none (e :: es) t af) (e1 : X.prog = P := by rfl) (e2 : X.w = w := by rfl) (eK : X.K = K := by rfl) (e4 : X.mg = mg := by rfl) (e5 : X.base = base := by rfl)
    (hst : starEach (e :: es) X.env = (false, eval e X.env) :: starEach es X.env := by rfl) (hpl : (backTo pos (starEach es X.env)).any (·.1) = false := by rfl)
    (ht : eval (.Call (.Attribute o m apos) (e :: es) [] pos) X.env = (do
      let ov ← eval o X.env
      standAt apos.atName
      let (f, first) ← holding [ov] (getMethod ov m pl)
      callWith pos f first (backTo pos (starEach (e :: es) X.env)) (backToKw pos (keywordEach [] X.env))) := by rfl) :
    JE ct X none (.Call (.Attribute o m apos) (e :: es) [] pos) (tMeth C m (spF ⟨P, w, K, ct⟩ g) [] E0 to t) (xMeth cc g fo af) := by subst e1 e2 eK e4 e5; exact je_methC (pl := pl) ho F hr ha hst hpl ht
theorem ke_meth0 {k cc : Nat} {C : Addr} {ps : List Str} {g : DF} {pl : Sem Bool} (ho : JE ct X none o to fo) (F : CalM P w K mg base ct cc C m k ps g) (hr : Room k X.A) (e1 : X.prog = P := by rfl) (e2 : X.w = w := by rfl) (eK : X.K = K := by rfl) (e4 : X.mg = mg := by rfl) (e5 : X.base = base := by rfl)
    (ht : eval (.Call (.Attribute o m apos) [] [] pos) X.env = (do
      let ov ← eval o X.env
      standAt apos.atName
      let (f, first) ← holding [ov] (getMethod ov m pl)
      callWith pos f first (backTo pos (starEach [] X.env)) (backToKw pos (keywordEach [] X.env))) := by rfl) :
    JE ct X none (.Call (.Attribute o m apos) [] [] pos) (tMeth C m (spF ⟨P, w, K, ct⟩ g) [] E0 to tNil) (xMeth cc g fo xNil) := by subst e1 e2 eK e4 e5; exact je_methC0 (pl := pl) ho F hr ht
theorem ke_make {k cc : Nat} {C : Addr} {ps : List Str} {g : DF} {dvs : List V} {dds : List D} (F : CalI P w K mg base ct x cc C k ps g dvs dds) (hr : Room (k + 1) X.A) (ha : JA ct X none (e :: es) t af) (e1 : X.prog = P := by rfl) (e2 : X.w = w := by rfl) (eK : X.K = K := by rfl) (e4 : X.mg = mg := by rfl) (e5 : X.base = base := by rfl) (hg : Gl X x := by rfl) (hdb : (x == ("__debug__" : Str)) = false := by decide) (he : starEach (e :: es) X.env = (false, eval e X.env) :: starEach es X.env := by rfl) (hpl : (backTo pos (starEach es X.env)).any (·.1) = false := by rfl) :
    JE ct X none (.Call (.Name x p) (e :: es) [] pos) (tMake C (spF ⟨P, w, K, ct⟩ g) dvs E0 t) (xMake cc (fun ds => g (ds ++ dds)) af) := by subst e1 e2 eK e4 e5; exact je_makeC F hr ha hg hdb he hpl
end
end J
namespace K29
open PySem L2 J
/-! ### the text by places (written by gen.py) -/
def topS (i : Nat) : Stmt := PySem.Challenge.pw_lettertrees_k29_cells_that_are_let.main.body.getD i (.Pass ⟨0, 0, 0, 0⟩)
/-- what the walk asks of the top -/
structure Txt (K : PySem.W.Frag) (mg : Str → Option Value) (ct : List (Addr × List Str)) (c_Parts c_Rule a_BOTH : Addr) : Prop where
  m_BOTH : mg "BOTH" = some (.ref a_BOTH)
  r_BOTH : ∀ ρ H, Rep K ρ H (.ref a_BOTH) (.tup [.bl false, .bl true])
  m_abs : mg "abs" = none
  m_all : mg "all" = none
  m_any : mg "any" = none
  m_bool : mg "bool" = none
  m_enumerate : mg "enumerate" = none
  m_int : mg "int" = none
  m_isinstance : mg "isinstance" = none
  m_len : mg "len" = none
  m_list : mg "list" = none
  m_min : mg "min" = none
  m_range : mg "range" = none
  m_repr : mg "repr" = none
  m_sorted : mg "sorted" = none
  m_sum : mg "sum" = none
  m_tuple : mg "tuple" = none
  k_Parts : ct[0]? = some (c_Parts, (["rule", "is_by_words", "least"] : List Str))
  l_Parts : Cls K c_Parts
  n_Parts_rule : NoAttr K c_Parts "rule"
  n_Parts_is_by_words : NoAttr K c_Parts "is_by_words"
  n_Parts_least : NoAttr K c_Parts "least"
  k_Rule : ct[1]? = some (c_Rule, (["root", "others"] : List Str))
  l_Rule : Cls K c_Rule
  n_Rule_root : NoAttr K c_Rule "root"
  n_Rule_others : NoAttr K c_Rule "others"
section
variable {P : Program} {w : World} {K : PySem.W.Frag} {mg : Str → Option Value} {base : Heap} {ct : List (Addr × List Str)} {c_Parts c_Rule a_BOTH : Addr}
theorem Txt.f_Parts_rule (T : Txt K mg ct c_Parts c_Rule a_BOTH) : CF ct K 0 0 "rule" c_Parts ["rule", "is_by_words", "least"] := ⟨T.k_Parts, T.l_Parts, T.n_Parts_rule, rfl⟩
theorem Txt.f_Parts_is_by_words (T : Txt K mg ct c_Parts c_Rule a_BOTH) : CF ct K 0 1 "is_by_words" c_Parts ["rule", "is_by_words", "least"] := ⟨T.k_Parts, T.l_Parts, T.n_Parts_is_by_words, rfl⟩
theorem Txt.f_Parts_least (T : Txt K mg ct c_Parts c_Rule a_BOTH) : CF ct K 0 2 "least" c_Parts ["rule", "is_by_words", "least"] := ⟨T.k_Parts, T.l_Parts, T.n_Parts_least, rfl⟩
theorem Txt.f_Rule_root (T : Txt K mg ct c_Parts c_Rule a_BOTH) : CF ct K 1 0 "root" c_Rule ["root", "others"] := ⟨T.k_Rule, T.l_Rule, T.n_Rule_root, rfl⟩
theorem Txt.f_Rule_others (T : Txt K mg ct c_Parts c_Rule a_BOTH) : CF ct K 1 1 "others" c_Rule ["root", "others"] := ⟨T.k_Rule, T.l_Rule, T.n_Rule_others, rfl⟩
end
end K29
namespace K29
open PySem L2 J
abbrev s_law_pen_of : Stmt := topS 41
def b_law_pen_of : SF := (sRet (xDisp [((xC (.str "cells")), (xCall gList (xCons (xSl (xVar 0) xNoPart (xPart (xC (.int 63)))) xNil))), ((xC (.str "begun")), (xC (.int 0))), ((xC (.str "left")), (xC (.int 0)))]))
def d_law_pen_of : DF := fnD 1 1 b_law_pen_of
abbrev s_law_draw : Stmt := topS 42
def b_law_draw : SF := (sSeq (sIf (xTst (xBin (gOrd fun i j => decide (j < i)) (xDGet (xVar 0) (xC (.str "left"))) (xC (.int 0))))
  (sSeq (sAsg (xBin gMod (xCall gInt (xCons (xDGet (xVar 0) (xC (.str "left"))) xNil)) (xVar 1)) (tgName 4))
  (sSeq (sDPut (xBin gDiv (xDGet (xVar 0) (xC (.str "left"))) (xVar 1)) (xVar 0) (xC (.str "left")))
  (sRet (xVar 4))))
  sSkip)
  (sSeq (sPar 5 6 (xCons (xDGet (xVar 0) (xC (.str "begun"))) (xCons (xCall gLen (xCons (xDGet (xVar 0) (xC (.str "cells"))) xNil)) xNil)))
  (sSeq (sDPut (xBin gAdd (xVar 5) (xC (.int 1))) (xVar 0) (xC (.str "begun")))
  (sSeq (sAsg (xIf (xTst (xBin (gOrd fun i j => decide (j < i)) (xVar 6) (xC (.int 0)))) (xBin gIx (xDGet (xVar 0) (xC (.str "cells"))) (xBin gMod (xCall gInt (xCons (xVar 5) xNil)) (xVar 6))) (xBin gAdd (xBin gMul (xC (.int 53)) (xVar 5)) (xC (.int 29)))) (tgName 2))
  (sSeq (sIf (xAnd (xTst (xBin (gOrd fun i j => decide (i < j)) (xVar 5) (xVar 6))) (xTst (xBin (gOrd fun i j => decide (j ≤ i)) (xCall gAbs (xCons (xVar 2) xNil)) (xBin gPow (xC (.int 10)) (xC (.int 18))))))
  (sSeq (sDPut (xBin gDiv (xBin gSub (xCall gAbs (xCons (xVar 2) xNil)) (xBin gPow (xC (.int 10)) (xC (.int 18)))) (xVar 1)) (xVar 0) (xC (.str "left")))
  (sRet (xBin gMod (xCall gInt (xCons (xBin gSub (xCall gAbs (xCons (xVar 2) xNil)) (xBin gPow (xC (.int 10)) (xC (.int 18)))) xNil)) (xVar 1))))
  sSkip)
  (sSeq (sAsg (xBin gMod (xCall gInt (xCons (xBin gAdd (xBin gAdd (xBin gMul (xBin gMod (xCall gInt (xCons (xVar 2) xNil)) (xC (.int 4294967279))) (xC (.int 50923))) (xBin gMul (xBin gMul (xC (.int 31249)) (xVar 5)) (xVar 5))) (xC (.int 977))) xNil)) (xC (.int 4294967291))) (tgName 3))
  (sSeq (sAsg (xBin gMod (xCall gInt (xCons (xBin gAdd (xBin gAdd (xBin gAdd (xBin gMul (xVar 3) (xVar 3)) (xBin gMul (xC (.int 70001)) (xVar 3))) (xBin gMul (xC (.int 41)) (xVar 5))) (xC (.int 13))) xNil)) (xC (.int 4294967231))) (tgName 3))
  (sRet (xBin gMod (xCall gInt (xCons (xBin gDiv (xBin gMod (xCall gInt (xCons (xBin gMul (xVar 3) (xBin gAdd (xVar 3) (xC (.int 46237)))) xNil)) (xC (.int 4294967189))) (xC (.int 64))) xNil)) (xVar 1))))))))))
def d_law_draw : DF := fnD 2 7 b_law_draw
abbrev s_law_known : Stmt := topS 43
def b_law_known : SF := (sSeq (sAsg (xLcR1 (xCons (xC (.int 6)) xNil) (tgName 2) xYes (xTup (xCons (xBin (gOrd fun i j => decide (j < i)) (xVar 2) (xC (.int 2))) (xCons (xC (.bl false)) (xCons (xBin gMod (xCall gInt (xCons (xVar 2) xNil)) (xC (.int 3))) xNil)))) [2]) (tgName 1))
  (sRet (xTup (xCons (xVar 1) (xCons (xDGet (xDisp [((xC (.str "bare")), (xVar 1)), ((xC (.str "joined")), (xBin gAdd (xLst (xCons (xTup (xCons (xC (.bl false)) (xCons (xC (.bl true)) (xCons (xC (.int 1)) xNil)))) xNil)) (xSl (xVar 1) (xPart (xC (.int 2))) xNoPart))), ((xC (.str "plain")), (xSl (xVar 1) (xPart (xC (.int 1))) xNoPart))]) (xVar 0)) xNil)))))
def d_law_known : DF := fnD 1 3 b_law_known
abbrev s_law_kinds_some : Stmt := topS 44
def b_law_kinds_some : SF := (sSeq (sPar 2 3 (xCons (xLcR1 (xCons (xC (.int 12)) xNil) (tgName 4) xYes (xTup (xCons (xBin (gOrd fun i j => decide (j ≤ i)) (xVar 4) (xC (.int 6))) (xCons (xBin gEq (xBin gMod (xCall gInt (xCons (xVar 4) xNil)) (xC (.int 2))) (xC (.int 1))) (xCons (xBin gMod (xBin gDiv (xCall gInt (xCons (xVar 4) xNil)) (xC (.int 2))) (xC (.int 3))) xNil)))) [4]) (xCons (xLst xNil) xNil)))
  (sSeq (sForR1 (xCons (xCall d_law_draw (xCons (xVar 0) (xCons (xC (.int 13)) xNil))) xNil) (tgName 1)
  (sDrop (xBM gAppend isLst (xVar 3) (xCons (xBM gPopAt isLst (xVar 2) (xCons (xCall d_law_draw (xCons (xVar 0) (xCons (xCall gLen (xCons (xVar 2) xNil)) xNil))) xNil)) xNil))))
  (sRet (xVar 3))))
def d_law_kinds_some : DF := fnD 1 5 b_law_kinds_some
abbrev s_law_rule_of : Stmt := topS 45
def b_law_rule_of : SF := (sSeq (sAsg (xCall d_law_draw (xCons (xVar 0) (xCons (xC (.int 6)) xNil))) (tgName 1))
  (sSeq (sIf (xTst (xBin (gOrd fun i j => decide (i < j)) (xVar 1) (xC (.int 3))))
  (sRet (xCall d_law_known (xCons (xBin gIx (xLst (xCons (xC (.str "plain")) (xCons (xC (.str "joined")) (xCons (xC (.str "bare")) xNil)))) (xVar 1)) xNil)))
  sSkip)
  (sSeq (sIf (xTst (xBin gEq (xVar 1) (xC (.int 5))))
  (sSeq (sAsg (xLcR1 (xCons (xC (.int 3)) xNil) (tgName 3) xYes (xBin gEq (xCall d_law_draw (xCons (xVar 0) (xCons (xC (.int 2)) xNil))) (xC (.int 0))) [3]) (tgName 2))
  (sRet (xTup (xCons (xLst (xCons (xTup (xCons (xC (.bl false)) (xCons (xBin gIx (xVar 2) (xC (.int 0))) (xCons (xC (.int 0)) xNil)))) (xCons (xTup (xCons (xC (.bl false)) (xCons (xBin gIx (xVar 2) (xC (.int 0))) (xCons (xC (.int 2)) xNil)))) xNil))) (xCons (xLst (xCons (xTup (xCons (xC (.bl false)) (xCons (xBin gIx (xVar 2) (xC (.int 1))) (xCons (xC (.int 0)) xNil)))) (xCons (xTup (xCons (xC (.bl true)) (xCons (xBin gIx (xVar 2) (xC (.int 2))) (xCons (xC (.int 1)) xNil)))) xNil))) xNil)))))
  sSkip)
  (sRet (xTup (xCons (xIf (xTst (xBin gEq (xVar 1) (xC (.int 3)))) (xCall d_law_kinds_some (xCons (xVar 0) xNil)) (xBin gIx (xCall d_law_known (xCons (xC (.str "plain")) xNil)) (xC (.int 0)))) (xCons (xCall d_law_kinds_some (xCons (xVar 0) xNil)) xNil)))))))
def d_law_rule_of : DF := fnD 1 4 b_law_rule_of
abbrev s_is_whole : Stmt := topS 34
def b_is_whole : SF := (sRet (xAndV (xCall gIsi (xCons (xVar 0) (xCons (xC (.ty "int")) xNil))) (xAndV (xNotV (xCall gIsi (xCons (xVar 0) (xCons (xC (.ty "bool")) xNil)))) (xChain (gOrd fun i j => decide (i ≤ j)) (gOrd fun i j => decide (i ≤ j)) (xVar 1) (xVar 0) (xVar 2)))))
def d_is_whole : DF := fnD 3 3 b_is_whole
abbrev s_is_kind : Stmt := topS 35
def b_is_kind : SF := (sSeq (sIf (xOr (xNot (xTru (xCall gIsiT (xCons (xVar 0) (xCons (xTup (xCons (xC (.ty "tuple")) (xCons (xC (.ty "list")) xNil))) xNil))))) (xTst (xBin gNe (xCall gLen (xCons (xVar 0) xNil)) (xC (.int 3)))))
  (sRet (xC (.bl false)))
  sSkip)
  (sRet (xAndV (xCall gIsi (xCons (xBin gIx (xVar 0) (xC (.int 0))) (xCons (xC (.ty "bool")) xNil))) (xAndV (xCall gIsi (xCons (xBin gIx (xVar 0) (xC (.int 1))) (xCons (xC (.ty "bool")) xNil))) (xCall d_is_whole (xCons (xBin gIx (xVar 0) (xC (.int 2))) (xCons (xC (.int 0)) (xCons (xC (.int 2)) xNil))))))))
def d_is_kind : DF := fnD 1 1 b_is_kind
abbrev s_checked_kinds : Stmt := topS 36
def b_checked_kinds : SF := (sSeq (sAsg (xLst xNil) (tgName 2))
  (sSeq (sForE (xCons (xVar 1) xNil) (tgTup 2 (tgCons (tgName 3) (tgCons (tgName 4) tgNil)))
  (sSeq (sIf (xOr (xNot (xTru (xCall d_is_kind (xCons (xVar 4) xNil)))) (xTst (xBin gIn (xCall gTuple (xCons (xVar 4) xNil)) (xVar 2))))
  sStuck
  sSkip)
  (sDrop (xBM gAppend isLst (xVar 2) (xCons (xCall gTuple (xCons (xVar 4) xNil)) xNil)))))
  (sRet (xCall gTuple (xCons (xCall gSorted3 (xCons (xVar 2) xNil)) xNil)))))
def d_checked_kinds : DF := fnD 2 5 b_checked_kinds
abbrev s_Rule_init : Stmt := inClass (topS 38) 0
def b_Rule_init : SF := (sSeq (sSFld 1 0 (xCall d_checked_kinds (xCons (xC (.str "root")) (xCons (xVar 1) xNil))) (xVar 0))
  (sSFld 1 1 (xCall d_checked_kinds (xCons (xC (.str "others")) (xCons (xVar 2) xNil))) (xVar 0)))
def d_Rule_init : DF := fnD 3 3 b_Rule_init
abbrev s_law_rule_made : Stmt := topS 46
def b_law_rule_made : SF := (sRet (xMake 1 (fun ds => d_Rule_init (ds ++ [])) (xCons (xCall gList (xCons (xBin gIx (xVar 0) (xC (.int 0))) xNil)) (xCons (xCall gList (xCons (xBin gIx (xVar 0) (xC (.int 1))) xNil)) xNil))))
def d_law_rule_made : DF := fnD 1 1 b_law_rule_made
abbrev s_law_parts : Stmt := topS 47
def b_law_parts : SF := (sSeq (sAsg xNewB (tgName 1))
  (sSeq (sForR1 (xCons (xC (.int 9)) xNil) (tgName 2)
  (sFor (xBin gIx (xVar 0) (xC (.int 1))) (tgTup 3 (tgCons (tgName 3) (tgCons (tgName 4) (tgCons (tgName 5) tgNil))))
  (sFor (xLst (xCons (xLst (xCons (xC (.bl false)) (xCons (xC (.bl false)) xNil))) (xCons (xLst (xCons (xC (.bl false)) (xCons (xC (.bl true)) xNil))) (xCons (xLst (xCons (xC (.bl true)) (xCons (xC (.bl false)) xNil))) (xCons (xLst (xCons (xC (.bl true)) (xCons (xC (.bl true)) xNil))) xNil))))) (tgName 6)
  (sIf (xTru (xCall gAll (xCons (xLc (xSl (xVar 6) xNoPart (xPart (xVar 5))) (tgName 9) xYes (xBin gIn (xVar 9) (xVar 1)) [9]) xNil)))
  (sSeq (sAsg (xOrV (xVar 3) (xBin gIn (xC (.bl true)) (xSl (xVar 6) xNoPart (xPart (xVar 5))))) (tgName 7))
  (sSeq (sAsg (xBin gAdd (xC (.int 1)) (xCall gSum (xCons (xLc (xSl (xVar 6) xNoPart (xPart (xVar 5))) (tgName 9) xYes (xDGet (xVar 1) (xVar 9)) [9]) xNil))) (tgName 8))
  (sDPut (xCall gMin2 (xCons (xVar 8) (xCons (xDGet2 (xVar 1) (xVar 7) (xVar 8)) xNil))) (xVar 1) (xVar 7))))
  sSkip))))
  (sRet (xVar 1))))
def d_law_parts : DF := fnD 1 10 b_law_parts
abbrev s_Parts_weight_of : Stmt := inClass (topS 3) 1
def b_Parts_weight_of : SF := (sRet (xIf (xTru (xFld 0 1 (xVar 0))) (xCall gInt (xCons (xVar 1) xNil)) (xC (.int 1))))
def d_Parts_weight_of : DF := fnD 2 2 b_Parts_weight_of
abbrev s_Parts_choices : Stmt := inClass (topS 3) 2
def b_Parts_choices : SF := (sSeq (sAsg (xLc (xC (.tup [.bl false, .bl true])) (tgName 3) (xTst (xBin gIn (xVar 3) (xFld 0 2 (xVar 0)))) (xVar 3) [3]) (tgName 2))
  (sSeq (sIf (xTst (xBin gEq (xVar 1) (xC (.int 0))))
  (sRet (xLst (xCons (xTup xNil) xNil)))
  sSkip)
  (sSeq (sIf (xTst (xBin gEq (xVar 1) (xC (.int 1))))
  (sRet (xLc (xVar 2) (tgName 3) xYes (xTup (xCons (xVar 3) xNil)) [3]))
  sSkip)
  (sRet (xLc2 (xVar 2) (tgName 3) xYes (xVar 2) (tgName 4) xYes (xTup (xCons (xVar 3) (xCons (xVar 4) xNil))) [3, 4] [4])))))
def d_Parts_choices : DF := fnD 2 5 b_Parts_choices
abbrev s_Parts_tries : Stmt := inClass (topS 3) 3
def b_Parts_tries : SF := (sSeq (sAsg (xC (.bl false)) (tgName 2))
  (sSeq (sFor (xMeth 0 d_Parts_choices (xVar 0) (xCons (xBin gIx (xVar 1) (xC (.int 2))) xNil)) (tgName 3)
  (sSeq (sAsg (xOrV (xBin gIx (xVar 1) (xC (.int 0))) (xBin gIn (xC (.bl true)) (xVar 3))) (tgName 4))
  (sSeq (sAsg (xBin gAdd (xMeth 0 d_Parts_weight_of (xVar 0) (xCons (xBin gIx (xVar 1) (xC (.int 0))) xNil)) (xCall gSum (xCons (xLc (xVar 3) (tgName 6) xYes (xBin gIx (xDGet (xFld 0 2 (xVar 0)) (xVar 6)) (xC (.int 0))) [6]) xNil))) (tgName 5))
  (sIf (xOr (xTst (xBin gNotIn (xVar 4) (xFld 0 2 (xVar 0)))) (xTst (xBin (gOrd fun i j => decide (i < j)) (xVar 5) (xBin gIx (xDGet (xFld 0 2 (xVar 0)) (xVar 4)) (xC (.int 0))))))
  (sSeq (sDPut (xTup (xCons (xVar 5) (xCons (xVar 1) (xCons (xVar 3) xNil)))) (xFld 0 2 (xVar 0)) (xVar 4))
  (sAsg (xC (.bl true)) (tgName 2)))
  sSkip))))
  (sRet (xVar 2))))
def d_Parts_tries : DF := fnD 2 7 b_Parts_tries
abbrev s_Parts_init : Stmt := inClass (topS 3) 0
def b_Parts_init : SF := (sSeq (sSFld 0 0 (xVar 1) (xVar 0))
  (sSeq (sSFld 0 1 (xVar 2) (xVar 0))
  (sSeq (sSFld 0 2 xNewB (xVar 0))
  (sSeq (sAsg (xC (.bl true)) (tgName 3))
  (loopW (xTru (xVar 3))
  (sAsg (xCall gAny (xCons (xLc (xFld 1 1 (xVar 1)) (tgName 4) xYes (xMeth 0 d_Parts_tries (xVar 0) (xCons (xVar 4) xNil)) [4]) xNil)) (tgName 3)) 20)))))
def d_Parts_init : DF := fnD 3 5 b_Parts_init
abbrev s_least_part : Stmt := topS 4
def b_least_part : SF := (sSeq (sAsg (xFld 0 2 (xMake 0 (fun ds => d_Parts_init (ds ++ [(.bl false)])) (xCons (xVar 0) xNil))) (tgName 2))
  (sRet (xIf (xTst (xBin gIn (xVar 1) (xVar 2))) (xBin gIx (xDGet (xVar 2) (xVar 1)) (xC (.int 0))) (xC .non))))
def d_least_part : DF := fnD 2 3 b_least_part
abbrev s_law_lets : Stmt := topS 48
def b_law_lets : SF := (sSeq (sIf (xTst (xBin gNotIn (xTup (xCons (xBin gIx (xVar 2) (xC (.int 0))) (xCons (xBin gIx (xVar 2) (xC (.int 1))) (xCons (xCall gMin2 (xCons (xC (.int 2)) (xCons (xBin gAdd (xBin gIx (xVar 2) (xC (.int 2))) (xCall gInt (xCons (xVar 4) xNil))) xNil))) xNil)))) (xBin gIx (xVar 0) (xCall gInt (xCons (xNotV (xVar 3)) xNil)))))
  (sRet (xC (.bl false)))
  sSkip)
  (sRet (xIf (xTst (xBin gEq (xBin gIx (xVar 2) (xC (.int 2))) (xC (.int 0)))) (xNotV (xBin gIx (xVar 2) (xC (.int 3)))) (xBin gIn (xBin gIx (xVar 2) (xC (.int 3))) (xVar 1)))))
def d_law_lets : DF := fnD 5 5 b_law_lets
abbrev s_is_cell : Stmt := topS 5
def b_is_cell : SF := (sSeq (sIf (xOr (xNot (xTru (xCall gIsi (xCons (xVar 0) (xCons (xC (.ty "tuple")) xNil))))) (xOr (xTst (xBin gNe (xCall gLen (xCons (xVar 0) xNil)) (xC (.int 4)))) (xTru (xCall gIsi (xCons (xBin gIx (xVar 0) (xC (.int 2))) (xCons (xC (.ty "bool")) xNil))))))
  (sRet (xC (.bl false)))
  sSkip)
  (sSeq (sIf (xNot (xTru (xCall gAll (xCons (xLc (xTup (xCons (xC (.int 0)) (xCons (xC (.int 1)) (xCons (xC (.int 3)) xNil)))) (tgName 1) xYes (xCall gIsi (xCons (xBin gIx (xVar 0) (xVar 1)) (xCons (xC (.ty "bool")) xNil))) [1]) xNil))))
  (sRet (xC (.bl false)))
  sSkip)
  (sRet (xAndV (xCall gIsi (xCons (xBin gIx (xVar 0) (xC (.int 2))) (xCons (xC (.ty "int")) xNil))) (xChain (gOrd fun i j => decide (i ≤ j)) (gOrd fun i j => decide (i ≤ j)) (xC (.int 0)) (xBin gIx (xVar 0) (xC (.int 2))) (xC (.int 2)))))))
def d_is_cell : DF := fnD 1 2 b_is_cell
abbrev s_is_let_by : Stmt := topS 6
def b_is_let_by : SF := (sSeq (sAsg (xIf (xTru (xVar 2)) (xFld 1 0 (xFld 0 0 (xVar 0))) (xFld 1 1 (xFld 0 0 (xVar 0)))) (tgName 4))
  (sSeq (sIf (xTst (xBin gNotIn (xTup (xCons (xBin gIx (xVar 1) (xC (.int 0))) (xCons (xBin gIx (xVar 1) (xC (.int 1))) (xCons (xCall gMin2 (xCons (xC (.int 2)) (xCons (xBin gAdd (xBin gIx (xVar 1) (xC (.int 2))) (xCall gInt (xCons (xVar 3) xNil))) xNil))) xNil)))) (xVar 4)))
  (sRet (xC (.bl false)))
  sSkip)
  (sRet (xIf (xTst (xBin gEq (xBin gIx (xVar 1) (xC (.int 2))) (xC (.int 0)))) (xNotV (xBin gIx (xVar 1) (xC (.int 3)))) (xBin gIn (xBin gIx (xVar 1) (xC (.int 3))) (xFld 0 2 (xVar 0)))))))
def d_is_let_by : DF := fnD 4 5 b_is_let_by
abbrev s_is_let : Stmt := topS 7
def b_is_let : SF := (sRet (xAndV (xCall d_is_cell (xCons (xVar 1) xNil)) (xCall d_is_let_by (xCons (xMake 0 (fun ds => d_Parts_init (ds ++ [(.bl false)])) (xCons (xVar 0) xNil)) (xCons (xVar 1) (xCons (xVar 2) (xCons (xVar 3) xNil)))))))
def d_is_let : DF := fnD 4 4 b_is_let
abbrev s_law_all_cells : Stmt := topS 49
def b_law_all_cells : SF := (sRet (xLcR1 (xCons (xC (.int 24)) xNil) (tgName 0) xYes (xTup (xCons (xBin (gOrd fun i j => decide (j ≤ i)) (xVar 0) (xC (.int 12))) (xCons (xBin gEq (xBin gMod (xBin gDiv (xCall gInt (xCons (xVar 0) xNil)) (xC (.int 6))) (xC (.int 2))) (xC (.int 1))) (xCons (xBin gMod (xBin gDiv (xCall gInt (xCons (xVar 0) xNil)) (xC (.int 2))) (xC (.int 3))) (xCons (xBin gEq (xBin gMod (xCall gInt (xCons (xVar 0) xNil)) (xC (.int 2))) (xC (.int 1))) xNil))))) [0]))
def d_law_all_cells : DF := fnD 0 1 b_law_all_cells
abbrev s_law_odd_cells : Stmt := topS 50
def b_law_odd_cells : SF := (sSeq (sAsg (xLst (xCons (xC .non) (xCons (xTup xNil) (xCons (xLst xNil) (xCons (xC (.int 0)) (xCons (xC (.str "cell")) (xCons (xTup (xCons (xC (.bl false)) (xCons (xC (.bl false)) (xCons (xC (.int 0)) xNil)))) (xCons (xLst (xCons (xC (.bl false)) (xCons (xC (.bl false)) (xCons (xC (.int 0)) (xCons (xC (.bl false)) xNil))))) (xCons (xTup (xCons (xC (.bl false)) (xCons (xC (.bl false)) (xCons (xC (.int 3)) (xCons (xC (.bl false)) xNil))))) xNil))))))))) (tgName 0))
  (sSeq (sAsg (xBin gAdd (xVar 0) (xLst (xCons (xTup (xCons (xC (.bl false)) (xCons (xC (.bl false)) (xCons (xUn gNeg (xC (.int 1))) (xCons (xC (.bl false)) xNil))))) (xCons (xTup (xCons (xC (.bl false)) (xCons (xC (.bl false)) (xCons (xC (.bl true)) (xCons (xC (.bl false)) xNil))))) (xCons (xTup (xCons (xC (.int 0)) (xCons (xC (.bl false)) (xCons (xC (.int 0)) (xCons (xC (.bl false)) xNil))))) (xCons (xTup (xCons (xC (.bl false)) (xCons (xC (.int 1)) (xCons (xC (.int 0)) (xCons (xC (.bl false)) xNil))))) xNil)))))) (tgName 0))
  (sSeq (sAsg (xBin gAdd (xVar 0) (xLst (xCons (xTup (xCons (xC (.bl false)) (xCons (xC (.bl false)) (xCons (xC (.int 0)) (xCons (xC (.int 0)) xNil))))) (xCons (xTup (xCons (xC (.bl false)) (xCons (xC (.bl false)) (xCons (xC (.str "0")) (xCons (xC (.bl false)) xNil))))) (xCons (xTup (xCons (xC .non) (xCons (xC .non) (xCons (xC (.int 0)) (xCons (xC .non) xNil))))) xNil))))) (tgName 0))
  (sRet (xBin gAdd (xVar 0) (xLst (xCons (xTup (xCons (xC (.bl false)) (xCons (xC (.bl false)) (xCons (xC (.int 0)) (xCons (xC (.bl false)) (xCons (xC (.bl false)) xNil)))))) xNil)))))))
def d_law_odd_cells : DF := fnD 0 1 b_law_odd_cells
abbrev s_law : Stmt := topS 51
def b_law : SF := (sSeq (sAsg (xCall d_law_pen_of (xCons (xVar 0) xNil)) (tgName 1))
  (sSeq (sForR1 (xCons (xC (.int 3)) xNil) (tgName 2)
  (sSeq (sAsg (xCall d_law_rule_of (xCons (xVar 1) xNil)) (tgName 3))
  (sSeq (sAsg (xTup (xCons (xCall d_law_rule_made (xCons (xVar 3) xNil)) (xCons (xCall d_law_parts (xCons (xVar 3) xNil)) xNil))) (tgTup 2 (tgCons (tgName 6) (tgCons (tgName 7) tgNil))))
  (sSeq (sFor (xLst (xCons (xC (.bl false)) (xCons (xC (.bl true)) xNil))) (tgName 4)
  (sIf (xTst (xBin gNe (xCall d_least_part (xCons (xVar 6) (xCons (xVar 4) xNil))) (xDGet1 (xVar 7) (xVar 4))))
  (sRet (xC (.bl false)))
  sSkip))
  (sFor (xLst (xCons (xC (.bl false)) (xCons (xC (.bl true)) xNil))) (tgName 5)
  (sFor (xLst (xCons (xC (.bl false)) (xCons (xC (.bl true)) xNil))) (tgName 8)
  (sSeq (sFor (xCall d_law_all_cells xNil) (tgName 9)
  (sSeq (sAsg (xCall d_law_lets (xCons (xVar 3) (xCons (xVar 7) (xCons (xVar 9) (xCons (xVar 5) (xCons (xVar 8) xNil)))))) (tgName 10))
  (sIf (xTst (xBin gNe (xCall gRepr (xCons (xCall d_is_let (xCons (xVar 6) (xCons (xVar 9) (xCons (xVar 5) (xCons (xVar 8) xNil))))) xNil)) (xCall gRepr (xCons (xVar 10) xNil))))
  (sRet (xC (.bl false)))
  sSkip)))
  (sIf (xTru (xCall gAny (xCons (xLc (xCall d_law_odd_cells xNil) (tgName 11) xYes (xBin (gIs true) (xCall d_is_let (xCons (xVar 6) (xCons (xVar 11) (xCons (xVar 5) (xCons (xVar 8) xNil))))) (xC (.bl false))) [11]) xNil)))
  (sRet (xC (.bl false)))
  sSkip))))))))
  (sRet (xC (.bl true)))))
def d_law : DF := fnD 1 12 b_law
end K29
/-! J, last part: running the functions of data. -/
namespace J
open PySem L2
def Ok {α : Type} (r : Rs α) (P : α → Mem → Prop) : Prop := match r with | .ok a M => P a M | _ => False
section
variable {α β : Type} {r : Rs α} {P Q : α → Mem → Prop} {a : α} {M M' : Mem}
theorem Ok.bind {k : α → Mem → Rs β} {P : β → Mem → Prop} : Ok (r.bind k) P ↔ Ok r fun a M => Ok (k a M) P := by
  cases r <;> exact Iff.rfl
theorem Ok.mono (h : Ok r P) (hp : ∀ a M, P a M → Q a M) : Ok r Q := by
  cases r with
  | ok a M => exact hp a M h
  | ex c fs M => exact h
  | stuck => exact h
theorem Ok.ok : Ok (.ok a M) P ↔ P a M := Iff.rfl
theorem Ok.ex (h : Ok r P) : ∃ a M, r = .ok a M ∧ P a M := by
  cases r with
  | ok a M => exact ⟨a, M, rfl, h⟩
  | ex c fs M => exact h.elim
  | stuck => exact h.elim
theorem Ok.of_eq (e : r = .ok a M) (h : P a M) : Ok r P := by rw [e]; exact h
theorem Ok.eq (h : Ok r fun b M' => b = a ∧ M' = M) : r = .ok a M := by
  obtain ⟨b, N, e, rfl, rfl⟩ := h.ex
  exact e
theorem Ok.grd {c : Prop} [Decidable c] (hc : c) (h : Ok r P) : Ok (Rs.grd c r) P := by
  rw [Rs.grd, if_pos hc]; exact h
theorem grd_pos {c : Prop} [Decidable c] (hc : c) : Rs.grd c r = r := if_pos hc
end
/-! ### the store -/
section
variable {M L : Mem} {x y : MO} {k j : Nat}
theorem lt_of_at (h : M[k]? = some x) : k < M.length := (List.getElem?_eq_some_iff.mp h).1
theorem at_app (h : M[k]? = some x) : (M ++ L)[k]? = some x := by
  rw [List.getElem?_append_left (lt_of_at h)]; exact h
theorem at_new : (M ++ [x])[M.length]? = some x := by simp
theorem at_set (h : k < M.length) : (M.set k x)[k]? = some x := List.getElem?_set_self h
theorem at_set_ne (h : M[k]? = some x) (n : k ≠ j) : (M.set j y)[k]? = some x := by
  rw [List.getElem?_set_ne (Ne.symm n)]; exact h
theorem set_app (h : k < M.length) : (M ++ L).set k x = M.set k x ++ L := List.set_append_left _ _ h
theorem set_new : (M ++ [x]).set M.length y = M ++ [y] := by
  rw [List.set_append_right _ _ (Nat.le_refl _)]; simp
/-- M' is M but for the cells S, and may be longer -/
structure Fr (S : List Nat) (M M' : Mem) : Prop where
  len : M.length ≤ M'.length
  at_ : ∀ k, k < M.length → k ∉ S → M'[k]? = M[k]?
theorem Fr.refl {S : List Nat} : Fr S M M := ⟨Nat.le_refl _, fun _ _ _ => rfl⟩
theorem Fr.trans {S : List Nat} {M1 M2 : Mem} (h : Fr S M M1) (h' : Fr S M1 M2) : Fr S M M2 := ⟨Nat.le_trans h.len h'.len, fun k hk hs => (h'.at_ k (Nat.lt_of_lt_of_le hk h.len) hs).trans (h.at_ k hk hs)⟩
theorem Fr.mono {S S' : List Nat} {M1 : Mem} (h : Fr S M M1) (hs : ∀ k, k ∈ S → k < M.length → k ∈ S') : Fr S' M M1 := ⟨h.len, fun k hk n => h.at_ k hk fun z => n (hs k z hk)⟩
theorem Fr.app {S : List Nat} : Fr S M (M ++ L) := ⟨by simp, fun k hk _ => List.getElem?_append_left hk⟩
theorem Fr.set {S : List Nat} (h : k ∈ S ∨ M.length ≤ k) : Fr S M (M.set k x) := ⟨by simp, fun j hj n => List.getElem?_set_ne fun z => by
  subst z
  rcases h with h | h
  · exact n h
  · omega⟩
theorem Fr.get {S : List Nat} {M1 : Mem} (h : Fr S M M1) (e : M[k]? = some x) (n : k ∉ S) : M1[k]? = some x := (h.at_ k (lt_of_at e) n).trans e
theorem Fr.lt {S : List Nat} {M1 : Mem} (h : Fr S M M1) (e : k < M.length) : k < M1.length := Nat.lt_of_lt_of_le e h.len
theorem Fr.trans_set {S : List Nat} {M1 : Mem} (h : Fr S M M1) (n : M.length ≤ k) : Fr S M (M1.set k x) := ⟨by simpa using h.len, fun j hj hs => by rw [List.getElem?_set_ne (by omega)]; exact h.at_ j hj hs⟩
/-- a cell that was not there before does not count -/
theorem Fr.drop {S : List Nat} {M1 : Mem} (h : Fr (k :: S) M M1) (n : M.length ≤ k) : Fr S M M1 := h.mono fun j hj hl => by
  rcases List.mem_cons.mp hj with rfl | z
  · omega
  · exact z
end
/-! ### loops -/
section
variable {f : D → SF} {P : Fl → Mem → Prop} {w : Nat → D → D} {k : Nat} {xs : List D} {δ : Dv} {M : Mem}
def Turn (I : Dv → Mem → Prop) (P : Fl → Mem → Prop) : Fl → Mem → Prop := fun fl M => match fl with
  | .nx δ => I δ M | .ct δ => I δ M | .bk δ => P (.nx δ) M | .rt d => P (.rt d) M
theorem ok_loopV (I : Nat → Dv → Mem → Prop) (h0 : I 0 δ M) (hs : ∀ i x δ M, xs[i]? = some x → I i δ M → Ok (f x δ M) (Turn (I (i + 1)) P)) (hn : ∀ δ M, I xs.length δ M → P (.nx δ) M) : Ok (loopV f xs δ M) P := by
  induction xs generalizing I δ M with
  | nil => exact hn _ _ h0
  | cons x xs ih =>
    show Ok ((f x δ M).bind _) P
    rw [Ok.bind]
    refine (hs 0 x δ M rfl h0).mono fun fl M1 h => ?_
    have nxt : ∀ δ1, I 1 δ1 M1 → Ok (loopV f xs δ1 M1) P := fun δ1 h => ih (fun i => I (i + 1)) h (fun i y δ M e => hs (i + 1) y δ M (by simpa using e)) hn
    cases fl with
    | nx δ1 => exact nxt δ1 h
    | ct δ1 => exact nxt δ1 h
    | bk δ1 => exact h
    | rt d => exact h
theorem ok_loopK' (I : Nat → Dv → Mem → Prop) (n i : Nat) (hl : i + n = xs.length + 1) (h0 : I i δ M) (hk : ∀ i δ M, I i δ M → M[k]? = some (.lst xs)) (hs : ∀ i x δ M, xs[i]? = some x → I i δ M → Ok (f (w i x) δ M) (Turn (I (i + 1)) P)) (hn : ∀ δ M, I xs.length δ M → P (.nx δ) M) (hi : i ≤ xs.length) : Ok (loopK f w k n i δ M) P := by
  induction n generalizing i δ M with
  | zero => omega
  | succ n ih =>
    unfold loopK
    rw [hk i δ M h0]
    dsimp only
    cases e : xs[i]? with
    | none =>
      have : i = xs.length := by have := List.getElem?_eq_none_iff.mp e; omega
      subst this
      exact hn _ _ h0
    | some x =>
      have hlt := (List.getElem?_eq_some_iff.mp e).1
      dsimp only
      rw [Ok.bind]
      refine (hs i x δ M e h0).mono fun fl M1 h => ?_
      cases fl with
      | nx δ1 => exact ih (i + 1) (by omega) h hlt
      | ct δ1 => exact ih (i + 1) (by omega) h hlt
      | bk δ1 => exact h
      | rt d => exact h
theorem ok_loopK (I : Nat → Dv → Mem → Prop) (h0 : I 0 δ M) (hk : ∀ i δ M, I i δ M → M[k]? = some (.lst xs)) (hs : ∀ i x δ M, xs[i]? = some x → I i δ M → Ok (f (w i x) δ M) (Turn (I (i + 1)) P)) (hn : ∀ δ M, I xs.length δ M → P (.nx δ) M) : Ok (loopK f w k (xs.length + 1) 0 δ M) P :=
  ok_loopK' I _ 0 (by omega) h0 hk hs hn (Nat.zero_le _)
end
/-! ### comprehensions -/
section
variable {f : D → Mem → Rs Unit} {P : Unit → Mem → Prop} {k : Nat} {xs : List D} {M : Mem}
theorem ok_compV (I : Nat → Mem → Prop) (h0 : I 0 M) (hs : ∀ i x M, xs[i]? = some x → I i M → Ok (f x M) fun _ => I (i + 1)) (hn : ∀ M, I xs.length M → P () M) : Ok (compV f xs M) P := by
  induction xs generalizing I M with
  | nil => exact hn _ h0
  | cons x xs ih =>
    show Ok ((f x M).bind _) P
    rw [Ok.bind]
    exact (hs 0 x M rfl h0).mono fun _ M1 h => ih (fun i => I (i + 1)) h (fun i y M e => hs (i + 1) y M (by simpa using e)) hn
theorem ok_compK' (I : Nat → Mem → Prop) (n i : Nat) (hl : i + n = xs.length + 1) (h0 : I i M) (hk : ∀ i M, I i M → M[k]? = some (.lst xs)) (hs : ∀ i x M, xs[i]? = some x → I i M → Ok (f x M) fun _ => I (i + 1)) (hn : ∀ M, I xs.length M → P () M) (hi : i ≤ xs.length) : Ok (compK f k n i M) P := by
  induction n generalizing i M with
  | zero => omega
  | succ n ih =>
    unfold compK
    rw [hk i M h0]
    dsimp only
    cases e : xs[i]? with
    | none =>
      have : i = xs.length := by have := List.getElem?_eq_none_iff.mp e; omega
      subst this
      exact hn _ h0
    | some x =>
      have hlt := (List.getElem?_eq_some_iff.mp e).1
      dsimp only
      rw [Ok.bind]
      exact (hs i x M e h0).mono fun _ M1 h => ih (i + 1) (by omega) h hlt
theorem ok_compK (I : Nat → Mem → Prop) (h0 : I 0 M) (hk : ∀ i M, I i M → M[k]? = some (.lst xs)) (hs : ∀ i x M, xs[i]? = some x → I i M → Ok (f x M) fun _ => I (i + 1)) (hn : ∀ M, I xs.length M → P () M) : Ok (compK f k (xs.length + 1) 0 M) P :=
  ok_compK' I _ 0 (by omega) h0 hk hs hn (Nat.zero_le _)
/-- pure steps over values: each pushes its value -/
def pureStep (f : D → Mem → Rs Unit) (k : Nat) (φ : D → Option D) (x : D) : Prop := ∀ M acc, M[k]? = some (.lst acc) → acc.length < sizeLine → f x M = .ok () (match φ x with | some y => M.set k (.lst (acc ++ [y])) | none => M)
theorem compV_pure (φ : D → Option D) {acc : List D} (hM : M[k]? = some (.lst acc)) (hz : acc.length + xs.length ≤ sizeLine) (hf : ∀ x ∈ xs, pureStep f k φ x) : compV f xs M = .ok () (M.set k (.lst (acc ++ xs.filterMap φ))) := by
  induction xs generalizing M acc with
  | nil =>
    have : M.set k (.lst (acc ++ [])) = M := by
      have hk := lt_of_at hM
      apply List.ext_getElem?
      intro i
      by_cases hi : i = k
      · subst hi; rw [List.getElem?_set_self hk, hM]; simp
      · rw [List.getElem?_set_ne (Ne.symm hi)]
    show Rs.ok () M = _
    simp only [List.filterMap_nil, this]
  | cons x xs ih =>
    simp only [List.length_cons] at hz
    show (f x M).bind _ = _
    rw [hf x (by simp) M acc hM (by omega)]
    have hk := lt_of_at hM
    cases e : φ x with
    | none =>
      show compV f xs M = _
      rw [ih hM (by omega) fun y hy => hf y (by simp [hy])]
      simp [e]
    | some y =>
      show compV f xs (M.set k (.lst (acc ++ [y]))) = _
      rw [ih (acc := acc ++ [y]) (at_set hk) (by simp; omega) fun y hy => hf y (by simp [hy])]
      simp [e]
/-- and over a list of the store that is another cell -/
theorem compK_pure' (φ : D → Option D) {j : Nat} (hj : j ≠ k) (n i : Nat) {acc : List D} (hM : M[k]? = some (.lst acc)) (hx : M[j]? = some (.lst xs)) (hn : i + n = xs.length + 1) (hi : i ≤ xs.length) (hz : acc.length + (xs.length - i) ≤ sizeLine) (hf : ∀ x ∈ xs, pureStep f k φ x) : compK f j n i M = .ok () (M.set k (.lst (acc ++ (xs.drop i).filterMap φ))) := by
  induction n generalizing i M acc with
  | zero => omega
  | succ n ih =>
    unfold compK
    rw [hx]
    dsimp only
    have hk := lt_of_at hM
    cases e : xs[i]? with
    | none =>
      have hle := List.getElem?_eq_none_iff.mp e
      have : M.set k (.lst (acc ++ [])) = M := by
        apply List.ext_getElem?
        intro i
        by_cases hi : i = k
        · subst hi; rw [List.getElem?_set_self hk, hM]; simp
        · rw [List.getElem?_set_ne (Ne.symm hi)]
      rw [List.drop_eq_nil_of_le hle]
      simp only [List.filterMap_nil, this]
    | some x =>
      obtain ⟨hlt, ex⟩ := List.getElem?_eq_some_iff.mp e
      dsimp only
      rw [hf x (ex ▸ List.getElem_mem hlt) M acc hM (by omega)]
      have ed : xs.drop i = x :: xs.drop (i + 1) := by rw [List.drop_eq_getElem_cons hlt, ex]
      rw [ed]
      cases e2 : φ x with
      | none =>
        show compK f j n (i + 1) M = _
        rw [ih (i + 1) hM hx (by omega) hlt (by omega)]
        simp [e2]
      | some y =>
        show compK f j n (i + 1) (M.set k (.lst (acc ++ [y]))) = _
        rw [ih (i + 1) (acc := acc ++ [y]) (at_set hk) (at_set_ne hx hj) (by omega) hlt (by simp; omega)]
        simp [e2]
theorem compS_val (φ : D → Option D) {d : D} {acc : List D} (hd : d = .tup xs ∨ d = .rl xs ∨ ∃ j, d = .m j ∧ j ≠ k ∧ M[j]? = some (.lst xs)) (hM : M[k]? = some (.lst acc)) (ha : acc = []) (hz : xs.length ≤ sizeLine) (hf : ∀ x ∈ xs, pureStep f k φ x) : compS f d M = .ok () (M.set k (.lst (acc ++ xs.filterMap φ))) := by
  subst ha
  rcases hd with rfl | rfl | ⟨j, rfl, hj, hx⟩
  · exact compV_pure φ hM (by simpa using hz) hf
  · exact compV_pure φ hM (by simpa using hz) hf
  · show (match M[j]? with | some (.lst xs) => compK f j (xs.length + 1) 0 M | _ => .stuck) = _
    rw [hx]
    have := compK_pure' φ hj (xs.length + 1) 0 hM hx (by omega) (Nat.zero_le _) (by simpa using hz) hf
    simpa using this
end
end J
/-! big steps -/
namespace J
open PySem
section
variable {δ δ1 : Dv} {M M1 M2 M3 M4 : Mem} {fa fb fc : EF} {x y z d : D} {ds : List D} {as : AF} {c c' : TF} {f g : SF} {R : Rs Fl} {RD : Rs D} {b b' : Bool} {i : Nat} {fs : List D}
theorem xbin {g : D → D → Mem → Rs D} (ha : fa δ M = .ok x M1) (hb : fb δ M1 = .ok y M2) (hg : g x y M2 = RD) : xBin g fa fb δ M = RD := by
  unfold xBin; rw [ha]; show (fb δ M1).bind _ = _; rw [hb]; exact hg
theorem xun {g : D → Mem → Rs D} (ha : fa δ M = .ok x M1) (hg : g x M1 = RD) : xUn g fa δ M = RD := by
  unfold xUn; rw [ha]; exact hg
theorem xcons (ha : fa δ M = .ok x M1) (hb : as δ M1 = .ok ds M2) : xCons fa as δ M = .ok (x :: ds) M2 := by
  unfold xCons; rw [ha]; show (as δ M1).bind _ = _; rw [hb]; rfl
theorem xone (ha : fa δ M = .ok x M1) : xCons fa xNil δ M = .ok [x] M1 := xcons ha rfl
theorem xtup (ha : as δ M = .ok ds M1) (hl : ds.length ≤ sizeLine := by exact Nat.le_of_ble_eq_true rfl) : xTup as δ M = .ok (.tup ds) M1 := by
  unfold xTup; rw [ha]; exact grd_pos hl
theorem xlst (ha : as δ M = .ok ds M1) (hl : ds.length ≤ sizeLine := by exact Nat.le_of_ble_eq_true rfl) : xLst as δ M = .ok (.m M1.length) (M1 ++ [.lst ds]) := by
  unfold xLst; rw [ha]; exact grd_pos hl
theorem xcall {g : DF} (ha : as δ M = .ok ds M1) (hg : g ds M1 = RD) : xCall g as δ M = RD := by
  unfold xCall; rw [ha]; exact hg
theorem xif_t (hc : c δ M = .ok true M1) (h : fa δ M1 = RD) : xIf c fa fb δ M = RD := by
  unfold xIf; rw [hc]; exact h
theorem xif_f (hc : c δ M = .ok false M1) (h : fb δ M1 = RD) : xIf c fa fb δ M = RD := by
  unfold xIf; rw [hc]; exact h
theorem xtst (ha : fa δ M = .ok (.bl b) M1) : xTst fa δ M = .ok b M1 := by
  unfold xTst; rw [ha]; rfl
theorem xtru (ha : fa δ M = .ok d M1) (h : gTru d M1 = some b) : xTru fa δ M = .ok b M1 := by
  unfold xTru; rw [ha]; show (match gTru d M1 with | some b => _ | none => _) = _; rw [h]
theorem xnot (ha : c δ M = .ok b M1) (hb : (!b) = b' := by rfl) : xNot c δ M = .ok b' M1 := by
  unfold xNot; rw [ha]; subst hb; rfl
theorem xand_t (ha : c δ M = .ok true M1) (h : c' δ M1 = .ok b M2) : xAnd c c' δ M = .ok b M2 := by
  unfold xAnd; rw [ha]; exact h
theorem xand_f (ha : c δ M = .ok false M1) : xAnd c c' δ M = .ok false M1 := by
  unfold xAnd; rw [ha]; rfl
theorem xor_f (ha : c δ M = .ok false M1) (h : c' δ M1 = .ok b M2) : xOr c c' δ M = .ok b M2 := by
  unfold xOr; rw [ha]; exact h
theorem xor_t (ha : c δ M = .ok true M1) : xOr c c' δ M = .ok true M1 := by
  unfold xOr; rw [ha]; rfl
theorem xnotV (ha : fa δ M = .ok (.bl b) M1) : xNotV fa δ M = .ok (.bl (!b)) M1 := by
  unfold xNotV; rw [ha]; rfl
theorem xandV (ha : fa δ M = .ok (.bl b) M1) (h : b = true → fb δ M1 = RD) (hf : b = false → RD = .ok (.bl false) M1) : xAndV fa fb δ M = RD := by
  unfold xAndV; rw [ha]
  cases b with
  | true => exact h rfl
  | false => exact (hf rfl).symm
theorem xorV (ha : fa δ M = .ok (.bl b) M1) (h : b = false → fb δ M1 = RD) (hf : b = true → RD = .ok (.bl true) M1) : xOrV fa fb δ M = RD := by
  unfold xOrV; rw [ha]
  cases b with
  | false => exact h rfl
  | true => exact (hf rfl).symm
theorem xfld {c k : Nat} (ha : fa δ M = .ok (.m k) M1) (hm : M1[k]? = some (.ins c fs)) (hf : fs[i]? = some d) : xFld c i fa δ M = .ok d M1 := by
  unfold xFld; rw [ha]
  show (match M1[k]? with | some (.ins c' fs) => if c' = c then match fs[i]? with | some x => Rs.ok x M1 | none => .stuck else .stuck | _ => .stuck) = _
  rw [hm]; show (if c = c then match fs[i]? with | some x => Rs.ok x M1 | none => .stuck else .stuck) = _
  rw [if_pos rfl, hf]
theorem xmeth {c k : Nat} {g : DF} (ha : fa δ M = .ok (.m k) M1) (hm : M1[k]? = some (.ins c fs)) (has : as δ M1 = .ok ds M2) (hg : g (.m k :: ds) M2 = RD) : xMeth c g fa as δ M = RD := by
  unfold xMeth; rw [ha]
  show (match M1[k]? with | some (.ins c' fs) => if c' = c then (as δ M1).bind fun ds M2 => g (.m k :: ds) M2 else .stuck | _ => .stuck) = _
  rw [hm]; show (if c = c then (as δ M1).bind fun ds M2 => g (.m k :: ds) M2 else .stuck) = _
  rw [if_pos rfl, has]; exact hg
theorem xmake {c : Nat} {g : DF} (has : as δ M = .ok ds M1) (hg : g (.m M1.length :: ds) (M1 ++ [.ins c []]) = .ok .non M2) : xMake c g as δ M = .ok (.m M1.length) M2 := by
  unfold xMake; rw [has]; show (g (.m M1.length :: ds) (M1 ++ [.ins c []])).bind _ = _; rw [hg]; rfl
theorem xbm {g : D → List D → Mem → Rs D} {ok : D → Mem → Bool} (ha : fa δ M = .ok x M1) (ho : ok x M1 = true) (has : as δ M1 = .ok ds M2) (hg : g x ds M2 = RD) : xBM g ok fa as δ M = RD := by
  unfold xBM; rw [ha]; show Rs.grd (ok x M1 = true) _ = _; rw [grd_pos ho, has]; exact hg
theorem xsl {fl fh : PF} {lo hi : Option Int} (ha : fa δ M = .ok x M1) (hl : fl δ M1 = .ok lo M2) (hh : fh δ M2 = .ok hi M3) (hg : gSl x lo hi M3 = RD) : xSl fa fl fh δ M = RD := by
  unfold xSl; rw [ha]; show (fl δ M1).bind _ = _; rw [hl]; show (fh δ M2).bind _ = _; rw [hh]; exact hg
theorem xpart {j : Int} (ha : fa δ M = .ok (.int j) M1) : xPart fa δ M = .ok (some j) M1 := by
  unfold xPart; rw [ha]; rfl
theorem xdget1 {o : Option D} (ha : fa δ M = .ok x M1) (hd : isDct x M1 = true) (hb : fb δ M1 = .ok y M2) (hl : lkD x y M2 = some o) : xDGet1 fa fb δ M = .ok (o.getD .non) M2 := by
  unfold xDGet1; rw [ha]; show Rs.grd _ _ = _; rw [grd_pos hd, hb]; show (match lkD x y M2 with | some o => _ | none => _) = _; rw [hl]
theorem xdget2 {o : Option D} (ha : fa δ M = .ok x M1) (hd : isDct x M1 = true) (hb : fb δ M1 = .ok y M2) (hc : fc δ M2 = .ok z M3) (hl : lkD x y M3 = some o) : xDGet2 fa fb fc δ M = .ok (o.getD z) M3 := by
  unfold xDGet2; rw [ha]; show Rs.grd _ _ = _; rw [grd_pos hd, hb]; show (fc δ M2).bind _ = _; rw [hc]; show (match lkD x y M3 with | some o => _ | none => _) = _; rw [hl]
theorem xchain {g g' : D → D → Mem → Rs D} (ha : fa δ M = .ok x M1) (hb : fb δ M1 = .ok y M2) (hg : g x y M2 = .ok (.bl b) M3) (ht : b = true → (fc δ M3).bind (fun w M4 => g' y w M4) = RD) (hf : b = false → RD = .ok (.bl false) M3) : xChain g g' fa fb fc δ M = RD := by
  unfold xChain; rw [ha]; show (fb δ M1).bind _ = _; rw [hb]; show (g x y M2).bind _ = _; rw [hg]
  cases b with
  | true => exact ht rfl
  | false => exact (hf rfl).symm
/-! statements -/
theorem seq_nx (h1 : f δ M = .ok (.nx δ1) M1) (h2 : g δ1 M1 = R) : sSeq f g δ M = R := by
  unfold sSeq; rw [h1]; exact h2
theorem seq_rt (h1 : f δ M = .ok (.rt d) M1) (h2 : R = .ok (.rt d) M1 := by rfl) : sSeq f g δ M = R := by
  unfold sSeq; rw [h1, h2]; rfl
theorem asg (h : fa δ M = .ok d M1) : sAsg fa (tgName i) δ M = .ok (.nx (δ.set i (some d))) M1 := by
  unfold sAsg; rw [h]; rfl
theorem asgT {n : Nat} {tg : GFs} (h : fa δ M = .ok (.tup ds) M1) (hn : ds.length = n) (ht : tg ds δ M1 = .ok δ1 M2) : sAsg fa (tgTup n tg) δ M = .ok (.nx δ1) M2 := by
  unfold sAsg; rw [h]; show (Rs.grd (ds.length = n) (tg ds δ M1)).bind _ = _; rw [grd_pos hn, ht]; rfl
theorem par {i j : Nat} (h : as δ M = .ok [x, y] M1) : sPar i j as δ M = .ok (.nx ((δ.set i (some x)).set j (some y))) M1 := by
  unfold sPar; rw [h]; rfl
theorem if_t (hc : c δ M = .ok true M1) (h : f δ M1 = R) : sIf c f g δ M = R := by
  unfold sIf; rw [hc]; exact h
theorem if_f (hc : c δ M = .ok false M1) (h : g δ M1 = R) : sIf c f g δ M = R := by
  unfold sIf; rw [hc]; exact h
theorem ret (h : fa δ M = .ok d M1) : sRet fa δ M = .ok (.rt d) M1 := by
  unfold sRet; rw [h]; rfl
theorem drop' (h : fa δ M = .ok d M1) : sDrop fa δ M = .ok (.nx δ) M1 := by
  unfold sDrop; rw [h]; rfl
theorem dput (hv : fa δ M = .ok z M1) (ho : fb δ M1 = .ok x M2) (hi : fc δ M2 = .ok y M3) (h : gDPut x y z M3 = some M4) : sDPut fa fb fc δ M = .ok (.nx δ) M4 := by
  unfold sDPut; rw [hv]; show (fb δ M1).bind _ = _; rw [ho]; show (fc δ M2).bind _ = _; rw [hi]; show (match gDPut x y z M3 with | some M4 => _ | none => _) = _; rw [h]
/-- a field is set for the first time -/
theorem sfld {c k : Nat} (hv : fa δ M = .ok z M1) (ho : fb δ M1 = .ok (.m k) M2) (hm : M2[k]? = some (.ins c fs)) (hi : i = fs.length) : sSFld c i fa fb δ M = .ok (.nx δ) (M2.set k (.ins c (fs ++ [z]))) := by
  subst hi
  unfold sSFld; rw [hv]; show (fb δ M1).bind _ = _; rw [ho]
  show (match M2[k]? with | some (.ins c' fs') => if c' = c then (if fs.length < fs'.length then Rs.ok (Fl.nx δ) (M2.set k (.ins c (fs'.set fs.length z))) else if fs.length = fs'.length then .ok (.nx δ) (M2.set k (.ins c (fs' ++ [z]))) else .stuck) else .stuck | _ => .stuck) = _
  rw [hm]; show (if c = c then (if fs.length < fs.length then Rs.ok (Fl.nx δ) (M2.set k (.ins c (fs.set fs.length z))) else if fs.length = fs.length then .ok (.nx δ) (M2.set k (.ins c (fs ++ [z]))) else .stuck) else .stuck) = _
  rw [if_pos rfl, if_neg (Nat.lt_irrefl _), if_pos rfl]
theorem fn_rt {np nN : Nat} (hl : ds.length = np) (h : f (ds.map some ++ List.replicate (nN - np) none) M = .ok (.rt d) M1) : fnD np nN f ds M = .ok d M1 := by
  unfold fnD; rw [if_pos hl, h]; rfl
theorem fn_nx {np nN : Nat} (hl : ds.length = np) (h : f (ds.map some ++ List.replicate (nN - np) none) M = .ok (.nx δ1) M1) : fnD np nN f ds M = .ok .non M1 := by
  unfold fnD; rw [if_pos hl, h]; rfl
theorem fn_ok' {np nN : Nat} (hl : ds.length = np) {P : D → Mem → Prop} (h : Ok (f (ds.map some ++ List.replicate (nN - np) none) M) fun fl M1 => match fl with | .nx _ => P .non M1 | .rt d => P d M1 | _ => False) : Ok (fnD np nN f ds M) P := by
  unfold fnD; rw [if_pos hl, Ok.bind]
  refine h.mono fun fl M1 q => ?_
  cases fl <;> exact q
theorem Ok.seq {P : Fl → Mem → Prop} (h : Ok (f δ M) fun fl M1 => match fl with | .nx δ1 => Ok (g δ1 M1) P | fl => P fl M1) : Ok (sSeq f g δ M) P := by
  unfold sSeq; rw [Ok.bind]
  refine h.mono fun fl M1 q => ?_
  cases fl <;> exact q
theorem Ok.seq1 {P : Fl → Mem → Prop} (h1 : f δ M = .ok (.nx δ1) M1) (h : Ok (g δ1 M1) P) : Ok (sSeq f g δ M) P := by
  rw [seq_nx h1 rfl]; exact h
/-! comprehensions -/
theorem xlc {tg : GF} {tt : TF} {te : EF} {vs : List Nat} (hs : fa δ M = .ok d M1) (hc : compS (stepC M1.length tg tt te (wD δ vs)) d (M1 ++ [.lst []]) = .ok () M2) : xLc fa tg tt te vs δ M = .ok (.m M1.length) M2 := by
  unfold xLc; rw [hs]; show (compS _ _ _).bind _ = _; rw [hc]; rfl
/-- pure, over values or a list of the store -/
theorem xlc_pure {tg : GF} {tt : TF} {te : EF} {vs : List Nat} {xs : List D} (φ : D → Option D) (hs : fa δ M = .ok d M1) (hd : d = .tup xs ∨ d = .rl xs ∨ ∃ j, d = .m j ∧ M1[j]? = some (.lst xs)) (hz : xs.length ≤ sizeLine) (hf : ∀ x ∈ xs, pureStep (stepC M1.length tg tt te (wD δ vs)) M1.length φ x) :
    xLc fa tg tt te vs δ M = .ok (.m M1.length) (M1 ++ [.lst (xs.filterMap φ)]) := by
  refine xlc hs ?_
  rw [compS_val (xs := xs) (acc := []) φ ?_ at_new rfl hz hf, set_new]
  · rfl
  · rcases hd with h | h | ⟨j, h, e⟩
    · exact .inl h
    · exact .inr (.inl h)
    · exact .inr (.inr ⟨j, h, Nat.ne_of_lt (lt_of_at e), at_app e⟩)
theorem xlcr1 {tg : GF} {tt : TF} {te : EF} {vs : List Nat} {j : Int} (φ : D → Option D) (hs : as δ M = .ok [.int j] M1) (hj : -(2 ^ 62) ≤ j ∧ j < 2 ^ 62) (hz : j.toNat ≤ sizeLine) (hf : ∀ x ∈ rangeD 0 j.toNat, pureStep (stepC M1.length tg tt te (wD δ vs)) M1.length φ x) :
    xLcR1 as tg tt te vs δ M = .ok (.m M1.length) (M1 ++ [.lst ((rangeD 0 j.toNat).filterMap φ)]) := by
  unfold xLcR1; rw [hs]
  show Rs.grd _ _ = _
  rw [grd_pos hj, compV_pure (acc := []) φ at_new (by simpa [rangeD] using hz) hf, set_new]
  rfl
/-- a step that pushes a value always -/
theorem pure_push {k : Nat} {tg : GF} {te : EF} {δ : Dv} {x y : D} {φ : D → Option D} (hφ : φ x = some y) (ht : ∀ M, tg x δ M = .ok δ1 M) (he : ∀ M acc, M[k]? = some (.lst acc) → te δ1 M = .ok y M) : pureStep (stepC k tg xYes te δ) k φ x := fun M acc hM hz => by
  unfold stepC
  rw [ht M]
  show (te δ1 M).bind _ = _
  rw [he M acc hM]
  show (match M[k]? with | some (.lst acc) => Rs.grd (acc.length < sizeLine) (Rs.ok () (M.set k (.lst (acc ++ [y])))) | _ => .stuck) = _
  rw [hM, hφ]
  exact grd_pos hz
theorem pure_if {k : Nat} {tg : GF} {tt : TF} {te : EF} {δ : Dv} {x y : D} {b : Bool} {φ : D → Option D} (hφ : φ x = if b then some y else none) (ht : ∀ M, tg x δ M = .ok δ1 M) (hb : ∀ M acc, M[k]? = some (.lst acc) → tt δ1 M = .ok b M) (he : ∀ M acc, M[k]? = some (.lst acc) → te δ1 M = .ok y M) : pureStep (stepC k tg tt te δ) k φ x := fun M acc hM hz => by
  unfold stepC
  rw [ht M]
  show (tt δ1 M).bind _ = _
  rw [hb M acc hM, hφ]
  cases b with
  | false => rfl
  | true =>
    show (te δ1 M).bind _ = _
    rw [he M acc hM]
    show (match M[k]? with | some (.lst acc) => Rs.grd (acc.length < sizeLine) (Rs.ok () (M.set k (.lst (acc ++ [y])))) | _ => .stuck) = _
    rw [hM]
    exact grd_pos hz
end
end J
namespace K29
open PySem J
def pen (c : Nat) (b l : Int) : MO := .dct [(.inr "cells", .m c), (.inr "begun", .int b), (.inr "left", .int l)]
theorem gmul {i j : Int} {M : Mem} (h : L2.CMul i j) : gMul (.int i) (.int j) M = .ok (.int (i * j)) M := grd_pos (.inl h)
theorem gmod {i j : Int} {M : Mem} (h : 0 < j) : gMod (.int i) (.int j) M = .ok (.int (i % j)) M := grd_pos h
theorem gdiv {i j : Int} {M : Mem} (h : 0 < j ∧ j < 1073741824) : gDiv (.int i) (.int j) M = .ok (.int (i / j)) M := grd_pos (.inl h)
section
variable {p c : Nat} {b l : Int} {M : Mem} (h : M[p]? = some (pen c b l))
include h
theorem lk_pen (k : Str) : lkD (.m p) (.str k) M = some (valD ([(.inr "cells", .m c), (.inr "begun", .int b), (.inr "left", .int l)] : List (L2.Key × D)) (.inr k)) := by
  show (match M[p]? with
    | some (.dct kvs) => (keyOf (.str k)).map fun q => valD kvs q
    | some (.bd kvs) => none
    | _ => none) = _
  rw [h]; rfl
theorem pen_left : gDGet (.m p) (.str "left") M = .ok (.int l) M := by
  unfold gDGet; rw [lk_pen h]; rfl
theorem pen_begun : gDGet (.m p) (.str "begun") M = .ok (.int b) M := by
  unfold gDGet; rw [lk_pen h]; rfl
theorem pen_cells : gDGet (.m p) (.str "cells") M = .ok (.m c) M := by
  unfold gDGet; rw [lk_pen h]; rfl
theorem put_left (v : Int) : gDPut (.m p) (.str "left") (.int v) M = some (M.set p (pen c b v)) := by
  show (match M[p]? with
    | some (.dct kvs) => if kvs.length < sizeLine then (keyOf (.str "left")).map fun q => M.set p (.dct (putD kvs q (.int v))) else none
    | some (.bd kvs) => if kvs.length < sizeLine then none else none
    | _ => none) = _
  rw [h]; rfl
theorem put_begun (v : Int) : gDPut (.m p) (.str "begun") (.int v) M = some (M.set p (pen c v l)) := by
  show (match M[p]? with
    | some (.dct kvs) => if kvs.length < sizeLine then (keyOf (.str "begun")).map fun q => M.set p (.dct (putD kvs q (.int v))) else none
    | some (.bd kvs) => if kvs.length < sizeLine then none else none
    | _ => none) = _
  rw [h]; rfl
end
theorem atI_nat {α : Type} {xs : List α} {i : Int} (h0 : 0 ≤ i) (h : i.toNat < xs.length) : L2.atI xs i = some xs[i.toNat] := by
  unfold L2.atI L2.ixN
  rw [if_pos h0, if_pos (by omega)]
  exact List.getElem?_eq_getElem h
theorem ix_m {M : Mem} {k : Nat} {xs : List D} {i : Int} {d : D} (h : M[k]? = some (.lst xs)) (e : L2.atI xs i = some d) : gIx (.m k) (.int i) M = .ok d M := by
  show (match M[k]? with | some (.lst xs) => (match L2.atI xs i with | some d => Rs.ok d M | none => .stuck) | _ => .stuck) = _
  rw [h]; show (match L2.atI xs i with | some d => Rs.ok d M | none => .stuck) = _; rw [e]
theorem m32 (a b : Int) (h : 0 < b ∧ b ≤ 4294967296) : 0 ≤ a % b ∧ a % b < 4294967296 := ⟨Int.emod_nonneg _ (by omega), Int.lt_of_lt_of_le (Int.emod_lt_of_pos _ h.1) h.2⟩
theorem cmul_l {i j : Int} (h : 0 ≤ i ∧ i < 4294967296) : L2.CMul i j := .inl (by omega)
theorem cmul_r {i j : Int} (h : 0 ≤ j ∧ j < 4294967296) : L2.CMul i j := .inr (by omega)
/-- the last part of a draw: three blends -/
theorem draw_tail {p : Nat} {b many told sz : Int} {M : Mem} (hb : 0 ≤ b ∧ b ≤ 100000) (hm : 0 < many ∧ many ≤ 1000) {e3 e4 : Option D} :
    ∃ i, (sSeq (sAsg (xBin gMod (xCall gInt (xCons (xBin gAdd (xBin gAdd (xBin gMul (xBin gMod (xCall gInt (xCons (xVar 2) xNil)) (xC (.int 4294967279))) (xC (.int 50923))) (xBin gMul (xBin gMul (xC (.int 31249)) (xVar 5)) (xVar 5))) (xC (.int 977))) xNil)) (xC (.int 4294967291))) (tgName 3))
  (sSeq (sAsg (xBin gMod (xCall gInt (xCons (xBin gAdd (xBin gAdd (xBin gAdd (xBin gMul (xVar 3) (xVar 3)) (xBin gMul (xC (.int 70001)) (xVar 3))) (xBin gMul (xC (.int 41)) (xVar 5))) (xC (.int 13))) xNil)) (xC (.int 4294967231))) (tgName 3))
  (sRet (xBin gMod (xCall gInt (xCons (xBin gDiv (xBin gMod (xCall gInt (xCons (xBin gMul (xVar 3) (xBin gAdd (xVar 3) (xC (.int 46237)))) xNil)) (xC (.int 4294967189))) (xC (.int 64))) xNil)) (xVar 1))))) [some (.m p), some (.int many), some (.int told), e3, e4, some (.int b), some (.int sz)] M = .ok (.rt (.int i)) M ∧ 0 ≤ i ∧ i < many := by
  refine ⟨_, seq_nx (asg (xbin (xcall (xone (xbin (xbin (xbin (xbin (xcall (xone rfl) rfl) rfl (gmod (by decide))) rfl (gmul (cmul_l (m32 _ _ (by decide))))) (xbin (xbin rfl rfl (gmul (.inl (by decide)))) rfl (gmul (cmul_r (by omega)))) rfl) rfl rfl)) rfl) rfl (gmod (by decide))))
    (seq_nx (asg (xbin (xcall (xone (xbin (xbin (xbin (xbin rfl rfl (gmul (cmul_l (m32 _ _ (by decide))))) (xbin rfl rfl (gmul (.inl (by decide)))) rfl) (xbin rfl rfl (gmul (.inl (by decide)))) rfl) rfl rfl)) rfl) rfl (gmod (by decide))))
    (ret (xbin (xcall (xone (xbin (xbin (xcall (xone (xbin rfl (xbin rfl rfl rfl) (gmul (cmul_l (m32 _ _ (by decide)))))) rfl) rfl (gmod (by decide))) rfl (gdiv (by decide)))) rfl) rfl (gmod (by omega))))), ?_⟩
  exact ⟨Int.emod_nonneg _ (by omega), Int.emod_lt_of_pos _ (by omega)⟩
theorem set2 {M : Mem} {k : Nat} {x y : MO} : (M.set k x).set k y = M.set k y := List.set_set _
theorem draw_ok {p c : Nat} {b l many : Int} {ns : List Int} {M : Mem} (h : M[p]? = some (pen c b l)) (hc : M[c]? = some (.lst (ns.map .int))) (hb : 0 ≤ b ∧ b ≤ 100000) (hm : 0 < many ∧ many ≤ 1000) :
    ∃ i b' l', d_law_draw [.m p, .int many] M = .ok (.int i) (M.set p (pen c b' l')) ∧ 0 ≤ i ∧ i < many ∧ 0 ≤ b' ∧ b' ≤ b + 1 := by
  have hp := lt_of_at h
  have hpc : c ≠ p := by
    rintro rfl
    rw [h] at hc; cases hc
  by_cases hl : 0 < l
  · refine ⟨l % many, b, l / many, fn_rt rfl (seq_rt (if_t (xtst (xbin (xbin rfl rfl (pen_left h)) rfl ?_)) (seq_nx (asg (xbin (xcall (xone (xbin rfl rfl (pen_left h))) rfl) rfl (gmod (by omega))))
      (seq_nx (dput (xbin (xbin rfl rfl (pen_left h)) rfl (gdiv (by omega))) rfl rfl (put_left h _)) (ret rfl))))), Int.emod_nonneg _ (by omega), Int.emod_lt_of_pos _ (by omega), hb.1, by omega⟩
    show Rs.ok (D.bl (decide (0 < l))) M = _
    rw [decide_eq_true hl]
  · have h2 : (M.set p (pen c (b + 1) l))[c]? = some (.lst (ns.map .int)) := at_set_ne hc hpc
    have h3 : (M.set p (pen c (b + 1) l))[p]? = some (pen c (b + 1) l) := at_set hp
    have e0 : xTst (xBin (gOrd fun i j => decide (j < i)) (xDGet (xVar 0) (xC (.str "left"))) (xC (.int 0))) [some (.m p), some (.int many), none, none, none, none, none] M = .ok false M :=
      xtst (xbin (xbin rfl rfl (pen_left h)) rfl (by show Rs.ok (D.bl (decide (0 < l))) M = _; rw [decide_eq_false hl]))
    have el : gLen [.m c] M = .ok (.int ns.length) M := by
      show (match M[c]? with | some (.lst xs) => Rs.ok (D.int xs.length) M | some (.dct xs) => .ok (D.int xs.length) M | _ => .stuck) = _
      rw [hc]; simp
    have eT : ∃ told, xIf (xTst (xBin (gOrd fun i j => decide (j < i)) (xVar 6) (xC (.int 0)))) (xBin gIx (xDGet (xVar 0) (xC (.str "cells"))) (xBin gMod (xCall gInt (xCons (xVar 5) xNil)) (xVar 6))) (xBin gAdd (xBin gMul (xC (.int 53)) (xVar 5)) (xC (.int 29)))
        [some (.m p), some (.int many), none, none, none, some (.int b), some (.int ns.length)] (M.set p (pen c (b + 1) l)) = .ok (.int told) (M.set p (pen c (b + 1) l)) := by
      by_cases hz : (0 : Int) < ns.length
      · have hix : (b % ns.length).toNat < ns.length := by
          have := Int.emod_nonneg b (b := ns.length) (by omega)
          have := Int.emod_lt_of_pos b hz
          omega
        refine ⟨ns[(b % ns.length).toNat], xif_t (xtst (xbin rfl rfl (by show Rs.ok (D.bl (decide ((0 : Int) < ns.length))) _ = _; rw [decide_eq_true hz]))) (xbin (xbin rfl rfl (pen_cells h3)) (xbin (xcall (xone rfl) rfl) rfl (gmod hz)) ?_)⟩
        exact ix_m h2 (by rw [atI_nat (by simpa using Int.emod_nonneg b (b := ns.length) (by omega)) (by simpa using hix)]; simp)
      · exact ⟨_, xif_f (xtst (xbin rfl rfl (by show Rs.ok (D.bl (decide ((0 : Int) < ns.length))) _ = _; rw [decide_eq_false hz]))) (xbin (xbin rfl rfl (gmul (.inl (by decide)))) rfl rfl)⟩
    obtain ⟨told, eT⟩ := eT
    have eA : xBin gSub (xCall gAbs (xCons (xVar 2) xNil)) (xBin gPow (xC (.int 10)) (xC (.int 18))) [some (.m p), some (.int many), some (.int told), none, none, some (.int b), some (.int ns.length)] (M.set p (pen c (b + 1) l)) = .ok (.int ((if told < 0 then -told else told) - 10 ^ 18)) (M.set p (pen c (b + 1) l)) :=
      xbin (xcall (xone rfl) rfl) (xbin rfl rfl (grd_pos (by decide))) rfl
    have eC : ∃ q, xAnd (xTst (xBin (gOrd fun i j => decide (i < j)) (xVar 5) (xVar 6))) (xTst (xBin (gOrd fun i j => decide (j ≤ i)) (xCall gAbs (xCons (xVar 2) xNil)) (xBin gPow (xC (.int 10)) (xC (.int 18)))))
        [some (.m p), some (.int many), some (.int told), none, none, some (.int b), some (.int ns.length)] (M.set p (pen c (b + 1) l)) = .ok q (M.set p (pen c (b + 1) l)) := by
      by_cases hz : b < ns.length
      · exact ⟨_, xand_t (xtst (xbin rfl rfl (by show Rs.ok (D.bl (decide (b < ns.length))) _ = _; rw [decide_eq_true hz]))) (xtst (xbin (xcall (xone rfl) rfl) (xbin rfl rfl (grd_pos (by decide))) rfl))⟩
      · exact ⟨_, xand_f (xtst (xbin rfl rfl (by show Rs.ok (D.bl (decide (b < ns.length))) _ = _; rw [decide_eq_false hz])))⟩
    obtain ⟨q, eC⟩ := eC
    have pre : ∀ {R : Rs Fl} , (sSeq (sIf (xAnd (xTst (xBin (gOrd fun i j => decide (i < j)) (xVar 5) (xVar 6))) (xTst (xBin (gOrd fun i j => decide (j ≤ i)) (xCall gAbs (xCons (xVar 2) xNil)) (xBin gPow (xC (.int 10)) (xC (.int 18))))))
  (sSeq (sDPut (xBin gDiv (xBin gSub (xCall gAbs (xCons (xVar 2) xNil)) (xBin gPow (xC (.int 10)) (xC (.int 18)))) (xVar 1)) (xVar 0) (xC (.str "left")))
  (sRet (xBin gMod (xCall gInt (xCons (xBin gSub (xCall gAbs (xCons (xVar 2) xNil)) (xBin gPow (xC (.int 10)) (xC (.int 18)))) xNil)) (xVar 1))))
  sSkip)
  (sSeq (sAsg (xBin gMod (xCall gInt (xCons (xBin gAdd (xBin gAdd (xBin gMul (xBin gMod (xCall gInt (xCons (xVar 2) xNil)) (xC (.int 4294967279))) (xC (.int 50923))) (xBin gMul (xBin gMul (xC (.int 31249)) (xVar 5)) (xVar 5))) (xC (.int 977))) xNil)) (xC (.int 4294967291))) (tgName 3))
  (sSeq (sAsg (xBin gMod (xCall gInt (xCons (xBin gAdd (xBin gAdd (xBin gAdd (xBin gMul (xVar 3) (xVar 3)) (xBin gMul (xC (.int 70001)) (xVar 3))) (xBin gMul (xC (.int 41)) (xVar 5))) (xC (.int 13))) xNil)) (xC (.int 4294967231))) (tgName 3))
  (sRet (xBin gMod (xCall gInt (xCons (xBin gDiv (xBin gMod (xCall gInt (xCons (xBin gMul (xVar 3) (xBin gAdd (xVar 3) (xC (.int 46237)))) xNil)) (xC (.int 4294967189))) (xC (.int 64))) xNil)) (xVar 1)))))) [some (.m p), some (.int many), some (.int told), none, none, some (.int b), some (.int ns.length)] (M.set p (pen c (b + 1) l)) = R →
        d_law_draw [.m p, .int many] M = (R.bind fun fl M1 => match fl with | .nx _ => .ok .non M1 | .rt d => .ok d M1 | _ => .stuck) := fun {R} e => by
      unfold d_law_draw fnD
      rw [if_pos (show [D.m p, D.int many].length = 2 from rfl)]
      have this : b_law_draw ([some (.m p), some (.int many), none, none, none, none, none]) M = R := seq_nx (if_f e0 rfl) (seq_nx (par (xcons (xbin rfl rfl (pen_begun h)) (xone (xcall (xone (xbin rfl rfl (pen_cells h))) el)))) (seq_nx (dput (xbin rfl rfl rfl) rfl rfl (put_begun h (b + 1))) (seq_nx (asg eT) e)))
      exact congrArg (fun r => Rs.bind r _) this
    cases q with
    | true =>
      refine ⟨((if told < 0 then -told else told) - 10 ^ 18) % many, b + 1, ((if told < 0 then -told else told) - 10 ^ 18) / many, (pre (seq_rt (if_t eC (seq_nx (dput (xbin eA rfl (gdiv (by omega))) rfl rfl (put_left h3 _)) (ret (xbin (xcall (xone (xbin (xcall (xone rfl) rfl) (xbin rfl rfl (grd_pos (by decide))) rfl)) rfl) rfl (gmod (by omega)))))))).trans ?_, ?_⟩
      · rw [set2]; rfl
      · exact ⟨Int.emod_nonneg _ (by omega), Int.emod_lt_of_pos _ (by omega), by omega, by omega⟩
    | false =>
      obtain ⟨i, e, h1, h2⟩ := draw_tail (p := p) (told := told) (sz := ns.length) (M := M.set p (pen c (b + 1) l)) hb hm (e3 := none) (e4 := none)
      exact ⟨i, b + 1, l, pre (seq_nx (if_f eC rfl) e), h1, h2, by omega, by omega⟩
end K29
namespace K29
open PySem J
theorem xdisp {trs : List (EF × EF)} {δ : Dv} {M M2 : Mem} {ps : List (D × D)} {kvs : List (L2.Key × D)} (h : xPairs trs δ (M ++ [.dct []]) = .ok ps M2) (hd : M2[M.length]? = some (.dct [])) (hk : keysOf ps = some kvs) (hl : kvs.length ≤ 15) : xDisp trs δ M = .ok (.m M.length) (M2.set M.length (.dct (mergeD [] kvs))) := by
  unfold xDisp
  rw [h]
  show (match M2[M.length]?, keysOf ps with
  | some (.dct []), some kvs => Rs.grd (kvs.length ≤ 15) (Rs.ok (D.m M.length) (M2.set M.length (.dct (mergeD [] kvs))))
  | _, _ => .stuck) = _
  rw [hd, hk]
  exact grd_pos hl
theorem xpair {k v : EF} {r : List (EF × EF)} {δ : Dv} {M M1 M2 M3 : Mem} {x y : D} {ps : List (D × D)} (hk : k δ M = .ok x M1) (hv : v δ M1 = .ok y M2) (hr : xPairs r δ M2 = .ok ps M3) : xPairs ((k, v) :: r) δ M = .ok ((x, y) :: ps) M3 := by
  unfold xPairs; rw [hk]; show (v δ M1).bind _ = _; rw [hv]; show (xPairs r δ M2).bind _ = _; rw [hr]; rfl
theorem sl_m {M : Mem} {k : Nat} {xs : List D} {lo hi : Option Int} (h : M[k]? = some (.lst xs)) : gSl (.m k) lo hi M = .ok (.m M.length) (M ++ [.lst (cutA xs lo hi)]) := by
  show (match M[k]? with | some (.lst xs) => Rs.ok (D.m M.length) (M ++ [MO.lst (cutA xs lo hi)]) | _ => .stuck) = _
  rw [h]
theorem add_m {M : Mem} {k l : Nat} {xs ys : List D} (h : M[k]? = some (.lst xs)) (h' : M[l]? = some (.lst ys)) (hz : xs.length + ys.length ≤ sizeLine) : gAdd (.m k) (.m l) M = .ok (.m M.length) (M ++ [.lst (xs ++ ys)]) := by
  show (match M[k]?, M[l]? with
    | some (.lst xs), some (.lst ys) => Rs.grd (xs.length + ys.length ≤ sizeLine) (Rs.ok (D.m M.length) (M ++ [MO.lst (xs ++ ys)]))
    | _, _ => .stuck) = _
  rw [h, h']; exact grd_pos hz
theorem dget_s {M : Mem} {k : Nat} {kvs : List (L2.Key × D)} {x : Str} {d : D} (h : M[k]? = some (.dct kvs)) (hv : valD kvs (.inr x) = some d) : gDGet (.m k) (.str x) M = .ok d M := by
  have e : lkD (.m k) (.str x) M = some (some d) := by
    show (match M[k]? with
    | some (.dct kvs) => (keyOf (.str x)).map fun q => valD kvs q
    | some (.bd kvs) => none
    | _ => none) = _
    rw [h]; exact congrArg some hv
  unfold gDGet
  rw [e]
def every : List T3 := [(false, false, 0), (false, false, 1), (false, false, 2), (true, false, 0), (true, false, 1), (true, false, 2)]
def joined : List T3 := [(false, true, 1), (false, false, 2), (true, false, 0), (true, false, 1), (true, false, 2)]
def plain : List T3 := [(false, false, 1), (false, false, 2), (true, false, 0), (true, false, 1), (true, false, 2)]
def othersOf (n : Str) : List T3 := if n = "bare" then every else if n = "joined" then joined else plain
theorem known_every (M : Mem) (δ : Dv) (hδ : δ.length = 3) : xLcR1 (xCons (xC (.int 6)) xNil) (tgName 2) xYes (xTup (xCons (xBin (gOrd fun i j => decide (j < i)) (xVar 2) (xC (.int 2))) (xCons (xC (.bl false)) (xCons (xBin gMod (xCall gInt (xCons (xVar 2) xNil)) (xC (.int 3))) xNil)))) [2] δ M = .ok (.m M.length) (M ++ [.lst (every.map encD)]) := by
  obtain ⟨a, b, c, rfl⟩ : ∃ a b c, δ = [a, b, c] := match δ, hδ with | [a, b, c], _ => ⟨a, b, c, rfl⟩
  refine xlcr1 (j := 6) (fun d => match d with | .int i => some (encD (decide (2 < i), false, i % 3)) | _ => none) rfl (by decide) (by decide) fun x hx => ?_
  simp only [rangeD, List.mem_map] at hx
  obtain ⟨i, _, rfl⟩ := hx
  exact pure_push rfl (fun M => rfl) fun M acc _ => rfl
theorem known_ok (n : Str) (hn : n = "bare" ∨ n = "joined" ∨ n = "plain") (M : Mem) : ∃ r o M', d_law_known [.str n] M = .ok (.tup [.m r, .m o]) M' ∧ Fr [] M M' ∧ M'[r]? = some (.lst (every.map encD)) ∧ M'[o]? = some (.lst ((othersOf n).map encD)) := by
  let M0 := M ++ [MO.lst (every.map encD)]
  let M1 := M0 ++ [MO.dct []]
  let M2 := M1 ++ [MO.lst [encD (false, true, 1)]]
  let M3 := M2 ++ [MO.lst (cutA (every.map encD) (some 2) none)]
  let M4 := M3 ++ [MO.lst ([encD (false, true, 1)] ++ cutA (every.map encD) (some 2) none)]
  let M5 := M4 ++ [MO.lst (cutA (every.map encD) (some 1) none)]
  let kvs : List (L2.Key × D) := [(.inr "bare", .m M.length), (.inr "joined", .m M3.length), (.inr "plain", .m M4.length)]
  let M6 := M5.set M0.length (.dct (mergeD [] kvs))
  have h0 : M0[M.length]? = some (.lst (every.map encD)) := at_new
  have eP : xPairs [((xC (.str "bare")), (xVar 1)), ((xC (.str "joined")), (xBin gAdd (xLst (xCons (xTup (xCons (xC (.bl false)) (xCons (xC (.bl true)) (xCons (xC (.int 1)) xNil)))) xNil)) (xSl (xVar 1) (xPart (xC (.int 2))) xNoPart))), ((xC (.str "plain")), (xSl (xVar 1) (xPart (xC (.int 1))) xNoPart))] [some (.str n), some (.m M.length), none] M1 = .ok [(.str "bare", .m M.length), (.str "joined", .m M3.length), (.str "plain", .m M4.length)] M5 :=
    xpair rfl rfl (xpair rfl (xbin (xlst (xone (xtup rfl))) (xsl rfl rfl rfl (sl_m (at_app (at_app h0)))) (add_m (at_app at_new) at_new (by decide))) (xpair rfl (xsl rfl rfl rfl (sl_m (at_app (at_app (at_app (at_app h0)))))) rfl))
  have e1 : M1[M0.length]? = some (.dct []) := at_new
  have e5 : M5[M0.length]? = some (.dct []) := at_app (at_app (at_app (at_app e1)))
  have eD := xdisp (M := M0) eP e5 rfl (Nat.le_of_ble_eq_true rfl) (kvs := kvs)
  have l0 : M0.length = M.length + 1 := by simp [M0]
  have l3 : M3.length = M.length + 4 := by simp [M3, M2, M1, M0]
  have l4 : M4.length = M.length + 5 := by simp [M4, M3, M2, M1, M0]
  have hl : M0.length < M5.length := lt_of_at e5
  have g0 : M6[M.length]? = some (.lst (every.map encD)) := at_set_ne (at_app (at_app (at_app (at_app (at_app h0))))) (by omega)
  have g3 : M6[M3.length]? = some (.lst (joined.map encD)) := at_set_ne (at_app (at_new (M := M3))) (by omega)
  have g4 : M6[M4.length]? = some (.lst (plain.map encD)) := at_set_ne (at_new (M := M4)) (by omega)
  have gd : M6[M0.length]? = some (.dct (mergeD [] kvs)) := at_set hl
  have fr : Fr [] M M6 := ((((((Fr.app (M := M)).trans Fr.app).trans Fr.app).trans Fr.app).trans Fr.app).trans Fr.app).trans_set (by omega)
  have run : ∀ o, valD (mergeD [] kvs) (.inr n) = some (.m o) → d_law_known [.str n] M = .ok (.tup [.m M.length, .m o]) M6 := fun o ho =>
    fn_rt rfl (seq_nx (asg (known_every M _ rfl)) (ret (xtup (xcons rfl (xone (xbin eD rfl (dget_s gd ho)))))))
  rcases hn with rfl | rfl | rfl
  · exact ⟨_, _, M6, run M.length rfl, fr, g0, g0⟩
  · exact ⟨_, _, M6, run M3.length rfl, fr, g0, g3⟩
  · exact ⟨_, _, M6, run M4.length rfl, fr, g0, g4⟩
end K29
namespace K29
open PySem J
def PenAt (p c : Nat) (n : Int) (M : Mem) : Prop := ∃ (b l : Int) (ns : List Int), M[p]? = some (pen c b l) ∧ M[c]? = some (.lst (ns.map D.int)) ∧ 0 ≤ b ∧ b ≤ n
theorem PenAt.ne {p c : Nat} {n : Int} {M : Mem} (h : PenAt p c n M) : c ≠ p := by
  obtain ⟨b, l, ns, h1, h2, _⟩ := h
  rintro rfl
  rw [h1] at h2; cases h2
theorem PenAt.mono {p c : Nat} {n n' : Int} {M : Mem} (h : PenAt p c n M) (hn : n ≤ n') : PenAt p c n' M := by
  obtain ⟨b, l, ns, h1, h2, h3, h4⟩ := h
  exact ⟨b, l, ns, h1, h2, h3, Int.le_trans h4 hn⟩
theorem PenAt.lt {p c : Nat} {n : Int} {M : Mem} (h : PenAt p c n M) : p < M.length ∧ c < M.length := by
  obtain ⟨b, l, ns, h1, h2, h3, h4⟩ := h
  exact ⟨lt_of_at h1, lt_of_at h2⟩
theorem PenAt.fr {p c : Nat} {n : Int} {M M' : Mem} {S : List Nat} (h : PenAt p c n M) (f : Fr S M M') (hp : p ∉ S) (hc : c ∉ S) : PenAt p c n M' := by
  obtain ⟨b, l, ns, h1, h2, h3, h4⟩ := h
  exact ⟨b, l, ns, f.get h1 hp, f.get h2 hc, h3, h4⟩
theorem draw_pen {p c : Nat} {n many : Int} {M : Mem} (h : PenAt p c n M) (hn : n ≤ 10000) (hm : 0 < many ∧ many ≤ 1000) :
    ∃ i M', d_law_draw [.m p, .int many] M = .ok (.int i) M' ∧ 0 ≤ i ∧ i < many ∧ PenAt p c (n + 1) M' ∧ Fr [p] M M' ∧ M'.length = M.length := by
  have hne := h.ne
  obtain ⟨b, l, ns, h1, h2, h3, h4⟩ := h
  obtain ⟨i, b', l', e, i0, i1, b0, b1⟩ := draw_ok h1 h2 (b := b) ⟨h3, by omega⟩ hm
  refine ⟨i, _, e, i0, i1, ⟨b', l', ns, at_set (lt_of_at h1), at_set_ne h2 hne, b0, by omega⟩, .set (.inl (by simp)), by simp⟩
theorem app_m {M : Mem} {k : Nat} {xs : List D} {y : D} (h : M[k]? = some (.lst xs)) (hz : xs.length < sizeLine) : gAppend (.m k) [y] M = .ok .non (M.set k (.lst (xs ++ [y]))) := by
  show (match M[k]? with
    | some (.lst xs) => Rs.grd (xs.length < sizeLine) (Rs.ok D.non (M.set k (MO.lst (xs ++ [y]))))
    | _ => .stuck) = _
  rw [h]; exact grd_pos hz
theorem pop_m {M : Mem} {k j : Nat} {xs : List D} {d : D} (h : M[k]? = some (.lst xs)) (e : xs[j]? = some d) (hj : j < 1000) : gPopAt (.m k) [.int j] M = .ok d (M.set k (.lst (xs.eraseIdx j))) := by
  have hl := (List.getElem?_eq_some_iff.mp e).1
  have hs : seqIndex? (j : Int) xs.length = some j := by
    unfold seqIndex?
    simp; omega
  show (match M[k]? with
    | some (.lst xs) => (match seqIndex? (j : Int) xs.length with
      | some j' => (match xs[j']? with
        | some d => Rs.grd (-(2 ^ 63) ≤ (j : Int) ∧ (j : Int) < 2 ^ 63) (Rs.ok d (M.set k (MO.lst (xs.eraseIdx j'))))
        | none => .stuck)
      | none => .stuck)
    | _ => .stuck) = _
  rw [h]
  show (match seqIndex? (j : Int) xs.length with
      | some j' => (match xs[j']? with
        | some d => Rs.grd (-(2 ^ 63) ≤ (j : Int) ∧ (j : Int) < 2 ^ 63) (Rs.ok d (M.set k (MO.lst (xs.eraseIdx j'))))
        | none => .stuck)
      | none => .stuck) = _
  rw [hs]
  show (match xs[j]? with
        | some d => Rs.grd (-(2 ^ 63) ≤ (j : Int) ∧ (j : Int) < 2 ^ 63) (Rs.ok d (M.set k (MO.lst (xs.eraseIdx j))))
        | none => .stuck) = _
  rw [e]
  exact grd_pos ⟨by omega, by omega⟩
theorem len_m {M : Mem} {k : Nat} {xs : List D} (h : M[k]? = some (.lst xs)) : gLen [.m k] M = .ok (.int xs.length) M := by
  show (match M[k]? with | some (.lst xs) => Rs.ok (D.int xs.length) M | some (.dct xs) => .ok (D.int xs.length) M | _ => .stuck) = _
  rw [h]
theorem isl {M : Mem} {k : Nat} {xs : List D} (h : M[k]? = some (.lst xs)) : isLst (.m k) M = true := by
  show (match M[k]? with | some (.lst _) => true | _ => false) = true
  rw [h]
/-- the twelve kinds -/
def all12 : List T3 := (List.range 12).map fun i => (decide (6 ≤ i), decide (i % 2 = 1), ((i / 2 % 3 : Nat) : Int))
theorem kinds12 (M : Mem) (δ : Dv) (hδ : δ.length = 5) : xLcR1 (xCons (xC (.int 12)) xNil) (tgName 4) xYes (xTup (xCons (xBin (gOrd fun i j => decide (j ≤ i)) (xVar 4) (xC (.int 6))) (xCons (xBin gEq (xBin gMod (xCall gInt (xCons (xVar 4) xNil)) (xC (.int 2))) (xC (.int 1))) (xCons (xBin gMod (xBin gDiv (xCall gInt (xCons (xVar 4) xNil)) (xC (.int 2))) (xC (.int 3))) xNil)))) [4] δ M = .ok (.m M.length) (M ++ [.lst (all12.map encD)]) := by
  obtain ⟨a, b, c, d, e, rfl⟩ : ∃ a b c d e, δ = [a, b, c, d, e] := match δ, hδ with | [a, b, c, d, e], _ => ⟨a, b, c, d, e, rfl⟩
  refine xlcr1 (j := 12) (fun d => match d with | .int i => some (encD (decide (6 ≤ i), decide (i % 2 = 1), i / 2 % 3)) | _ => none) rfl (by decide) (by decide) fun x hx => ?_
  simp only [rangeD, List.mem_map] at hx
  obtain ⟨i, _, rfl⟩ := hx
  exact pure_push rfl (fun M => rfl) fun M acc _ => rfl
def GoodK (l : List T3) : Prop := l.Nodup ∧ (∀ t, t ∈ l → 0 ≤ t.2.2 ∧ t.2.2 ≤ 2) ∧ l.length ≤ 12
theorem good12 : GoodK all12 := by unfold GoodK; decide
theorem GoodK.of_perm {l r a : List T3} (h : (l ++ r).Perm a) (g : GoodK a) : GoodK r := by
  have n : (l ++ r).Nodup := h.nodup_iff.mpr g.1
  exact ⟨(List.nodup_append.mp n).2.1, fun t ht => g.2.1 t (h.mem_iff.mp (by simp [ht])), by have := h.length_eq; have := g.2.2; simp at *; omega⟩
theorem map_erase {α β : Type} (f : α → β) (l : List α) (j : Nat) : (l.eraseIdx j).map f = (l.map f).eraseIdx j := by
  rw [List.eraseIdx_eq_take_drop_succ, List.eraseIdx_eq_take_drop_succ, List.map_append, List.map_take, List.map_drop]
theorem erase_perm {α : Type} (l r : List α) (j : Nat) (h : j < l.length) : (l.eraseIdx j ++ (r ++ [l[j]])).Perm (l ++ r) := by
  have e : l = l.take j ++ l[j] :: l.drop (j + 1) := by
    rw [List.getElem_cons_drop, List.take_append_drop]
  have e2 : l.eraseIdx j = l.take j ++ l.drop (j + 1) := List.eraseIdx_eq_take_drop_succ l j
  rw [e2]
  conv => rhs; rw [e]
  have h1 : (List.take j l ++ l.drop (j + 1) ++ (r ++ [l[j]])).Perm (l[j] :: (List.take j l ++ l.drop (j + 1) ++ r)) := by
    rw [← List.append_assoc]
    exact (List.perm_append_comm (l₂ := [l[j]]))
  refine h1.trans ?_
  have h2 : (l.take j ++ l[j] :: l.drop (j + 1)).Perm (l[j] :: (l.take j ++ l.drop (j + 1))) := List.perm_middle
  exact (h2.append_right r).symm
theorem kinds_ok {p c : Nat} {n : Int} {M : Mem} (h : PenAt p c n M) (hn : n ≤ 9000) :
    ∃ r R M', d_law_kinds_some [.m p] M = .ok (.m r) M' ∧ Fr [p] M M' ∧ M.length ≤ r ∧ M'[r]? = some (.lst (R.map encD)) ∧ GoodK R ∧ PenAt p c (n + 13) M' := by
  let M1 := M ++ [MO.lst (all12.map encD)]
  let M2 := M1 ++ [MO.lst []]
  have hl := h.lt
  have h2 : PenAt p c n M2 := h.fr (Fr.app.trans Fr.app) (S := []) (by simp) (by simp)
  have l1 : M1.length = M.length + 1 := by simp [M1]
  obtain ⟨N, M3, eN, n0, n1, h3, f3, len3⟩ := draw_pen h2 (many := 13) (by omega) (by decide)
  have gL : M3[M.length]? = some (.lst (all12.map encD)) := f3.get (at_app at_new) (by simp; omega)
  have gF : M3[M1.length]? = some (.lst ([].map encD)) := f3.get (at_new (M := M1)) (by simp; omega)
  have main : Ok (d_law_kinds_some [.m p] M) fun d M' => ∃ R, d = .m M1.length ∧ Fr [p] M M' ∧ M'[M1.length]? = some (.lst (R.map encD)) ∧ GoodK R ∧ PenAt p c (n + 13) M' := by
    refine fn_ok' rfl (Ok.seq1 (par (xcons (kinds12 M _ rfl) (xone (xlst rfl)))) (Ok.seq ?_))
    unfold sForR1
    rw [xone (xcall (xcons rfl (xone rfl)) eN)]
    show Ok (Rs.grd _ _) _
    refine Ok.grd ⟨by omega, by omega⟩ ?_
    refine ok_loopV (fun i δ M' => ∃ (k : Option D) (L F : List T3), δ = [some (.m p), k, some (.m M.length), some (.m M1.length), none] ∧ M'[M.length]? = some (.lst (L.map encD)) ∧ M'[M1.length]? = some (.lst (F.map encD)) ∧ (L ++ F).Perm all12 ∧ F.length = i ∧ PenAt p c (n + 1 + i) M' ∧ Fr [p] M M') ?_ ?_ ?_
    · exact ⟨none, all12, [], rfl, gL, gF, by simp, rfl, by simpa using h3, ((Fr.app.trans Fr.app).trans f3 (M := M))⟩
    · rintro i x δ M' ex ⟨k, L, F, rfl, g1, g2, hp, hF, hP, fr⟩
      have hi : i < N.toNat := by
        have := (List.getElem?_eq_some_iff.mp ex).1
        simpa [rangeD] using this
      have hlen : L.length + F.length = 12 := by
        have := hp.length_eq
        simpa [all12] using this
      obtain ⟨j, M4, eJ, j0, j1, h4, f4, len4⟩ := draw_pen hP (many := (L.length : Int)) (by omega) (by omega)
      obtain ⟨j, rfl⟩ : ∃ q : Nat, j = q := ⟨j.toNat, by omega⟩
      have jl : j < L.length := by omega
      have a1 : M4[M.length]? = some (.lst (L.map encD)) := f4.get g1 (by simp; omega)
      have a2 : M4[M1.length]? = some (.lst (F.map encD)) := f4.get g2 (by simp; omega)
      have ej : (L.map encD)[j]? = some (encD L[j]) := by simp [jl]
      have a3 : (M4.set M.length (.lst ((L.map encD).eraseIdx j)))[M1.length]? = some (.lst (F.map encD)) := at_set_ne a2 (by omega)
      have st := drop' (δ := [some (.m p), some x, some (.m M.length), some (.m M1.length), none]) (xbm (fa := xVar 3) (M := M') rfl (isl g2) (xone (xbm (fa := xVar 2) rfl (isl g1) (xone (xcall (as := xCons (xVar 0) (xCons (xCall gLen (xCons (xVar 2) xNil)) xNil)) (xcons rfl (xone (xcall (xone rfl) (len_m g1)))) (by rw [List.length_map]; exact eJ))) (pop_m a1 ej (by omega)))) (app_m a3 (by rw [List.length_map]; have : (2 : Nat) ^ 24 = sizeLine := rfl; omega)))
      show Ok (sDrop _ [some (.m p), some x, some (.m M.length), some (.m M1.length), none] M') _
      rw [st]
      refine ⟨some x, L.eraseIdx j, F ++ [L[j]], rfl, ?_, ?_, (erase_perm L F j jl).trans hp, by simp [hF], ?_, ?_⟩
      · rw [map_erase]; exact at_set_ne (at_set (lt_of_at a1)) (by omega)
      · rw [List.map_append]; exact at_set (lt_of_at a3)
      · refine (h4.mono (n' := n + 1 + ((i + 1 : Nat) : Int)) (by omega)).fr (S := [M.length, M1.length]) ((Fr.set (.inl (by simp))).trans (.set (.inl (by simp)))) (by simp; omega) (by simp; omega)
      · exact ((fr.trans f4).trans_set (Nat.le_refl _)).trans_set (by omega)
    · rintro δ M' ⟨k, L, F, rfl, g1, g2, hp, hF, hP, fr⟩
      have e : sRet (xVar 3) [some (.m p), k, some (.m M.length), some (.m M1.length), none] M' = .ok (.rt (.m M1.length)) M' := ret rfl
      show Ok (sRet (xVar 3) _ M') _
      rw [e]
      have : (rangeD 0 N.toNat).length = N.toNat := by simp [rangeD]
      exact ⟨F, rfl, fr, g2, GoodK.of_perm hp good12, hP.mono (by omega)⟩
  obtain ⟨d, M', e, R, rfl, h4, h5, h6, h7⟩ := main.ex
  exact ⟨_, R, M', e, h4, by omega, h5, h6, h7⟩
end K29
namespace K29
open PySem J
theorem push_ok {M : Mem} {k : Nat} {acc : List D} {y : D} (h : M[k]? = some (.lst acc)) (hz : acc.length < sizeLine) : pushK k y M = .ok () (M.set k (.lst (acc ++ [y]))) := by
  show (match M[k]? with | some (.lst acc) => Rs.grd (acc.length < sizeLine) (Rs.ok () (M.set k (MO.lst (acc ++ [y])))) | _ => .stuck) = _
  rw [h]; exact grd_pos hz
theorem line_big {n : Nat} (h : n ≤ 100000) : n < sizeLine := by have : (2 : Nat) ^ 24 = sizeLine := rfl; omega
def RuleAt (d : D) (R O : List T3) (M : Mem) : Prop := ∃ r o, d = .tup [.m r, .m o] ∧ M[r]? = some (.lst (R.map encD)) ∧ M[o]? = some (.lst (O.map encD)) ∧ GoodK R ∧ GoodK O
theorem good_every : GoodK every := by unfold GoodK; decide
theorem good_others (n : Str) : GoodK (othersOf n) := by
  unfold othersOf
  split
  · exact good_every
  · split <;> (unfold GoodK; decide)
/-- three flags -/
theorem flags_ok {p c : Nat} {n : Int} {M : Mem} {v1 v2 v3 : Option D} (h : PenAt p c n M) (hn : n ≤ 9000) :
    ∃ f0 f1 f2 M', xLcR1 (xCons (xC (.int 3)) xNil) (tgName 3) xYes (xBin gEq (xCall d_law_draw (xCons (xVar 0) (xCons (xC (.int 2)) xNil))) (xC (.int 0))) [3] [some (.m p), v1, v2, v3] M = .ok (.m M.length) M' ∧ Fr [p] M M' ∧ M'[M.length]? = some (.lst [.bl f0, .bl f1, .bl f2]) ∧ PenAt p c (n + 3) M' := by
  have hl := h.lt
  have main : Ok (xLcR1 (xCons (xC (.int 3)) xNil) (tgName 3) xYes (xBin gEq (xCall d_law_draw (xCons (xVar 0) (xCons (xC (.int 2)) xNil))) (xC (.int 0))) [3] [some (.m p), v1, v2, v3] M) fun d M' => d = .m M.length ∧ Fr [p] M M' ∧ (∃ fs : List Bool, fs.length = 3 ∧ M'[M.length]? = some (.lst (fs.map D.bl))) ∧ PenAt p c (n + 3) M' := by
    unfold xLcR1
    rw [show xCons (xC (.int 3)) xNil [some (.m p), v1, v2, v3] M = .ok [.int 3] M from rfl]
    show Ok (Rs.grd _ _) _
    refine Ok.grd (by decide) ?_
    rw [Ok.bind]
    refine ok_compV (fun i M' => Fr [p] M M' ∧ (∃ fs : List Bool, fs.length = i ∧ M'[M.length]? = some (.lst (fs.map D.bl))) ∧ PenAt p c (n + i) M') ⟨Fr.app, ⟨[], rfl, at_new⟩, by simpa using h.fr (Fr.app (S := [])) (by simp) (by simp)⟩ ?_ ?_
    · rintro i x M' ex ⟨fr, ⟨fs, hf, hm⟩, hP⟩
      have hi : i < 3 := by
        have := (List.getElem?_eq_some_iff.mp ex).1
        simpa [rangeD] using this
      obtain ⟨j, M4, eJ, j0, j1, h4, f4, len4⟩ := draw_pen hP (many := 2) (by omega) (by decide)
      have a1 : M4[M.length]? = some (.lst (fs.map D.bl)) := f4.get hm (by simp; omega)
      show Ok ((xBin gEq (xCall d_law_draw (xCons (xVar 0) (xCons (xC (.int 2)) xNil))) (xC (.int 0)) [some (.m p), v1, v2, some x] M').bind fun y M3 => pushK M.length y M3) _
      rw [xbin (xcall (xcons rfl (xone rfl)) eJ) rfl (show gEq (.int j) (.int 0) M4 = .ok (.bl (decide (j = 0))) M4 from rfl)]
      show Ok (pushK M.length _ M4) _
      rw [push_ok a1 (line_big (by simp; omega))]
      refine ⟨(fr.trans f4).trans_set (Nat.le_refl _), ⟨fs ++ [decide (j = 0)], by simp [hf], by rw [List.map_append]; exact at_set (lt_of_at a1)⟩, ?_⟩
      exact (h4.mono (n' := n + ((i + 1 : Nat) : Int)) (by omega)).fr (S := [M.length]) (.set (.inl (by simp))) (by simp; omega) (by simp; omega)
    · rintro M' ⟨fr, ⟨fs, hf, hm⟩, hP⟩
      exact ⟨rfl, fr, ⟨fs, hf, hm⟩, hP⟩
  obtain ⟨d, M', e, rfl, h1, ⟨fs, hf, hm⟩, h2⟩ := main.ex
  match fs, hf with
  | [f0, f1, f2], _ => exact ⟨f0, f1, f2, M', e, h1, hm, h2⟩
theorem rule_ok {p c : Nat} {n : Int} {M : Mem} (h : PenAt p c n M) (hn : n ≤ 8000) :
    ∃ d R O M', d_law_rule_of [.m p] M = .ok d M' ∧ Fr [p] M M' ∧ RuleAt d R O M' ∧ PenAt p c (n + 40) M' := by
  have hl := h.lt
  obtain ⟨way, M1, eW, w0, w1, h1, f1, len1⟩ := draw_pen h (many := 6) (by omega) (by decide)
  have s0 : sAsg (xCall d_law_draw (xCons (xVar 0) (xCons (xC (.int 6)) xNil))) (tgName 1) [some (.m p), none, none, none] M = .ok (.nx [some (.m p), some (.int way), none, none]) M1 := asg (xcall (xcons rfl (xone rfl)) eW)
  by_cases hw : way < 3
  · have hn : ∃ nm : Str, (nm = "bare" ∨ nm = "joined" ∨ nm = "plain") ∧ gIx (.m M1.length) (.int way) (M1 ++ [.lst [.str "plain", .str "joined", .str "bare"]]) = .ok (.str nm) (M1 ++ [.lst [.str "plain", .str "joined", .str "bare"]]) := by
      have : way = 0 ∨ way = 1 ∨ way = 2 := by omega
      rcases this with rfl | rfl | rfl
      · exact ⟨_, .inr (.inr rfl), ix_m at_new rfl⟩
      · exact ⟨_, .inr (.inl rfl), ix_m at_new rfl⟩
      · exact ⟨_, .inl rfl, ix_m at_new rfl⟩
    obtain ⟨nm, hnm, eN⟩ := hn
    obtain ⟨r, o, M2, eK, fK, gr, go⟩ := known_ok nm hnm (M1 ++ [.lst [.str "plain", .str "joined", .str "bare"]])
    refine ⟨_, every, othersOf nm, M2, fn_rt rfl (seq_nx s0 (seq_rt (if_t (xtst (xbin rfl rfl (by show Rs.ok (D.bl (decide (way < 3))) M1 = _; rw [decide_eq_true hw]))) (ret (xcall (xone (xbin (xlst rfl) rfl eN)) eK))))), f1.trans (Fr.app.trans (fK.mono (by simp))), ⟨r, o, rfl, gr, go, good_every, good_others nm⟩, ?_⟩
    exact (h1.mono (by omega)).fr (Fr.app.trans fK (M := M1)) (by simp) (by simp)
  · have s1 : ∀ {g : SF} {R : Rs Fl}, g [some (.m p), some (.int way), none, none] M1 = R → sSeq (sIf (xTst (xBin (gOrd fun i j => decide (i < j)) (xVar 1) (xC (.int 3)))) (sRet (xCall d_law_known (xCons (xBin gIx (xLst (xCons (xC (.str "plain")) (xCons (xC (.str "joined")) (xCons (xC (.str "bare")) xNil)))) (xVar 1)) xNil))) sSkip) g [some (.m p), some (.int way), none, none] M1 = R := fun e =>
      seq_nx (if_f (xtst (xbin rfl rfl (by show Rs.ok (D.bl (decide (way < 3))) M1 = _; rw [decide_eq_false hw]))) rfl) e
    by_cases h5 : way = 5
    · subst h5
      obtain ⟨g0, g1, g2, M2, eF, fF, gF, h2⟩ := flags_ok (v1 := some (.int 5)) (v2 := none) (v3 := none) h1 (by omega)
      let R : List T3 := [(false, g0, 0), (false, g0, 2)]
      let O : List T3 := [(false, g1, 0), (true, g2, 1)]
      let M3 := M2 ++ [MO.lst (R.map encD)]
      have gF3 : M3[M1.length]? = some (.lst [.bl g0, .bl g1, .bl g2]) := at_app gF
      have e1 : xLst (xCons (xTup (xCons (xC (.bl false)) (xCons (xBin gIx (xVar 2) (xC (.int 0))) (xCons (xC (.int 0)) xNil)))) (xCons (xTup (xCons (xC (.bl false)) (xCons (xBin gIx (xVar 2) (xC (.int 0))) (xCons (xC (.int 2)) xNil)))) xNil)) [some (.m p), some (.int 5), some (.m M1.length), none] M2 = .ok (.m M2.length) M3 :=
        xlst (xcons (xtup (xcons rfl (xcons (xbin rfl rfl (ix_m gF rfl)) (xone rfl)))) (xone (xtup (xcons rfl (xcons (xbin rfl rfl (ix_m gF rfl)) (xone rfl))))))
      have e2 : xLst (xCons (xTup (xCons (xC (.bl false)) (xCons (xBin gIx (xVar 2) (xC (.int 1))) (xCons (xC (.int 0)) xNil)))) (xCons (xTup (xCons (xC (.bl true)) (xCons (xBin gIx (xVar 2) (xC (.int 2))) (xCons (xC (.int 1)) xNil)))) xNil)) [some (.m p), some (.int 5), some (.m M1.length), none] M3 = .ok (.m M3.length) (M3 ++ [.lst (O.map encD)]) :=
        xlst (xcons (xtup (xcons rfl (xcons (xbin rfl rfl (ix_m gF3 rfl)) (xone rfl)))) (xone (xtup (xcons rfl (xcons (xbin rfl rfl (ix_m gF3 rfl)) (xone rfl))))))
      refine ⟨.tup [.m M2.length, .m M3.length], R, O, M3 ++ [MO.lst (O.map encD)], fn_rt rfl (seq_nx s0 (s1 (seq_rt (if_t (xtst (xbin rfl rfl rfl)) (seq_nx (asg eF) (ret (xtup (xcons e1 (xone e2))))))))),
        f1.trans (fF.trans (Fr.app.trans Fr.app)), ⟨_, _, rfl, at_app at_new, at_new, ?_, ?_⟩, (h2.mono (by omega)).fr (Fr.app.trans Fr.app (S := []) (M := M2)) (by simp) (by simp)⟩
      · cases g0 <;> (unfold GoodK; decide)
      · cases g1 <;> cases g2 <;> (unfold GoodK; decide)
    · have s2 : ∀ {g : SF} {f : SF} {R : Rs Fl}, g [some (.m p), some (.int way), none, none] M1 = R → sSeq (sIf (xTst (xBin gEq (xVar 1) (xC (.int 5)))) f sSkip) g [some (.m p), some (.int way), none, none] M1 = R := fun e =>
        seq_nx (if_f (xtst (xbin rfl rfl (by show Rs.ok (D.bl (decide (way = 5))) M1 = _; rw [decide_eq_false h5]))) rfl) e
      have kinds2 : ∀ {r : Nat} {R : List T3} {M2 : Mem}, xIf (xTst (xBin gEq (xVar 1) (xC (.int 3)))) (xCall d_law_kinds_some (xCons (xVar 0) xNil)) (xBin gIx (xCall d_law_known (xCons (xC (.str "plain")) xNil)) (xC (.int 0))) [some (.m p), some (.int way), none, none] M1 = .ok (.m r) M2 → Fr [p] M1 M2 → M2[r]? = some (.lst (R.map encD)) → GoodK R → r ≠ p → PenAt p c (n + 14) M2 →
          ∃ d R O M', d_law_rule_of [.m p] M = .ok d M' ∧ Fr [p] M M' ∧ RuleAt d R O M' ∧ PenAt p c (n + 40) M' := fun {r R M2} e f2 gR hR hr h2 => by
        obtain ⟨o, O, M3, eO, f3, lo, gO, hO, h3⟩ := kinds_ok h2 (by omega)
        exact ⟨_, R, O, M3, fn_rt rfl (seq_nx s0 (s1 (s2 (ret (xtup (xcons e (xone (xcall (xone rfl) eO)))))))), f1.trans (f2.trans f3), ⟨r, o, rfl, f3.get gR (by simp; omega), gO, hR, hO⟩, h3.mono (by omega)⟩
      by_cases h3 : way = 3
      · obtain ⟨r, R, M2, eR, f2, lr, gR, hR, h2⟩ := kinds_ok h1 (by omega)
        exact kinds2 (xif_t (xtst (xbin rfl rfl (by show Rs.ok (D.bl (decide (way = 3))) M1 = _; rw [decide_eq_true h3]))) (xcall (xone rfl) eR)) f2 gR hR (by omega) (h2.mono (by omega))
      · obtain ⟨r, o, M2, eK, fK, gr, go⟩ := known_ok "plain" (.inr (.inr rfl)) M1
        have hr : r ≠ p := by
          rintro rfl
          obtain ⟨b, l, ns, q, _⟩ := h1.fr fK (by simp) (by simp)
          rw [gr] at q; cases q
        exact kinds2 (xif_f (xtst (xbin rfl rfl (by show Rs.ok (D.bl (decide (way = 3))) M1 = _; rw [decide_eq_false h3]))) (xbin (xcall (xone rfl) eK) rfl rfl)) (fK.mono (by simp)) gr good_every hr ((h1.mono (by omega)).fr fK (by simp) (by simp))
end K29
namespace K29
open PySem J
def pt (t : T3) : PyData := .tuple [.bool t.1, .bool t.2.1, .int t.2.2]
theorem toP_enc (t : T3) : toP (encD t) = some (pt t) := by
  simp only [encD, toP, toPs, pt, Option.map]
theorem toPs_enc (L : List T3) : toPs (L.map encD) = some (L.map pt) := by
  induction L with
  | nil => simp only [List.map_nil, toPs]
  | cons t L ih => simp only [List.map_cons, toPs, toP_enc, ih]
theorem eqv_pt (t u : T3) : PyData.eqv (pt t) (pt u) = decide (t = u) := by
  obtain ⟨a, b, c⟩ := t
  obtain ⟨a', b', c'⟩ := u
  simp only [pt, PyData.eqv, PyData.eqvAll]
  cases a <;> cases b <;> cases a' <;> cases b' <;> simp <;> rfl
theorem lay_pt (t : T3) : (pt t).canLay0 = true := by simp only [pt, PyData.canLay0, PyData.canLayAll0]; rfl
theorem dep_pt (t : T3) : (pt t).depth = 1 := by simp only [pt, PyData.depth, PyData.depthAll]; rfl
theorem shaped_pt (t : T3) : SeqAt.shaped (pt t) = true := by
  unfold SeqAt.shaped; rw [lay_pt, dep_pt]; rfl
theorem shaped_pts (L : List T3) : SeqAt.shaped (.list (L.map pt)) = true := by
  have h1 : PyData.canLayAll0 (L.map pt) = true := by
    induction L with
    | nil => simp only [List.map_nil, PyData.canLayAll0]
    | cons t L ih => simp only [List.map_cons, PyData.canLayAll0, lay_pt, ih]; rfl
  have h2 : PyData.depthAll (L.map pt) ≤ 1 := by
    clear h1
    induction L with
    | nil => simp only [List.map_nil, PyData.depthAll]; omega
    | cons t L ih => simp only [List.map_cons, PyData.depthAll, dep_pt]; omega
  unfold SeqAt.shaped
  rw [Bool.and_eq_true_iff]
  exact ⟨by simp only [PyData.canLay0]; exact h1, decide_eq_true (by simp only [PyData.depth]; omega)⟩
theorem in_trips (t : T3) (L : List T3) : inP (encD t) (L.map encD) = some (decide (t ∈ L)) := by
  unfold inP
  rw [toP_enc, toPs_enc]
  show (if (SeqAt.shaped (pt t) && SeqAt.shaped (.list (L.map pt))) = true then some ((L.map pt).any fun z => PyData.eqv z (pt t)) else none) = _
  rw [shaped_pt, shaped_pts, if_pos (show (true && true) = true from rfl)]
  congr 1
  induction L with
  | nil => rfl
  | cons u L ih =>
    rw [List.map_cons, List.any_cons, ih, eqv_pt]
    simp only [List.mem_cons]
    by_cases h : u = t
    · subst h; simp
    · have h' : t ≠ u := fun e => h e.symm
      simp [h, h']
theorem in_m {M : Mem} {k : Nat} {L : List T3} {t : T3} (h : M[k]? = some (.lst (L.map encD))) : gIn (encD t) (.m k) M = .ok (.bl (decide (t ∈ L))) M := by
  have e : gIn0 (encD t) (.m k) M = some (decide (t ∈ L)) := by
    show (match M[k]? with
    | some (.dct kvs) => (match keyOf (encD t) with | some q => some (valD kvs q).isSome | none => none)
    | some (.bd kvs) => none
    | some (.lst xs) => inP (encD t) xs
    | _ => none) = _
    rw [h]; exact in_trips t L
  unfold gIn; rw [e]
theorem notin_m {M : Mem} {k : Nat} {L : List T3} {t : T3} (h : M[k]? = some (.lst (L.map encD))) : gNotIn (encD t) (.m k) M = .ok (.bl (!decide (t ∈ L))) M := by
  have e : gIn0 (encD t) (.m k) M = some (decide (t ∈ L)) := by
    show (match M[k]? with
    | some (.dct kvs) => (match keyOf (encD t) with | some q => some (valD kvs q).isSome | none => none)
    | some (.bd kvs) => none
    | some (.lst xs) => inP (encD t) xs
    | _ => none) = _
    rw [h]; exact in_trips t L
  unfold gNotIn; rw [e]
theorem notin_t {M : Mem} {L : List T3} {t : T3} : gNotIn (encD t) (.tup (L.map encD)) M = .ok (.bl (!decide (t ∈ L))) M := by
  have e : gIn0 (encD t) (.tup (L.map encD)) M = some (decide (t ∈ L)) := in_trips t L
  unfold gNotIn; rw [e]
theorem whole_ok (i : Int) (h : 0 ≤ i ∧ i ≤ 2) (M : Mem) : d_is_whole [.int i, .int 0, .int 2] M = .ok (.bl true) M := by
  refine fn_rt rfl (ret (xandV (b := true) rfl (fun _ => xandV (b := true) rfl (fun _ => ?_) (fun z => by cases z)) (fun z => by cases z)))
  refine xchain (b := true) rfl rfl (by show Rs.ok (D.bl (decide (0 ≤ i))) M = _; rw [decide_eq_true h.1]) (fun _ => ?_) (fun z => by cases z)
  show Rs.ok (D.bl (decide (i ≤ 2))) M = _
  rw [decide_eq_true h.2]
theorem kind_ok (t : T3) (h : 0 ≤ t.2.2 ∧ t.2.2 ≤ 2) (M : Mem) : d_is_kind [encD t] M = .ok (.bl true) M := by
  refine fn_rt rfl (seq_nx (if_f (xor_f (b := false) (xnot (b := true) (xtru rfl rfl)) (xtst rfl)) rfl) (ret (xandV (b := true) rfl (fun _ => xandV (b := true) rfl (fun _ => ?_) (fun z => by cases z)) (fun z => by cases z))))
  exact xcall (xcons rfl (xcons rfl (xone rfl))) (whole_ok _ h M)
theorem toTrips_enc (L : List T3) : toTrips (L.map encD) = some L := by
  induction L with
  | nil => rfl
  | cons t L ih =>
    show (toTrips (L.map encD)).map ((t.1, t.2.1, t.2.2) :: ·) = _
    rw [ih]; rfl
theorem sorted_m {M : Mem} {k : Nat} {L : List T3} (h : M[k]? = some (.lst (L.map encD))) : gSorted3 [.m k] M = .ok (.m M.length) (M ++ [.lst ((sort3 L).map encD)]) := by
  have e : (itemsOf (.m k) M).bind toTrips = some L := by
    show (match M[k]? with | some (.lst xs) => some xs | _ => none).bind toTrips = _
    rw [h]; exact toTrips_enc L
  unfold gSorted3
  show (match (itemsOf (.m k) M).bind toTrips with | some ts => Rs.ok (D.m M.length) (M ++ [MO.lst ((sort3 ts).map encD)]) | none => .stuck) = _
  rw [e]
theorem tuple_m {M : Mem} {k : Nat} {xs : List D} (h : M[k]? = some (.lst xs)) : gTuple [.m k] M = .ok (.tup xs) M := by
  show (match M[k]? with | some (.lst xs) => Rs.ok (D.tup xs) M | _ => .stuck) = _
  rw [h]
theorem list_m {M : Mem} {k : Nat} {xs : List D} (h : M[k]? = some (.lst xs)) : gList [.m k] M = .ok (.m M.length) (M ++ [.lst xs]) := by
  show (match M[k]? with | some (.lst xs) => Rs.ok (D.m M.length) (M ++ [MO.lst xs]) | _ => .stuck) = _
  rw [h]
theorem checked_ok {M : Mem} {k : Nat} {L : List T3} (s : Str) (h : M[k]? = some (.lst (L.map encD))) (g : GoodK L) : ∃ M', d_checked_kinds [.str s, .m k] M = .ok (.tup ((sort3 L).map encD)) M' ∧ Fr [] M M' := by
  have hk := lt_of_at h
  have main : Ok (d_checked_kinds [.str s, .m k] M) fun d M' => d = .tup ((sort3 L).map encD) ∧ Fr [] M M' := by
    refine fn_ok' rfl (Ok.seq1 (asg (xlst rfl)) (Ok.seq ?_))
    unfold sForE
    rw [show xCons (xVar 1) xNil _ (M ++ [MO.lst []]) = .ok [.m k] (M ++ [MO.lst []]) from xone rfl]
    show Ok (match (M ++ [MO.lst []])[k]? with
      | some (.lst xs) => loopK _ wEn k (xs.length + 1) 0 _ _
      | _ => .stuck) _
    rw [at_app h]
    refine ok_loopK (xs := L.map encD) (fun i δ M' => ∃ a b, δ = [some (.str s), some (.m k), some (.m M.length), a, b] ∧ M'[M.length]? = some (.lst ((L.take i).map encD)) ∧ Fr [] M M') ?_ ?_ ?_ ?_
    · exact ⟨none, none, rfl, by simp, Fr.app⟩
    · rintro i δ M' ⟨a, b, rfl, _, fr⟩
      exact fr.get h (by simp)
    · rintro i x δ M' ex ⟨a, b, rfl, gm, fr⟩
      have hi : i < L.length := by
        have := (List.getElem?_eq_some_iff.mp ex).1
        simpa using this
      obtain rfl : encD L[i] = x := by simpa [hi] using ex
      have hnot : ¬ L[i] ∈ L.take i := by
        intro hm
        obtain ⟨j, hj, e⟩ := List.mem_iff_getElem.mp hm
        rw [List.getElem_take] at e
        have hj' : j < i := by simp at hj; omega
        have := (List.getElem_inj g.1).mp e
        omega
      have hg := g.2.1 L[i] (List.getElem_mem hi)
      show Ok (sSeq _ _ [some (.str s), some (.m k), some (.m M.length), some (.int (i : Nat)), some (encD L[i])] M') _
      rw [seq_nx (M1 := M') (if_f (xor_f (b := false) (xnot (b := true) (xtru (xcall (xone rfl) (kind_ok _ hg M')) rfl)) (xtst (b := false) (xbin (xcall (xone rfl) rfl) rfl (by rw [show (false : Bool) = decide (L[i] ∈ L.take i) from (decide_eq_false hnot).symm]; exact in_m gm)))) rfl) (drop' (xbm (fa := xVar 2) rfl (isl gm) (xone (xcall (xone rfl) rfl)) (app_m gm (line_big (by have := g.2.2; simp; omega)))))]
      refine ⟨some (.int (i : Nat)), some (encD L[i]), rfl, ?_, fr.trans_set (Nat.le_refl _)⟩
      rw [at_set (lt_of_at gm), List.take_succ, List.map_append]
      simp [hi, encD]
    · rintro δ M' ⟨a, b, rfl, gm, fr⟩
      have gm' : M'[M.length]? = some (.lst (L.map encD)) := by simpa using gm
      show Ok (sRet _ _ M') _
      rw [ret (xcall (xone (xcall (xone rfl) (sorted_m gm'))) (tuple_m at_new))]
      exact ⟨rfl, fr.trans Fr.app⟩
  obtain ⟨d, M', e, rfl, fr⟩ := main.ex
  exact ⟨M', e, fr⟩
end K29
namespace J
open PySem
/-- steps that read the store as it was before the list -/
def PStep (f : D → Mem → Rs Unit) (M : Mem) (φ : D → Option D) (x : D) : Prop := ∀ acc, acc.length < sizeLine → f x (M ++ [.lst acc]) = .ok () (M ++ [.lst (acc ++ (φ x).toList)])
section
variable {f : D → Mem → Rs Unit} {xs : List D} {M : Mem}
theorem tl_le (φ : D → Option D) (x : D) : (φ x).toList.length ≤ 1 := by cases φ x <;> simp
theorem compV_p (φ : D → Option D) {acc : List D} (hz : acc.length + xs.length ≤ sizeLine) (hf : ∀ x ∈ xs, PStep f M φ x) : compV f xs (M ++ [.lst acc]) = .ok () (M ++ [.lst (acc ++ xs.filterMap φ)]) := by
  induction xs generalizing acc with
  | nil =>
    show Rs.ok () _ = _
    simp
  | cons x xs ih =>
    simp only [List.length_cons] at hz
    show (f x _).bind _ = _
    rw [hf x (by simp) acc (by omega)]
    show compV f xs _ = _
    rw [ih (by have := tl_le φ x; simp only [List.length_append]; omega) fun y hy => hf y (by simp [hy])]
    cases e : φ x <;> simp [e]
theorem compK_p (φ : D → Option D) {j : Nat} (n i : Nat) {acc : List D} (hx : M[j]? = some (.lst xs)) (hn : i + n = xs.length + 1) (hi : i ≤ xs.length) (hz : acc.length + (xs.length - i) ≤ sizeLine) (hf : ∀ x ∈ xs, PStep f M φ x) : compK f j n i (M ++ [.lst acc]) = .ok () (M ++ [.lst (acc ++ (xs.drop i).filterMap φ)]) := by
  induction n generalizing i acc with
  | zero => omega
  | succ n ih =>
    unfold compK
    rw [at_app hx]
    dsimp only
    cases e : xs[i]? with
    | none =>
      have hle := List.getElem?_eq_none_iff.mp e
      rw [List.drop_eq_nil_of_le hle]
      simp
    | some x =>
      obtain ⟨hlt, ex⟩ := List.getElem?_eq_some_iff.mp e
      dsimp only
      rw [hf x (ex ▸ List.getElem_mem hlt) acc (by omega)]
      have ed : xs.drop i = x :: xs.drop (i + 1) := by rw [List.drop_eq_getElem_cons hlt, ex]
      rw [ed]
      show compK f j n (i + 1) _ = _
      rw [ih (i + 1) (by omega) hlt (by have := tl_le φ x; simp only [List.length_append]; omega)]
      cases e2 : φ x <;> simp [e2]
end
section
variable {δ δ1 : Dv} {M M1 : Mem} {fa : EF} {d : D} {tg : GF} {tt : TF} {te : EF} {vs : List Nat} {xs : List D}
theorem xlc_p (φ : D → Option D) (hs : fa δ M = .ok d M1) (hd : d = .tup xs ∨ d = .rl xs ∨ ∃ j, d = .m j ∧ M1[j]? = some (.lst xs)) (hz : xs.length ≤ sizeLine) (hf : ∀ x ∈ xs, PStep (stepC M1.length tg tt te (wD δ vs)) M1 φ x) :
    xLc fa tg tt te vs δ M = .ok (.m M1.length) (M1 ++ [.lst (xs.filterMap φ)]) := by
  refine xlc hs ?_
  rcases hd with rfl | rfl | ⟨j, rfl, e⟩
  · exact compV_p φ (by simpa using hz) hf
  · exact compV_p φ (by simpa using hz) hf
  · show (match (M1 ++ [MO.lst []])[j]? with | some (.lst xs) => compK _ j (xs.length + 1) 0 (M1 ++ [MO.lst []]) | _ => .stuck) = _
    rw [at_app e]
    have := compK_p (acc := []) φ (xs.length + 1) 0 e (by omega) (Nat.zero_le _) (by simpa using hz) hf
    simpa using this
theorem p_push {δ : Dv} {x y : D} {φ : D → Option D} (hφ : φ x = some y) (ht : ∀ M, tg x δ M = .ok δ1 M) (he : ∀ acc, te δ1 (M ++ [.lst acc]) = .ok y (M ++ [.lst acc])) : PStep (stepC M.length tg xYes te δ) M φ x := fun acc hz => by
  unfold stepC
  rw [ht]
  show (te δ1 _).bind _ = _
  rw [he acc]
  show pushK M.length y _ = _
  rw [K29.push_ok at_new hz, set_new, hφ]; rfl
theorem p_if {δ : Dv} {x y : D} {b : Bool} {φ : D → Option D} (hφ : φ x = if b then some y else none) (ht : ∀ M, tg x δ M = .ok δ1 M) (hb : ∀ acc, tt δ1 (M ++ [.lst acc]) = .ok b (M ++ [.lst acc])) (he : ∀ acc, te δ1 (M ++ [.lst acc]) = .ok y (M ++ [.lst acc])) : PStep (stepC M.length tg tt te δ) M φ x := fun acc hz => by
  unfold stepC
  rw [ht]
  show (tt δ1 _).bind _ = _
  rw [hb acc, hφ]
  cases b with
  | false => show Rs.ok () _ = _; simp
  | true =>
    show (te δ1 _).bind _ = _
    rw [he acc]
    show pushK M.length y _ = _
    rw [K29.push_ok at_new hz, set_new]; rfl
end
end J
namespace K29
open PySem J
/-- a rule as the program makes it -/
def RuleObj (M : Mem) (k : Nat) (R O : List T3) : Prop := M[k]? = some (.ins 1 [.tup ((sort3 R).map encD), .tup ((sort3 O).map encD)])
theorem made_ok {d : D} {R O : List T3} {M : Mem} (h : RuleAt d R O M) : ∃ k M', d_law_rule_made [d] M = .ok (.m k) M' ∧ Fr [] M M' ∧ RuleObj M' k R O := by
  obtain ⟨r, o, rfl, hr, ho, gR, gO⟩ := h
  let M1 := M ++ [MO.lst (R.map encD)]
  let M2 := M1 ++ [MO.lst (O.map encD)]
  let M3 := M2 ++ [MO.ins 1 []]
  have a1 : M3[M.length]? = some (.lst (R.map encD)) := at_app (at_app at_new)
  have a2 : M3[M1.length]? = some (.lst (O.map encD)) := at_app at_new
  have a3 : M3[M2.length]? = some (.ins 1 []) := at_new
  obtain ⟨M4, e4, f4⟩ := checked_ok "root" a1 gR
  have b3 := f4.get a3 (by simp)
  let M5 := M4.set M2.length (.ins 1 [.tup ((sort3 R).map encD)])
  have b2 : M5[M1.length]? = some (.lst (O.map encD)) := at_set_ne (f4.get a2 (by simp)) (by simp [M1, M2])
  obtain ⟨M6, e6, f6⟩ := checked_ok "others" b2 gO
  have c3 : M6[M2.length]? = some (.ins 1 [.tup ((sort3 R).map encD)]) := f6.get (at_set (lt_of_at b3)) (by simp)
  have init : d_Rule_init [.m M2.length, .m M.length, .m M1.length] M3 = .ok .non (M6.set M2.length (.ins 1 [.tup ((sort3 R).map encD), .tup ((sort3 O).map encD)])) :=
    fn_nx rfl (seq_nx (sfld (xcall (xcons rfl (xone rfl)) e4) rfl b3 rfl) (sfld (xcall (xcons rfl (xone rfl)) e6) rfl c3 rfl))
  refine ⟨M2.length, _, fn_rt rfl (ret (xmake (xcons (xcall (xone (xbin rfl rfl rfl)) (list_m hr)) (xone (xcall (xone (xbin rfl rfl rfl)) (list_m (at_app ho))))) init)), ?_, at_set (lt_of_at c3)⟩
  have l2 : M.length ≤ M2.length := by simp [M2, M1]
  exact ((((((Fr.app (M := M)).trans Fr.app).trans Fr.app).trans f4).trans_set l2).trans f6).trans_set l2
end K29
namespace J
open PySem
section
variable {κ : Type} [DecidableEq κ]
theorem valD_any (kvs : List (κ × D)) (k : κ) : (kvs.any fun kv => decide (kv.1 = k)) = (valD kvs k).isSome := by
  unfold valD
  induction kvs with
  | nil => rfl
  | cons a r ih =>
    rw [List.any_cons, List.find?_cons]
    by_cases h : a.1 = k
    · simp [h]
    · simp [h, ih]
theorem length_putD (kvs : List (κ × D)) (k : κ) (v : D) : (putD kvs k v).length = if (valD kvs k).isSome = true then kvs.length else kvs.length + 1 := by
  unfold putD
  rw [valD_any]
  split <;> simp
theorem valD_putD (kvs : List (κ × D)) (k j : κ) (v : D) : valD (putD kvs k v) j = if j = k then some v else valD kvs j := by
  unfold putD
  rw [valD_any]
  by_cases hs : (valD kvs k).isSome = true
  · rw [if_pos hs]
    unfold valD at hs ⊢
    induction kvs with
    | nil => simp at hs
    | cons a r ih =>
      rw [List.map_cons, List.find?_cons, List.find?_cons]
      by_cases ha : a.1 = k
      · by_cases hj : j = k
        · subst hj; simp [ha]
        · have hja : ¬ a.1 = j := fun z => hj (z.symm.trans ha)
          have hkj : ¬ k = j := fun z => hj z.symm
          simp only [ha, if_pos, hkj, decide_false, hj, if_false]
          have e : ∀ l : List (κ × D), (List.find? (fun kv => decide (kv.1 = j)) (l.map fun kv => if kv.1 = k then (kv.1, v) else kv)) = List.find? (fun kv => decide (kv.1 = j)) l := fun l => by
            induction l with
            | nil => rfl
            | cons b l ih2 =>
              rw [List.map_cons, List.find?_cons, List.find?_cons, ih2]
              by_cases hb : b.1 = k
              · have : ¬ b.1 = j := fun z => hj (z.symm.trans hb)
                simp [hb, hkj]
              · simp [hb]
          rw [e r]
      · simp only [ha, if_false]
        rw [List.find?_cons] at hs
        simp only [ha, decide_false] at hs
        have := ih hs
        by_cases hj : a.1 = j
        · have hjk : ¬ j = k := fun z => ha (hj.trans z)
          simp [hj, hjk]
        · simp only [hj, decide_false]
          exact this
  · rw [if_neg hs]
    have hn : valD kvs k = none := by cases h : valD kvs k <;> simp_all
    unfold valD at hn ⊢
    rw [List.find?_append]
    by_cases hj : j = k
    · subst hj
      rw [if_pos rfl]
      have : List.find? (fun kv => decide (kv.1 = j)) kvs = none := by simpa using hn
      rw [this]; simp
    · rw [if_neg hj]
      have hkj : ¬ k = j := fun z => hj z.symm
      cases h : List.find? (fun kv => decide (kv.1 = j)) kvs <;> simp [hkj]
end
end J
namespace K29
open PySem J
abbrev S2 := Bool × Nat
def avC (s : S2) (z : Bool) : Bool := if z then decide (s.2 ≠ 4) else s.1
def wC (s : S2) (z : Bool) : Int := if z then (s.2 : Int) else 1
def stL (mark : Bool) (bs : List Bool) (s : S2) : S2 := if bs.all (avC s) = true then (if (mark || bs.any id) = true then (s.1, min s.2 (1 + (bs.map (wC s)).sum).toNat) else (true, s.2)) else s
structure KvI (kvs : List (Bool × D)) (s : S2) : Prop where
  f : valD kvs false = if s.1 = true then some (.int 1) else none
  t : valD kvs true = if s.2 = 4 then none else some (.int (s.2 : Nat))
  len : kvs.length = (if s.1 = true then 1 else 0) + (if s.2 = 4 then 0 else 1)
theorem KvI.av {kvs : List (Bool × D)} {s : S2} (h : KvI kvs s) (z : Bool) : (valD kvs z).isSome = avC s z := by
  cases z with
  | false => rw [h.f]; unfold avC; cases s.1 <;> rfl
  | true =>
    rw [h.t]; unfold avC
    by_cases e : s.2 = 4 <;> simp [e]
theorem KvI.w {kvs : List (Bool × D)} {s : S2} (h : KvI kvs s) (z : Bool) (a : avC s z = true) : valD kvs z = some (.int (wC s z)) := by
  cases z with
  | false => rw [h.f]; unfold avC at a; simp at a; rw [if_pos a]; rfl
  | true =>
    rw [h.t]; unfold avC at a; simp at a; rw [if_neg a]; rfl
/-- a weight is put -/
theorem KvI.put {kvs : List (Bool × D)} {s : S2} (h : KvI kvs s) (keeps : Bool) (w : Int) (hF : keeps = false → w = 1) (hT : keeps = true → 1 ≤ w ∧ w < 4) : KvI (putD kvs keeps (.int w)) (if keeps = true then (s.1, w.toNat) else (true, s.2)) := by
  have hs := h.av keeps
  cases keeps with
  | false =>
    obtain rfl := hF rfl
    refine ⟨by rw [valD_putD]; rfl, by rw [valD_putD]; exact h.t, ?_⟩
    rw [length_putD, hs, h.len]
    unfold avC
    cases s.1 <;> simp <;> omega
  | true =>
    obtain ⟨w0, w1⟩ := hT rfl
    have hw : ¬ w.toNat = 4 := by omega
    refine ⟨by rw [valD_putD]; exact h.f, ?_, ?_⟩
    · rw [valD_putD]
      show some (D.int w) = if w.toNat = 4 then none else some (.int (w.toNat : Nat))
      rw [if_neg hw, Int.toNat_of_nonneg (by omega)]
    · rw [length_putD, hs, h.len]
      show (if avC s true = true then _ else _) = (if s.1 = true then 1 else 0) + (if w.toNat = 4 then 0 else 1)
      rw [if_neg hw]
      unfold avC
      by_cases e : s.2 = 4 <;> simp [e]
theorem KvI.small {kvs : List (Bool × D)} {s : S2} (h : KvI kvs s) : kvs.length < sizeLine := by
  have h1 : (if s.1 = true then 1 else 0) ≤ 1 := by split <;> omega
  have h2 : (if s.2 = 4 then 0 else 1) ≤ 1 := by split <;> omega
  exact line_big (by rw [h.len]; omega)
theorem lk_b {M : Mem} {k : Nat} {kvs : List (Bool × D)} {z : Bool} (h : M[k]? = some (.bd kvs)) : lkD (.m k) (.bl z) M = some (valD kvs z) := by
  show (match M[k]? with
    | some (.dct kvs) => none
    | some (.bd kvs) => some (valD kvs z)
    | _ => none) = _
  rw [h]
theorem in_b {M : Mem} {k : Nat} {kvs : List (Bool × D)} {z : Bool} (h : M[k]? = some (.bd kvs)) : gIn (.bl z) (.m k) M = .ok (.bl (valD kvs z).isSome) M := by
  have e : gIn0 (.bl z) (.m k) M = some (valD kvs z).isSome := by
    show (match M[k]? with
    | some (.dct kvs) => none
    | some (.bd kvs) => some (valD kvs z).isSome
    | some (.lst xs) => inP (.bl z) xs
    | _ => none) = _
    rw [h]
  unfold gIn; rw [e]
theorem notin_b {M : Mem} {k : Nat} {kvs : List (Bool × D)} {z : Bool} (h : M[k]? = some (.bd kvs)) : gNotIn (.bl z) (.m k) M = .ok (.bl (!(valD kvs z).isSome)) M := by
  have e : gIn0 (.bl z) (.m k) M = some (valD kvs z).isSome := by
    show (match M[k]? with
    | some (.dct kvs) => none
    | some (.bd kvs) => some (valD kvs z).isSome
    | some (.lst xs) => inP (.bl z) xs
    | _ => none) = _
    rw [h]
  unfold gNotIn; rw [e]
theorem dget_b {M : Mem} {k : Nat} {kvs : List (Bool × D)} {z : Bool} {d : D} (h : M[k]? = some (.bd kvs)) (hv : valD kvs z = some d) : gDGet (.m k) (.bl z) M = .ok d M := by
  unfold gDGet; rw [lk_b h, hv]
theorem isD_b {M : Mem} {k : Nat} {kvs : List (Bool × D)} (h : M[k]? = some (.bd kvs)) : isDct (.m k) M = true := by
  show (match M[k]? with | some (.dct _) => true | some (.bd _) => true | _ => false) = true
  rw [h]
theorem dput_b {M : Mem} {k : Nat} {kvs : List (Bool × D)} {z : Bool} {d : D} (h : M[k]? = some (.bd kvs)) (hz : kvs.length < sizeLine) : gDPut (.m k) (.bl z) d M = some (M.set k (.bd (putD kvs z d))) := by
  show (match M[k]? with
    | some (.dct kvs) => if kvs.length < sizeLine then none else none
    | some (.bd kvs) => if kvs.length < sizeLine then some (M.set k (.bd (putD kvs z d))) else none
    | _ => none) = _
  rw [h]; exact if_pos hz
theorem toBls_map (bs : List Bool) : toBls (bs.map D.bl) = some bs := by
  induction bs with
  | nil => rfl
  | cons b bs ih => show (toBls (bs.map D.bl)).map _ = _; rw [ih]; rfl
theorem toInts_map (bs : List Int) : toInts (bs.map D.int) = some bs := by
  induction bs with
  | nil => rfl
  | cons b bs ih => show (toInts (bs.map D.int)).map _ = _; rw [ih]; rfl
theorem all_m {M : Mem} {k : Nat} {bs : List Bool} (h : M[k]? = some (.lst (bs.map D.bl))) : gAll [.m k] M = .ok (.bl (bs.all id)) M := by
  have e : (itemsOf (.m k) M).bind toBls = some bs := by
    show (match M[k]? with | some (.lst xs) => some xs | _ => none).bind toBls = _
    rw [h]; exact toBls_map bs
  unfold gAll; show (match (itemsOf (.m k) M).bind toBls with | some bs => Rs.ok (D.bl (bs.all id)) M | none => .stuck) = _; rw [e]
theorem any_m {M : Mem} {k : Nat} {bs : List Bool} (h : M[k]? = some (.lst (bs.map D.bl))) : gAny [.m k] M = .ok (.bl (bs.any id)) M := by
  have e : (itemsOf (.m k) M).bind toBls = some bs := by
    show (match M[k]? with | some (.lst xs) => some xs | _ => none).bind toBls = _
    rw [h]; exact toBls_map bs
  unfold gAny; show (match (itemsOf (.m k) M).bind toBls with | some bs => Rs.ok (D.bl (bs.any id)) M | none => .stuck) = _; rw [e]
theorem sum_m {M : Mem} {k : Nat} {bs : List Int} (h : M[k]? = some (.lst (bs.map D.int))) : gSum [.m k] M = .ok (.int bs.sum) M := by
  have e : (itemsOf (.m k) M).bind toInts = some bs := by
    show (match M[k]? with | some (.lst xs) => some xs | _ => none).bind toInts = _
    rw [h]; exact toInts_map bs
  unfold gSum; show (match (itemsOf (.m k) M).bind toInts with | some bs => Rs.ok (D.int bs.sum) M | none => .stuck) = _; rw [e]
theorem toPs_bls (bs : List Bool) : toPs (bs.map D.bl) = some (bs.map PyData.bool) := by
  induction bs with
  | nil => simp only [List.map_nil, toPs]
  | cons b bs ih => simp only [List.map_cons, toPs, toP, ih]
theorem shaped_bls (bs : List Bool) : SeqAt.shaped (.list (bs.map PyData.bool)) = true := by
  have h1 : PyData.canLayAll0 (bs.map PyData.bool) = true := by
    induction bs with
    | nil => simp only [List.map_nil, PyData.canLayAll0]
    | cons t L ih => simp only [List.map_cons, PyData.canLayAll0, PyData.canLay0, ih]; rfl
  have h2 : PyData.depthAll (bs.map PyData.bool) ≤ 1 := by
    clear h1
    induction bs with
    | nil => simp only [List.map_nil, PyData.depthAll]; omega
    | cons t L ih => simp only [List.map_cons, PyData.depthAll, PyData.depth]; omega
  unfold SeqAt.shaped
  rw [Bool.and_eq_true_iff]
  exact ⟨by simp only [PyData.canLay0]; exact h1, decide_eq_true (by simp only [PyData.depth]; omega)⟩
theorem in_bls (bs : List Bool) : inP (.bl true) (bs.map D.bl) = some (bs.any id) := by
  have e1 : SeqAt.shaped (.bool true) = true := by
    unfold SeqAt.shaped
    simp only [PyData.canLay0, PyData.depth]; rfl
  unfold inP
  rw [toPs_bls]
  simp only [toP]
  rw [e1, shaped_bls, if_pos (show (true && true) = true from rfl)]
  congr 1
  induction bs with
  | nil => rfl
  | cons b bs ih =>
    rw [List.map_cons, List.any_cons, List.any_cons, ih]
    simp only [PyData.eqv]
    cases b <;> rfl
theorem in_bl_m {M : Mem} {k : Nat} {bs : List Bool} (h : M[k]? = some (.lst (bs.map D.bl))) : gIn (.bl true) (.m k) M = .ok (.bl (bs.any id)) M := by
  have e : gIn0 (.bl true) (.m k) M = some (bs.any id) := by
    show (match M[k]? with
    | some (.dct kvs) => none
    | some (.bd kvs) => some (valD kvs true).isSome
    | some (.lst xs) => inP (.bl true) xs
    | _ => none) = _
    rw [h]; exact in_bls bs
  unfold gIn; rw [e]
theorem in_bl_t {M : Mem} {bs : List Bool} : gIn (.bl true) (.tup (bs.map D.bl)) M = .ok (.bl (bs.any id)) M := by
  have e : gIn0 (.bl true) (.tup (bs.map D.bl)) M = some (bs.any id) := in_bls bs
  unfold gIn; rw [e]
end K29
namespace K29
open PySem J
def szC (bs : List Bool) (s : S2) : Int := 1 + (bs.map (wC s)).sum
def nwC (keeps : Bool) (bs : List Bool) (s : S2) : Int := if avC s keeps = true then (if wC s keeps < szC bs s then wC s keeps else szC bs s) else szC bs s
theorem fact0 : ∀ (m x y f : Bool) (n : Fin 3) (t : Fin 4), ([x, y].take n.1).all (avC (f, t.1 + 1)) = true →
    ((m || ([x, y].take n.1).any id) = false → nwC (m || ([x, y].take n.1).any id) ([x, y].take n.1) (f, t.1 + 1) = 1) ∧
    ((m || ([x, y].take n.1).any id) = true → 1 ≤ nwC (m || ([x, y].take n.1).any id) ([x, y].take n.1) (f, t.1 + 1) ∧ nwC (m || ([x, y].take n.1).any id) ([x, y].take n.1) (f, t.1 + 1) < 4) ∧
    (if (m || ([x, y].take n.1).any id) = true then (f, (nwC (m || ([x, y].take n.1).any id) ([x, y].take n.1) (f, t.1 + 1)).toNat) else (true, t.1 + 1)) = stL m ([x, y].take n.1) (f, t.1 + 1) := by decide +kernel
theorem fact1 {m x y : Bool} {n : Nat} {s : S2} (hn : n ≤ 2) (hs : 1 ≤ s.2 ∧ s.2 ≤ 4) (ha : ([x, y].take n).all (avC s) = true) :
    ((m || ([x, y].take n).any id) = false → nwC (m || ([x, y].take n).any id) ([x, y].take n) s = 1) ∧
    ((m || ([x, y].take n).any id) = true → 1 ≤ nwC (m || ([x, y].take n).any id) ([x, y].take n) s ∧ nwC (m || ([x, y].take n).any id) ([x, y].take n) s < 4) ∧
    (if (m || ([x, y].take n).any id) = true then (s.1, (nwC (m || ([x, y].take n).any id) ([x, y].take n) s).toNat) else (true, s.2)) = stL m ([x, y].take n) s := by
  obtain ⟨f, t⟩ := s
  obtain ⟨t, rfl⟩ : ∃ q, t = q + 1 := ⟨t - 1, by have := hs.1; simp at this; omega⟩
  exact fact0 m x y f ⟨n, by omega⟩ ⟨t, by have := hs.2; simp at this; omega⟩ ha
theorem slice_ok {M : Mem} {b : Nat} {x y : Bool} {n : Nat} {δ : Dv} (hn : n ≤ 2) (hb : M[b]? = some (.lst [.bl x, .bl y])) (h6 : xVar 6 δ M = .ok (.m b) M) (h5 : xVar 5 δ M = .ok (.int n) M) : xSl (xVar 6) xNoPart (xPart (xVar 5)) δ M = .ok (.m M.length) (M ++ [.lst (([x, y].take n).map D.bl)]) := by
  have e : cutA [D.bl x, D.bl y] none (some (n : Int)) = ([x, y].take n).map D.bl := by
    have : n = 0 ∨ n = 1 ∨ n = 2 := by omega
    rcases this with rfl | rfl | rfl <;> rfl
  have := sl_m (lo := none) (hi := some (n : Int)) hb
  rw [e] at this
  exact xsl h6 rfl (xpart h5) this
theorem fm_bl (φ : D → Option D) (g : Bool → D) (bs : List Bool) (h : ∀ z ∈ bs, φ (.bl z) = some (g z)) : (bs.map D.bl).filterMap φ = bs.map g := by
  induction bs with
  | nil => rfl
  | cons b bs ih =>
    rw [List.map_cons, List.filterMap_cons, h b (by simp), ih fun z hz => h z (by simp [hz])]
    rfl
abbrev below : EF := xSl (xVar 6) xNoPart (xPart (xVar 5))
abbrev partsBody : SF := (sIf (xTru (xCall gAll (xCons (xLc below (tgName 9) xYes (xBin gIn (xVar 9) (xVar 1)) [9]) xNil)))
  (sSeq (sAsg (xOrV (xVar 3) (xBin gIn (xC (.bl true)) below)) (tgName 7))
  (sSeq (sAsg (xBin gAdd (xC (.int 1)) (xCall gSum (xCons (xLc below (tgName 9) xYes (xDGet (xVar 1) (xVar 9)) [9]) xNil))) (tgName 8))
  (sDPut (xCall gMin2 (xCons (xVar 8) (xCons (xDGet2 (xVar 1) (xVar 7) (xVar 8)) xNil))) (xVar 1) (xVar 7))))
  sSkip)
theorem pstep {M : Mem} {ℓ b n : Nat} {kvs : List (Bool × D)} {s : S2} {x y mark : Bool} {v0 v2 v4 v7 v8 v9 : Option D} (hl : M[ℓ]? = some (.bd kvs)) (hs : KvI kvs s) (ht : 1 ≤ s.2 ∧ s.2 ≤ 4) (hb : M[b]? = some (.lst [.bl x, .bl y])) (hn : n ≤ 2) :
    ∃ v7' v8' M' kvs', partsBody [v0, some (.m ℓ), v2, some (.bl mark), v4, some (.int n), some (.m b), v7, v8, v9] M = .ok (.nx [v0, some (.m ℓ), v2, some (.bl mark), v4, some (.int n), some (.m b), v7', v8', v9]) M' ∧
      Fr [ℓ] M M' ∧ M'[ℓ]? = some (.bd kvs') ∧ KvI kvs' (stL mark ([x, y].take n) s) := by
  generalize hbs : [x, y].take n = bs
  have hlen : bs.length ≤ 2 := by rw [← hbs]; simp; omega
  have sl : ∀ {M1 : Mem} {v7 v8 v9 : Option D}, M1[b]? = some (.lst [.bl x, .bl y]) → below [v0, some (.m ℓ), v2, some (.bl mark), v4, some (.int n), some (.m b), v7, v8, v9] M1 = .ok (.m M1.length) (M1 ++ [.lst (bs.map D.bl)]) := fun h => by
    rw [← hbs]; exact slice_ok hn h rfl rfl
  let M1 := M ++ [MO.lst (bs.map D.bl)]
  have hl1 : M1[ℓ]? = some (.bd kvs) := at_app hl
  have c1 : xLc below (tgName 9) xYes (xBin gIn (xVar 9) (xVar 1)) [9] [v0, some (.m ℓ), v2, some (.bl mark), v4, some (.int n), some (.m b), v7, v8, v9] M = .ok (.m M1.length) (M1 ++ [.lst ((bs.map fun z => (valD kvs z).isSome).map D.bl)]) := by
    have := xlc_p (vs := [9]) (tt := xYes) (te := xBin gIn (xVar 9) (xVar 1)) (tg := tgName 9) (φ := fun d => match d with | .bl z => some (.bl (valD kvs z).isSome) | _ => none) (sl (v7 := v7) (v8 := v8) (v9 := v9) hb) (.inr (.inr ⟨_, rfl, at_new⟩)) (Nat.le_of_lt (line_big (by simp; omega))) (fun d hd => by
      obtain ⟨z, _, rfl⟩ := List.mem_map.mp hd
      exact p_push rfl (fun M => rfl) fun acc => xbin rfl rfl (in_b (at_app hl1)))
    rw [this, fm_bl _ (fun z => D.bl (valD kvs z).isSome) bs fun z _ => rfl, List.map_map]
    rfl
  let M2 := M1 ++ [MO.lst ((bs.map fun z => (valD kvs z).isSome).map D.bl)]
  have hl2 : M2[ℓ]? = some (.bd kvs) := at_app hl1
  have hb2 : M2[b]? = some (.lst [.bl x, .bl y]) := at_app (at_app hb)
  have ea : (bs.map fun z => (valD kvs z).isSome).all id = bs.all (avC s) := by
    rw [List.all_map]
    congr 1
    funext z
    exact hs.av z
  have t1 : ∀ q, bs.all (avC s) = q → xTru (xCall gAll (xCons (xLc below (tgName 9) xYes (xBin gIn (xVar 9) (xVar 1)) [9]) xNil)) [v0, some (.m ℓ), v2, some (.bl mark), v4, some (.int n), some (.m b), v7, v8, v9] M = .ok q M2 := fun q hq =>
    xtru (d := .bl q) (xcall (xone c1) (by subst hq; rw [← ea]; exact all_m at_new)) rfl
  have f2 : Fr [ℓ] M M2 := Fr.app.trans Fr.app
  by_cases hq : bs.all (avC s) = true
  · have hfact := fact1 (m := mark) (x := x) (y := y) hn ht (by rw [hbs]; exact hq)
    rw [hbs] at hfact
    obtain ⟨w0, w1, we⟩ := hfact
    have e3 : ∃ M3, xOrV (xVar 3) (xBin gIn (xC (.bl true)) below) [v0, some (.m ℓ), v2, some (.bl mark), v4, some (.int n), some (.m b), v7, v8, v9] M2 = .ok (.bl (mark || bs.any id)) M3 ∧ Fr [] M2 M3 := by
      cases mark with
      | true => exact ⟨M2, xorV (b := true) rfl (fun z => by cases z) fun _ => rfl, Fr.refl⟩
      | false => exact ⟨_, xorV (b := false) rfl (fun _ => xbin rfl (sl hb2) (in_bl_m at_new)) (fun z => by cases z), Fr.app⟩
    obtain ⟨M3, e3, f3⟩ := e3
    have hl3 := f3.get hl2 (by simp)
    have hb3 := f3.get hb2 (by simp)
    let M4 := M3 ++ [MO.lst (bs.map D.bl)]
    have hl4 : M4[ℓ]? = some (.bd kvs) := at_app hl3
    have c2 : ∀ v7, xLc below (tgName 9) xYes (xDGet (xVar 1) (xVar 9)) [9] [v0, some (.m ℓ), v2, some (.bl mark), v4, some (.int n), some (.m b), v7, v8, v9] M3 = .ok (.m M4.length) (M4 ++ [.lst ((bs.map (wC s)).map D.int)]) := fun v7 => by
      have := xlc_p (vs := [9]) (tt := xYes) (te := xDGet (xVar 1) (xVar 9)) (tg := tgName 9) (φ := fun d => match d with | .bl z => some (.int (wC s z)) | _ => none) (sl (v7 := v7) (v8 := v8) (v9 := v9) hb3) (.inr (.inr ⟨_, rfl, at_new⟩)) (Nat.le_of_lt (line_big (by simp; omega))) (fun d hd => by
        obtain ⟨z, hz, rfl⟩ := List.mem_map.mp hd
        exact p_push rfl (fun M => rfl) fun acc => xbin rfl rfl (dget_b (at_app hl4) (hs.w z (List.all_eq_true.mp hq z hz))))
      rw [this, fm_bl _ (fun z => D.int (wC s z)) bs fun z _ => rfl, List.map_map]
      rfl
    let M5 := M4 ++ [MO.lst ((bs.map (wC s)).map D.int)]
    have hl5 : M5[ℓ]? = some (.bd kvs) := at_app hl4
    have e5 : xBin gAdd (xC (.int 1)) (xCall gSum (xCons (xLc below (tgName 9) xYes (xDGet (xVar 1) (xVar 9)) [9]) xNil)) [v0, some (.m ℓ), v2, some (.bl mark), v4, some (.int n), some (.m b), some (.bl (mark || bs.any id)), v8, v9] M3 = .ok (.int (szC bs s)) M5 :=
      xbin rfl (xcall (xone (c2 _)) (sum_m at_new)) rfl
    have e6 : xCall gMin2 (xCons (xVar 8) (xCons (xDGet2 (xVar 1) (xVar 7) (xVar 8)) xNil)) [v0, some (.m ℓ), v2, some (.bl mark), v4, some (.int n), some (.m b), some (.bl (mark || bs.any id)), some (.int (szC bs s)), v9] M5 = .ok (.int (nwC (mark || bs.any id) bs s)) M5 := by
      refine xcall (xcons rfl (xone (xdget2 (z := .int (szC bs s)) rfl (isD_b hl5) rfl rfl (lk_b hl5)))) ?_
      generalize (mark || bs.any id) = keeps
      unfold nwC
      by_cases hk : avC s keeps = true
      · rw [hs.w keeps hk, if_pos hk]; rfl
      · have : valD kvs keeps = none := by
          have := hs.av keeps
          cases h : valD kvs keeps with
          | none => rfl
          | some d => rw [h] at this; exact absurd this.symm hk
        rw [this, if_neg hk]
        show Rs.ok (D.int (if szC bs s < szC bs s then szC bs s else szC bs s)) M5 = _
        rw [if_neg (Int.lt_irrefl _)]
    refine ⟨_, _, _, _, if_t (t1 true hq) (seq_nx (asg e3) (seq_nx (asg e5) (dput e6 rfl rfl (dput_b hl5 hs.small)))), ?_, at_set (lt_of_at hl5), ?_⟩
    · exact ((f2.trans (f3.mono (by simp))).trans (Fr.app.trans Fr.app)).trans (.set (.inl (by simp)))
    · rw [← we]
      exact hs.put _ _ w0 w1
  · refine ⟨_, _, _, kvs, if_f (t1 false (Bool.eq_false_iff.mpr hq)) rfl, f2, hl2, ?_⟩
    unfold stL
    rw [if_neg hq]
    exact hs
end K29
namespace K29
open PySem J
def kk (t : T3) : Bool × Nat := (t.1, t.2.2.toNat)
def kstep (k : Bool × Nat) (s : S2) : S2 := if k.2 = 0 then (if k.1 = true then (s.1, min s.2 1) else (true, s.2)) else if (k.1 && s.1) = true then (s.1, min s.2 (1 + k.2)) else s
def combos : List (Bool × Bool) := [(false, false), (false, true), (true, false), (true, true)]
def foldB (m : Bool) (n : Nat) (l : List (Bool × Bool)) (s : S2) : S2 := l.foldl (fun s c => stL m ([c.1, c.2].take n) s) s
theorem fact2 : ∀ (m f : Bool) (n : Fin 3) (t : Fin 4), foldB m n.1 combos (f, t.1 + 1) = kstep (m, n.1) (f, t.1 + 1) := by decide +kernel
theorem fact3 : ∀ (m x y f : Bool) (n : Fin 3) (t : Fin 4), 1 ≤ (stL m ([x, y].take n.1) (f, t.1 + 1)).2 ∧ (stL m ([x, y].take n.1) (f, t.1 + 1)).2 ≤ 4 := by decide +kernel
theorem fact4 : ∀ (m f : Bool) (n : Fin 3) (t : Fin 4), 1 ≤ (kstep (m, n.1) (f, t.1 + 1)).2 ∧ (kstep (m, n.1) (f, t.1 + 1)).2 ≤ 4 := by decide +kernel
theorem foldB_ok {m : Bool} {n : Nat} {s : S2} (hn : n ≤ 2) (hs : 1 ≤ s.2 ∧ s.2 ≤ 4) : foldB m n combos s = kstep (m, n) s := by
  obtain ⟨f, t⟩ := s
  obtain ⟨t, rfl⟩ : ∃ q, t = q + 1 := ⟨t - 1, by have := hs.1; simp at this; omega⟩
  exact fact2 m f ⟨n, by omega⟩ ⟨t, by have := hs.2; simp at this; omega⟩
theorem stL_rng {m x y : Bool} {n : Nat} {s : S2} (hn : n ≤ 2) (hs : 1 ≤ s.2 ∧ s.2 ≤ 4) : 1 ≤ (stL m ([x, y].take n) s).2 ∧ (stL m ([x, y].take n) s).2 ≤ 4 := by
  obtain ⟨f, t⟩ := s
  obtain ⟨t, rfl⟩ : ∃ q, t = q + 1 := ⟨t - 1, by have := hs.1; simp at this; omega⟩
  exact fact3 m x y f ⟨n, by omega⟩ ⟨t, by have := hs.2; simp at this; omega⟩
theorem kstep_rng {m : Bool} {n : Nat} {s : S2} (hn : n ≤ 2) (hs : 1 ≤ s.2 ∧ s.2 ≤ 4) : 1 ≤ (kstep (m, n) s).2 ∧ (kstep (m, n) s).2 ≤ 4 := by
  obtain ⟨f, t⟩ := s
  obtain ⟨t, rfl⟩ : ∃ q, t = q + 1 := ⟨t - 1, by have := hs.1; simp at this; omega⟩
  exact fact4 m f ⟨n, by omega⟩ ⟨t, by have := hs.2; simp at this; omega⟩
def lap (O : List T3) (s : S2) : S2 := O.foldl (fun s t => kstep (kk t) s) s
def itL (O : List T3) : Nat → S2
  | 0 => (false, 4)
  | n + 1 => lap O (itL O n)
theorem foldl_take_succ {α β : Type} (f : β → α → β) (l : List α) (i : Nat) (h : i < l.length) (s : β) : (l.take (i + 1)).foldl f s = f ((l.take i).foldl f s) l[i] := by
  rw [List.take_succ, List.foldl_append]; simp [h]
theorem kk_le {t : T3} (h : 0 ≤ t.2.2 ∧ t.2.2 ≤ 2) : (kk t).2 ≤ 2 := by unfold kk; simp; omega
theorem lap_rng {O : List T3} (g : ∀ t ∈ O, 0 ≤ t.2.2 ∧ t.2.2 ≤ 2) {s : S2} (hs : 1 ≤ s.2 ∧ s.2 ≤ 4) : 1 ≤ (lap O s).2 ∧ (lap O s).2 ≤ 4 := by
  induction O generalizing s with
  | nil => exact hs
  | cons t O ih => exact ih (fun u hu => g u (by simp [hu])) (kstep_rng (kk_le (g t (by simp))) hs)
theorem it_rng {O : List T3} (g : ∀ t ∈ O, 0 ≤ t.2.2 ∧ t.2.2 ≤ 2) (n : Nat) : 1 ≤ (itL O n).2 ∧ (itL O n).2 ≤ 4 := by
  induction n with
  | zero => exact ⟨(by decide : 1 ≤ 4), Nat.le_refl 4⟩
  | succ n ih => exact lap_rng g ih
/-! what many laps come to -/
def cF (O : List T3) : Bool := O.any fun t => decide (kk t = (false, 0))
def bst (t : T3) (f : Bool) : Nat := if (kk t).1 = true then (if (kk t).2 = 0 then 1 else if f = true then 1 + (kk t).2 else 4) else 4
def B (O : List T3) (f : Bool) : Nat := O.foldr (fun t b => min (bst t f) b) 4
theorem kstep_fst (t : T3) (s : S2) : (kstep (kk t) s).1 = (s.1 || decide (kk t = (false, 0))) := by
  obtain ⟨f, n⟩ := s
  generalize kk t = k
  obtain ⟨m, c⟩ := k
  unfold kstep
  by_cases hc : c = 0
  · subst hc; cases m <;> cases f <;> rfl
  · simp only [hc, if_false]
    have : ¬ ((m, c) = ((false, 0) : Bool × Nat)) := fun z => hc (Prod.mk.inj z).2
    rw [decide_eq_false this]
    split <;> simp
theorem lap_fst (O : List T3) (s : S2) : (lap O s).1 = (s.1 || cF O) := by
  induction O generalizing s with
  | nil => simp [lap, cF]
  | cons t O ih =>
    show (lap O (kstep (kk t) s)).1 = _
    rw [ih, kstep_fst]
    simp [cF, Bool.or_assoc]
theorem kstep_snd (t : T3) (s : S2) (hs : s.2 ≤ 4) : (kstep (kk t) s).2 = min s.2 (bst t s.1) := by
  obtain ⟨f, n⟩ := s
  unfold bst
  generalize kk t = k
  obtain ⟨m, c⟩ := k
  simp only at hs
  unfold kstep
  by_cases hc : c = 0
  · subst hc; cases m <;> simp <;> omega
  · simp only [hc, if_false]
    cases m <;> cases f <;> simp <;> omega
theorem min_le_bst (O : List T3) (f : Bool) : B O f ≤ 4 := by
  induction O with
  | nil => exact Nat.le_refl _
  | cons t O ih => show min _ (B O f) ≤ 4; omega
theorem lap_snd {O : List T3} {s : S2} (hs : s.2 ≤ 4) (hf : cF O = true → s.1 = true) : (lap O s).2 = min s.2 (B O s.1) := by
  induction O generalizing s with
  | nil => show s.2 = min s.2 4; omega
  | cons t O ih =>
    show (lap O (kstep (kk t) s)).2 = min s.2 (min (bst t s.1) (B O s.1))
    have h1 : (kstep (kk t) s).1 = s.1 := by
      rw [kstep_fst]
      by_cases h : kk t = (false, 0)
      · rw [hf (by simp [cF, h])]; rfl
      · rw [decide_eq_false h]; simp
    have h2 := kstep_snd t s hs
    rw [ih (by rw [h2]; omega) (fun z => by rw [h1]; exact hf (by simp only [cF, List.any_cons] at z ⊢; simp [z])), h1, h2]
    omega
theorem bst_mono (t : T3) {f g : Bool} (h : f = true → g = true) (hn : (kk t).2 ≤ 3) : bst t g ≤ bst t f := by
  unfold bst
  by_cases h1 : (kk t).1 = true
  · rw [if_pos h1, if_pos h1]
    by_cases h2 : (kk t).2 = 0
    · rw [if_pos h2, if_pos h2]; exact Nat.le_refl _
    · rw [if_neg h2, if_neg h2]
      by_cases h3 : f = true
      · rw [if_pos h3, if_pos (h h3)]; exact Nat.le_refl _
      · rw [if_neg h3]; split <;> omega
  · rw [if_neg h1, if_neg h1]; exact Nat.le_refl _
theorem lap_ge {O : List T3} (g : ∀ t ∈ O, 0 ≤ t.2.2 ∧ t.2.2 ≤ 2) {s : S2} {c : Bool} {b : Nat} (hs : s.2 ≤ 4) (hf : s.1 = true → c = true) (hc : cF O = true → c = true) (hb : b ≤ s.2) (hB : b ≤ B O c) : b ≤ (lap O s).2 := by
  induction O generalizing s with
  | nil => exact hb
  | cons t O ih =>
    have hB' : b ≤ min (bst t c) (B O c) := hB
    have h2 := kstep_snd t s hs
    have h3 := bst_mono t hf (by have := kk_le (g t (by simp)); omega)
    refine ih (fun u hu => g u (by simp [hu])) (by rw [h2]; omega) (fun z => ?_) (fun z => hc (by simp only [cF, List.any_cons] at z ⊢; simp [z])) (by rw [h2]; omega) (by omega)
    rw [kstep_fst] at z
    by_cases h : kk t = (false, 0)
    · exact hc (by simp [cF, h])
    · rw [decide_eq_false h] at z; exact hf (by simpa using z)
theorem two_laps {O : List T3} (g : ∀ t ∈ O, 0 ≤ t.2.2 ∧ t.2.2 ≤ 2) (n : Nat) : itL O (n + 2) = (cF O, B O (cF O)) := by
  have f1 : ∀ n, (itL O (n + 1)).1 = cF O := fun n => by
    induction n with
    | zero => show (lap O (false, 4)).1 = _; rw [lap_fst]; rfl
    | succ n ih => show (lap O (itL O (n + 1))).1 = _; rw [lap_fst, ih]; simp
  have r := fun n => (it_rng g n).2
  have ge : B O (cF O) ≤ (itL O 1).2 := lap_ge g (s := (false, 4)) (Nat.le_refl _) (fun z => by cases z) (fun z => z) (min_le_bst O _) (Nat.le_refl _)
  have st : ∀ n, B O (cF O) ≤ (itL O (n + 1)).2 → (itL O (n + 2)).2 = B O (cF O) := fun n h => by
    show (lap O (itL O (n + 1))).2 = _
    rw [lap_snd (r _) (fun z => by rw [f1]; exact z), f1]; omega
  have all : ∀ n, (itL O (n + 2)).2 = B O (cF O) := fun n => by
    induction n with
    | zero => exact st 0 ge
    | succ n ih => exact st (n + 1) (by rw [ih]; exact Nat.le_refl _)
  exact Prod.ext (f1 (n + 1)) (all n)
/-- at the end no kind changes anything -/
theorem B_le {O : List T3} {t : T3} (h : t ∈ O) (f : Bool) : B O f ≤ bst t f := by
  induction O with
  | nil => cases h
  | cons u O ih =>
    show min (bst u f) (B O f) ≤ _
    rcases List.mem_cons.mp h with rfl | h
    · omega
    · have := ih h; omega
theorem still {O : List T3} {t : T3} (h : t ∈ O) : kstep (kk t) (cF O, B O (cF O)) = (cF O, B O (cF O)) := by
  refine Prod.ext ?_ ?_
  · rw [kstep_fst]
    by_cases e : kk t = (false, 0)
    · have : cF O = true := List.any_eq_true.mpr ⟨t, h, by simp [e]⟩
      rw [this]; rfl
    · rw [decide_eq_false e]; simp
  · rw [kstep_snd t _ (min_le_bst O _)]
    have := B_le h (cF O)
    show min (B O (cF O)) (bst t (cF O)) = B O (cF O)
    omega
theorem cF_perm {O O' : List T3} (p : O.Perm O') : cF O = cF O' := by
  unfold cF
  induction p with
  | nil => rfl
  | cons x _ ih => simp [ih]
  | swap x y l => simp only [List.any_cons]; rw [← Bool.or_assoc, ← Bool.or_assoc, Bool.or_comm (decide _)]
  | trans _ _ ih1 ih2 => exact ih1.trans ih2
theorem B_perm {O O' : List T3} (p : O.Perm O') (f : Bool) : B O f = B O' f := by
  unfold B
  induction p with
  | nil => rfl
  | cons x _ ih => simp only [List.foldr_cons, ih]
  | swap x y l => simp only [List.foldr_cons]; omega
  | trans _ _ ih1 ih2 => exact ih1.trans ih2
end K29
namespace K29
open PySem J
abbrev four : EF := xLst (xCons (xLst (xCons (xC (.bl false)) (xCons (xC (.bl false)) xNil))) (xCons (xLst (xCons (xC (.bl false)) (xCons (xC (.bl true)) xNil))) (xCons (xLst (xCons (xC (.bl true)) (xCons (xC (.bl false)) xNil))) (xCons (xLst (xCons (xC (.bl true)) (xCons (xC (.bl true)) xNil))) xNil))))
theorem four_ok (δ : Dv) (M : Mem) : ∃ (q : Nat) (M' : Mem) (bs : List D), four δ M = .ok (.m q) M' ∧ Fr [] M M' ∧ M'[q]? = some (.lst bs) ∧ bs.length = 4 ∧ M.length ≤ q ∧ ∀ (i : Nat) (x : D), bs[i]? = some x → ∃ (b : Nat) (c : Bool × Bool), x = .m b ∧ combos[i]? = some c ∧ M'[b]? = some (.lst [.bl c.1, .bl c.2]) := by
  let M1 := M ++ [MO.lst [.bl false, .bl false]]
  let M2 := M1 ++ [MO.lst [.bl false, .bl true]]
  let M3 := M2 ++ [MO.lst [.bl true, .bl false]]
  let M4 := M3 ++ [MO.lst [.bl true, .bl true]]
  have h0 : M1[M.length]? = some (.lst [.bl false, .bl false]) := at_new
  have h1 : M2[M1.length]? = some (.lst [.bl false, .bl true]) := at_new
  have h2 : M3[M2.length]? = some (.lst [.bl true, .bl false]) := at_new
  have h3 : M4[M3.length]? = some (.lst [.bl true, .bl true]) := at_new
  refine ⟨M4.length, M4 ++ [MO.lst [.m M.length, .m M1.length, .m M2.length, .m M3.length]], _, xlst (xcons (xlst (xcons rfl (xone rfl))) (xcons (xlst (xcons rfl (xone rfl))) (xcons (xlst (xcons rfl (xone rfl))) (xone (xlst (xcons rfl (xone rfl))))))), ((((Fr.app (M := M)).trans Fr.app).trans Fr.app).trans Fr.app).trans Fr.app, at_new, rfl, by simp [M4, M3, M2, M1], fun i x e => ?_⟩
  match i, e with
  | 0, e => cases e; exact ⟨_, _, rfl, rfl, at_app (at_app (at_app (at_app h0)))⟩
  | 1, e => cases e; exact ⟨_, _, rfl, rfl, at_app (at_app (at_app h1))⟩
  | 2, e => cases e; exact ⟨_, _, rfl, rfl, at_app (at_app h2)⟩
  | 3, e => cases e; exact ⟨_, _, rfl, rfl, at_app h3⟩
  | i + 4, e => simp at e
abbrev innerFor : SF := sFor four (tgName 6) partsBody
theorem inner_ok {M : Mem} {ℓ : Nat} {kvs : List (Bool × D)} {s : S2} {t : T3} {v0 v2 v6 v7 v8 v9 : Option D} (hl : M[ℓ]? = some (.bd kvs)) (hs : KvI kvs s) (hr : 1 ≤ s.2 ∧ s.2 ≤ 4) (ht : 0 ≤ t.2.2 ∧ t.2.2 ≤ 2) :
    Ok (innerFor [v0, some (.m ℓ), v2, some (.bl t.1), some (.bl t.2.1), some (.int t.2.2), v6, v7, v8, v9] M) fun fl M' => ∃ v6' v7' v8' kvs', fl = .nx [v0, some (.m ℓ), v2, some (.bl t.1), some (.bl t.2.1), some (.int t.2.2), v6', v7', v8', v9] ∧ Fr [ℓ] M M' ∧ M'[ℓ]? = some (.bd kvs') ∧ KvI kvs' (kstep (kk t) s) := by
  have hn : (kk t).2 ≤ 2 := kk_le ht
  have en : t.2.2 = ((kk t).2 : Nat) := (Int.toNat_of_nonneg ht.1).symm
  obtain ⟨q, M1, bs, e4, f4, hq, hbs, hle, hall⟩ := four_ok [v0, some (.m ℓ), v2, some (.bl t.1), some (.bl t.2.1), some (.int t.2.2), v6, v7, v8, v9] M
  have hlq := lt_of_at hl
  show Ok ((four _ M).bind _) _
  rw [e4]
  show Ok (match M1[q]? with
    | some (.lst xs) => loopK (bodyF (tgName 6) partsBody) wId q (xs.length + 1) 0 _ M1
    | _ => .stuck) _
  rw [hq]
  refine ok_loopK (xs := bs) (fun i δ M' => ∃ v6' v7' v8' kvs', δ = [v0, some (.m ℓ), v2, some (.bl t.1), some (.bl t.2.1), some (.int t.2.2), v6', v7', v8', v9] ∧ Fr [ℓ] M1 M' ∧ M'[ℓ]? = some (.bd kvs') ∧ KvI kvs' (foldB t.1 (kk t).2 (combos.take i) s) ∧ 1 ≤ (foldB t.1 (kk t).2 (combos.take i) s).2 ∧ (foldB t.1 (kk t).2 (combos.take i) s).2 ≤ 4) ?_ ?_ ?_ ?_
  · exact ⟨v6, v7, v8, kvs, rfl, Fr.refl, f4.get hl (by simp), hs, hr⟩
  · rintro i δ M' ⟨v6', v7', v8', kvs', rfl, fr, _⟩
    exact fr.get hq (by simp; omega)
  · rintro i x δ M' ex ⟨v6', v7', v8', kvs', rfl, fr, gl, gs, gr⟩
    obtain ⟨b, c, rfl, ec, hb⟩ := hall i x ex
    obtain ⟨hic, ec'⟩ := List.getElem?_eq_some_iff.mp ec
    have hbl : b ≠ ℓ := by
      rintro rfl
      rw [f4.get hl (by simp)] at hb; cases hb
    obtain ⟨v7'', v8'', M2, kvs2, e, f2, g2, k2⟩ := pstep (v0 := v0) (v2 := v2) (v4 := some (.bl t.2.1)) (v7 := v7') (v8 := v8') (v9 := v9) (mark := t.1) gl gs gr (fr.get hb (by simpa using hbl)) hn
    rw [← en] at e
    show Ok (partsBody [v0, some (.m ℓ), v2, some (.bl t.1), some (.bl t.2.1), some (.int t.2.2), some (.m b), v7', v8', v9] M') _
    rw [e]
    have ef : foldB t.1 (kk t).2 (combos.take (i + 1)) s = stL t.1 ([c.1, c.2].take (kk t).2) (foldB t.1 (kk t).2 (combos.take i) s) := by
      unfold foldB
      rw [foldl_take_succ _ _ _ hic, ec']
    refine ⟨some (.m b), v7'', v8'', kvs2, rfl, fr.trans f2, g2, ?_⟩
    rw [ef]
    exact ⟨k2, stL_rng hn gr⟩
  · rintro δ M' ⟨v6', v7', v8', kvs', rfl, fr, gl, gs, gr⟩
    rw [hbs] at gs
    have : foldB t.1 (kk t).2 (combos.take 4) s = kstep (kk t) s := foldB_ok hn hr
    rw [this] at gs
    exact ⟨v6', v7', v8', kvs', rfl, (f4.mono (by simp)).trans fr, gl, gs⟩
abbrev midFor : SF := sFor (xBin gIx (xVar 0) (xC (.int 1))) (tgTup 3 (tgCons (tgName 3) (tgCons (tgName 4) (tgCons (tgName 5) tgNil)))) innerFor
theorem mid_ok {M : Mem} {ℓ r o : Nat} {O : List T3} {kvs : List (Bool × D)} {s : S2} {v2 v3 v4 v5 v6 v7 v8 v9 : Option D} (ho : M[o]? = some (.lst (O.map encD))) (g : ∀ t ∈ O, 0 ≤ t.2.2 ∧ t.2.2 ≤ 2) (hl : M[ℓ]? = some (.bd kvs)) (hs : KvI kvs s) (hr : 1 ≤ s.2 ∧ s.2 ≤ 4) :
    Ok (midFor [some (.tup [.m r, .m o]), some (.m ℓ), v2, v3, v4, v5, v6, v7, v8, v9] M) fun fl M' => ∃ v3' v4' v5' v6' v7' v8' kvs', fl = .nx [some (.tup [.m r, .m o]), some (.m ℓ), v2, v3', v4', v5', v6', v7', v8', v9] ∧ Fr [ℓ] M M' ∧ M'[ℓ]? = some (.bd kvs') ∧ KvI kvs' (lap O s) := by
  have hol : o ≠ ℓ := by
    rintro rfl
    rw [hl] at ho; cases ho
  show Ok (match M[o]? with
    | some (.lst xs) => loopK (bodyF (tgTup 3 (tgCons (tgName 3) (tgCons (tgName 4) (tgCons (tgName 5) tgNil)))) innerFor) wId o (xs.length + 1) 0 _ M
    | _ => .stuck) _
  rw [ho]
  refine ok_loopK (xs := O.map encD) (fun i δ M' => ∃ v3' v4' v5' v6' v7' v8' kvs', δ = [some (.tup [.m r, .m o]), some (.m ℓ), v2, v3', v4', v5', v6', v7', v8', v9] ∧ Fr [ℓ] M M' ∧ M'[ℓ]? = some (.bd kvs') ∧ KvI kvs' (lap (O.take i) s) ∧ 1 ≤ (lap (O.take i) s).2 ∧ (lap (O.take i) s).2 ≤ 4) ?_ ?_ ?_ ?_
  · exact ⟨v3, v4, v5, v6, v7, v8, kvs, rfl, Fr.refl, hl, hs, hr⟩
  · rintro i δ M' ⟨v3', v4', v5', v6', v7', v8', kvs', rfl, fr, _⟩
    exact fr.get ho (by simpa using hol)
  · rintro i x δ M' ex ⟨v3', v4', v5', v6', v7', v8', kvs', rfl, fr, gl, gs, gr⟩
    have hi : i < O.length := by
      have := (List.getElem?_eq_some_iff.mp ex).1
      simpa using this
    obtain rfl : encD O[i] = x := by simpa [hi] using ex
    have gt := g O[i] (List.getElem_mem hi)
    show Ok (innerFor [some (.tup [.m r, .m o]), some (.m ℓ), v2, some (.bl O[i].1), some (.bl O[i].2.1), some (.int O[i].2.2), v6', v7', v8', v9] M') _
    refine (inner_ok gl gs gr gt).mono ?_
    rintro fl M2 ⟨w6, w7, w8, kvs2, rfl, f2, g2, k2⟩
    have ef : lap (O.take (i + 1)) s = kstep (kk O[i]) (lap (O.take i) s) := foldl_take_succ _ _ _ hi _
    refine ⟨_, _, _, w6, w7, w8, kvs2, rfl, fr.trans f2, g2, ?_⟩
    rw [ef]
    exact ⟨k2, kstep_rng (kk_le gt) gr⟩
  · rintro δ M' ⟨v3', v4', v5', v6', v7', v8', kvs', rfl, fr, gl, gs, gr⟩
    rw [show (O.map encD).length = O.length by simp, List.take_length] at gs
    exact ⟨v3', v4', v5', v6', v7', v8', kvs', rfl, fr, gl, gs⟩
theorem parts_ok {M : Mem} {R O : List T3} {d : D} (h : RuleAt d R O M) : ∃ ℓ kvs M', d_law_parts [d] M = .ok (.m ℓ) M' ∧ Fr [] M M' ∧ M'[ℓ]? = some (.bd kvs) ∧ KvI kvs (cF O, B O (cF O)) := by
  obtain ⟨r, o, rfl, hr, ho, gR, gO⟩ := h
  have g := gO.2.1
  have hol := lt_of_at ho
  have main : Ok (d_law_parts [.tup [.m r, .m o]] M) fun d M' => ∃ kvs, d = .m M.length ∧ Fr [] M M' ∧ M'[M.length]? = some (.bd kvs) ∧ KvI kvs (itL O 9) := by
    refine fn_ok' rfl (Ok.seq1 (M1 := M ++ [.bd []]) (asg rfl) (Ok.seq ?_))
    show Ok (Rs.grd (-(2 ^ 62) ≤ (9 : Int) ∧ (9 : Int) < 2 ^ 62) _) _
    refine Ok.grd (by decide) ?_
    refine ok_loopV (fun i δ M' => ∃ v2 v3' v4' v5' v6' v7' v8' kvs', δ = [some (.tup [.m r, .m o]), some (.m M.length), v2, v3', v4', v5', v6', v7', v8', none] ∧ Fr [M.length] (M ++ [.bd []]) M' ∧ M'[M.length]? = some (.bd kvs') ∧ KvI kvs' (itL O i)) ?_ ?_ ?_
    · exact ⟨none, none, none, none, none, none, none, [], rfl, Fr.refl, at_new, ⟨rfl, rfl, rfl⟩⟩
    · rintro i x δ M' ex ⟨v2, v3', v4', v5', v6', v7', v8', kvs', rfl, fr, gl, gs⟩
      show Ok (midFor [some (.tup [.m r, .m o]), some (.m M.length), some x, v3', v4', v5', v6', v7', v8', none] M') _
      refine (mid_ok (O := O) (fr.get (at_app ho) (by simp; omega)) g gl gs (it_rng g i)).mono ?_
      rintro fl M2 ⟨w3, w4, w5, w6, w7, w8, kvs2, rfl, f2, g2, k2⟩
      exact ⟨_, w3, w4, w5, w6, w7, w8, kvs2, rfl, fr.trans f2, g2, k2⟩
    · rintro δ M' ⟨v2, v3', v4', v5', v6', v7', v8', kvs', rfl, fr, gl, gs⟩
      show Ok (sRet (xVar 1) [some (.tup [.m r, .m o]), some (.m M.length), v2, v3', v4', v5', v6', v7', v8', none] M') _
      rw [ret rfl]
      exact ⟨kvs', rfl, ((Fr.app (S := [M.length])).trans fr).drop (Nat.le_refl _), gl, gs⟩
  obtain ⟨d, M', e, kvs, rfl, fr, gl, gs⟩ := main.ex
  exact ⟨_, kvs, M', e, fr, gl, by rw [← two_laps g 7]; exact gs⟩
end K29
namespace J
open PySem
/-- steps that push some values -/
def QStep (f : D → Mem → Rs Unit) (M : Mem) (φ : D → List D) (x : D) : Prop := ∀ acc, acc.length + (φ x).length ≤ sizeLine → f x (M ++ [.lst acc]) = .ok () (M ++ [.lst (acc ++ φ x)])
theorem compK_q {f : D → Mem → Rs Unit} {xs : List D} {M : Mem} (φ : D → List D) {j : Nat} (n i : Nat) {acc : List D} (hx : M[j]? = some (.lst xs)) (hn : i + n = xs.length + 1) (hi : i ≤ xs.length) (hz : acc.length + ((xs.drop i).flatMap φ).length ≤ sizeLine) (hf : ∀ x ∈ xs, QStep f M φ x) : compK f j n i (M ++ [.lst acc]) = .ok () (M ++ [.lst (acc ++ (xs.drop i).flatMap φ)]) := by
  induction n generalizing i acc with
  | zero => omega
  | succ n ih =>
    unfold compK
    rw [at_app hx]
    dsimp only
    cases e : xs[i]? with
    | none =>
      have hle := List.getElem?_eq_none_iff.mp e
      rw [List.drop_eq_nil_of_le hle]
      simp
    | some x =>
      obtain ⟨hlt, ex⟩ := List.getElem?_eq_some_iff.mp e
      have ed : xs.drop i = x :: xs.drop (i + 1) := by rw [List.drop_eq_getElem_cons hlt, ex]
      rw [ed, List.flatMap_cons, List.length_append] at hz
      dsimp only
      rw [hf x (ex ▸ List.getElem_mem hlt) acc (by omega)]
      rw [ed]
      show compK f j n (i + 1) _ = _
      rw [ih (i + 1) (by omega) hlt (by simp only [List.length_append]; omega)]
      simp
theorem loopW_t {c : TF} {b : SF} {n : Nat} {δ δ1 : Dv} {M M1 M2 : Mem} {R : Rs Fl} (hc : c δ M = .ok true M1) (hb : b δ M1 = .ok (.nx δ1) M2) (h : loopW c b n δ1 M2 = R) : loopW c b (n + 1) δ M = R := by
  show ((c δ M).bind _) = _
  rw [hc]
  show ((b δ M1).bind _) = _
  rw [hb]
  exact h
theorem loopW_f {c : TF} {b : SF} {n : Nat} {δ : Dv} {M M1 : Mem} (hc : c δ M = .ok false M1) : loopW c b (n + 1) δ M = .ok (.nx δ) M1 := by
  show ((c δ M).bind _) = _
  rw [hc]; rfl
end J
namespace K29
open PySem J
structure KvP (kvs : List (Bool × D)) (s : S2) : Prop where
  av : ∀ z, (valD kvs z).isSome = avC s z
  w : ∀ z, avC s z = true → ∃ ds, valD kvs z = some (.tup (.int (wC s z) :: ds))
  len : kvs.length ≤ 2
theorem KvP.small {kvs : List (Bool × D)} {s : S2} (h : KvP kvs s) : kvs.length < sizeLine := line_big (by have := h.len; omega)
/-- an object of Parts -/
def PartsObj (M : Mem) (p rk ℓ : Nat) : Prop := M[p]? = some (.ins 0 [.m rk, .bl false, .m ℓ])
theorem PartsObj.fr {M M' : Mem} {p rk ℓ : Nat} {S : List Nat} (h : PartsObj M p rk ℓ) (f : Fr S M M') (n : p ∉ S) : PartsObj M' p rk ℓ := f.get h n
theorem weight_ok {M : Mem} {p rk ℓ : Nat} (h : PartsObj M p rk ℓ) (d : D) : d_Parts_weight_of [.m p, d] M = .ok (.int 1) M :=
  fn_rt rfl (ret (xif_f (xtru (xfld rfl h rfl) rfl) rfl))
def keysC (s : S2) : List Bool := [false, true].filter (avC s)
def chs (ks : List Bool) (n : Nat) : List (List Bool) := if n = 0 then [[]] else if n = 1 then ks.map fun x => [x] else ks.flatMap fun x => ks.map fun y => [x, y]
def encC (c : List Bool) : D := .tup (c.map D.bl)
theorem choices_ok {M : Mem} {p rk ℓ n : Nat} {kvs : List (Bool × D)} {s : S2} (h : PartsObj M p rk ℓ) (hl : M[ℓ]? = some (.bd kvs)) (hs : KvP kvs s) (hn : n ≤ 2) :
    ∃ q M', d_Parts_choices [.m p, .int n] M = .ok (.m q) M' ∧ Fr [] M M' ∧ M'[q]? = some (.lst ((chs (keysC s) n).map encC)) ∧ M.length ≤ q := by
  let M1 := M ++ [MO.lst ((keysC s).map D.bl)]
  have k1 : (keysC s).length ≤ 2 := by unfold keysC; exact List.length_filter_le _ _
  have c1 : xLc (xC (.tup [.bl false, .bl true])) (tgName 3) (xTst (xBin gIn (xVar 3) (xFld 0 2 (xVar 0)))) (xVar 3) [3] [some (.m p), some (.int n), none, none, none] M = .ok (.m M.length) M1 := by
    have := xlc_p (vs := [3]) (tt := xTst (xBin gIn (xVar 3) (xFld 0 2 (xVar 0)))) (te := xVar 3) (tg := tgName 3) (fa := xC (.tup [.bl false, .bl true])) (δ := [some (.m p), some (.int n), none, none, none]) (M := M) (φ := fun d => match d with | .bl z => if avC s z then some (.bl z) else none | _ => none) rfl (.inl rfl) (Nat.le_of_lt (line_big (by decide))) (fun d hd => by
      have : ∃ z, d = .bl z := by
        simp at hd
        rcases hd with rfl | rfl <;> exact ⟨_, rfl⟩
      obtain ⟨z, rfl⟩ := this
      exact p_if (b := avC s z) rfl (fun M => rfl) (fun acc => xtst (by rw [← hs.av z]; exact xbin rfl (xfld rfl (at_app h) rfl) (in_b (at_app hl)))) fun acc => rfl)
    rw [this]
    show Rs.ok (D.m M.length) (M ++ [MO.lst (List.filterMap _ [D.bl false, D.bl true])]) = _
    have e : List.filterMap (fun d => match d with | D.bl z => if avC s z = true then some (D.bl z) else none | _ => none) [D.bl false, D.bl true] = (keysC s).map D.bl := by
      unfold keysC
      cases h1 : avC s false <;> cases h2 : avC s true <;> simp [h1, h2]
    rw [e]
  have g1 : M1[M.length]? = some (.lst ((keysC s).map D.bl)) := at_new
  have s1 := asg (i := 2) c1
  have : n = 0 ∨ n = 1 ∨ n = 2 := by omega
  rcases this with rfl | rfl | rfl
  · refine ⟨_, _, fn_rt rfl (seq_nx s1 (seq_rt (if_t (xtst (xbin rfl rfl rfl)) (ret (xlst (xone (xtup rfl))))))), Fr.app.trans Fr.app, at_new, by simp⟩
  · have c2 := xlc_p (vs := [3]) (tt := xYes) (te := xTup (xCons (xVar 3) xNil)) (tg := tgName 3) (fa := xVar 2) (δ := [some (.m p), some (.int (1 : Nat)), some (.m M.length), none, none]) (M := M1) (φ := fun d => match d with | .bl z => some (encC [z]) | _ => none) rfl (.inr (.inr ⟨_, rfl, g1⟩)) (Nat.le_of_lt (line_big (by simp; omega))) (fun d hd => by
      obtain ⟨z, _, rfl⟩ := List.mem_map.mp hd
      exact p_push rfl (fun M => rfl) fun acc => xtup rfl)
    rw [fm_bl _ (fun z => encC [z]) _ fun z _ => rfl] at c2
    refine ⟨_, _, fn_rt rfl (seq_nx s1 (seq_nx (if_f (xtst (xbin rfl rfl rfl)) rfl) (seq_rt (if_t (xtst (xbin rfl rfl rfl)) (ret c2))))), Fr.app.trans Fr.app, ?_, by simp [M1]⟩
    rw [at_new]; simp [chs, Function.comp_def]
  · have inner : ∀ z ∈ keysC s, QStep (stepC2 M1.length (tgName 3) xYes (xVar 2) (tgName 4) xYes (xTup (xCons (xVar 3) (xCons (xVar 4) xNil))) [4] [some (.m p), some (.int (2 : Nat)), some (.m M.length), none, none]) M1 (fun d => match d with | .bl z => (keysC s).map fun y => encC [z, y] | _ => []) (.bl z) := fun z _ acc hz => by
      show compS (stepC M1.length (tgName 4) xYes (xTup (xCons (xVar 3) (xCons (xVar 4) xNil))) [some (.m p), some (.int (2 : Nat)), some (.m M.length), some (.bl z), none]) (.m M.length) (M1 ++ [.lst acc]) = _
      show (match (M1 ++ [MO.lst acc])[M.length]? with | some (.lst xs) => compK _ M.length (xs.length + 1) 0 (M1 ++ [MO.lst acc]) | _ => .stuck) = _
      rw [at_app g1]
      have hz' : acc.length + (keysC s).length ≤ sizeLine := by simpa using hz
      have := compK_p (f := stepC M1.length (tgName 4) xYes (xTup (xCons (xVar 3) (xCons (xVar 4) xNil))) [some (.m p), some (.int (2 : Nat)), some (.m M.length), some (.bl z), none]) (acc := acc) (fun d => match d with | .bl y => some (encC [z, y]) | _ => none) (((keysC s).map D.bl).length + 1) 0 g1 (by omega) (Nat.zero_le _) (by simpa using hz') (fun d hd => by
        obtain ⟨y, _, rfl⟩ := List.mem_map.mp hd
        exact p_push rfl (fun M => rfl) fun acc => xtup rfl)
      rw [List.drop_zero, fm_bl _ (fun y => encC [z, y]) _ fun y _ => rfl] at this
      exact this
    have c2 : xLc2 (xVar 2) (tgName 3) xYes (xVar 2) (tgName 4) xYes (xTup (xCons (xVar 3) (xCons (xVar 4) xNil))) [3, 4] [4] [some (.m p), some (.int (2 : Nat)), some (.m M.length), none, none] M1 = .ok (.m M1.length) (M1 ++ [.lst ((chs (keysC s) 2).map encC)]) := by
      have hfl : ∀ ks : List Bool, (ks.map D.bl).flatMap (fun d => match d with | .bl z => (keysC s).map fun y => encC [z, y] | _ => []) = (ks.flatMap fun x => (keysC s).map fun y => [x, y]).map encC := fun ks => by
        induction ks with
        | nil => rfl
        | cons k ks ih => rw [List.map_cons, List.flatMap_cons, List.flatMap_cons, List.map_append, ih, List.map_map]; rfl
      have hlen : ((keysC s).flatMap fun x => (keysC s).map fun y => [x, y]).length ≤ 4 := by
        unfold keysC
        cases h1 : avC s false <;> cases h2 : avC s true <;> simp [h1, h2]
      have := compK_q (f := stepC2 M1.length (tgName 3) xYes (xVar 2) (tgName 4) xYes (xTup (xCons (xVar 3) (xCons (xVar 4) xNil))) [4] [some (.m p), some (.int (2 : Nat)), some (.m M.length), none, none]) (acc := []) (fun d => match d with | .bl z => (keysC s).map fun y => encC [z, y] | _ => []) (((keysC s).map D.bl).length + 1) 0 g1 (by omega) (Nat.zero_le _) (by rw [List.drop_zero, hfl, List.length_map]; exact Nat.le_of_lt (line_big (by simp at hlen ⊢; omega))) (fun d hd => by
        obtain ⟨y, hy, rfl⟩ := List.mem_map.mp hd
        exact inner y hy)
      rw [List.drop_zero, hfl] at this
      unfold xLc2
      show (compS _ (.m M.length) (M1 ++ [.lst []])).bind _ = _
      have e : compS (stepC2 M1.length (tgName 3) xYes (xVar 2) (tgName 4) xYes (xTup (xCons (xVar 3) (xCons (xVar 4) xNil))) [4] [some (.m p), some (.int (2 : Nat)), some (.m M.length), none, none]) (.m M.length) (M1 ++ [.lst []]) = .ok () (M1 ++ [.lst ((chs (keysC s) 2).map encC)]) := by
        show (match (M1 ++ [MO.lst []])[M.length]? with | some (.lst xs) => compK _ M.length (xs.length + 1) 0 (M1 ++ [MO.lst []]) | _ => .stuck) = _
        rw [at_app g1]
        exact this
      exact congrArg (fun r => Rs.bind r fun _ M2 => Rs.ok (D.m M1.length) M2) e
    exact ⟨_, _, fn_rt rfl (seq_nx s1 (seq_nx (if_f (xtst (xbin rfl rfl rfl)) rfl) (seq_nx (if_f (xtst (xbin rfl rfl rfl)) rfl) (ret c2)))), Fr.app.trans Fr.app, at_new, by simp [M1]⟩
end K29
namespace K29
open PySem J
def better (m : Bool) (bs : List Bool) (s : S2) : Bool := !avC s (m || bs.any id) || decide (szC bs s < wC s (m || bs.any id))
def stP (m : Bool) (bs : List Bool) (q : S2 × Bool) : S2 × Bool := if better m bs q.1 = true then (if (m || bs.any id) = true then (q.1.1, (szC bs q.1).toNat) else (true, q.1.2), true) else q
def runP (m : Bool) (l : List (List Bool)) (q : S2 × Bool) : S2 × Bool := l.foldl (fun q bs => stP m bs q) q
def okP (m : Bool) (bs : List Bool) (s : S2) : Bool := bs.all (avC s) && (if better m bs s = true then (if (m || bs.any id) = true then decide (1 ≤ szC bs s ∧ szC bs s < 4) else decide (szC bs s = 1)) else true)
def okAll (m : Bool) : List (List Bool) → S2 × Bool → Bool
  | [], _ => true
  | bs :: l, q => okP m bs q.1 && okAll m l (stP m bs q)
theorem fact5 : ∀ (m f : Bool) (n : Fin 3) (t : Fin 4), okAll m (chs (keysC (f, t.1 + 1)) n.1) ((f, t.1 + 1), false) = true ∧ runP m (chs (keysC (f, t.1 + 1)) n.1) ((f, t.1 + 1), false) = (kstep (m, n.1) (f, t.1 + 1), decide (kstep (m, n.1) (f, t.1 + 1) ≠ (f, t.1 + 1))) ∧ ∀ bs ∈ chs (keysC (f, t.1 + 1)) n.1, bs.length ≤ 2 := by decide +kernel
theorem fact6 {m : Bool} {n : Nat} {s : S2} (hn : n ≤ 2) (hs : 1 ≤ s.2 ∧ s.2 ≤ 4) : okAll m (chs (keysC s) n) (s, false) = true ∧ runP m (chs (keysC s) n) (s, false) = (kstep (m, n) s, decide (kstep (m, n) s ≠ s)) ∧ ∀ bs ∈ chs (keysC s) n, bs.length ≤ 2 := by
  obtain ⟨f, t⟩ := s
  obtain ⟨t, rfl⟩ : ∃ q, t = q + 1 := ⟨t - 1, by have := hs.1; simp at this; omega⟩
  exact fact5 m f ⟨n, by omega⟩ ⟨t, by have := hs.2; simp at this; omega⟩
theorem avC_put (s : S2) (keeps : Bool) (w : Int) (hF : keeps = false → w = 1) (hT : keeps = true → 1 ≤ w ∧ w < 4) (z : Bool) :
    avC (if keeps = true then (s.1, w.toNat) else (true, s.2)) z = (decide (z = keeps) || avC s z) ∧ (avC (if keeps = true then (s.1, w.toNat) else (true, s.2)) z = true → wC (if keeps = true then (s.1, w.toNat) else (true, s.2)) z = if z = keeps then w else wC s z) := by
  obtain ⟨f, t⟩ := s
  cases keeps with
  | false =>
    obtain rfl := hF rfl
    cases z <;> simp [avC, wC]
  | true =>
    obtain ⟨h1, h2⟩ := hT rfl
    have h3 : ¬ w.toNat = 4 := by omega
    have h4 : ((w.toNat : Nat) : Int) = w := Int.toNat_of_nonneg (by omega)
    cases z <;> simp [avC, wC, h3, h4]
/-- the kinds and the choices of what stands are tuples -/
theorem KvP.put {kvs : List (Bool × D)} {s : S2} (h : KvP kvs s) (keeps : Bool) (w : Int) (ds : List D) (hF : keeps = false → w = 1) (hT : keeps = true → 1 ≤ w ∧ w < 4) (hk : kvs.length ≤ 2 → (putD kvs keeps (.tup (.int w :: ds))).length ≤ 2) : KvP (putD kvs keeps (.tup (.int w :: ds))) (if keeps = true then (s.1, w.toNat) else (true, s.2)) := by
  refine ⟨fun z => ?_, fun z hz => ?_, hk h.len⟩
  · rw [valD_putD, (avC_put s keeps w hF hT z).1]
    by_cases e : z = keeps
    · simp [e]
    · rw [if_neg e, h.av z]; simp [e]
  · rw [(avC_put s keeps w hF hT z).2 hz, valD_putD]
    by_cases e : z = keeps
    · rw [if_pos e, if_pos e]; exact ⟨ds, rfl⟩
    · rw [if_neg e, if_neg e]
      refine h.w z ?_
      rw [(avC_put s keeps w hF hT z).1] at hz
      simpa [e] using hz
abbrev triesBody : SF := (sSeq (sAsg (xOrV (xBin gIx (xVar 1) (xC (.int 0))) (xBin gIn (xC (.bl true)) (xVar 3))) (tgName 4))
  (sSeq (sAsg (xBin gAdd (xMeth 0 d_Parts_weight_of (xVar 0) (xCons (xBin gIx (xVar 1) (xC (.int 0))) xNil)) (xCall gSum (xCons (xLc (xVar 3) (tgName 6) xYes (xBin gIx (xDGet (xFld 0 2 (xVar 0)) (xVar 6)) (xC (.int 0))) [6]) xNil))) (tgName 5))
  (sIf (xOr (xTst (xBin gNotIn (xVar 4) (xFld 0 2 (xVar 0)))) (xTst (xBin (gOrd fun i j => decide (i < j)) (xVar 5) (xBin gIx (xDGet (xFld 0 2 (xVar 0)) (xVar 4)) (xC (.int 0))))))
  (sSeq (sDPut (xTup (xCons (xVar 5) (xCons (xVar 1) (xCons (xVar 3) xNil)))) (xFld 0 2 (xVar 0)) (xVar 4))
  (sAsg (xC (.bl true)) (tgName 2)))
  sSkip)))
/-- a dict of bools: no key twice, so at most two -/
def NoDup (kvs : List (Bool × D)) : Prop := kvs.length = (valD kvs false).toList.length + (valD kvs true).toList.length
theorem NoDup.put {kvs : List (Bool × D)} (h : NoDup kvs) (z : Bool) (d : D) : NoDup (putD kvs z d) := by
  unfold NoDup at h ⊢
  rw [length_putD, valD_putD, valD_putD]
  cases z with
  | false => cases e : valD kvs false <;> simp [e] at h ⊢ <;> omega
  | true => cases e : valD kvs true <;> simp [e] at h ⊢ <;> omega
theorem NoDup.le {kvs : List (Bool × D)} (h : NoDup kvs) : kvs.length ≤ 2 := by
  have e : ∀ o : Option D, o.toList.length ≤ 1 := fun o => by cases o <;> simp
  have h1 := e (valD kvs false)
  have h2 := e (valD kvs true)
  unfold NoDup at h
  omega
theorem ix_t0 {x : D} {ds : List D} {M : Mem} : gIx (.tup (x :: ds)) (.int 0) M = .ok x M := by
  show (match L2.atI (x :: ds) 0 with | some d => Rs.ok d M | none => .stuck) = _
  rw [atI_nat (Int.le_refl 0) (by simp)]
  rfl
theorem tstep {M : Mem} {p rk ℓ : Nat} {kvs : List (Bool × D)} {s : S2} {t : T3} {c : Bool} {bs : List Bool} {v4 v5 v6 : Option D} (h : PartsObj M p rk ℓ) (hl : M[ℓ]? = some (.bd kvs)) (hs : KvP kvs s) (hd : NoDup kvs) (hb : bs.length ≤ 2) (ho : okP t.1 bs s = true) :
    ∃ v4' v5' M' kvs', triesBody [some (.m p), some (encD t), some (.bl c), some (encC bs), v4, v5, v6] M = .ok (.nx [some (.m p), some (encD t), some (.bl (stP t.1 bs (s, c)).2), some (encC bs), v4', v5', v6]) M' ∧ Fr [ℓ] M M' ∧ M'[ℓ]? = some (.bd kvs') ∧ KvP kvs' (stP t.1 bs (s, c)).1 ∧ NoDup kvs' := by
  obtain ⟨hall, hput⟩ : bs.all (avC s) = true ∧ (if better t.1 bs s = true then (if (t.1 || bs.any id) = true then decide (1 ≤ szC bs s ∧ szC bs s < 4) else decide (szC bs s = 1)) else true) = true := by
    unfold okP at ho; simpa only [Bool.and_eq_true] using ho
  have hpl := lt_of_at h
  have e4 : xOrV (xBin gIx (xVar 1) (xC (.int 0))) (xBin gIn (xC (.bl true)) (xVar 3)) [some (.m p), some (encD t), some (.bl c), some (encC bs), v4, v5, v6] M = .ok (.bl (t.1 || bs.any id)) M := by
    refine xorV (b := t.1) (xbin rfl rfl rfl) (fun z => ?_) fun z => ?_
    · rw [z]; exact xbin rfl rfl in_bl_t
    · rw [z]; rfl
  let keeps := t.1 || bs.any id
  let M1 := M ++ [MO.lst ((bs.map (wC s)).map D.int)]
  have hl1 : M1[ℓ]? = some (.bd kvs) := at_app hl
  have h1 : PartsObj M1 p rk ℓ := at_app h
  have c5 : xLc (xVar 3) (tgName 6) xYes (xBin gIx (xDGet (xFld 0 2 (xVar 0)) (xVar 6)) (xC (.int 0))) [6] [some (.m p), some (encD t), some (.bl c), some (encC bs), some (.bl keeps), v5, v6] M = .ok (.m M.length) M1 := by
    have := xlc_p (vs := [6]) (tt := xYes) (te := xBin gIx (xDGet (xFld 0 2 (xVar 0)) (xVar 6)) (xC (.int 0))) (tg := tgName 6) (fa := xVar 3) (δ := [some (.m p), some (encD t), some (.bl c), some (encC bs), some (.bl keeps), v5, v6]) (M := M) (φ := fun d => match d with | .bl z => some (.int (wC s z)) | _ => none) rfl (.inl rfl) (Nat.le_of_lt (line_big (by simp; omega))) (fun d hd => by
      obtain ⟨z, hz, rfl⟩ := List.mem_map.mp hd
      obtain ⟨ds, ez⟩ := hs.w z (List.all_eq_true.mp hall z hz)
      exact p_push rfl (fun M => rfl) fun acc => xbin (xbin (xfld rfl (at_app h) rfl) rfl (dget_b (at_app hl) ez)) rfl ix_t0)
    rw [fm_bl _ (fun z => D.int (wC s z)) bs fun z _ => rfl] at this
    rw [this]
    show _ = Rs.ok (D.m M.length) (M ++ [MO.lst ((bs.map (wC s)).map D.int)])
    rw [List.map_map]
    rfl
  have e5 : xBin gAdd (xMeth 0 d_Parts_weight_of (xVar 0) (xCons (xBin gIx (xVar 1) (xC (.int 0))) xNil)) (xCall gSum (xCons (xLc (xVar 3) (tgName 6) xYes (xBin gIx (xDGet (xFld 0 2 (xVar 0)) (xVar 6)) (xC (.int 0))) [6]) xNil)) [some (.m p), some (encD t), some (.bl c), some (encC bs), some (.bl keeps), v5, v6] M = .ok (.int (szC bs s)) M1 :=
    xbin (xmeth rfl h (xone (xbin rfl rfl rfl)) (weight_ok h _)) (xcall (xone c5) (sum_m at_new)) rfl
  have eB : xOr (xTst (xBin gNotIn (xVar 4) (xFld 0 2 (xVar 0)))) (xTst (xBin (gOrd fun i j => decide (i < j)) (xVar 5) (xBin gIx (xDGet (xFld 0 2 (xVar 0)) (xVar 4)) (xC (.int 0))))) [some (.m p), some (encD t), some (.bl c), some (encC bs), some (.bl keeps), some (.int (szC bs s)), v6] M1 = .ok (better t.1 bs s) M1 := by
    have n1 : xTst (xBin gNotIn (xVar 4) (xFld 0 2 (xVar 0))) [some (.m p), some (encD t), some (.bl c), some (encC bs), some (.bl keeps), some (.int (szC bs s)), v6] M1 = .ok (!avC s keeps) M1 :=
      xtst (xbin rfl (xfld rfl h1 rfl) (by rw [← hs.av]; exact notin_b hl1))
    unfold better
    by_cases ha : avC s keeps = true
    · obtain ⟨ds, ez⟩ := hs.w keeps ha
      rw [ha] at n1
      rw [show avC s (t.1 || bs.any id) = true from ha]
      exact xor_f n1 (xtst (xbin rfl (xbin (xbin (xfld rfl h1 rfl) rfl (dget_b hl1 ez)) rfl ix_t0) rfl))
    · have ha' := Bool.eq_false_iff.mpr ha
      rw [ha'] at n1
      rw [show avC s (t.1 || bs.any id) = false from ha']
      exact xor_t n1
  by_cases hbt : better t.1 bs s = true
  · rw [hbt] at eB
    rw [if_pos hbt] at hput
    have hF : keeps = false → szC bs s = 1 := fun z => by
      rw [if_neg (by rw [show (t.1 || bs.any id) = false from z]; simp)] at hput
      exact of_decide_eq_true hput
    have hT : keeps = true → 1 ≤ szC bs s ∧ szC bs s < 4 := fun z => by
      rw [if_pos z] at hput
      exact of_decide_eq_true hput
    have e : stP t.1 bs (s, c) = (if keeps = true then (s.1, (szC bs s).toNat) else (true, s.2), true) := by
      unfold stP; rw [if_pos hbt]
    rw [e]
    refine ⟨_, _, _, _, seq_nx (asg e4) (seq_nx (asg e5) (if_t eB (seq_nx (dput (xtup (xcons rfl (xcons rfl (xone rfl)))) (xfld rfl h1 rfl) rfl (dput_b hl1 hs.small)) (asg rfl)))), Fr.app.trans (.set (.inl (by simp))), at_set (lt_of_at hl1), hs.put _ _ _ hF hT fun _ => (hd.put _ _).le, hd.put _ _⟩
  · have hbf := Bool.eq_false_iff.mpr hbt
    rw [hbf] at eB
    have e : stP t.1 bs (s, c) = (s, c) := by unfold stP; rw [if_neg hbt]
    rw [e]
    exact ⟨_, _, _, kvs, seq_nx (asg e4) (seq_nx (asg e5) (if_f eB rfl)), Fr.app, hl1, hs, hd⟩
theorem tries_ok {M : Mem} {p rk ℓ : Nat} {kvs : List (Bool × D)} {s : S2} {t : T3} (h : PartsObj M p rk ℓ) (hl : M[ℓ]? = some (.bd kvs)) (hs : KvP kvs s) (hd : NoDup kvs) (ht : 0 ≤ t.2.2 ∧ t.2.2 ≤ 2) (hr : 1 ≤ s.2 ∧ s.2 ≤ 4) :
    ∃ M' kvs', d_Parts_tries [.m p, encD t] M = .ok (.bl (decide (kstep (kk t) s ≠ s))) M' ∧ Fr [ℓ] M M' ∧ M'[ℓ]? = some (.bd kvs') ∧ KvP kvs' (kstep (kk t) s) ∧ NoDup kvs' := by
  have hn : (kk t).2 ≤ 2 := kk_le ht
  have en : t.2.2 = ((kk t).2 : Nat) := (Int.toNat_of_nonneg ht.1).symm
  have hpl : p ≠ ℓ := by
    rintro rfl
    have h' := h
    unfold PartsObj at h'
    rw [hl] at h'; cases h'
  obtain ⟨q, M1, eC, fC, gC, lq⟩ := choices_ok h hl hs hn
  rw [← en] at eC
  obtain ⟨fo, fr2, fle⟩ := fact6 (m := t.1) hn hr
  have hq := lt_of_at hl
  have main : Ok (d_Parts_tries [.m p, encD t] M) fun d M' => ∃ kvs', d = .bl (decide (kstep (kk t) s ≠ s)) ∧ Fr [ℓ] M M' ∧ M'[ℓ]? = some (.bd kvs') ∧ KvP kvs' (kstep (kk t) s) ∧ NoDup kvs' := by
    refine fn_ok' rfl (Ok.seq1 (asg rfl) (Ok.seq ?_))
    show Ok ((xMeth 0 d_Parts_choices (xVar 0) (xCons (xBin gIx (xVar 1) (xC (.int 2))) xNil) [some (.m p), some (encD t), some (.bl false), none, none, none, none] M).bind _) _
    rw [xmeth rfl h (xone (xbin rfl rfl rfl)) eC]
    show Ok (match M1[q]? with
      | some (.lst xs) => loopK (bodyF (tgName 3) triesBody) wId q (xs.length + 1) 0 _ M1
      | _ => .stuck) _
    rw [gC]
    refine ok_loopK (xs := (chs (keysC s) (kk t).2).map encC) (fun i δ M' => ∃ (v3 v4 v5 : Option D) (kvs' : List (Bool × D)) (z : S2 × Bool), δ = [some (.m p), some (encD t), some (.bl z.2), v3, v4, v5, none] ∧ Fr [ℓ] M1 M' ∧ M'[ℓ]? = some (.bd kvs') ∧ KvP kvs' z.1 ∧ NoDup kvs' ∧ okAll t.1 ((chs (keysC s) (kk t).2).drop i) z = true ∧ runP t.1 ((chs (keysC s) (kk t).2).drop i) z = (kstep (kk t) s, decide (kstep (kk t) s ≠ s))) ?_ ?_ ?_ ?_
    · exact ⟨none, none, none, kvs, (s, false), rfl, Fr.refl, fC.get hl (by simp), hs, hd, fo, fr2⟩
    · rintro i δ M' ⟨v3, v4, v5, kvs', z, rfl, fr, _⟩
      exact fr.get gC (by simp; omega)
    · rintro i x δ M' ex ⟨v3, v4, v5, kvs', z, rfl, fr, gl, gs, gd, go, gr⟩
      have hi : i < (chs (keysC s) (kk t).2).length := by
        have := (List.getElem?_eq_some_iff.mp ex).1
        simpa using this
      obtain rfl : encC (chs (keysC s) (kk t).2)[i] = x := by simpa [hi] using ex
      have ed : (chs (keysC s) (kk t).2).drop i = (chs (keysC s) (kk t).2)[i] :: (chs (keysC s) (kk t).2).drop (i + 1) := List.drop_eq_getElem_cons hi
      rw [ed] at go gr
      obtain ⟨go1, go2⟩ : okP t.1 (chs (keysC s) (kk t).2)[i] z.1 = true ∧ okAll t.1 ((chs (keysC s) (kk t).2).drop (i + 1)) (stP t.1 (chs (keysC s) (kk t).2)[i] z) = true := by
        unfold okAll at go; simpa only [Bool.and_eq_true] using go
      obtain ⟨z1, z2⟩ := z
      obtain ⟨v4', v5', M2, kvs2, e, f2, g2, k2, d2⟩ := tstep (t := t) (c := z2) (v4 := v4) (v5 := v5) (v6 := none) ((h.fr fC (by simp)).fr fr (by simpa using hpl)) gl gs gd (fle _ (List.getElem_mem hi)) go1
      show Ok (triesBody [some (.m p), some (encD t), some (.bl z2), some (encC (chs (keysC s) (kk t).2)[i]), v4, v5, none] M') _
      rw [e]
      exact ⟨_, v4', v5', kvs2, stP t.1 (chs (keysC s) (kk t).2)[i] (z1, z2), rfl, fr.trans f2, g2, k2, d2, go2, gr⟩
    · rintro δ M' ⟨v3, v4, v5, kvs', z, rfl, fr, gl, gs, gd, go, gr⟩
      rw [List.length_map, List.drop_length] at gr
      obtain rfl : z = (kstep (kk t) s, decide (kstep (kk t) s ≠ s)) := gr
      show Ok (sRet (xVar 2) [some (.m p), some (encD t), _, v3, v4, v5, none] M') _
      rw [ret rfl]
      exact ⟨kvs', rfl, (fC.mono (by simp)).trans fr, gl, gs, gd⟩
  obtain ⟨d, M', e, kvs', rfl, h1, h2, h3, h4⟩ := main.ex
  exact ⟨M', kvs', e, h1, h2, h3, h4⟩
end K29
namespace K29
open PySem J
abbrev lapStmt : SF := sAsg (xCall gAny (xCons (xLc (xFld 1 1 (xVar 1)) (tgName 4) xYes (xMeth 0 d_Parts_tries (xVar 0) (xCons (xVar 4) xNil)) [4]) xNil)) (tgName 3)
theorem lapP_ok {M : Mem} {p rk ℓ : Nat} {rt : D} {O : List T3} {kvs : List (Bool × D)} {s : S2} {c : Bool} (h : PartsObj M p rk ℓ) (hr : M[rk]? = some (.ins 1 [rt, .tup (O.map encD)])) (hl : M[ℓ]? = some (.bd kvs)) (hs : KvP kvs s) (hd : NoDup kvs) (g : ∀ t ∈ O, 0 ≤ t.2.2 ∧ t.2.2 ≤ 2) (hz : O.length ≤ 100) (hrg : 1 ≤ s.2 ∧ s.2 ≤ 4) :
    ∃ c' M' kvs', lapStmt [some (.m p), some (.m rk), some (.bl false), some (.bl c), none] M = .ok (.nx [some (.m p), some (.m rk), some (.bl false), some (.bl c'), none]) M' ∧ Fr [ℓ] M M' ∧ M'[ℓ]? = some (.bd kvs') ∧ KvP kvs' (lap O s) ∧ NoDup kvs' ∧ (c' = false → lap O s = s) ∧ ((∀ t ∈ O, kstep (kk t) s = s) → c' = false) := by
  have hll := lt_of_at hl
  have hpl : p ≠ ℓ := by
    rintro rfl
    have h' := h
    unfold PartsObj at h'
    rw [hl] at h'; cases h'
  have main : Ok (xLc (xFld 1 1 (xVar 1)) (tgName 4) xYes (xMeth 0 d_Parts_tries (xVar 0) (xCons (xVar 4) xNil)) [4] [some (.m p), some (.m rk), some (.bl false), some (.bl c), none] M) fun d M' => d = .m M.length ∧ ∃ (kvs' : List (Bool × D)) (fs : List Bool), M'[M.length]? = some (.lst (fs.map D.bl)) ∧ M'[ℓ]? = some (.bd kvs') ∧ KvP kvs' (lap O s) ∧ NoDup kvs' ∧ Fr [ℓ] M M' ∧ (fs.any id = false → lap O s = s) ∧ ((∀ t ∈ O, kstep (kk t) s = s) → fs.any id = false) := by
    unfold xLc
    rw [xfld (fa := xVar 1) (δ := [some (.m p), some (.m rk), some (.bl false), some (.bl c), none]) rfl hr rfl]
    show Ok ((compS _ (.tup (O.map encD)) (M ++ [.lst []])).bind _) _
    rw [Ok.bind]
    refine ok_compV (xs := O.map encD) (fun i M' => ∃ (kvs' : List (Bool × D)) (fs : List Bool), M'[M.length]? = some (.lst (fs.map D.bl)) ∧ fs.length = i ∧ M'[ℓ]? = some (.bd kvs') ∧ KvP kvs' (lap (O.take i) s) ∧ NoDup kvs' ∧ Fr [ℓ] M M' ∧ (1 ≤ (lap (O.take i) s).2 ∧ (lap (O.take i) s).2 ≤ 4) ∧ (fs.any id = false → lap (O.take i) s = s) ∧ ((∀ t ∈ O, kstep (kk t) s = s) → fs.any id = false ∧ lap (O.take i) s = s)) ?_ ?_ ?_
    · exact ⟨kvs, [], at_new, rfl, at_app hl, hs, hd, Fr.app, hrg, fun _ => rfl, fun _ => ⟨rfl, rfl⟩⟩
    · rintro i x M' ex ⟨kvs', fs, g1, gf, gl, gs, gd, fr, grg, q1, q2⟩
      have hi : i < O.length := by
        have := (List.getElem?_eq_some_iff.mp ex).1
        simpa using this
      obtain rfl : encD O[i] = x := by simpa [hi] using ex
      have gt := g O[i] (List.getElem_mem hi)
      have hp' : PartsObj M' p rk ℓ := h.fr fr (by simpa using hpl)
      obtain ⟨M2, kvs2, e, f2, g2, k2, d2⟩ := tries_ok hp' gl gs gd gt grg
      have a1 : M2[M.length]? = some (.lst (fs.map D.bl)) := f2.get g1 (by simp; omega)
      have ef : lap (O.take (i + 1)) s = kstep (kk O[i]) (lap (O.take i) s) := foldl_take_succ _ _ _ hi _
      show Ok ((xMeth 0 d_Parts_tries (xVar 0) (xCons (xVar 4) xNil) [some (.m p), some (.m rk), some (.bl false), some (.bl c), some (encD O[i])] M').bind fun y M3 => pushK M.length y M3) _
      rw [xmeth rfl hp' (xone rfl) e]
      show Ok (pushK M.length _ M2) _
      rw [push_ok a1 (line_big (by simp; omega))]
      rw [ef]
      refine ⟨kvs2, fs ++ [decide (kstep (kk O[i]) (lap (O.take i) s) ≠ lap (O.take i) s)], by rw [List.map_append]; exact at_set (lt_of_at a1), by simp [gf], at_set_ne g2 (by omega), k2, d2, (fr.trans f2).trans_set (Nat.le_refl _), kstep_rng (kk_le gt) grg, fun z => ?_, fun z => ?_⟩
      · rw [List.any_append, Bool.or_eq_false_iff] at z
        have z2 : decide (kstep (kk O[i]) (lap (O.take i) s) ≠ lap (O.take i) s) = false := by simpa using z.2
        have z3 := of_decide_eq_false z2
        rw [Classical.not_not.mp z3]
        exact q1 z.1
      · obtain ⟨z1, z2⟩ := q2 z
        have z3 := z O[i] (List.getElem_mem hi)
        rw [z2, List.any_append, z1]
        exact ⟨by simp [z3], z3⟩
    · rintro M' ⟨kvs', fs, g1, gf, gl, gs, gd, fr, grg, q1, q2⟩
      rw [List.length_map, List.take_length] at gs q1
      exact ⟨rfl, kvs', fs, g1, gl, gs, gd, fr, q1, fun z => (q2 z).1⟩
  obtain ⟨d, M', e, rfl, kvs', fs, h1, h2, h3, h4, h5, h6, h7⟩ := main.ex
  exact ⟨fs.any id, M', kvs', asg (xcall (xone e) (any_m h1)), h5, h2, h3, h4, h6, h7⟩
theorem init_ok {M : Mem} {p rk : Nat} {R O : List T3} (h : M[p]? = some (.ins 0 [])) (hr : RuleObj M rk R O) (gO : GoodK O) :
    ∃ ℓ kvs M', d_Parts_init [.m p, .m rk, .bl false] M = .ok .non M' ∧ Fr [p] M M' ∧ PartsObj M' p rk ℓ ∧ M'[ℓ]? = some (.bd kvs) ∧ KvP kvs (cF O, B O (cF O)) := by
  have hp := lt_of_at h
  have hrl := lt_of_at hr
  have hpr : rk ≠ p := by
    rintro rfl
    unfold RuleObj at hr
    rw [h] at hr; cases hr
  let M1 := M.set p (.ins 0 [.m rk])
  let M2 := M1.set p (.ins 0 [.m rk, .bl false])
  let M3 := M2 ++ [MO.bd []]
  let M4 := M3.set p (.ins 0 [.m rk, .bl false, .m M2.length])
  have l2 : M2.length = M.length := by simp [M2, M1]
  have a1 : M1[p]? = some (.ins 0 [.m rk]) := at_set hp
  have a2 : M2[p]? = some (.ins 0 [.m rk, .bl false]) := at_set (by simpa [M1] using hp)
  have a3 : M3[p]? = some (.ins 0 [.m rk, .bl false]) := at_app a2
  have a4 : PartsObj M4 p rk M2.length := at_set (lt_of_at a3)
  have b3 : M3[M2.length]? = some (.bd []) := at_new
  have b4 : M4[M2.length]? = some (.bd []) := at_set_ne b3 (by omega)
  have r4 : M4[rk]? = some (.ins 1 [.tup ((sort3 R).map encD), .tup ((sort3 O).map encD)]) := at_set_ne (at_app (at_set_ne (at_set_ne hr hpr) hpr)) hpr
  have f4 : Fr [p] M M4 := ((((Fr.set (.inl (by simp)) : Fr [p] M M1).trans (.set (.inl (by simp)))).trans (Fr.app)).trans (.set (.inl (by simp))))
  have pO : (sort3 O).Perm O := sort3_perm O
  have g : ∀ t ∈ sort3 O, 0 ≤ t.2.2 ∧ t.2.2 ≤ 2 := fun t ht => gO.2.1 t (pO.mem_iff.mp ht)
  have hz : (sort3 O).length ≤ 100 := by rw [pO.length_eq]; have := gO.2.2; omega
  have k0 : KvP [] (false, 4) := ⟨fun z => by cases z <;> rfl, fun z hz => by cases z <;> simp [avC] at hz, by simp⟩
  have fin : (cF (sort3 O), B (sort3 O) (cF (sort3 O))) = (cF O, B O (cF O)) := by rw [cF_perm pO, B_perm pO]
  have tl := two_laps g
  rw [fin] at tl
  have still' : ∀ t ∈ sort3 O, kstep (kk t) (cF O, B O (cF O)) = (cF O, B O (cF O)) := fun t ht => by rw [← fin]; exact still ht
  -- from a state i laps on
  have go : ∀ (i : Nat) (c : Bool) (M5 : Mem) (kvs : List (Bool × D)), Fr [M2.length] M4 M5 → M5[M2.length]? = some (.bd kvs) → KvP kvs (itL (sort3 O) i) → NoDup kvs → ∃ c' M6 kvs', lapStmt [some (.m p), some (.m rk), some (.bl false), some (.bl c), none] M5 = .ok (.nx [some (.m p), some (.m rk), some (.bl false), some (.bl c'), none]) M6 ∧ Fr [M2.length] M4 M6 ∧ M6[M2.length]? = some (.bd kvs') ∧ KvP kvs' (itL (sort3 O) (i + 1)) ∧ NoDup kvs' ∧ (c' = false → itL (sort3 O) (i + 1) = itL (sort3 O) i) ∧ ((∀ t ∈ sort3 O, kstep (kk t) (itL (sort3 O) i) = itL (sort3 O) i) → c' = false) := fun i c M5 kvs f5 h5 s5 d5 => by
    obtain ⟨c', M6, kvs', e, f6, g6, s6, d6, q1, q2⟩ := lapP_ok (c := c) (a4.fr f5 (by simp; omega)) (f5.get r4 (by simp; omega)) h5 s5 d5 g hz (it_rng g i)
    exact ⟨c', M6, kvs', e, f5.trans f6, g6, s6, d6, q1, q2⟩
  have close : ∀ {M6 : Mem} {kvs : List (Bool × D)} {δ : Dv}, loopW (xTru (xVar 3)) lapStmt 20 [some (.m p), some (.m rk), some (.bl false), some (.bl true), none] M4 = .ok (.nx δ) M6 → Fr [M2.length] M4 M6 → M6[M2.length]? = some (.bd kvs) → KvP kvs (cF O, B O (cF O)) →
      ∃ ℓ kvs M', d_Parts_init [.m p, .m rk, .bl false] M = .ok .non M' ∧ Fr [p] M M' ∧ PartsObj M' p rk ℓ ∧ M'[ℓ]? = some (.bd kvs) ∧ KvP kvs (cF O, B O (cF O)) := fun {M6 kvs δ} e f6 g6 s6 => by
    refine ⟨M2.length, kvs, M6, fn_nx rfl (seq_nx (sfld rfl rfl h rfl) (seq_nx (sfld rfl rfl a1 rfl) (seq_nx (sfld (M1 := M3) rfl rfl a3 rfl) (seq_nx (asg rfl) e)))), ?_, a4.fr f6 (by simp; omega), g6, s6⟩
    exact ((f4.mono (S' := [M2.length, p]) fun k hk _ => by simp at hk ⊢; exact .inr hk).trans (f6.mono fun k hk _ => by simp at hk ⊢; exact .inl hk)).drop (by omega)
  have tt : ∀ (c : Bool) (M : Mem), xTru (xVar 3) [some (.m p), some (.m rk), some (.bl false), some (.bl c), none] M = .ok c M := fun c M => xtru rfl rfl
  obtain ⟨c1, N1, v1, e1, F1, G1, S1, D1, q1, _⟩ := go 0 true M4 [] Fr.refl b4 k0 rfl
  cases c1 with
  | false =>
    have h1 := q1 rfl
    have h2 : itL (sort3 O) 1 = itL (sort3 O) 2 := by
      show itL (sort3 O) 1 = lap (sort3 O) (itL (sort3 O) 1)
      rw [h1]; exact h1.symm
    refine close (loopW_t (tt true _) e1 (loopW_f (tt false _))) F1 G1 ?_
    rw [← tl 0, ← h2]; exact S1
  | true =>
    obtain ⟨c2, N2, v2, e2, F2, G2, S2', D2, q2, _⟩ := go 1 true N1 v1 F1 G1 S1 D1
    rw [tl 0] at S2'
    cases c2 with
    | false => exact close (loopW_t (tt true _) e1 (loopW_t (tt true _) e2 (loopW_f (tt false _)))) F2 G2 S2'
    | true =>
      obtain ⟨c3, N3, v3, e3, F3, G3, S3, D3, q3, q3'⟩ := go 2 true N2 v2 F2 G2 (by rw [tl 0]; exact S2') D2
      rw [tl 1] at S3
      obtain rfl := q3' (by rw [tl 0]; exact still')
      exact close (loopW_t (tt true _) e1 (loopW_t (tt true _) e2 (loopW_t (tt true _) e3 (loopW_f (tt false _))))) F3 G3 S3
theorem make_ok {M : Mem} {rk : Nat} {R O : List T3} {as : AF} {δ : Dv} (has : as δ M = .ok [.m rk] M) (hr : RuleObj M rk R O) (gO : GoodK O) :
    ∃ ℓ kvs M', xMake 0 (fun ds => d_Parts_init (ds ++ [(.bl false)])) as δ M = .ok (.m M.length) M' ∧ Fr [] M M' ∧ PartsObj M' M.length rk ℓ ∧ M'[ℓ]? = some (.bd kvs) ∧ KvP kvs (cF O, B O (cF O)) := by
  obtain ⟨ℓ, kvs, M', e, f, h1, h2, h3⟩ := init_ok (p := M.length) (at_new (M := M) (x := .ins 0 [])) (at_app hr : RuleObj (M ++ [.ins 0 []]) rk R O) gO
  exact ⟨ℓ, kvs, M', xmake has e, (Fr.app.trans f).drop (Nat.le_refl _), h1, h2, h3⟩
def dueW (s : S2) (z : Bool) : D := if avC s z = true then .int (wC s z) else .non
theorem least_ok {M : Mem} {rk : Nat} {R O : List T3} (z : Bool) (hr : RuleObj M rk R O) (gO : GoodK O) : ∃ M', d_least_part [.m rk, .bl z] M = .ok (dueW (cF O, B O (cF O)) z) M' ∧ Fr [] M M' := by
  obtain ⟨ℓ, kvs, M', e, f, h1, h2, h3⟩ := make_ok (as := xCons (xVar 0) xNil) (δ := [some (.m rk), some (.bl z), none]) (M := M) (xone rfl) hr gO
  refine ⟨M', fn_rt rfl (seq_nx (asg (xfld e h1 rfl)) (ret ?_)), f⟩
  have e1 : xTst (xBin gIn (xVar 1) (xVar 2)) [some (.m rk), some (.bl z), some (.m ℓ)] M' = .ok (avC (cF O, B O (cF O)) z) M' := xtst (xbin rfl rfl (by rw [← h3.av z]; exact in_b h2))
  unfold dueW
  by_cases ha : avC (cF O, B O (cF O)) z = true
  · rw [ha] at e1
    obtain ⟨ds, ez⟩ := h3.w z ha
    rw [if_pos ha]
    exact xif_t e1 (xbin (xbin rfl rfl (dget_b h2 ez)) rfl ix_t0)
  · rw [Bool.eq_false_iff.mpr ha] at e1
    rw [if_neg ha]
    exact xif_f e1 rfl
end K29
namespace K29
open PySem J
abbrev C4 := Bool × Bool × Int × Bool
def encC4 (c : C4) : D := .tup [.bl c.1, .bl c.2.1, .int c.2.2.1, .bl c.2.2.2]
def keyC (c : C4) (go : Bool) : T3 := (c.1, c.2.1, if c.2.2.1 + (if go = true then 1 else 0) < 2 then c.2.2.1 + (if go = true then 1 else 0) else 2)
def lets (R O : List T3) (c : C4) (ar go : Bool) : Bool := if keyC c go ∈ (if ar = true then R else O) then (if c.2.2.1 = 0 then !c.2.2.2 else avC (cF O, B O (cF O)) c.2.2.2) else false
theorem KvI.get {kvs : List (Bool × D)} {s : S2} (h : KvI kvs s) (z : Bool) : (valD kvs z).getD .non = dueW s z := by
  unfold dueW
  by_cases a : avC s z = true
  · rw [if_pos a, h.w z a]; rfl
  · rw [if_neg a]
    have := h.av z
    cases e : valD kvs z with
    | none => rfl
    | some d => rw [e] at this; exact absurd this.symm a
theorem lets_ok {M : Mem} {d : D} {R O : List T3} {ℓ : Nat} {kvs : List (Bool × D)} (h : RuleAt d R O M) (hl : M[ℓ]? = some (.bd kvs)) (hs : KvI kvs (cF O, B O (cF O))) (c : C4) (ar go : Bool) :
    d_law_lets [d, .m ℓ, encC4 c, .bl ar, .bl go] M = .ok (.bl (lets R O c ar go)) M := by
  obtain ⟨r, o, rfl, hr, ho, gR, gO⟩ := h
  have e0 : ∃ k, xBin gIx (xVar 0) (xCall gInt (xCons (xNotV (xVar 3)) xNil)) [some (.tup [.m r, .m o]), some (.m ℓ), some (encC4 c), some (.bl ar), some (.bl go)] M = .ok (.m k) M ∧ M[k]? = some (.lst ((if ar = true then R else O).map encD)) := by
    cases ar with
    | true => exact ⟨r, xbin rfl (xcall (xone (xnotV rfl)) rfl) rfl, hr⟩
    | false => exact ⟨o, xbin rfl (xcall (xone (xnotV rfl)) rfl) rfl, ho⟩
  obtain ⟨k, e0, hk⟩ := e0
  have e1 : xTup (xCons (xBin gIx (xVar 2) (xC (.int 0))) (xCons (xBin gIx (xVar 2) (xC (.int 1))) (xCons (xCall gMin2 (xCons (xC (.int 2)) (xCons (xBin gAdd (xBin gIx (xVar 2) (xC (.int 2))) (xCall gInt (xCons (xVar 4) xNil))) xNil))) xNil))) [some (.tup [.m r, .m o]), some (.m ℓ), some (encC4 c), some (.bl ar), some (.bl go)] M = .ok (encD (keyC c go)) M :=
    xtup (xcons (xbin rfl rfl rfl) (xcons (xbin rfl rfl rfl) (xone (xcall (xcons rfl (xone (xbin (xbin rfl rfl rfl) (xcall (xone rfl) rfl) rfl))) rfl))))
  have e2 := xtst (xbin e1 e0 (notin_m hk))
  unfold lets
  by_cases hm : keyC c go ∈ (if ar = true then R else O)
  · rw [decide_eq_true hm] at e2
    rw [if_pos hm]
    refine fn_rt rfl (seq_nx (if_f e2 rfl) (ret ?_))
    by_cases hz : c.2.2.1 = 0
    · rw [if_pos hz]
      exact xif_t (xtst (xbin (xbin rfl rfl rfl) rfl (by show Rs.ok (D.bl (decide (c.2.2.1 = 0))) M = _; rw [decide_eq_true hz]))) (xnotV (xbin rfl rfl rfl))
    · rw [if_neg hz]
      exact xif_f (xtst (xbin (xbin rfl rfl rfl) rfl (by show Rs.ok (D.bl (decide (c.2.2.1 = 0))) M = _; rw [decide_eq_false hz]))) (xbin (xbin rfl rfl rfl) rfl (by rw [← hs.av]; exact in_b hl))
  · rw [decide_eq_false hm] at e2
    rw [if_neg hm]
    exact fn_rt rfl (seq_rt (if_t e2 (ret rfl)))
theorem let_by_ok {M : Mem} {p rk ℓ : Nat} {R O : List T3} {kvs : List (Bool × D)} (h : PartsObj M p rk ℓ) (hr : RuleObj M rk R O) (hl : M[ℓ]? = some (.bd kvs)) (hs : KvP kvs (cF O, B O (cF O))) (c : C4) (ar go : Bool) :
    d_is_let_by [.m p, encC4 c, .bl ar, .bl go] M = .ok (.bl (lets R O c ar go)) M := by
  have e0 : xIf (xTru (xVar 2)) (xFld 1 0 (xFld 0 0 (xVar 0))) (xFld 1 1 (xFld 0 0 (xVar 0))) [some (.m p), some (encC4 c), some (.bl ar), some (.bl go), none] M = .ok (.tup ((sort3 (if ar = true then R else O)).map encD)) M := by
    cases ar with
    | true => exact xif_t (xtru rfl rfl) (xfld (xfld rfl h rfl) hr rfl)
    | false => exact xif_f (xtru rfl rfl) (xfld (xfld rfl h rfl) hr rfl)
  generalize hL : (if ar = true then R else O) = L at e0
  have e1 : xTup (xCons (xBin gIx (xVar 1) (xC (.int 0))) (xCons (xBin gIx (xVar 1) (xC (.int 1))) (xCons (xCall gMin2 (xCons (xC (.int 2)) (xCons (xBin gAdd (xBin gIx (xVar 1) (xC (.int 2))) (xCall gInt (xCons (xVar 3) xNil))) xNil))) xNil))) [some (.m p), some (encC4 c), some (.bl ar), some (.bl go), some (.tup ((sort3 L).map encD))] M = .ok (encD (keyC c go)) M :=
    xtup (xcons (xbin rfl rfl rfl) (xcons (xbin rfl rfl rfl) (xone (xcall (xcons rfl (xone (xbin (xbin rfl rfl rfl) (xcall (xone rfl) rfl) rfl))) rfl))))
  have e2 := xtst (fa := xBin gNotIn _ (xVar 4)) (xbin e1 rfl notin_t)
  have em : (keyC c go ∈ sort3 L) ↔ (keyC c go ∈ L) := (sort3_perm L).mem_iff
  unfold lets
  rw [hL]
  by_cases hm : keyC c go ∈ L
  · rw [decide_eq_true (em.mpr hm)] at e2
    rw [if_pos hm]
    refine fn_rt rfl (seq_nx (asg e0) (seq_nx (if_f e2 rfl) (ret ?_)))
    by_cases hz : c.2.2.1 = 0
    · rw [if_pos hz]
      exact xif_t (xtst (xbin (xbin rfl rfl rfl) rfl (by show Rs.ok (D.bl (decide (c.2.2.1 = 0))) M = _; rw [decide_eq_true hz]))) (xnotV (xbin rfl rfl rfl))
    · rw [if_neg hz]
      exact xif_f (xtst (xbin (xbin rfl rfl rfl) rfl (by show Rs.ok (D.bl (decide (c.2.2.1 = 0))) M = _; rw [decide_eq_false hz]))) (xbin (xbin rfl rfl rfl) (xfld rfl h rfl) (by rw [← hs.av]; exact in_b hl))
  · rw [decide_eq_false (fun z => hm (em.mp z))] at e2
    rw [if_neg hm]
    exact fn_rt rfl (seq_nx (asg e0) (seq_rt (if_t e2 (ret rfl))))
theorem is_cell_ok (c : C4) (hc : 0 ≤ c.2.2.1 ∧ c.2.2.1 ≤ 2) (M : Mem) : ∃ M', d_is_cell [encC4 c] M = .ok (.bl true) M' ∧ Fr [] M M' := by
  have c1 : xLc (xTup (xCons (xC (.int 0)) (xCons (xC (.int 1)) (xCons (xC (.int 3)) xNil)))) (tgName 1) xYes (xCall gIsi (xCons (xBin gIx (xVar 0) (xVar 1)) (xCons (xC (.ty "bool")) xNil))) [1] [some (encC4 c), none] M = .ok (.m M.length) (M ++ [.lst ([true, true, true].map D.bl)]) := by
    have := xlc_p (vs := [1]) (tt := xYes) (te := xCall gIsi (xCons (xBin gIx (xVar 0) (xVar 1)) (xCons (xC (.ty "bool")) xNil))) (tg := tgName 1) (fa := xTup (xCons (xC (.int 0)) (xCons (xC (.int 1)) (xCons (xC (.int 3)) xNil)))) (δ := [some (encC4 c), none]) (M := M) (φ := fun _ => some (.bl true)) (xtup rfl) (.inl rfl) (Nat.le_of_lt (line_big (by decide))) (fun d hd => by
      have : d = .int 0 ∨ d = .int 1 ∨ d = .int 3 := by simpa using hd
      rcases this with rfl | rfl | rfl <;> exact p_push rfl (fun M => rfl) fun acc => xcall (xcons (xbin rfl rfl rfl) (xone rfl)) rfl)
    exact this
  refine ⟨M ++ [.lst ([true, true, true].map D.bl)], fn_rt rfl (seq_nx (if_f (xor_f (b := false) (xnot (b := true) (xtru rfl rfl)) (xor_f (b := false) (xtst rfl) (xtru (b := false) rfl rfl))) rfl) (seq_nx (if_f (xnot (b := true) (xtru (xcall (xone c1) (all_m at_new)) rfl)) rfl) (ret (xandV (b := true) (xcall (xcons (xbin rfl rfl rfl) (xone rfl)) rfl) (fun _ => ?_) fun z => by cases z)))), Fr.app⟩
  refine xchain (b := true) rfl (xbin rfl rfl rfl) (by show Rs.ok (D.bl (decide (0 ≤ c.2.2.1))) _ = _; rw [decide_eq_true hc.1]) (fun _ => ?_) (fun z => by cases z)
  show Rs.ok (D.bl (decide (c.2.2.1 ≤ 2))) _ = _
  rw [decide_eq_true hc.2]
theorem is_let_ok {M : Mem} {rk : Nat} {R O : List T3} (hr : RuleObj M rk R O) (gO : GoodK O) (c : C4) (hc : 0 ≤ c.2.2.1 ∧ c.2.2.1 ≤ 2) (ar go : Bool) :
    ∃ M', d_is_let [.m rk, encC4 c, .bl ar, .bl go] M = .ok (.bl (lets R O c ar go)) M' ∧ Fr [] M M' := by
  obtain ⟨M1, e1, f1⟩ := is_cell_ok c hc M
  have hr1 : RuleObj M1 rk R O := f1.get hr (by simp)
  obtain ⟨ℓ, kvs, M2, e2, f2, h1, h2, h3⟩ := make_ok (as := xCons (xVar 0) xNil) (δ := [some (.m rk), some (encC4 c), some (.bl ar), some (.bl go)]) (M := M1) (xone rfl) hr1 gO
  have hr2 : RuleObj M2 rk R O := f2.get hr1 (by simp)
  exact ⟨M2, fn_rt rfl (ret (xandV (b := true) (xcall (xone rfl) e1) (fun _ => xcall (xcons e2 (xcons rfl (xcons rfl (xone rfl)))) (let_by_ok h1 hr2 h2 h3 c ar go)) fun z => by cases z)), f1.trans f2⟩
/-- what is no cell is not let -/
theorem odd_let {M M1 : Mem} {x r : D} {ar go : D} (h : d_is_cell [x] M = .ok (.bl false) M1) : d_is_let [r, x, ar, go] M = .ok (.bl false) M1 :=
  fn_rt rfl (ret (xandV (b := false) (xcall (xone rfl) h) (fun z => by cases z) fun _ => rfl))
def cells24 : List C4 := (List.range 24).map fun i => (decide (12 ≤ i), decide (i / 6 % 2 = 1), ((i / 2 % 3 : Nat) : Int), decide (i % 2 = 1))
theorem cells_ok (M : Mem) : d_law_all_cells [] M = .ok (.m M.length) (M ++ [.lst (cells24.map encC4)]) := by
  have c1 : xLcR1 (xCons (xC (.int 24)) xNil) (tgName 0) xYes (xTup (xCons (xBin (gOrd fun i j => decide (j ≤ i)) (xVar 0) (xC (.int 12))) (xCons (xBin gEq (xBin gMod (xBin gDiv (xCall gInt (xCons (xVar 0) xNil)) (xC (.int 6))) (xC (.int 2))) (xC (.int 1))) (xCons (xBin gMod (xBin gDiv (xCall gInt (xCons (xVar 0) xNil)) (xC (.int 2))) (xC (.int 3))) (xCons (xBin gEq (xBin gMod (xCall gInt (xCons (xVar 0) xNil)) (xC (.int 2))) (xC (.int 1))) xNil))))) [0] [none] M = .ok (.m M.length) (M ++ [.lst (cells24.map encC4)]) := by
    refine xlcr1 (j := 24) (fun d => match d with | .int i => some (encC4 (decide (12 ≤ i), decide (i / 6 % 2 = 1), i / 2 % 3, decide (i % 2 = 1))) | _ => none) rfl (by decide) (by decide) fun x hx => ?_
    simp only [rangeD, List.mem_map] at hx
    obtain ⟨i, _, rfl⟩ := hx
    exact pure_push rfl (fun M => rfl) fun M acc _ => rfl
  exact fn_rt rfl (ret c1)
theorem cells_good : ∀ c ∈ cells24, 0 ≤ c.2.2.1 ∧ c.2.2.1 ≤ 2 := by decide +kernel
end K29
namespace K29
open PySem J
def OddP (x : D) (M' : Mem) : Prop := ∀ M2, Fr [] M' M2 → ∃ M1, d_is_cell [x] M2 = .ok (.bl false) M1 ∧ Fr [] M2 M1
theorem odd_first {x : D} {M : Mem} (h : gIsi [x, .ty "tuple"] M = .ok (.bl false) M) : d_is_cell [x] M = .ok (.bl false) M :=
  fn_rt rfl (seq_rt (if_t (xor_t (xnot (b := false) (xtru (xcall (xcons rfl (xone rfl)) h) rfl))) (ret rfl)))
theorem odd_list {k : Nat} {xs : List D} {M : Mem} (h : M[k]? = some (.lst xs)) : OddP (.m k) M := fun M2 f => by
  refine ⟨M2, odd_first ?_, Fr.refl⟩
  have e : tyName (.m k) M2 = some "list" := by
    show (match M2[k]? with | some (.lst _) => some "list" | some (.dct _) => some "dict" | _ => none) = _
    rw [f.get h (by simp)]
  unfold gIsi
  show (match (tyName (.m k) M2).bind (L2.kitB · "tuple") with | some r => Rs.ok (D.bl r) M2 | none => .stuck) = _
  rw [e]; rfl
theorem odd_flat {x : D} (h : ∀ M, gIsi [x, .ty "tuple"] M = .ok (.bl false) M) (M : Mem) : OddP x M := fun M2 _ => ⟨M2, odd_first (h M2), Fr.refl⟩
theorem odd_len {xs : List D} (h : decide ((xs.length : Int) = 4) = false) (M : Mem) : OddP (.tup xs) M := fun M2 _ => by
  refine ⟨M2, fn_rt rfl (seq_rt (if_t (xor_f (xnot (b := true) (xtru rfl rfl)) (xor_t (xtst (b := true) (xbin (xcall (xone rfl) rfl) rfl ?_)))) (ret rfl))), Fr.refl⟩
  show Rs.ok (D.bl (!decide ((xs.length : Int) = 4))) M2 = _
  rw [h]; rfl
theorem odd_two {a b n e : D} (h : ∀ M, gIsi [n, .ty "bool"] M = .ok (.bl true) M) (M : Mem) : OddP (.tup [a, b, n, e]) M := fun M2 _ =>
  ⟨M2, fn_rt rfl (seq_rt (if_t (xor_f (b := true) (xnot (b := true) (xtru rfl rfl)) (xor_f (xtst (b := false) (xbin (xcall (xone rfl) rfl) rfl rfl)) (xtru (b := true) (xcall (xcons (xbin rfl rfl rfl) (xone rfl)) (h M2)) rfl))) (ret rfl))), Fr.refl⟩
theorem odd_four {a b n e : D} {q0 q1 q3 : Bool} (h0 : ∀ M, gIsi [a, .ty "bool"] M = .ok (.bl q0) M) (h1 : ∀ M, gIsi [b, .ty "bool"] M = .ok (.bl q1) M) (h3 : ∀ M, gIsi [e, .ty "bool"] M = .ok (.bl q3) M) (hn : ∀ M, gIsi [n, .ty "bool"] M = .ok (.bl false) M)
    (hf : [q0, q1, q3].all id = false ∨ ∀ M, xAndV (xCall gIsi (xCons (xBin gIx (xVar 0) (xC (.int 2))) (xCons (xC (.ty "int")) xNil))) (xChain (gOrd fun i j => decide (i ≤ j)) (gOrd fun i j => decide (i ≤ j)) (xC (.int 0)) (xBin gIx (xVar 0) (xC (.int 2))) (xC (.int 2))) [some (.tup [a, b, n, e]), none] M = .ok (.bl false) M) (M : Mem) : OddP (.tup [a, b, n, e]) M := fun M2 _ => by
  have c1 : xLc (xTup (xCons (xC (.int 0)) (xCons (xC (.int 1)) (xCons (xC (.int 3)) xNil)))) (tgName 1) xYes (xCall gIsi (xCons (xBin gIx (xVar 0) (xVar 1)) (xCons (xC (.ty "bool")) xNil))) [1] [some (.tup [a, b, n, e]), none] M2 = .ok (.m M2.length) (M2 ++ [.lst ([q0, q1, q3].map D.bl)]) := by
    have := xlc_p (vs := [1]) (tt := xYes) (te := xCall gIsi (xCons (xBin gIx (xVar 0) (xVar 1)) (xCons (xC (.ty "bool")) xNil))) (tg := tgName 1) (fa := xTup (xCons (xC (.int 0)) (xCons (xC (.int 1)) (xCons (xC (.int 3)) xNil)))) (δ := [some (.tup [a, b, n, e]), none]) (M := M2) (φ := fun d => match d with | .int 0 => some (.bl q0) | .int 1 => some (.bl q1) | _ => some (.bl q3)) (xtup rfl) (.inl rfl) (Nat.le_of_lt (line_big (by decide))) (fun d hd => by
      have : d = .int 0 ∨ d = .int 1 ∨ d = .int 3 := by simpa using hd
      rcases this with rfl | rfl | rfl
      · exact p_push rfl (fun M => rfl) fun acc => xcall (xcons (xbin rfl rfl rfl) (xone rfl)) (h0 _)
      · exact p_push rfl (fun M => rfl) fun acc => xcall (xcons (xbin rfl rfl rfl) (xone rfl)) (h1 _)
      · exact p_push rfl (fun M => rfl) fun acc => xcall (xcons (xbin rfl rfl rfl) (xone rfl)) (h3 _))
    exact this
  have s1 : ∀ {g : SF} {R : Rs Fl}, g [some (.tup [a, b, n, e]), none] M2 = R → sSeq (sIf (xOr (xNot (xTru (xCall gIsi (xCons (xVar 0) (xCons (xC (.ty "tuple")) xNil))))) (xOr (xTst (xBin gNe (xCall gLen (xCons (xVar 0) xNil)) (xC (.int 4)))) (xTru (xCall gIsi (xCons (xBin gIx (xVar 0) (xC (.int 2))) (xCons (xC (.ty "bool")) xNil))))))
  (sRet (xC (.bl false)))
  sSkip) g [some (.tup [a, b, n, e]), none] M2 = R := fun e =>
    seq_nx (if_f (xor_f (b := false) (xnot (b := true) (xtru rfl rfl)) (xor_f (xtst (b := false) (xbin (xcall (xone rfl) rfl) rfl rfl)) (xtru (b := false) (xcall (xcons (xbin rfl rfl rfl) (xone rfl)) (hn M2)) rfl))) rfl) e
  have t2 : ∀ q, [q0, q1, q3].all id = q → xNot (xTru (xCall gAll (xCons (xLc (xTup (xCons (xC (.int 0)) (xCons (xC (.int 1)) (xCons (xC (.int 3)) xNil)))) (tgName 1) xYes (xCall gIsi (xCons (xBin gIx (xVar 0) (xVar 1)) (xCons (xC (.ty "bool")) xNil))) [1]) xNil))) [some (.tup [a, b, n, e]), none] M2 = .ok (!q) (M2 ++ [.lst ([q0, q1, q3].map D.bl)]) := fun q hq => by
    subst hq
    exact xnot (xtru (xcall (xone c1) (all_m at_new)) rfl)
  rcases hf with hf | hf
  · exact ⟨_, fn_rt rfl (s1 (seq_rt (if_t (t2 false hf) (ret rfl)))), Fr.app⟩
  · cases hq : [q0, q1, q3].all id with
    | false => exact ⟨_, fn_rt rfl (s1 (seq_rt (if_t (t2 false hq) (ret rfl)))), Fr.app⟩
    | true => exact ⟨_, fn_rt rfl (s1 (seq_nx (if_f (t2 true hq) rfl) (ret (hf _)))), Fr.app⟩
theorem odd_ok (M : Mem) : ∃ (q : Nat) (M' : Mem) (xs : List D), d_law_odd_cells [] M = .ok (.m q) M' ∧ Fr [] M M' ∧ M'[q]? = some (.lst xs) ∧ xs.length = 16 ∧ ∀ x ∈ xs, OddP x M' := by
  let M1 := M ++ [MO.lst []]
  let M2 := M1 ++ [MO.lst [.bl false, .bl false, .int 0, .bl false]]
  let L1 : List D := [.non, .tup [], .m M.length, .int 0, .str "cell", .tup [.bl false, .bl false, .int 0], .m M1.length, .tup [.bl false, .bl false, .int 3, .bl false]]
  let L2 : List D := [.tup [.bl false, .bl false, .int (-1), .bl false], .tup [.bl false, .bl false, .bl true, .bl false], .tup [.int 0, .bl false, .int 0, .bl false], .tup [.bl false, .int 1, .int 0, .bl false]]
  let L3 : List D := [.tup [.bl false, .bl false, .int 0, .int 0], .tup [.bl false, .bl false, .str "0", .bl false], .tup [.non, .non, .int 0, .non]]
  let L4 : List D := [.tup [.bl false, .bl false, .int 0, .bl false, .bl false]]
  let M3 := M2 ++ [MO.lst L1]
  let M4 := M3 ++ [MO.lst L2]
  let M5 := M4 ++ [MO.lst (L1 ++ L2)]
  let M6 := M5 ++ [MO.lst L3]
  let M7 := M6 ++ [MO.lst (L1 ++ L2 ++ L3)]
  let M8 := M7 ++ [MO.lst L4]
  let M9 := M8 ++ [MO.lst (L1 ++ L2 ++ L3 ++ L4)]
  have a0 : M1[M.length]? = some (.lst []) := at_new
  have a1 : M2[M1.length]? = some (.lst [.bl false, .bl false, .int 0, .bl false]) := at_new
  have b0 : M9[M.length]? = some (.lst []) := at_app (at_app (at_app (at_app (at_app (at_app (at_app (at_app a0)))))))
  have b1 : M9[M1.length]? = some (.lst [.bl false, .bl false, .int 0, .bl false]) := at_app (at_app (at_app (at_app (at_app (at_app (at_app a1))))))
  refine ⟨M8.length, M9, L1 ++ L2 ++ L3 ++ L4, fn_rt rfl (seq_nx (asg (d := .m M2.length) (M1 := M3) (xlst (xcons rfl (xcons (xtup rfl) (xcons (xlst rfl) (xcons rfl (xcons rfl (xcons (xtup rfl) (xcons (xlst rfl) (xone (xtup rfl)))))))))))
    (seq_nx (asg (d := .m M4.length) (M1 := M5) (xbin (y := .m M3.length) (M2 := M4) rfl (xlst (xcons (xtup rfl) (xcons (xtup rfl) (xcons (xtup rfl) (xone (xtup rfl)))))) (add_m (at_app (at_new (M := M2))) (at_new (M := M3)) (Nat.le_of_ble_eq_true rfl))))
    (seq_nx (asg (d := .m M6.length) (M1 := M7) (xbin (y := .m M5.length) (M2 := M6) rfl (xlst (xcons (xtup rfl) (xcons (xtup rfl) (xone (xtup rfl))))) (add_m (at_app (at_new (M := M4))) (at_new (M := M5)) (Nat.le_of_ble_eq_true rfl))))
    (ret (xbin (y := .m M7.length) (M2 := M8) rfl (xlst (xone (xtup rfl))) (add_m (at_app (at_new (M := M6))) (at_new (M := M7)) (Nat.le_of_ble_eq_true rfl))))))),
    ((((((((Fr.app (M := M)).trans Fr.app).trans Fr.app).trans Fr.app).trans Fr.app).trans Fr.app).trans Fr.app).trans Fr.app).trans Fr.app, at_new, rfl, ?_⟩
  intro x hx
  have hx' : x = .non ∨ x = .tup [] ∨ x = .m M.length ∨ x = .int 0 ∨ x = .str "cell" ∨ x = .tup [.bl false, .bl false, .int 0] ∨ x = .m M1.length ∨ x = .tup [.bl false, .bl false, .int 3, .bl false] ∨ x = .tup [.bl false, .bl false, .int (-1), .bl false] ∨ x = .tup [.bl false, .bl false, .bl true, .bl false] ∨ x = .tup [.int 0, .bl false, .int 0, .bl false] ∨ x = .tup [.bl false, .int 1, .int 0, .bl false] ∨ x = .tup [.bl false, .bl false, .int 0, .int 0] ∨ x = .tup [.bl false, .bl false, .str "0", .bl false] ∨ x = .tup [.non, .non, .int 0, .non] ∨ x = .tup [.bl false, .bl false, .int 0, .bl false, .bl false] := by
    simpa [L1, L2, L3, L4] using hx
  rcases hx' with rfl | rfl | rfl | rfl | rfl | rfl | rfl | rfl | rfl | rfl | rfl | rfl | rfl | rfl | rfl | rfl
  · exact odd_flat (fun _ => rfl) _
  · exact odd_len rfl _
  · exact odd_list b0
  · exact odd_flat (fun _ => rfl) _
  · exact odd_flat (fun _ => rfl) _
  · exact odd_len rfl _
  · exact odd_list b1
  · exact odd_four (fun _ => rfl) (fun _ => rfl) (fun _ => rfl) (fun _ => rfl) (.inr fun _ => xandV (b := true) (xcall (xcons (xbin rfl rfl rfl) (xone rfl)) rfl) (fun _ => xchain (b := true) rfl (xbin rfl rfl rfl) rfl (fun _ => rfl) fun z => by cases z) fun z => by cases z) _
  · exact odd_four (fun _ => rfl) (fun _ => rfl) (fun _ => rfl) (fun _ => rfl) (.inr fun _ => xandV (b := true) (xcall (xcons (xbin rfl rfl rfl) (xone rfl)) rfl) (fun _ => xchain (b := false) rfl (xbin rfl rfl rfl) rfl (fun z => by cases z) fun _ => rfl) fun z => by cases z) _
  · exact odd_two (fun _ => rfl) _
  · exact odd_four (fun _ => rfl) (fun _ => rfl) (fun _ => rfl) (fun _ => rfl) (.inl rfl) _
  · exact odd_four (fun _ => rfl) (fun _ => rfl) (fun _ => rfl) (fun _ => rfl) (.inl rfl) _
  · exact odd_four (fun _ => rfl) (fun _ => rfl) (fun _ => rfl) (fun _ => rfl) (.inl rfl) _
  · exact odd_four (fun _ => rfl) (fun _ => rfl) (fun _ => rfl) (fun _ => rfl) (.inr fun _ => xandV (b := false) (xcall (xcons (xbin rfl rfl rfl) (xone rfl)) rfl) (fun z => by cases z) fun _ => rfl) _
  · exact odd_four (fun _ => rfl) (fun _ => rfl) (fun _ => rfl) (fun _ => rfl) (.inl rfl) _
  · exact odd_len rfl _
end K29
namespace K29
open PySem L2 J
def spLaw (K : PySem.W.Frag) : Sp := fun vs H Q _ => ∃ (a : Addr) (ns : List Int), vs = [.ref a] ∧ SqL K H a (ns.map V.int) ∧ ns.length ≤ 63 ∧ Only H ∧ ∀ H', Q (.bl true) H'
theorem fz_only {K : PySem.W.Frag} {H : Hp} {a : Addr} {xs : List V} (h : SqL K H a xs) (o : Only H) : FzL K H a xs := by
  rcases h with (h | h) | h
  · rcases o a with z | ⟨b, ys, z⟩
    · rw [h] at z; cases z
    · rw [h] at z; cases z
  · exact .inl h
  · exact .inr h
def Law29 : Prop := ∀ ns : List Int, ns.length ≤ 63 → ∃ M', d_law [.rl (ns.map .int)] [] = .ok (.bl true) M'
theorem law_spF' (hl : Law29) {P : Program} {w : World} {K : PySem.W.Frag} {ct : List (Addr × List Str)} {vs : List V} {H : Hp} {Q : VK} {E : XK} (h : spLaw K vs H Q E) : spF ⟨P, w, K, ct⟩ d_law vs H Q E := by
  obtain ⟨a, ns, rfl, hS, hn, hO, hQ⟩ := h
  obtain ⟨M', e⟩ := hl ns hn
  refine ⟨[], [], [.rl (ns.map .int)], .cons (.rl (fz_only hS hO) .of_ints) .nil, ⟨rfl, List.nodup_nil, fun k o e => by simp at e⟩, ?_⟩
  rw [e]
  intro ρ' H' v _ _ rv
  rw [rv.bl_of]
  exact hQ H'
end K29
namespace K29
open PySem J
/-- a loop whose turns only add cells -/
theorem forK_ok {f : D → SF} {k : Nat} {xs : List D} {δ : Dv} {M : Mem} (S : Dv → Prop) (hx : M[k]? = some (.lst xs)) (h0 : S δ) (step : ∀ x ∈ xs, ∀ δ M', S δ → Fr [] M M' → ∃ δ2 M2, f x δ M' = .ok (.nx δ2) M2 ∧ S δ2 ∧ Fr [] M' M2) :
    ∃ δ2 M2, loopK f wId k (xs.length + 1) 0 δ M = .ok (.nx δ2) M2 ∧ S δ2 ∧ Fr [] M M2 := by
  have main : Ok (loopK f wId k (xs.length + 1) 0 δ M) fun fl M2 => ∃ δ2, fl = .nx δ2 ∧ S δ2 ∧ Fr [] M M2 := by
    refine ok_loopK (fun _ δ M' => S δ ∧ Fr [] M M') ⟨h0, Fr.refl⟩ (fun i δ M' h => h.2.get hx (by simp)) (fun i x δ M' e h => ?_) fun δ M' h => ⟨δ, rfl, h⟩
    obtain ⟨hl, ex⟩ := List.getElem?_eq_some_iff.mp e
    obtain ⟨δ2, M2, e2, s2, f2⟩ := step x (ex ▸ List.getElem_mem hl) δ M' h.1 h.2
    show Ok (f x δ M') _
    rw [e2]
    exact ⟨s2, h.2.trans f2⟩
  obtain ⟨fl, M2, e, δ2, rfl, s, fr⟩ := main.ex
  exact ⟨δ2, M2, e, s, fr⟩
theorem sfor_ok {fa : EF} {tg : GF} {b : SF} {k : Nat} {xs : List D} {δ : Dv} {M M1 : Mem} (S : Dv → Prop) (hs : fa δ M = .ok (.m k) M1) (f1 : Fr [] M M1) (hx : M1[k]? = some (.lst xs)) (h0 : S δ) (step : ∀ x ∈ xs, ∀ δ M', S δ → Fr [] M1 M' → ∃ δ2 M2, bodyF tg b x δ M' = .ok (.nx δ2) M2 ∧ S δ2 ∧ Fr [] M' M2) :
    ∃ δ2 M2, sFor fa tg b δ M = .ok (.nx δ2) M2 ∧ S δ2 ∧ Fr [] M M2 := by
  obtain ⟨δ2, M2, e, s, fr⟩ := forK_ok (f := bodyF tg b) S hx h0 step
  refine ⟨δ2, M2, ?_, s, f1.trans fr⟩
  unfold sFor
  rw [hs]
  show (match M1[k]? with
    | some (.lst xs) => loopK (bodyF tg b) wId k (xs.length + 1) 0 δ M1
    | _ => .stuck) = _
  rw [hx]
  exact e
abbrev both : EF := xLst (xCons (xC (.bl false)) (xCons (xC (.bl true)) xNil))
theorem both_ok {δ : Dv} {M : Mem} : both δ M = .ok (.m M.length) (M ++ [.lst [.bl false, .bl true]]) := xlst (xcons rfl (xone rfl))
theorem for2_ok {tg : GF} {b : SF} {δ : Dv} {M : Mem} (S : Dv → Prop) (h0 : S δ) (step : ∀ (z : Bool) δ M', S δ → Fr [] M M' → ∃ δ2 M2, bodyF tg b (.bl z) δ M' = .ok (.nx δ2) M2 ∧ S δ2 ∧ Fr [] M' M2) :
    ∃ δ2 M2, sFor both tg b δ M = .ok (.nx δ2) M2 ∧ S δ2 ∧ Fr [] M M2 :=
  sfor_ok S both_ok Fr.app at_new h0 fun x hx δ M' s fr => by
    have : ∃ z, x = .bl z := by
      simp at hx
      rcases hx with rfl | rfl <;> exact ⟨_, rfl⟩
    obtain ⟨z, rfl⟩ := this
    exact step z δ M' s (Fr.app.trans fr)
/-- what stands while a turn is judged -/
structure Turn' (M : Mem) (d : D) (rk ℓ : Nat) (R O : List T3) : Prop where
  rule : RuleAt d R O M
  obj : RuleObj M rk R O
  kv : ∃ kvs, M[ℓ]? = some (.bd kvs) ∧ KvI kvs (cF O, B O (cF O))
theorem RuleAt.fr {M M' : Mem} {d : D} {R O : List T3} (h : RuleAt d R O M) (f : Fr [] M M') : RuleAt d R O M' := by
  obtain ⟨r, o, e, hr, ho, g1, g2⟩ := h
  exact ⟨r, o, e, f.get hr (by simp), f.get ho (by simp), g1, g2⟩
theorem RuleObj.fr {M M' : Mem} {rk : Nat} {R O : List T3} (h : RuleObj M rk R O) (f : Fr [] M M') : RuleObj M' rk R O := f.get h (by simp)
theorem Turn'.fr {M M' : Mem} {d : D} {rk ℓ : Nat} {R O : List T3} (h : Turn' M d rk ℓ R O) (f : Fr [] M M') : Turn' M' d rk ℓ R O := by
  obtain ⟨h1, h2, kvs, h3, h4⟩ := h
  exact ⟨h1.fr f, h2.fr f, kvs, f.get h3 (by simp), h4⟩
theorem Turn'.good {M : Mem} {d : D} {rk ℓ : Nat} {R O : List T3} (h : Turn' M d rk ℓ R O) : GoodK O := by
  obtain ⟨⟨r, o, e, hr, ho, g1, g2⟩, _⟩ := h
  exact g2
abbrev wordsBody : SF := (sIf (xTst (xBin gNe (xCall d_least_part (xCons (xVar 6) (xCons (xVar 4) xNil))) (xDGet1 (xVar 7) (xVar 4))))
  (sRet (xC (.bl false)))
  sSkip)
theorem ne_due (s : S2) (z : Bool) (M : Mem) : gNe (dueW s z) (dueW s z) M = .ok (.bl false) M := by
  unfold dueW
  split
  · show Rs.ok (D.bl (!decide (wC s z = wC s z))) M = _
    rw [decide_eq_true rfl]; rfl
  · rfl
theorem words_ok {M : Mem} {d : D} {rk ℓ : Nat} {R O : List T3} (h : Turn' M d rk ℓ R O) {v0 v1 v2 v3 v5 v8 v9 v10 v11 : Option D} (z : Bool) :
    ∃ M2, wordsBody [v0, v1, v2, v3, some (.bl z), v5, some (.m rk), some (.m ℓ), v8, v9, v10, v11] M = .ok (.nx [v0, v1, v2, v3, some (.bl z), v5, some (.m rk), some (.m ℓ), v8, v9, v10, v11]) M2 ∧ Fr [] M M2 := by
  obtain ⟨M2, e, f⟩ := least_ok z h.obj h.good
  obtain ⟨_, _, kvs, h3, h4⟩ := h.fr f
  exact ⟨M2, if_f (xtst (xbin (xcall (xcons rfl (xone rfl)) e) (xdget1 rfl (isD_b h3) rfl (lk_b h3)) (by rw [h4.get]; exact ne_due _ _ _))) rfl, f⟩
abbrev cellBody : SF := (sSeq (sAsg (xCall d_law_lets (xCons (xVar 3) (xCons (xVar 7) (xCons (xVar 9) (xCons (xVar 5) (xCons (xVar 8) xNil)))))) (tgName 10))
  (sIf (xTst (xBin gNe (xCall gRepr (xCons (xCall d_is_let (xCons (xVar 6) (xCons (xVar 9) (xCons (xVar 5) (xCons (xVar 8) xNil))))) xNil)) (xCall gRepr (xCons (xVar 10) xNil))))
  (sRet (xC (.bl false)))
  sSkip))
theorem cell_ok {M : Mem} {d : D} {rk ℓ : Nat} {R O : List T3} (h : Turn' M d rk ℓ R O) {v0 v1 v2 v4 v10 v11 : Option D} (ar go : Bool) (c : C4) (hc : 0 ≤ c.2.2.1 ∧ c.2.2.1 ≤ 2) :
    ∃ w M2, cellBody [v0, v1, v2, some d, v4, some (.bl ar), some (.m rk), some (.m ℓ), some (.bl go), some (encC4 c), v10, v11] M = .ok (.nx [v0, v1, v2, some d, v4, some (.bl ar), some (.m rk), some (.m ℓ), some (.bl go), some (encC4 c), w, v11]) M2 ∧ Fr [] M M2 := by
  obtain ⟨kvs, h3, h4⟩ := h.kv
  obtain ⟨M2, e, f⟩ := is_let_ok h.obj h.good c hc ar go
  refine ⟨_, M2, seq_nx (asg (xcall (xcons rfl (xcons rfl (xcons rfl (xcons rfl (xone rfl))))) (lets_ok h.rule h3 h4 c ar go))) (if_f (xtst (xbin (xcall (xone (xcall (xcons rfl (xcons rfl (xcons rfl (xone rfl)))) e)) rfl) (xcall (xone rfl) rfl) ?_)) rfl), f⟩
  cases lets R O c ar go <;> rfl
theorem any_rep (n : Nat) : (List.replicate n false).any id = false := by
  induction n with
  | zero => rfl
  | succ n ih => simp [List.replicate_succ]
abbrev oddIf : SF := (sIf (xTru (xCall gAny (xCons (xLc (xCall d_law_odd_cells xNil) (tgName 11) xYes (xBin (gIs true) (xCall d_is_let (xCons (xVar 6) (xCons (xVar 11) (xCons (xVar 5) (xCons (xVar 8) xNil))))) (xC (.bl false))) [11]) xNil)))
  (sRet (xC (.bl false)))
  sSkip)
theorem odds_ok {M : Mem} {v0 v1 v2 v3 v4 v7 v9 v10 : Option D} {r ar go : D} :
    ∃ M2, oddIf [v0, v1, v2, v3, v4, some ar, some r, v7, some go, v9, v10, none] M = .ok (.nx [v0, v1, v2, v3, v4, some ar, some r, v7, some go, v9, v10, none]) M2 ∧ Fr [] M M2 := by
  obtain ⟨q, M1, xs, e, f1, hq, hlen, hodd⟩ := odd_ok M
  have main : Ok (xLc (xCall d_law_odd_cells xNil) (tgName 11) xYes (xBin (gIs true) (xCall d_is_let (xCons (xVar 6) (xCons (xVar 11) (xCons (xVar 5) (xCons (xVar 8) xNil))))) (xC (.bl false))) [11] [v0, v1, v2, v3, v4, some ar, some r, v7, some go, v9, v10, none] M) fun d M2 => d = .m M1.length ∧ M2[M1.length]? = some (.lst ((List.replicate 16 false).map D.bl)) ∧ Fr [] M1 M2 := by
    unfold xLc
    rw [xcall (δ := [v0, v1, v2, v3, v4, some ar, some r, v7, some go, v9, v10, none]) (as := xNil) (M := M) rfl e]
    show Ok ((compS _ (.m q) (M1 ++ [.lst []])).bind _) _
    rw [Ok.bind]
    show Ok (match (M1 ++ [MO.lst []])[q]? with | some (.lst xs) => compK _ q (xs.length + 1) 0 (M1 ++ [MO.lst []]) | _ => .stuck) _
    rw [at_app hq]
    refine ok_compK (xs := xs) (fun i M' => M'[M1.length]? = some (.lst ((List.replicate i false).map D.bl)) ∧ Fr [] M1 M' ∧ i ≤ 16) ⟨at_new, Fr.app, by omega⟩ (fun i M' h => h.2.1.get hq (by simp)) ?_ ?_
    · rintro i x M' ex ⟨g1, fr, hi⟩
      obtain ⟨hl, ex'⟩ := List.getElem?_eq_some_iff.mp ex
      obtain ⟨M2, e2, f2⟩ := hodd x (ex' ▸ List.getElem_mem hl) M' fr
      have a1 := f2.get g1 (by simp)
      show Ok ((xBin (gIs true) (xCall d_is_let (xCons (xVar 6) (xCons (xVar 11) (xCons (xVar 5) (xCons (xVar 8) xNil))))) (xC (.bl false)) [v0, v1, v2, v3, v4, some ar, some r, v7, some go, v9, v10, some x] M').bind fun y M3 => pushK M1.length y M3) _
      rw [xbin (xcall (xcons rfl (xcons rfl (xcons rfl (xone rfl)))) (odd_let e2)) rfl (show gIs true (.bl false) (.bl false) M2 = .ok (.bl false) M2 from rfl)]
      show Ok (pushK M1.length _ M2) _
      rw [push_ok a1 (line_big (by simp; omega))]
      refine ⟨?_, (fr.trans f2).trans_set (Nat.le_refl _), by omega⟩
      rw [at_set (lt_of_at a1), List.replicate_succ', List.map_append]; rfl
    · rintro M' ⟨g1, fr, hi⟩
      rw [hlen] at g1
      exact ⟨rfl, g1, fr⟩
  obtain ⟨d, M2, e2, rfl, g2, f2⟩ := main.ex
  exact ⟨M2, if_f (xtru (d := .bl false) (xcall (xone e2) (any_m g2)) rfl) rfl, f1.trans f2⟩
end K29
namespace K29
open PySem J
theorem pen_ok (ns : List Int) : ∃ M', d_law_pen_of [.rl (ns.map .int)] [] = .ok (.m 0) M' ∧ PenAt 0 2 0 M' := by
  have ec : ∀ (xs : List Int) lo hi, cutA (xs.map D.int) lo hi = (cutA xs lo hi).map D.int := fun xs lo hi => by
    unfold cutA
    rw [List.length_map, List.map_take, List.map_drop]
  let xs := cutA ns none (some 63)
  let M0 : Mem := [MO.dct []]
  let M1 : Mem := [MO.dct [], MO.lst (xs.map D.int)]
  let M2 : Mem := [MO.dct [], MO.lst (xs.map D.int), MO.lst (xs.map D.int)]
  have e1 : xSl (xVar 0) xNoPart (xPart (xC (.int 63))) [some (.rl (ns.map .int))] M0 = .ok (.m 1) M1 := by
    refine xsl rfl rfl rfl ?_
    show Rs.ok (D.m 1) (M0 ++ [MO.lst (cutA (ns.map D.int) none (some 63))]) = _
    rw [ec]; rfl
  have e2 := xpair (k := xC (.str "cells")) (r := [((xC (.str "begun")), (xC (.int 0))), ((xC (.str "left")), (xC (.int 0)))]) rfl (xcall (M1 := M1) (as := xCons (xSl (xVar 0) xNoPart (xPart (xC (.int 63)))) xNil) (xone e1) (list_m (M := M1) (k := 1) (xs := xs.map D.int) rfl)) rfl
  have e3 := xdisp (M := []) (M2 := M2) (kvs := [(.inr "cells", .m 2), (.inr "begun", .int 0), (.inr "left", .int 0)]) e2 rfl rfl (Nat.le_of_ble_eq_true rfl)
  refine ⟨_, fn_rt rfl (ret e3), 0, 0, xs, rfl, rfl, Int.le_refl _, Int.le_refl _⟩
abbrev cellsFor : SF := sFor (xCall d_law_all_cells xNil) (tgName 9) cellBody
abbrev goesFor : SF := sFor both (tgName 8) (sSeq cellsFor oddIf)
abbrev rootsFor : SF := sFor both (tgName 5) goesFor
abbrev wordsFor : SF := sFor both (tgName 4) wordsBody
abbrev turnBody : SF := (sSeq (sAsg (xCall d_law_rule_of (xCons (xVar 1) xNil)) (tgName 3))
  (sSeq (sAsg (xTup (xCons (xCall d_law_rule_made (xCons (xVar 3) xNil)) (xCons (xCall d_law_parts (xCons (xVar 3) xNil)) xNil))) (tgTup 2 (tgCons (tgName 6) (tgCons (tgName 7) tgNil))))
  (sSeq wordsFor rootsFor)))
theorem cellsFor_ok {M : Mem} {d : D} {rk ℓ : Nat} {R O : List T3} (h : Turn' M d rk ℓ R O) {v0 v1 v2 v4 v9 v10 v11 : Option D} (ar go : Bool) :
    ∃ w9 w10 M2, cellsFor [v0, v1, v2, some d, v4, some (.bl ar), some (.m rk), some (.m ℓ), some (.bl go), v9, v10, v11] M = .ok (.nx [v0, v1, v2, some d, v4, some (.bl ar), some (.m rk), some (.m ℓ), some (.bl go), w9, w10, v11]) M2 ∧ Fr [] M M2 := by
  obtain ⟨δ2, M2, e, ⟨w9, w10, rfl⟩, f⟩ := sfor_ok (tg := tgName 9) (b := cellBody) (xs := cells24.map encC4) (δ := [v0, v1, v2, some d, v4, some (.bl ar), some (.m rk), some (.m ℓ), some (.bl go), v9, v10, v11]) (fun δ => ∃ w9 w10, δ = [v0, v1, v2, some d, v4, some (.bl ar), some (.m rk), some (.m ℓ), some (.bl go), w9, w10, v11]) (xcall (as := xNil) rfl (cells_ok M)) Fr.app at_new ⟨_, _, rfl⟩ (by
    rintro x hx δ M' ⟨w9, w10, rfl⟩ fr
    obtain ⟨c, hc, rfl⟩ := List.mem_map.mp hx
    obtain ⟨w, M2, e, f⟩ := cell_ok (v0 := v0) (v1 := v1) (v2 := v2) (v4 := v4) (v10 := w10) (v11 := v11) ((h.fr Fr.app).fr fr) ar go c (cells_good c hc)
    exact ⟨_, M2, e, ⟨_, _, rfl⟩, f⟩)
  exact ⟨w9, w10, M2, e, f⟩
theorem turn_ok {M : Mem} {p c : Nat} {n : Int} (h : PenAt p c n M) (hn : n ≤ 8000) {v0 v2 v3 v4 v5 v6 v7 v8 v9 v10 : Option D} :
    ∃ w3 w4 w5 w6 w7 w8 w9 w10 M2, turnBody [v0, some (.m p), v2, v3, v4, v5, v6, v7, v8, v9, v10, none] M = .ok (.nx [v0, some (.m p), v2, w3, w4, w5, w6, w7, w8, w9, w10, none]) M2 ∧ PenAt p c (n + 40) M2 := by
  obtain ⟨d, R, O, M1, e1, f1, hR, h1⟩ := rule_ok h hn
  obtain ⟨rk, M2, e2, f2, hO⟩ := made_ok hR
  obtain ⟨ℓ, kvs, M3, e3, f3, hl, hs⟩ := parts_ok (hR.fr f2)
  have T : Turn' M3 d rk ℓ R O := ⟨(hR.fr f2).fr f3, hO.fr f3, kvs, hl, hs⟩
  have h3 : PenAt p c (n + 40) M3 := h1.fr (f2.trans f3) (by simp) (by simp)
  obtain ⟨δ4, M4, e4, ⟨w4, rfl⟩, f4⟩ := for2_ok (tg := tgName 4) (b := wordsBody) (δ := [v0, some (.m p), v2, some d, v4, v5, some (.m rk), some (.m ℓ), v8, v9, v10, none]) (M := M3) (fun δ => ∃ w4, δ = [v0, some (.m p), v2, some d, w4, v5, some (.m rk), some (.m ℓ), v8, v9, v10, none]) ⟨_, rfl⟩ (by
    rintro z δ M' ⟨w4, rfl⟩ fr
    obtain ⟨M2, e, f⟩ := words_ok (v0 := v0) (v1 := some (.m p)) (v2 := v2) (v3 := some d) (v5 := v5) (v8 := v8) (v9 := v9) (v10 := v10) (v11 := none) (T.fr fr) z
    exact ⟨_, M2, e, ⟨_, rfl⟩, f⟩)
  obtain ⟨δ5, M5, e5, ⟨w5, w8, w9, w10, rfl⟩, f5⟩ := for2_ok (tg := tgName 5) (b := goesFor) (δ := [v0, some (.m p), v2, some d, w4, v5, some (.m rk), some (.m ℓ), v8, v9, v10, none]) (M := M4) (fun δ => ∃ w5 w8 w9 w10, δ = [v0, some (.m p), v2, some d, w4, w5, some (.m rk), some (.m ℓ), w8, w9, w10, none]) ⟨_, _, _, _, rfl⟩ (by
    rintro ar δ M' ⟨w5, w8, w9, w10, rfl⟩ fr
    obtain ⟨δ6, M6, e6, ⟨x8, x9, x10, rfl⟩, f6⟩ := for2_ok (tg := tgName 8) (b := sSeq cellsFor oddIf) (δ := [v0, some (.m p), v2, some d, w4, some (.bl ar), some (.m rk), some (.m ℓ), w8, w9, w10, none]) (M := M') (fun δ => ∃ x8 x9 x10, δ = [v0, some (.m p), v2, some d, w4, some (.bl ar), some (.m rk), some (.m ℓ), x8, x9, x10, none]) ⟨_, _, _, rfl⟩ (by
      rintro go δ M7 ⟨x8, x9, x10, rfl⟩ fr7
      obtain ⟨y9, y10, M8, e8, f8⟩ := cellsFor_ok (v0 := v0) (v1 := some (.m p)) (v2 := v2) (v4 := w4) (v9 := x9) (v10 := x10) (v11 := none) (((T.fr f4).fr fr).fr fr7) ar go
      obtain ⟨M9, e9, f9⟩ := odds_ok (M := M8) (v0 := v0) (v1 := some (.m p)) (v2 := v2) (v3 := some d) (v4 := w4) (v7 := some (.m ℓ)) (v9 := y9) (v10 := y10) (r := .m rk) (ar := .bl ar) (go := .bl go)
      exact ⟨_, M9, seq_nx e8 e9, ⟨_, _, _, rfl⟩, f8.trans f9⟩)
    exact ⟨_, M6, e6, ⟨_, _, _, _, rfl⟩, f6⟩)
  refine ⟨_, _, _, _, _, _, _, _, M5, seq_nx (asg (xcall (xone rfl) e1)) (seq_nx (asgT (xtup (xcons (xcall (xone rfl) e2) (xone (xcall (xone rfl) e3)))) rfl rfl) (seq_nx e4 e5)), h3.fr (f4.trans f5) (by simp) (by simp)⟩
theorem law29 : Law29 := by
  intro ns hn
  obtain ⟨M0, e0, h0⟩ := pen_ok ns
  have main : Ok (d_law [.rl (ns.map .int)] []) fun d _ => d = .bl true := by
    refine fn_ok' rfl (Ok.seq1 (asg (xcall (xone rfl) e0)) (Ok.seq ?_))
    show Ok (Rs.grd (-(2 ^ 62) ≤ (3 : Int) ∧ (3 : Int) < 2 ^ 62) _) _
    refine Ok.grd (by decide) ?_
    refine ok_loopV (fun i δ M' => (∃ v2 v3 v4 v5 v6 v7 v8 v9 v10, δ = [some (.rl (ns.map .int)), some (.m 0), v2, v3, v4, v5, v6, v7, v8, v9, v10, none]) ∧ PenAt 0 2 (40 * i) M' ∧ i ≤ 3) ⟨⟨_, _, _, _, _, _, _, _, _, rfl⟩, by simpa using h0, by omega⟩ ?_ ?_
    · rintro i x δ M' ex ⟨⟨v2, v3, v4, v5, v6, v7, v8, v9, v10, rfl⟩, hP, hi⟩
      have hi3 : i < 3 := by
        have := (List.getElem?_eq_some_iff.mp ex).1
        simpa [rangeD] using this
      obtain ⟨w3, w4, w5, w6, w7, w8, w9, w10, M2, e, hP2⟩ := turn_ok (v0 := some (.rl (ns.map .int))) (v2 := some x) (v3 := v3) (v4 := v4) (v5 := v5) (v6 := v6) (v7 := v7) (v8 := v8) (v9 := v9) (v10 := v10) hP (by omega)
      show Ok (turnBody [some (.rl (ns.map .int)), some (.m 0), some x, v3, v4, v5, v6, v7, v8, v9, v10, none] M') _
      rw [e]
      exact ⟨⟨_, _, _, _, _, _, _, _, _, rfl⟩, hP2.mono (by omega), by omega⟩
    · rintro δ M' ⟨⟨v2, v3, v4, v5, v6, v7, v8, v9, v10, rfl⟩, hP, hi⟩
      show Ok (sRet (xC (.bl true)) _ M') _
      rw [ret rfl]
      rfl
  obtain ⟨d, M', e, rfl⟩ := main.ex
  exact ⟨M', e⟩
end K29
namespace K29
open PySem L2 J
section
variable {P : Program} {w : World} {K : PySem.W.Frag} {mg : Str → Option Value} {base : Heap} {ct : List (Addr × List Str)} {c_Parts c_Rule a_BOTH : Addr}

theorem sc_law_pen_of : FnScope ["script"] ["script"] (defScope s_law_pen_of) := ⟨rfl, rfl, rfl, by decide +kernel, rfl, by decide +kernel, by decide +kernel⟩
theorem ok_law_pen_of {f : Addr} {fd : FuncData} (F : Fun K "_law_pen_of" "_law_pen_of" s_law_pen_of f fd) (T : Txt K mg ct c_Parts c_Rule a_BOTH)  : FnOk P w K mg base CX0 1 f fd ["script"] (spF ⟨P, w, K, ct⟩ d_law_pen_of) :=
  fn_ok ct F sc_law_pen_of fun cdv A outer s H E hr => ⟨_, (jss_one (js_ret (je_disp (jps_cons je_str (je_cty (kc_list (K := K)) rc_list T.m_list (by decide +kernel) (ja_cons (ke_sl (K := K) (je_var 0) jo_none (jo_some je_int)) ja_nil)) (jps_cons je_str je_int (jps_cons je_str je_int jps_nil))))))⟩
end
end K29
namespace K29
open PySem L2 J
section
variable {P : Program} {w : World} {K : PySem.W.Frag} {mg : Str → Option Value} {base : Heap} {ct : List (Addr × List Str)} {c_Parts c_Rule a_BOTH : Addr}

theorem sc_law_draw : FnScope ["pen", "many", "told", "blend", "digit", "place", "size"] ["pen", "many"] (defScope s_law_draw) := ⟨rfl, rfl, rfl, by decide +kernel, rfl, by decide +kernel, by decide +kernel⟩
theorem ok_law_draw {f : Addr} {fd : FuncData} (F : Fun K "_law_draw" "_law_draw" s_law_draw f fd) (T : Txt K mg ct c_Parts c_Rule a_BOTH)  : FnOk P w K mg base CX0 1 f fd ["pen", "many"] (spF ⟨P, w, K, ct⟩ d_law_draw) :=
  fn_ok ct F sc_law_draw fun cdv A outer s H E hr => ⟨_, (jss_cons (js_if (jt_cmp op_gt ro_ord (ke_dget (P := P) (w := w) (hu_of hr) (je_var 0) je_str) je_int)
  (jss_cons (js_set 4 sc_law_draw.nd (je_mod (je_cty call_int1 rc_int T.m_int (by decide +kernel) (ja_cons (ke_dget (P := P) (w := w) (hu_of hr) (je_var 0) je_str) ja_nil)) (je_var 1)))
  (jss_cons (js_dput (hu_of hr) (je_div (ke_dget (P := P) (w := w) (hu_of hr) (je_var 0) je_str) (je_var 1)) (je_var 0) je_str)
  (jss_one (js_ret (je_var 4)))))
  jss_nil)
  (jss_cons (js_par 5 6 rfl sc_law_draw.nd (ja_cons (ke_dget (P := P) (w := w) (hu_of hr) (je_var 0) je_str) (ja_cons (je_cb (kc_len (K := K)) rc_len T.m_len (by decide +kernel) (ja_cons (ke_dget (P := P) (w := w) (hu_of hr) (je_var 0) je_str) ja_nil)) ja_nil)))
  (jss_cons (js_dput (hu_of hr) (ke_add (K := K) (je_var 5) je_int) (je_var 0) je_str)
  (jss_cons (js_set 2 sc_law_draw.nd (je_if (jt_cmp op_gt ro_ord (je_var 6) je_int) (ke_ixs (K := K) (ke_dget (P := P) (w := w) (hu_of hr) (je_var 0) je_str) (je_mod (je_cty call_int1 rc_int T.m_int (by decide +kernel) (ja_cons (je_var 5) ja_nil)) (je_var 6))) (ke_add (K := K) (je_mul je_int (je_var 5)) je_int)))
  (jss_cons (js_if (jt_w (jw_and (jt_cmp op_lt ro_ord (je_var 5) (je_var 6)) (jw_and1 (jt_cmp op_ge ro_ord (je_cb call_abs rc_abs T.m_abs (by decide +kernel) (ja_cons (je_var 2) ja_nil)) (je_pow je_int je_int)))))
  (jss_cons (js_dput (hu_of hr) (je_div (je_sub (je_cb call_abs rc_abs T.m_abs (by decide +kernel) (ja_cons (je_var 2) ja_nil)) (je_pow je_int je_int)) (je_var 1)) (je_var 0) je_str)
  (jss_one (js_ret (je_mod (je_cty call_int1 rc_int T.m_int (by decide +kernel) (ja_cons (je_sub (je_cb call_abs rc_abs T.m_abs (by decide +kernel) (ja_cons (je_var 2) ja_nil)) (je_pow je_int je_int)) ja_nil)) (je_var 1)))))
  jss_nil)
  (jss_cons (js_set 3 sc_law_draw.nd (je_mod (je_cty call_int1 rc_int T.m_int (by decide +kernel) (ja_cons (ke_add (K := K) (ke_add (K := K) (je_mul (je_mod (je_cty call_int1 rc_int T.m_int (by decide +kernel) (ja_cons (je_var 2) ja_nil)) je_int) je_int) (je_mul (je_mul je_int (je_var 5)) (je_var 5))) je_int) ja_nil)) je_int))
  (jss_cons (js_set 3 sc_law_draw.nd (je_mod (je_cty call_int1 rc_int T.m_int (by decide +kernel) (ja_cons (ke_add (K := K) (ke_add (K := K) (ke_add (K := K) (je_mul (je_var 3) (je_var 3)) (je_mul je_int (je_var 3))) (je_mul je_int (je_var 5))) je_int) ja_nil)) je_int))
  (jss_one (js_ret (je_mod (je_cty call_int1 rc_int T.m_int (by decide +kernel) (ja_cons (je_div (je_mod (je_cty call_int1 rc_int T.m_int (by decide +kernel) (ja_cons (je_mul (je_var 3) (ke_add (K := K) (je_var 3) je_int)) ja_nil)) je_int) je_int) ja_nil)) (je_var 1)))))))))))⟩
end
end K29
namespace K29
open PySem L2 J
section
variable {P : Program} {w : World} {K : PySem.W.Frag} {mg : Str → Option Value} {base : Heap} {ct : List (Addr × List Str)} {c_Parts c_Rule a_BOTH : Addr}

theorem sc_law_known : FnScope ["name", "every", "at"] ["name"] (defScope s_law_known) := ⟨rfl, rfl, rfl, by decide +kernel, rfl, by decide +kernel, by decide +kernel⟩
theorem ok_law_known {f : Addr} {fd : FuncData} (F : Fun K "_law_known" "_law_known" s_law_known f fd) (T : Txt K mg ct c_Parts c_Rule a_BOTH)  : FnOk P w K mg base CX0 1 f fd ["name"] (spF ⟨P, w, K, ct⟩ d_law_known) :=
  fn_ok ct F sc_law_known fun cdv A outer s H E hr => ⟨_, (jss_cons (js_setLcR1 (own := [("at", 2)]) 1 T.m_range rfl sc_law_known.nd (ja_cons je_int ja_nil) (blkOk_by (own := [("at", 2)]) (N := ["name", "every", "at"]) (sc := defScope s_law_known) (by decide +kernel)) (own_name (by decide)) (fun _ _ _ _ _ => (jg_name 2 sc_law_known.nd)) (fun _ _ _ _ _ => jts_nil) (fun _ _ _ _ _ => (je_tup (ja_cons (je_cmp op_gt ro_ord (je_var 2) je_int) (ja_cons je_bl (ja_cons (je_mod (je_cty call_int1 rc_int T.m_int (by decide +kernel) (ja_cons (je_var 2) ja_nil)) je_int) ja_nil))))))
  (jss_one (js_ret (je_tup (ja_cons (je_var 1) (ja_cons (ke_dget (P := P) (w := w) (hu_of hr) (je_disp (jps_cons je_str (je_var 1) (jps_cons je_str (ke_add (K := K) (je_lst (ja_cons (je_tup (ja_cons je_bl (ja_cons je_bl (ja_cons je_int ja_nil)))) ja_nil)) (ke_sl (K := K) (je_var 1) (jo_some je_int) jo_none)) (jps_cons je_str (ke_sl (K := K) (je_var 1) (jo_some je_int) jo_none) jps_nil)))) (je_var 0)) ja_nil))))))⟩
end
end K29
namespace K29
open PySem L2 J
section
variable {P : Program} {w : World} {K : PySem.W.Frag} {mg : Str → Option Value} {base : Heap} {ct : List (Addr × List Str)} {c_Parts c_Rule a_BOTH : Addr}

theorem sc_law_kinds_some : FnScope ["pen", "k", "left", "found", "at"] ["pen"] (defScope s_law_kinds_some) := ⟨rfl, rfl, rfl, by decide +kernel, rfl, by decide +kernel, by decide +kernel⟩
theorem ok_law_kinds_some {f : Addr} {fd : FuncData} (F : Fun K "_law_kinds_some" "_law_kinds_some" s_law_kinds_some f fd) (T : Txt K mg ct c_Parts c_Rule a_BOTH) (C_law_draw : Cal P w K mg base ct "_law_draw" 1 ["pen", "many"] d_law_draw) : FnOk P w K mg base CX0 2 f fd ["pen"] (spF ⟨P, w, K, ct⟩ d_law_kinds_some) :=
  fn_ok ct F sc_law_kinds_some fun cdv A outer s H E hr => ⟨_, (jss_cons (js_par 2 3 rfl sc_law_kinds_some.nd (ja_cons (je_lcR1 (own := [("at", 4)]) T.m_range rfl sc_law_kinds_some.nd (ja_cons je_int ja_nil) (blkOk_by (own := [("at", 4)]) (N := ["pen", "k", "left", "found", "at"]) (sc := defScope s_law_kinds_some) (by decide +kernel)) (own_name (by decide)) (fun _ _ _ _ _ => (jg_name 4 sc_law_kinds_some.nd)) (fun _ _ _ _ _ => jts_nil) (fun _ _ _ _ _ => (je_tup (ja_cons (je_cmp op_ge ro_ord (je_var 4) je_int) (ja_cons (ke_eq (K := K) hr.units (je_mod (je_cty call_int1 rc_int T.m_int (by decide +kernel) (ja_cons (je_var 4) ja_nil)) je_int) je_int) (ja_cons (je_mod (je_div (je_cty call_int1 rc_int T.m_int (by decide +kernel) (ja_cons (je_var 4) ja_nil)) je_int) je_int) ja_nil)))))) (ja_cons (je_lst ja_nil) ja_nil)))
  (jss_cons (js_forR1 hp0 rfl T.m_range (ja_cons (ke_call C_law_draw (hr.mono (by decide)) (ja_cons (je_var 0) (ja_cons je_int ja_nil))) ja_nil) (jg_name 1 sc_law_kinds_some.nd)
  (jss_one (js_expr (ke_bm (K := K) PySem.F.plainAttrs_list PySem.F.slot_list_append PySem.F.type_list_append mt_append rm_append (je_var 3) (ja_cons (ke_bm (K := K) PySem.F.plainAttrs_list PySem.F.slot_list_pop PySem.F.type_list_pop mt_popAt rm_popAt (je_var 2) (ja_cons (ke_call C_law_draw (hr.mono (by decide)) (ja_cons (je_var 0) (ja_cons (je_cb (kc_len (K := K)) rc_len T.m_len (by decide +kernel) (ja_cons (je_var 2) ja_nil)) ja_nil))) ja_nil)) ja_nil)))))
  (jss_one (js_ret (je_var 3)))))⟩
end
end K29
namespace K29
open PySem L2 J
section
variable {P : Program} {w : World} {K : PySem.W.Frag} {mg : Str → Option Value} {base : Heap} {ct : List (Addr × List Str)} {c_Parts c_Rule a_BOTH : Addr}

theorem sc_law_rule_of : FnScope ["pen", "way", "flags", "k"] ["pen"] (defScope s_law_rule_of) := ⟨rfl, rfl, rfl, by decide +kernel, rfl, by decide +kernel, by decide +kernel⟩
theorem ok_law_rule_of {f : Addr} {fd : FuncData} (F : Fun K "_law_rule_of" "_law_rule_of" s_law_rule_of f fd) (T : Txt K mg ct c_Parts c_Rule a_BOTH) (C_law_draw : Cal P w K mg base ct "_law_draw" 1 ["pen", "many"] d_law_draw) (C_law_known : Cal P w K mg base ct "_law_known" 1 ["name"] d_law_known) (C_law_kinds_some : Cal P w K mg base ct "_law_kinds_some" 2 ["pen"] d_law_kinds_some) : FnOk P w K mg base CX0 3 f fd ["pen"] (spF ⟨P, w, K, ct⟩ d_law_rule_of) :=
  fn_ok ct F sc_law_rule_of fun cdv A outer s H E hr => ⟨_, (jss_cons (js_set 1 sc_law_rule_of.nd (ke_call C_law_draw (hr.mono (by decide)) (ja_cons (je_var 0) (ja_cons je_int ja_nil))))
  (jss_cons (js_if (jt_cmp op_lt ro_ord (je_var 1) je_int)
  (jss_one (js_ret (ke_call C_law_known (hr.mono (by decide)) (ja_cons (ke_ixs (K := K) (je_lst (ja_cons je_str (ja_cons je_str (ja_cons je_str ja_nil)))) (je_var 1)) ja_nil))))
  jss_nil)
  (jss_cons (js_if (kt_eq (K := K) hr.units (je_var 1) je_int)
  (jss_cons (js_setLcR1 (own := [("k", 3)]) 2 T.m_range rfl sc_law_rule_of.nd (ja_cons je_int ja_nil) (blkOk_by (own := [("k", 3)]) (N := ["pen", "way", "flags", "k"]) (sc := defScope s_law_rule_of) (by decide +kernel)) (own_name (by decide)) (fun _ _ _ _ _ => (jg_name 3 sc_law_rule_of.nd)) (fun _ _ _ _ _ => jts_nil) (fun _ _ _ _ _ => (ke_eq (K := K) hr.units (ke_call C_law_draw (hr.mono (by decide)) (ja_cons (je_var 0) (ja_cons je_int ja_nil))) je_int)))
  (jss_one (js_ret (je_tup (ja_cons (je_lst (ja_cons (je_tup (ja_cons je_bl (ja_cons (ke_ixs (K := K) (je_var 2) je_int) (ja_cons je_int ja_nil)))) (ja_cons (je_tup (ja_cons je_bl (ja_cons (ke_ixs (K := K) (je_var 2) je_int) (ja_cons je_int ja_nil)))) ja_nil))) (ja_cons (je_lst (ja_cons (je_tup (ja_cons je_bl (ja_cons (ke_ixs (K := K) (je_var 2) je_int) (ja_cons je_int ja_nil)))) (ja_cons (je_tup (ja_cons je_bl (ja_cons (ke_ixs (K := K) (je_var 2) je_int) (ja_cons je_int ja_nil)))) ja_nil))) ja_nil))))))
  jss_nil)
  (jss_one (js_ret (je_tup (ja_cons (je_if (kt_eq (K := K) hr.units (je_var 1) je_int) (ke_call C_law_kinds_some (hr.mono (by decide)) (ja_cons (je_var 0) ja_nil)) (ke_ixs (K := K) (ke_call C_law_known (hr.mono (by decide)) (ja_cons je_str ja_nil)) je_int)) (ja_cons (ke_call C_law_kinds_some (hr.mono (by decide)) (ja_cons (je_var 0) ja_nil)) ja_nil))))))))⟩
end
end K29
namespace K29
open PySem L2 J
section
variable {P : Program} {w : World} {K : PySem.W.Frag} {mg : Str → Option Value} {base : Heap} {ct : List (Addr × List Str)} {c_Parts c_Rule a_BOTH : Addr}

theorem sc_is_whole : FnScope ["value", "least", "most"] ["value", "least", "most"] (defScope s_is_whole) := ⟨rfl, rfl, rfl, by decide +kernel, rfl, by decide +kernel, by decide +kernel⟩
theorem ok_is_whole {f : Addr} {fd : FuncData} (F : Fun K "is_whole" "is_whole" s_is_whole f fd) (T : Txt K mg ct c_Parts c_Rule a_BOTH)  : FnOk P w K mg base CX0 1 f fd ["value", "least", "most"] (spF ⟨P, w, K, ct⟩ d_is_whole) :=
  fn_ok ct F sc_is_whole fun cdv A outer s H E hr => ⟨_, (jss_one (js_ret (je_and (je_cb (kc_isi (K := K)) rc_isi T.m_isinstance (by decide +kernel) (ja_cons (je_var 0) (ja_cons (je_ty T.m_int (by decide +kernel)) ja_nil))) (je_and (je_not (je_cb (kc_isi (K := K)) rc_isi T.m_isinstance (by decide +kernel) (ja_cons (je_var 0) (ja_cons (je_ty T.m_bool (by decide +kernel)) ja_nil)))) (je_one (je_chain op_le ro_ord op_le ro_ord (je_var 1) (je_var 0) (je_var 2)))))))⟩
end
end K29
namespace K29
open PySem L2 J
section
variable {P : Program} {w : World} {K : PySem.W.Frag} {mg : Str → Option Value} {base : Heap} {ct : List (Addr × List Str)} {c_Parts c_Rule a_BOTH : Addr}

theorem sc_is_kind : FnScope ["value"] ["value"] (defScope s_is_kind) := ⟨rfl, rfl, rfl, by decide +kernel, rfl, by decide +kernel, by decide +kernel⟩
theorem ok_is_kind {f : Addr} {fd : FuncData} (F : Fun K "is_kind" "is_kind" s_is_kind f fd) (T : Txt K mg ct c_Parts c_Rule a_BOTH) (C_is_whole : Cal P w K mg base ct "is_whole" 1 ["value", "least", "most"] d_is_whole) : FnOk P w K mg base CX0 2 f fd ["value"] (spF ⟨P, w, K, ct⟩ d_is_kind) :=
  fn_ok ct F sc_is_kind fun cdv A outer s H E hr => ⟨_, (jss_cons (js_if (jt_w (jw_or (jt_not (kt_tru (K := K) (je_cb (kc_isiU (K := K)) rc_isiT T.m_isinstance (by decide +kernel) (ja_cons (je_var 0) (ja_cons (je_tup (ja_cons (je_ty T.m_tuple (by decide +kernel)) (ja_cons (je_ty T.m_list (by decide +kernel)) ja_nil))) ja_nil))))) (jw_or1 (kt_ne (K := K) hr.units (je_cb (kc_len (K := K)) rc_len T.m_len (by decide +kernel) (ja_cons (je_var 0) ja_nil)) je_int))))
  (jss_one (js_ret je_bl))
  jss_nil)
  (jss_one (js_ret (je_and (je_cb (kc_isi (K := K)) rc_isi T.m_isinstance (by decide +kernel) (ja_cons (ke_ixs (K := K) (je_var 0) je_int) (ja_cons (je_ty T.m_bool (by decide +kernel)) ja_nil))) (je_and (je_cb (kc_isi (K := K)) rc_isi T.m_isinstance (by decide +kernel) (ja_cons (ke_ixs (K := K) (je_var 0) je_int) (ja_cons (je_ty T.m_bool (by decide +kernel)) ja_nil))) (je_one (ke_call C_is_whole (hr.mono (by decide)) (ja_cons (ke_ixs (K := K) (je_var 0) je_int) (ja_cons je_int (ja_cons je_int ja_nil))))))))))⟩
end
end K29
namespace K29
open PySem L2 J
section
variable {P : Program} {w : World} {K : PySem.W.Frag} {mg : Str → Option Value} {base : Heap} {ct : List (Addr × List Str)} {c_Parts c_Rule a_BOTH : Addr}

theorem sc_checked_kinds : FnScope ["side", "kinds", "found", "number", "kind"] ["side", "kinds"] (defScope s_checked_kinds) := ⟨rfl, rfl, rfl, by decide +kernel, rfl, by decide +kernel, by decide +kernel⟩
theorem ok_checked_kinds {f : Addr} {fd : FuncData} (F : Fun K "checked_kinds" "checked_kinds" s_checked_kinds f fd) (T : Txt K mg ct c_Parts c_Rule a_BOTH) (C_is_kind : Cal P w K mg base ct "is_kind" 2 ["value"] d_is_kind) : FnOk P w K mg base CX0 3 f fd ["side", "kinds"] (spF ⟨P, w, K, ct⟩ d_checked_kinds) :=
  fn_ok ct F sc_checked_kinds fun cdv A outer s H E hr => ⟨_, (jss_cons (js_set 2 sc_checked_kinds.nd (je_lst ja_nil))
  (jss_cons (js_forE hp0 rfl T.m_enumerate (ja_cons (je_var 1) ja_nil) (kg_tup (K := K) 2 rfl (jgs_cons (jg_name 3 sc_checked_kinds.nd) (jgs_cons (jg_name 4 sc_checked_kinds.nd) jgs_nil)))
  (jss_cons (js_if (jt_w (jw_or (jt_not (kt_tru (K := K) (ke_call C_is_kind (hr.mono (by decide)) (ja_cons (je_var 4) ja_nil)))) (jw_or1 (kt_in (P := P) (w := w) (K := K) (hu65 hr) (je_cty (kc_tuple (K := K)) rc_tuple T.m_tuple (by decide +kernel) (ja_cons (je_var 4) ja_nil)) (je_var 2)))))
  (jss_one js_never)
  jss_nil)
  (jss_one (js_expr (ke_bm (K := K) PySem.F.plainAttrs_list PySem.F.slot_list_append PySem.F.type_list_append mt_append rm_append (je_var 2) (ja_cons (je_cty (kc_tuple (K := K)) rc_tuple T.m_tuple (by decide +kernel) (ja_cons (je_var 4) ja_nil)) ja_nil))))))
  (jss_one (js_ret (je_cty (kc_tuple (K := K)) rc_tuple T.m_tuple (by decide +kernel) (ja_cons (je_cb (kc_sorted3 (K := K)) rc_sorted3 T.m_sorted (by decide +kernel) (ja_cons (je_var 2) ja_nil)) ja_nil))))))⟩
end
end K29
namespace K29
open PySem L2 J
section
variable {P : Program} {w : World} {K : PySem.W.Frag} {mg : Str → Option Value} {base : Heap} {ct : List (Addr × List Str)} {c_Parts c_Rule a_BOTH : Addr}

theorem sc_Rule_init : FnScope ["self", "root", "others"] ["self", "root", "others"] (defScope s_Rule_init) := ⟨rfl, rfl, rfl, by decide +kernel, rfl, by decide +kernel, by decide +kernel⟩
theorem ok_Rule_init {f : Addr} {fd : FuncData} (F : Fun K "__init__" "Rule.__init__" s_Rule_init f fd) (T : Txt K mg ct c_Parts c_Rule a_BOTH) (C_checked_kinds : Cal P w K mg base ct "checked_kinds" 3 ["side", "kinds"] d_checked_kinds) : FnOk P w K mg base CX0 4 f fd ["self", "root", "others"] (spF ⟨P, w, K, ct⟩ d_Rule_init) :=
  fn_ok ct F sc_Rule_init fun cdv A outer s H E hr => ⟨_, (jss_cons (js_fld T.f_Rule_root (ke_call C_checked_kinds (hr.mono (by decide)) (ja_cons je_str (ja_cons (je_var 1) ja_nil))) (je_var 0))
  (jss_one (js_fld T.f_Rule_others (ke_call C_checked_kinds (hr.mono (by decide)) (ja_cons je_str (ja_cons (je_var 2) ja_nil))) (je_var 0))))⟩
end
end K29
namespace K29
open PySem L2 J
section
variable {P : Program} {w : World} {K : PySem.W.Frag} {mg : Str → Option Value} {base : Heap} {ct : List (Addr × List Str)} {c_Parts c_Rule a_BOTH : Addr}

theorem sc_law_rule_made : FnScope ["rule"] ["rule"] (defScope s_law_rule_made) := ⟨rfl, rfl, rfl, by decide +kernel, rfl, by decide +kernel, by decide +kernel⟩
theorem ok_law_rule_made {f : Addr} {fd : FuncData} (F : Fun K "_law_rule_made" "_law_rule_made" s_law_rule_made f fd) (T : Txt K mg ct c_Parts c_Rule a_BOTH) (I_Rule : CalI P w K mg base ct "Rule" 1 c_Rule 4 ["self", "root", "others"] d_Rule_init [] []) : FnOk P w K mg base CX0 6 f fd ["rule"] (spF ⟨P, w, K, ct⟩ d_law_rule_made) :=
  fn_ok ct F sc_law_rule_made fun cdv A outer s H E hr => ⟨_, (jss_one (js_ret (ke_make I_Rule (hr.mono (by decide)) (ja_cons (je_cty (kc_list (K := K)) rc_list T.m_list (by decide +kernel) (ja_cons (ke_ixs (K := K) (je_var 0) je_int) ja_nil)) (ja_cons (je_cty (kc_list (K := K)) rc_list T.m_list (by decide +kernel) (ja_cons (ke_ixs (K := K) (je_var 0) je_int) ja_nil)) ja_nil)))))⟩
end
end K29
namespace K29
open PySem L2 J
section
variable {P : Program} {w : World} {K : PySem.W.Frag} {mg : Str → Option Value} {base : Heap} {ct : List (Addr × List Str)} {c_Parts c_Rule a_BOTH : Addr}

theorem sc_law_parts : FnScope ["rule", "least", "lap", "mark", "flag", "many", "below", "keeps", "size", "one"] ["rule"] (defScope s_law_parts) := ⟨rfl, rfl, rfl, by decide +kernel, rfl, by decide +kernel, by decide +kernel⟩
theorem ok_law_parts {f : Addr} {fd : FuncData} (F : Fun K "_law_parts" "_law_parts" s_law_parts f fd) (T : Txt K mg ct c_Parts c_Rule a_BOTH)  : FnOk P w K mg base CX0 1 f fd ["rule"] (spF ⟨P, w, K, ct⟩ d_law_parts) :=
  fn_ok ct F sc_law_parts fun cdv A outer s H E hr => ⟨_, (jss_cons (js_set 1 sc_law_parts.nd (ke_newB (P := P) (w := w)))
  (jss_cons (js_forR1 hp0 rfl T.m_range (ja_cons je_int ja_nil) (jg_name 2 sc_law_parts.nd)
  (jss_one (js_for hp0 rfl (ke_ixs (K := K) (je_var 0) je_int) (kg_tup (K := K) 3 rfl (jgs_cons (jg_name 3 sc_law_parts.nd) (jgs_cons (jg_name 4 sc_law_parts.nd) (jgs_cons (jg_name 5 sc_law_parts.nd) jgs_nil))))
  (jss_one (js_for hp0 rfl (je_lst (ja_cons (je_lst (ja_cons je_bl (ja_cons je_bl ja_nil))) (ja_cons (je_lst (ja_cons je_bl (ja_cons je_bl ja_nil))) (ja_cons (je_lst (ja_cons je_bl (ja_cons je_bl ja_nil))) (ja_cons (je_lst (ja_cons je_bl (ja_cons je_bl ja_nil))) ja_nil))))) (jg_name 6 sc_law_parts.nd)
  (jss_one (js_if (kt_tru (K := K) (je_cb (kc_all (K := K) rfl) rc_all T.m_all (by decide +kernel) (ja_cons (je_lc (own := [("one", 9)]) rfl sc_law_parts.nd (ke_sl (K := K) (je_var 6) jo_none (jo_some (je_var 5))) (blkOk_by (own := [("one", 9)]) (N := ["rule", "least", "lap", "mark", "flag", "many", "below", "keeps", "size", "one"]) (sc := defScope s_law_parts) (by decide +kernel)) (own_name (by decide)) (fun _ _ _ _ _ => (jg_name 9 sc_law_parts.nd)) (fun _ _ _ _ _ => jts_nil) (fun _ _ _ _ _ => (ke_in (P := P) (w := w) (K := K) (hu65 hr) (je_var 9) (je_var 1)))) ja_nil)))
  (jss_cons (js_set 7 sc_law_parts.nd (je_or (je_var 3) (je_one (ke_in (P := P) (w := w) (K := K) (hu65 hr) je_bl (ke_sl (K := K) (je_var 6) jo_none (jo_some (je_var 5)))))))
  (jss_cons (js_set 8 sc_law_parts.nd (ke_add (K := K) je_int (je_cb (kc_sum (K := K) rfl) rc_sum T.m_sum (by decide +kernel) (ja_cons (je_lc (own := [("one", 9)]) rfl sc_law_parts.nd (ke_sl (K := K) (je_var 6) jo_none (jo_some (je_var 5))) (blkOk_by (own := [("one", 9)]) (N := ["rule", "least", "lap", "mark", "flag", "many", "below", "keeps", "size", "one"]) (sc := defScope s_law_parts) (by decide +kernel)) (own_name (by decide)) (fun _ _ _ _ _ => (jg_name 9 sc_law_parts.nd)) (fun _ _ _ _ _ => jts_nil) (fun _ _ _ _ _ => (ke_dget (P := P) (w := w) (hu_of hr) (je_var 1) (je_var 9)))) ja_nil))))
  (jss_one (js_dput (hu_of hr) (je_cb (call_min2 rfl) rc_min2 T.m_min (by decide +kernel) (ja_cons (je_var 8) (ja_cons (ke_dget2 (P := P) (w := w) (hu_of hr) (je_var 1) (je_var 7) (je_var 8)) ja_nil))) (je_var 1) (je_var 7)))))
  jss_nil)))))))
  (jss_one (js_ret (je_var 1)))))⟩
end
end K29
namespace K29
open PySem L2 J
section
variable {P : Program} {w : World} {K : PySem.W.Frag} {mg : Str → Option Value} {base : Heap} {ct : List (Addr × List Str)} {c_Parts c_Rule a_BOTH : Addr}

theorem sc_Parts_weight_of : FnScope ["self", "mark"] ["self", "mark"] (defScope s_Parts_weight_of) := ⟨rfl, rfl, rfl, by decide +kernel, rfl, by decide +kernel, by decide +kernel⟩
theorem ok_Parts_weight_of {f : Addr} {fd : FuncData} (F : Fun K "weight_of" "Parts.weight_of" s_Parts_weight_of f fd) (T : Txt K mg ct c_Parts c_Rule a_BOTH)  : FnOk P w K mg base CX0 1 f fd ["self", "mark"] (spF ⟨P, w, K, ct⟩ d_Parts_weight_of) :=
  fn_ok ct F sc_Parts_weight_of fun cdv A outer s H E hr => ⟨_, (jss_one (js_ret (je_if (kt_tru (K := K) (ke_fld T.f_Parts_is_by_words (je_var 0))) (je_cty call_int1 rc_int T.m_int (by decide +kernel) (ja_cons (je_var 1) ja_nil)) je_int)))⟩
end
end K29
namespace K29
open PySem L2 J
section
variable {P : Program} {w : World} {K : PySem.W.Frag} {mg : Str → Option Value} {base : Heap} {ct : List (Addr × List Str)} {c_Parts c_Rule a_BOTH : Addr}

theorem sc_Parts_choices : FnScope ["self", "children", "known", "one", "other"] ["self", "children"] (defScope s_Parts_choices) := ⟨rfl, rfl, rfl, by decide +kernel, rfl, by decide +kernel, by decide +kernel⟩
theorem ok_Parts_choices {f : Addr} {fd : FuncData} (F : Fun K "choices" "Parts.choices" s_Parts_choices f fd) (T : Txt K mg ct c_Parts c_Rule a_BOTH)  : FnOk P w K mg base CX0 1 f fd ["self", "children"] (spF ⟨P, w, K, ct⟩ d_Parts_choices) :=
  fn_ok ct F sc_Parts_choices fun cdv A outer s H E hr => ⟨_, (jss_cons (js_set 2 sc_Parts_choices.nd (je_lc (own := [("one", 3)]) rfl sc_Parts_choices.nd (je_glob (v := V.ref a_BOTH) T.m_BOTH (by rfl) T.r_BOTH) (blkOk_by (own := [("one", 3)]) (N := ["self", "children", "known", "one", "other"]) (sc := defScope s_Parts_choices) (by decide +kernel)) (own_name (by decide)) (fun _ _ _ _ _ => (jg_name 3 sc_Parts_choices.nd)) (fun _ _ _ _ _ => (jts_one (kt_in (P := P) (w := w) (K := K) (hu65 hr) (je_var 3) (ke_fld T.f_Parts_least (je_var 0))))) (fun _ _ _ _ _ => (je_var 3))))
  (jss_cons (js_if (kt_eq (K := K) hr.units (je_var 1) je_int)
  (jss_one (js_ret (je_lst (ja_cons (je_tup ja_nil) ja_nil))))
  jss_nil)
  (jss_cons (js_if (kt_eq (K := K) hr.units (je_var 1) je_int)
  (jss_one (js_ret (je_lc (own := [("one", 3)]) rfl sc_Parts_choices.nd (je_var 2) (blkOk_by (own := [("one", 3)]) (N := ["self", "children", "known", "one", "other"]) (sc := defScope s_Parts_choices) (by decide +kernel)) (own_name (by decide)) (fun _ _ _ _ _ => (jg_name 3 sc_Parts_choices.nd)) (fun _ _ _ _ _ => jts_nil) (fun _ _ _ _ _ => (je_tup (ja_cons (je_var 3) ja_nil))))))
  jss_nil)
  (jss_one (js_ret (je_lc2 (own := [("one", 3), ("other", 4)]) (vs1 := [4]) rfl sc_Parts_choices.nd (je_var 2) (blkOk_by (own := [("one", 3), ("other", 4)]) (N := ["self", "children", "known", "one", "other"]) (sc := defScope s_Parts_choices) (by decide +kernel)) (by decide) (own_name (by decide)) (own_name (by decide)) (fun _ _ _ _ _ => (jg_name 3 sc_Parts_choices.nd)) (fun _ _ _ _ _ => jts_nil) (fun _ _ _ _ _ => (je_var 2)) (fun _ _ _ _ _ => (jg_name 4 sc_Parts_choices.nd)) (fun _ _ _ _ _ => jts_nil) (fun _ _ _ _ _ => (je_tup (ja_cons (je_var 3) (ja_cons (je_var 4) ja_nil))))))))))⟩
end
end K29
namespace K29
open PySem L2 J
section
variable {P : Program} {w : World} {K : PySem.W.Frag} {mg : Str → Option Value} {base : Heap} {ct : List (Addr × List Str)} {c_Parts c_Rule a_BOTH : Addr}

theorem sc_Parts_tries : FnScope ["self", "kind", "is_new", "below", "keeps", "weight", "one"] ["self", "kind"] (defScope s_Parts_tries) := ⟨rfl, rfl, rfl, by decide +kernel, rfl, by decide +kernel, by decide +kernel⟩
theorem ok_Parts_tries {f : Addr} {fd : FuncData} (F : Fun K "tries" "Parts.tries" s_Parts_tries f fd) (T : Txt K mg ct c_Parts c_Rule a_BOTH) (C_Parts_weight_of : CalM P w K mg base ct 0 c_Parts "weight_of" 1 ["self", "mark"] d_Parts_weight_of) (C_Parts_choices : CalM P w K mg base ct 0 c_Parts "choices" 1 ["self", "children"] d_Parts_choices) : FnOk P w K mg base CX0 2 f fd ["self", "kind"] (spF ⟨P, w, K, ct⟩ d_Parts_tries) :=
  fn_ok ct F sc_Parts_tries fun cdv A outer s H E hr => ⟨_, (jss_cons (js_set 2 sc_Parts_tries.nd je_bl)
  (jss_cons (js_for hp0 rfl (ke_meth (je_var 0) C_Parts_choices (hr.mono (by decide)) (ja_cons (ke_ixs (K := K) (je_var 1) je_int) ja_nil)) (jg_name 3 sc_Parts_tries.nd)
  (jss_cons (js_set 4 sc_Parts_tries.nd (je_or (ke_ixs (K := K) (je_var 1) je_int) (je_one (ke_in (P := P) (w := w) (K := K) (hu65 hr) je_bl (je_var 3)))))
  (jss_cons (js_set 5 sc_Parts_tries.nd (ke_add (K := K) (ke_meth (je_var 0) C_Parts_weight_of (hr.mono (by decide)) (ja_cons (ke_ixs (K := K) (je_var 1) je_int) ja_nil)) (je_cb (kc_sum (K := K) rfl) rc_sum T.m_sum (by decide +kernel) (ja_cons (je_lc (own := [("one", 6)]) rfl sc_Parts_tries.nd (je_var 3) (blkOk_by (own := [("one", 6)]) (N := ["self", "kind", "is_new", "below", "keeps", "weight", "one"]) (sc := defScope s_Parts_tries) (by decide +kernel)) (own_name (by decide)) (fun _ _ _ _ _ => (jg_name 6 sc_Parts_tries.nd)) (fun _ _ _ _ _ => jts_nil) (fun _ _ _ _ _ => (ke_ixs (K := K) (ke_dget (P := P) (w := w) (hu_of hr) (ke_fld T.f_Parts_least (je_var 0)) (je_var 6)) je_int))) ja_nil))))
  (jss_one (js_if (jt_w (jw_or (kt_notIn (P := P) (w := w) (K := K) (hu65 hr) (je_var 4) (ke_fld T.f_Parts_least (je_var 0))) (jw_or1 (jt_cmp op_lt ro_ord (je_var 5) (ke_ixs (K := K) (ke_dget (P := P) (w := w) (hu_of hr) (ke_fld T.f_Parts_least (je_var 0)) (je_var 4)) je_int)))))
  (jss_cons (js_dput (hu_of hr) (je_tup (ja_cons (je_var 5) (ja_cons (je_var 1) (ja_cons (je_var 3) ja_nil)))) (ke_fld T.f_Parts_least (je_var 0)) (je_var 4))
  (jss_one (js_set 2 sc_Parts_tries.nd je_bl)))
  jss_nil)))))
  (jss_one (js_ret (je_var 2)))))⟩
end
end K29
namespace K29
open PySem L2 J
section
variable {P : Program} {w : World} {K : PySem.W.Frag} {mg : Str → Option Value} {base : Heap} {ct : List (Addr × List Str)} {c_Parts c_Rule a_BOTH : Addr}

theorem sc_Parts_init : FnScope ["self", "rule", "by_words", "is_new", "kind"] ["self", "rule", "by_words"] (defScope s_Parts_init) := ⟨rfl, rfl, rfl, by decide +kernel, rfl, by decide +kernel, by decide +kernel⟩
theorem ok_Parts_init {f : Addr} {fd : FuncData} {dvs : List V} {kws : List (Str × V)} (F : FunD K "__init__" "Parts.__init__" (defArgs s_Parts_init) (defBody s_Parts_init) (defScope s_Parts_init) dvs kws f fd) (T : Txt K mg ct c_Parts c_Rule a_BOTH) (C_Parts_tries : CalM P w K mg base ct 0 c_Parts "tries" 2 ["self", "kind"] d_Parts_tries) : FnOk P w K mg base CX0 3 f fd ["self", "rule", "by_words"] (spF ⟨P, w, K, ct⟩ d_Parts_init) :=
  fn_okD ct F sc_Parts_init fun cdv A outer s H E hr => ⟨_, (jss_cons (js_fld T.f_Parts_rule (je_var 1) (je_var 0))
  (jss_cons (js_fld T.f_Parts_is_by_words (je_var 2) (je_var 0))
  (jss_cons (js_fld T.f_Parts_least (ke_newB (P := P) (w := w)) (je_var 0))
  (jss_cons (js_set 3 sc_Parts_init.nd je_bl)
  (jss_one (js_while 20 hp0 (kt_tru (K := K) (je_var 3))
  (jss_one (js_set 3 sc_Parts_init.nd (je_cb (kc_any (K := K) rfl) rc_any T.m_any (by decide +kernel) (ja_cons (je_lc (own := [("kind", 4)]) rfl sc_Parts_init.nd (ke_fld T.f_Rule_others (je_var 1)) (blkOk_by (own := [("kind", 4)]) (N := ["self", "rule", "by_words", "is_new", "kind"]) (sc := defScope s_Parts_init) (by decide +kernel)) (own_name (by decide)) (fun _ _ _ _ _ => (jg_name 4 sc_Parts_init.nd)) (fun _ _ _ _ _ => jts_nil) (fun _ _ _ _ _ => (ke_meth (je_var 0) C_Parts_tries (hr.mono (by decide)) (ja_cons (je_var 4) ja_nil)))) ja_nil))))))))))⟩
end
end K29
namespace K29
open PySem L2 J
section
variable {P : Program} {w : World} {K : PySem.W.Frag} {mg : Str → Option Value} {base : Heap} {ct : List (Addr × List Str)} {c_Parts c_Rule a_BOTH : Addr}

theorem sc_least_part : FnScope ["rule", "words", "least"] ["rule", "words"] (defScope s_least_part) := ⟨rfl, rfl, rfl, by decide +kernel, rfl, by decide +kernel, by decide +kernel⟩
theorem ok_least_part {f : Addr} {fd : FuncData} (F : Fun K "least_part" "least_part" s_least_part f fd) (T : Txt K mg ct c_Parts c_Rule a_BOTH) (I_Parts : CalI P w K mg base ct "Parts" 0 c_Parts 3 ["self", "rule", "by_words"] d_Parts_init [(V.bl false)] [(.bl false)]) : FnOk P w K mg base CX0 5 f fd ["rule", "words"] (spF ⟨P, w, K, ct⟩ d_least_part) :=
  fn_ok ct F sc_least_part fun cdv A outer s H E hr => ⟨_, (jss_cons (js_set 2 sc_least_part.nd (ke_fld T.f_Parts_least (ke_make I_Parts (hr.mono (by decide)) (ja_cons (je_var 0) ja_nil))))
  (jss_one (js_ret (je_if (kt_in (P := P) (w := w) (K := K) (hu65 hr) (je_var 1) (je_var 2)) (ke_ixs (K := K) (ke_dget (P := P) (w := w) (hu_of hr) (je_var 2) (je_var 1)) je_int) je_non))))⟩
end
end K29
namespace K29
open PySem L2 J
section
variable {P : Program} {w : World} {K : PySem.W.Frag} {mg : Str → Option Value} {base : Heap} {ct : List (Addr × List Str)} {c_Parts c_Rule a_BOTH : Addr}

theorem sc_law_lets : FnScope ["rule", "parts", "cell", "at_root", "goes_on"] ["rule", "parts", "cell", "at_root", "goes_on"] (defScope s_law_lets) := ⟨rfl, rfl, rfl, by decide +kernel, rfl, by decide +kernel, by decide +kernel⟩
theorem ok_law_lets {f : Addr} {fd : FuncData} (F : Fun K "_law_lets" "_law_lets" s_law_lets f fd) (T : Txt K mg ct c_Parts c_Rule a_BOTH)  : FnOk P w K mg base CX0 1 f fd ["rule", "parts", "cell", "at_root", "goes_on"] (spF ⟨P, w, K, ct⟩ d_law_lets) :=
  fn_ok ct F sc_law_lets fun cdv A outer s H E hr => ⟨_, (jss_cons (js_if (kt_notIn (P := P) (w := w) (K := K) (hu65 hr) (je_tup (ja_cons (ke_ixs (K := K) (je_var 2) je_int) (ja_cons (ke_ixs (K := K) (je_var 2) je_int) (ja_cons (je_cb (call_min2 rfl) rc_min2 T.m_min (by decide +kernel) (ja_cons je_int (ja_cons (ke_add (K := K) (ke_ixs (K := K) (je_var 2) je_int) (je_cty call_int1 rc_int T.m_int (by decide +kernel) (ja_cons (je_var 4) ja_nil))) ja_nil))) ja_nil)))) (ke_ixs (K := K) (je_var 0) (je_cty call_int1 rc_int T.m_int (by decide +kernel) (ja_cons (je_not (je_var 3)) ja_nil))))
  (jss_one (js_ret je_bl))
  jss_nil)
  (jss_one (js_ret (je_if (kt_eq (K := K) hr.units (ke_ixs (K := K) (je_var 2) je_int) je_int) (je_not (ke_ixs (K := K) (je_var 2) je_int)) (ke_in (P := P) (w := w) (K := K) (hu65 hr) (ke_ixs (K := K) (je_var 2) je_int) (je_var 1))))))⟩
end
end K29
namespace K29
open PySem L2 J
section
variable {P : Program} {w : World} {K : PySem.W.Frag} {mg : Str → Option Value} {base : Heap} {ct : List (Addr × List Str)} {c_Parts c_Rule a_BOTH : Addr}

theorem sc_is_cell : FnScope ["value", "at"] ["value"] (defScope s_is_cell) := ⟨rfl, rfl, rfl, by decide +kernel, rfl, by decide +kernel, by decide +kernel⟩
theorem ok_is_cell {f : Addr} {fd : FuncData} (F : Fun K "is_cell" "is_cell" s_is_cell f fd) (T : Txt K mg ct c_Parts c_Rule a_BOTH)  : FnOk P w K mg base CX0 1 f fd ["value"] (spF ⟨P, w, K, ct⟩ d_is_cell) :=
  fn_ok ct F sc_is_cell fun cdv A outer s H E hr => ⟨_, (jss_cons (js_if (jt_w (jw_or (jt_not (kt_tru (K := K) (je_cb (kc_isi (K := K)) rc_isi T.m_isinstance (by decide +kernel) (ja_cons (je_var 0) (ja_cons (je_ty T.m_tuple (by decide +kernel)) ja_nil))))) (jw_or (kt_ne (K := K) hr.units (je_cb (kc_len (K := K)) rc_len T.m_len (by decide +kernel) (ja_cons (je_var 0) ja_nil)) je_int) (jw_or1 (kt_tru (K := K) (je_cb (kc_isi (K := K)) rc_isi T.m_isinstance (by decide +kernel) (ja_cons (ke_ixs (K := K) (je_var 0) je_int) (ja_cons (je_ty T.m_bool (by decide +kernel)) ja_nil))))))))
  (jss_one (js_ret je_bl))
  jss_nil)
  (jss_cons (js_if (jt_not (kt_tru (K := K) (je_cb (kc_all (K := K) rfl) rc_all T.m_all (by decide +kernel) (ja_cons (je_lc (own := [("at", 1)]) rfl sc_is_cell.nd (je_tup (ja_cons je_int (ja_cons je_int (ja_cons je_int ja_nil)))) (blkOk_by (own := [("at", 1)]) (N := ["value", "at"]) (sc := defScope s_is_cell) (by decide +kernel)) (own_name (by decide)) (fun _ _ _ _ _ => (jg_name 1 sc_is_cell.nd)) (fun _ _ _ _ _ => jts_nil) (fun _ _ _ _ _ => (je_cb (kc_isi (K := K)) rc_isi T.m_isinstance (by decide +kernel) (ja_cons (ke_ixs (K := K) (je_var 0) (je_var 1)) (ja_cons (je_ty T.m_bool (by decide +kernel)) ja_nil))))) ja_nil))))
  (jss_one (js_ret je_bl))
  jss_nil)
  (jss_one (js_ret (je_and (je_cb (kc_isi (K := K)) rc_isi T.m_isinstance (by decide +kernel) (ja_cons (ke_ixs (K := K) (je_var 0) je_int) (ja_cons (je_ty T.m_int (by decide +kernel)) ja_nil))) (je_one (je_chain op_le ro_ord op_le ro_ord je_int (ke_ixs (K := K) (je_var 0) je_int) je_int)))))))⟩
end
end K29
namespace K29
open PySem L2 J
section
variable {P : Program} {w : World} {K : PySem.W.Frag} {mg : Str → Option Value} {base : Heap} {ct : List (Addr × List Str)} {c_Parts c_Rule a_BOTH : Addr}

theorem sc_is_let_by : FnScope ["parts", "cell", "is_root", "goes_on", "kinds"] ["parts", "cell", "is_root", "goes_on"] (defScope s_is_let_by) := ⟨rfl, rfl, rfl, by decide +kernel, rfl, by decide +kernel, by decide +kernel⟩
theorem ok_is_let_by {f : Addr} {fd : FuncData} (F : Fun K "is_let_by" "is_let_by" s_is_let_by f fd) (T : Txt K mg ct c_Parts c_Rule a_BOTH)  : FnOk P w K mg base CX0 1 f fd ["parts", "cell", "is_root", "goes_on"] (spF ⟨P, w, K, ct⟩ d_is_let_by) :=
  fn_ok ct F sc_is_let_by fun cdv A outer s H E hr => ⟨_, (jss_cons (js_set 4 sc_is_let_by.nd (je_if (kt_tru (K := K) (je_var 2)) (ke_fld T.f_Rule_root (ke_fld T.f_Parts_rule (je_var 0))) (ke_fld T.f_Rule_others (ke_fld T.f_Parts_rule (je_var 0)))))
  (jss_cons (js_if (kt_notIn (P := P) (w := w) (K := K) (hu65 hr) (je_tup (ja_cons (ke_ixs (K := K) (je_var 1) je_int) (ja_cons (ke_ixs (K := K) (je_var 1) je_int) (ja_cons (je_cb (call_min2 rfl) rc_min2 T.m_min (by decide +kernel) (ja_cons je_int (ja_cons (ke_add (K := K) (ke_ixs (K := K) (je_var 1) je_int) (je_cty call_int1 rc_int T.m_int (by decide +kernel) (ja_cons (je_var 3) ja_nil))) ja_nil))) ja_nil)))) (je_var 4))
  (jss_one (js_ret je_bl))
  jss_nil)
  (jss_one (js_ret (je_if (kt_eq (K := K) hr.units (ke_ixs (K := K) (je_var 1) je_int) je_int) (je_not (ke_ixs (K := K) (je_var 1) je_int)) (ke_in (P := P) (w := w) (K := K) (hu65 hr) (ke_ixs (K := K) (je_var 1) je_int) (ke_fld T.f_Parts_least (je_var 0))))))))⟩
end
end K29
namespace K29
open PySem L2 J
section
variable {P : Program} {w : World} {K : PySem.W.Frag} {mg : Str → Option Value} {base : Heap} {ct : List (Addr × List Str)} {c_Parts c_Rule a_BOTH : Addr}

theorem sc_is_let : FnScope ["rule", "cell", "root", "goes_on"] ["rule", "cell", "root", "goes_on"] (defScope s_is_let) := ⟨rfl, rfl, rfl, by decide +kernel, rfl, by decide +kernel, by decide +kernel⟩
theorem ok_is_let {f : Addr} {fd : FuncData} (F : Fun K "is_let" "is_let" s_is_let f fd) (T : Txt K mg ct c_Parts c_Rule a_BOTH) (C_is_cell : Cal P w K mg base ct "is_cell" 1 ["value"] d_is_cell) (C_is_let_by : Cal P w K mg base ct "is_let_by" 1 ["parts", "cell", "is_root", "goes_on"] d_is_let_by) (I_Parts : CalI P w K mg base ct "Parts" 0 c_Parts 3 ["self", "rule", "by_words"] d_Parts_init [(V.bl false)] [(.bl false)]) : FnOk P w K mg base CX0 5 f fd ["rule", "cell", "root", "goes_on"] (spF ⟨P, w, K, ct⟩ d_is_let) :=
  fn_ok ct F sc_is_let fun cdv A outer s H E hr => ⟨_, (jss_one (js_ret (je_and (ke_call C_is_cell (hr.mono (by decide)) (ja_cons (je_var 1) ja_nil)) (je_one (ke_call C_is_let_by (hr.mono (by decide)) (ja_cons (ke_make I_Parts (hr.mono (by decide)) (ja_cons (je_var 0) ja_nil)) (ja_cons (je_var 1) (ja_cons (je_var 2) (ja_cons (je_var 3) ja_nil)))))))))⟩
end
end K29
namespace K29
open PySem L2 J
section
variable {P : Program} {w : World} {K : PySem.W.Frag} {mg : Str → Option Value} {base : Heap} {ct : List (Addr × List Str)} {c_Parts c_Rule a_BOTH : Addr}

theorem sc_law_all_cells : FnScope ["at"] [] (defScope s_law_all_cells) := ⟨rfl, rfl, rfl, by decide +kernel, rfl, by decide +kernel, by decide +kernel⟩
theorem ok_law_all_cells {f : Addr} {fd : FuncData} (F : Fun K "_law_all_cells" "_law_all_cells" s_law_all_cells f fd) (T : Txt K mg ct c_Parts c_Rule a_BOTH)  : FnOk P w K mg base CX0 1 f fd [] (spF ⟨P, w, K, ct⟩ d_law_all_cells) :=
  fn_ok ct F sc_law_all_cells fun cdv A outer s H E hr => ⟨_, (jss_one (js_ret (je_lcR1 (own := [("at", 0)]) T.m_range rfl sc_law_all_cells.nd (ja_cons je_int ja_nil) (blkOk_by (own := [("at", 0)]) (N := ["at"]) (sc := defScope s_law_all_cells) (by decide +kernel)) (own_name (by decide)) (fun _ _ _ _ _ => (jg_name 0 sc_law_all_cells.nd)) (fun _ _ _ _ _ => jts_nil) (fun _ _ _ _ _ => (je_tup (ja_cons (je_cmp op_ge ro_ord (je_var 0) je_int) (ja_cons (ke_eq (K := K) hr.units (je_mod (je_div (je_cty call_int1 rc_int T.m_int (by decide +kernel) (ja_cons (je_var 0) ja_nil)) je_int) je_int) je_int) (ja_cons (je_mod (je_div (je_cty call_int1 rc_int T.m_int (by decide +kernel) (ja_cons (je_var 0) ja_nil)) je_int) je_int) (ja_cons (ke_eq (K := K) hr.units (je_mod (je_cty call_int1 rc_int T.m_int (by decide +kernel) (ja_cons (je_var 0) ja_nil)) je_int) je_int) ja_nil)))))))))⟩
end
end K29
namespace K29
open PySem L2 J
section
variable {P : Program} {w : World} {K : PySem.W.Frag} {mg : Str → Option Value} {base : Heap} {ct : List (Addr × List Str)} {c_Parts c_Rule a_BOTH : Addr}

theorem sc_law_odd_cells : FnScope ["found"] [] (defScope s_law_odd_cells) := ⟨rfl, rfl, rfl, by decide +kernel, rfl, by decide +kernel, by decide +kernel⟩
theorem ok_law_odd_cells {f : Addr} {fd : FuncData} (F : Fun K "_law_odd_cells" "_law_odd_cells" s_law_odd_cells f fd) (T : Txt K mg ct c_Parts c_Rule a_BOTH)  : FnOk P w K mg base CX0 1 f fd [] (spF ⟨P, w, K, ct⟩ d_law_odd_cells) :=
  fn_ok ct F sc_law_odd_cells fun cdv A outer s H E hr => ⟨_, (jss_cons (js_set 0 sc_law_odd_cells.nd (je_lst (ja_cons je_non (ja_cons (je_tup ja_nil) (ja_cons (je_lst ja_nil) (ja_cons je_int (ja_cons je_str (ja_cons (je_tup (ja_cons je_bl (ja_cons je_bl (ja_cons je_int ja_nil)))) (ja_cons (je_lst (ja_cons je_bl (ja_cons je_bl (ja_cons je_int (ja_cons je_bl ja_nil))))) (ja_cons (je_tup (ja_cons je_bl (ja_cons je_bl (ja_cons je_int (ja_cons je_bl ja_nil))))) ja_nil))))))))))
  (jss_cons (js_set 0 sc_law_odd_cells.nd (ke_add (K := K) (je_var 0) (je_lst (ja_cons (je_tup (ja_cons je_bl (ja_cons je_bl (ja_cons (je_neg je_int) (ja_cons je_bl ja_nil))))) (ja_cons (je_tup (ja_cons je_bl (ja_cons je_bl (ja_cons je_bl (ja_cons je_bl ja_nil))))) (ja_cons (je_tup (ja_cons je_int (ja_cons je_bl (ja_cons je_int (ja_cons je_bl ja_nil))))) (ja_cons (je_tup (ja_cons je_bl (ja_cons je_int (ja_cons je_int (ja_cons je_bl ja_nil))))) ja_nil)))))))
  (jss_cons (js_set 0 sc_law_odd_cells.nd (ke_add (K := K) (je_var 0) (je_lst (ja_cons (je_tup (ja_cons je_bl (ja_cons je_bl (ja_cons je_int (ja_cons je_int ja_nil))))) (ja_cons (je_tup (ja_cons je_bl (ja_cons je_bl (ja_cons je_str (ja_cons je_bl ja_nil))))) (ja_cons (je_tup (ja_cons je_non (ja_cons je_non (ja_cons je_int (ja_cons je_non ja_nil))))) ja_nil))))))
  (jss_one (js_ret (ke_add (K := K) (je_var 0) (je_lst (ja_cons (je_tup (ja_cons je_bl (ja_cons je_bl (ja_cons je_int (ja_cons je_bl (ja_cons je_bl ja_nil)))))) ja_nil))))))))⟩
end
end K29
namespace K29
open PySem L2 J
section
variable {P : Program} {w : World} {K : PySem.W.Frag} {mg : Str → Option Value} {base : Heap} {ct : List (Addr × List Str)} {c_Parts c_Rule a_BOTH : Addr}

theorem sc_law : FnScope ["script", "pen", "turn", "told", "words", "at_root", "rule", "parts", "goes_on", "cell", "due", "odd"] ["script"] (defScope s_law) := ⟨rfl, rfl, rfl, by decide +kernel, rfl, by decide +kernel, by decide +kernel⟩
theorem ok_law {f : Addr} {fd : FuncData} (F : Fun K "law" "law" s_law f fd) (T : Txt K mg ct c_Parts c_Rule a_BOTH) (C_law_pen_of : Cal P w K mg base ct "_law_pen_of" 1 ["script"] d_law_pen_of) (C_law_rule_of : Cal P w K mg base ct "_law_rule_of" 3 ["pen"] d_law_rule_of) (C_law_rule_made : Cal P w K mg base ct "_law_rule_made" 6 ["rule"] d_law_rule_made) (C_law_parts : Cal P w K mg base ct "_law_parts" 1 ["rule"] d_law_parts) (C_least_part : Cal P w K mg base ct "least_part" 5 ["rule", "words"] d_least_part) (C_law_lets : Cal P w K mg base ct "_law_lets" 1 ["rule", "parts", "cell", "at_root", "goes_on"] d_law_lets) (C_is_let : Cal P w K mg base ct "is_let" 5 ["rule", "cell", "root", "goes_on"] d_is_let) (C_law_all_cells : Cal P w K mg base ct "_law_all_cells" 1 [] d_law_all_cells) (C_law_odd_cells : Cal P w K mg base ct "_law_odd_cells" 1 [] d_law_odd_cells) : FnOk P w K mg base CX0 7 f fd ["script"] (spF ⟨P, w, K, ct⟩ d_law) :=
  fn_ok ct F sc_law fun cdv A outer s H E hr => ⟨_, (jss_cons (js_set 1 sc_law.nd (ke_call C_law_pen_of (hr.mono (by decide)) (ja_cons (je_var 0) ja_nil)))
  (jss_cons (js_forR1 hp0 rfl T.m_range (ja_cons je_int ja_nil) (jg_name 2 sc_law.nd)
  (jss_cons (js_set 3 sc_law.nd (ke_call C_law_rule_of (hr.mono (by decide)) (ja_cons (je_var 1) ja_nil)))
  (jss_cons (js_asg (je_tup (ja_cons (ke_call C_law_rule_made (hr.mono (by decide)) (ja_cons (je_var 3) ja_nil)) (ja_cons (ke_call C_law_parts (hr.mono (by decide)) (ja_cons (je_var 3) ja_nil)) ja_nil))) (kg_tup (K := K) 2 rfl (jgs_cons (jg_name 6 sc_law.nd) (jgs_cons (jg_name 7 sc_law.nd) jgs_nil))))
  (jss_cons (js_for hp0 rfl (je_lst (ja_cons je_bl (ja_cons je_bl ja_nil))) (jg_name 4 sc_law.nd)
  (jss_one (js_if (kt_ne (K := K) hr.units (ke_call C_least_part (hr.mono (by decide)) (ja_cons (je_var 6) (ja_cons (je_var 4) ja_nil))) (ke_dget1 (P := P) (w := w) (hu_of hr) (je_var 7) (je_var 4)))
  (jss_one (js_ret je_bl))
  jss_nil)))
  (jss_one (js_for hp0 rfl (je_lst (ja_cons je_bl (ja_cons je_bl ja_nil))) (jg_name 5 sc_law.nd)
  (jss_one (js_for hp0 rfl (je_lst (ja_cons je_bl (ja_cons je_bl ja_nil))) (jg_name 8 sc_law.nd)
  (jss_cons (js_for hp0 rfl (ke_call0 C_law_all_cells (hr.mono (by decide))) (jg_name 9 sc_law.nd)
  (jss_cons (js_set 10 sc_law.nd (ke_call C_law_lets (hr.mono (by decide)) (ja_cons (je_var 3) (ja_cons (je_var 7) (ja_cons (je_var 9) (ja_cons (je_var 5) (ja_cons (je_var 8) ja_nil)))))))
  (jss_one (js_if (kt_ne (K := K) hr.units (je_cb call_repr rc_repr T.m_repr (by decide +kernel) (ja_cons (ke_call C_is_let (hr.mono (by decide)) (ja_cons (je_var 6) (ja_cons (je_var 9) (ja_cons (je_var 5) (ja_cons (je_var 8) ja_nil))))) ja_nil)) (je_cb call_repr rc_repr T.m_repr (by decide +kernel) (ja_cons (je_var 10) ja_nil)))
  (jss_one (js_ret je_bl))
  jss_nil))))
  (jss_one (js_if (kt_tru (K := K) (je_cb (kc_any (K := K) rfl) rc_any T.m_any (by decide +kernel) (ja_cons (je_lc (own := [("odd", 11)]) rfl sc_law.nd (ke_call0 C_law_odd_cells (hr.mono (by decide))) (blkOk_by (own := [("odd", 11)]) (N := ["script", "pen", "turn", "told", "words", "at_root", "rule", "parts", "goes_on", "cell", "due", "odd"]) (sc := defScope s_law) (by decide +kernel)) (own_name (by decide)) (fun _ _ _ _ _ => (jg_name 11 sc_law.nd)) (fun _ _ _ _ _ => jts_nil) (fun _ _ _ _ _ => (je_cmp (op_notBl.or op_notN) ro_isn (ke_call C_is_let (hr.mono (by decide)) (ja_cons (je_var 6) (ja_cons (je_var 11) (ja_cons (je_var 5) (ja_cons (je_var 8) ja_nil))))) je_bl))) ja_nil)))
  (jss_one (js_ret je_bl))
  jss_nil)))))))))))
  (jss_one (js_ret je_bl))))⟩
end
end K29
namespace K29
open PySem L2 J
theorem law_spF {P : Program} {w : World} {K : PySem.W.Frag} {ct : List (Addr × List Str)} {vs : List V} {H : Hp} {Q : VK} {E : XK} (h : spLaw K vs H Q E) : spF ⟨P, w, K, ct⟩ d_law vs H Q E := law_spF' law29 h
theorem all_mk {l : PySem.W.OpenLaw} {w : World} {K : PySem.W.Frag} {h : Heap} {mg : Str → Option Value} {fa c_Parts c_Rule q0 q1 q2 q3 q4 q5 q6 q7 q8 q9 q10 q11 q12 q13 q14 q15 q16 q17 q18 q19 q20 q21 q22 a_BOTH : Addr} (X : K.In h) (G : h.Ns mainGlobals mg) (hfa : mg "law" = some (.ref fa))
    {od0 an0 : Option Addr} {sl0 : Array (Option Value)} {oc0 kV0 dc0 pm0 cd0 ct0 : Value}
    (a0 : PySem.W.nsIn K mainGlobals "_law_pen_of" = some (some (.ref q0)))
    (l0 : K.lookup q0 = some ⟨oc0, od0, .func (PySem.W.fnOf "_law_pen_of" "_law_pen_of" (defArgs s_law_pen_of) (defBody s_law_pen_of) (defScope s_law_pen_of) .none kV0 dc0 pm0 an0 cd0 ct0), sl0⟩)
    (c0 : PySem.W.codeIn K cd0 "_law_pen_of" = true)
    (k0 : PySem.W.keepIn K (.ref q0) = true)
    {od1 an1 : Option Addr} {sl1 : Array (Option Value)} {oc1 kV1 dc1 pm1 cd1 ct1 : Value}
    (a1 : PySem.W.nsIn K mainGlobals "_law_draw" = some (some (.ref q1)))
    (l1 : K.lookup q1 = some ⟨oc1, od1, .func (PySem.W.fnOf "_law_draw" "_law_draw" (defArgs s_law_draw) (defBody s_law_draw) (defScope s_law_draw) .none kV1 dc1 pm1 an1 cd1 ct1), sl1⟩)
    (c1 : PySem.W.codeIn K cd1 "_law_draw" = true)
    (k1 : PySem.W.keepIn K (.ref q1) = true)
    {od2 an2 : Option Addr} {sl2 : Array (Option Value)} {oc2 kV2 dc2 pm2 cd2 ct2 : Value}
    (a2 : PySem.W.nsIn K mainGlobals "_law_known" = some (some (.ref q2)))
    (l2 : K.lookup q2 = some ⟨oc2, od2, .func (PySem.W.fnOf "_law_known" "_law_known" (defArgs s_law_known) (defBody s_law_known) (defScope s_law_known) .none kV2 dc2 pm2 an2 cd2 ct2), sl2⟩)
    (c2 : PySem.W.codeIn K cd2 "_law_known" = true)
    (k2 : PySem.W.keepIn K (.ref q2) = true)
    {od3 an3 : Option Addr} {sl3 : Array (Option Value)} {oc3 kV3 dc3 pm3 cd3 ct3 : Value}
    (a3 : PySem.W.nsIn K mainGlobals "_law_kinds_some" = some (some (.ref q3)))
    (l3 : K.lookup q3 = some ⟨oc3, od3, .func (PySem.W.fnOf "_law_kinds_some" "_law_kinds_some" (defArgs s_law_kinds_some) (defBody s_law_kinds_some) (defScope s_law_kinds_some) .none kV3 dc3 pm3 an3 cd3 ct3), sl3⟩)
    (c3 : PySem.W.codeIn K cd3 "_law_kinds_some" = true)
    (k3 : PySem.W.keepIn K (.ref q3) = true)
    {od4 an4 : Option Addr} {sl4 : Array (Option Value)} {oc4 kV4 dc4 pm4 cd4 ct4 : Value}
    (a4 : PySem.W.nsIn K mainGlobals "_law_rule_of" = some (some (.ref q4)))
    (l4 : K.lookup q4 = some ⟨oc4, od4, .func (PySem.W.fnOf "_law_rule_of" "_law_rule_of" (defArgs s_law_rule_of) (defBody s_law_rule_of) (defScope s_law_rule_of) .none kV4 dc4 pm4 an4 cd4 ct4), sl4⟩)
    (c4 : PySem.W.codeIn K cd4 "_law_rule_of" = true)
    (k4 : PySem.W.keepIn K (.ref q4) = true)
    {od5 an5 : Option Addr} {sl5 : Array (Option Value)} {oc5 kV5 dc5 pm5 cd5 ct5 : Value}
    (a5 : PySem.W.nsIn K mainGlobals "is_whole" = some (some (.ref q5)))
    (l5 : K.lookup q5 = some ⟨oc5, od5, .func (PySem.W.fnOf "is_whole" "is_whole" (defArgs s_is_whole) (defBody s_is_whole) (defScope s_is_whole) .none kV5 dc5 pm5 an5 cd5 ct5), sl5⟩)
    (c5 : PySem.W.codeIn K cd5 "is_whole" = true)
    (k5 : PySem.W.keepIn K (.ref q5) = true)
    {od6 an6 : Option Addr} {sl6 : Array (Option Value)} {oc6 kV6 dc6 pm6 cd6 ct6 : Value}
    (a6 : PySem.W.nsIn K mainGlobals "is_kind" = some (some (.ref q6)))
    (l6 : K.lookup q6 = some ⟨oc6, od6, .func (PySem.W.fnOf "is_kind" "is_kind" (defArgs s_is_kind) (defBody s_is_kind) (defScope s_is_kind) .none kV6 dc6 pm6 an6 cd6 ct6), sl6⟩)
    (c6 : PySem.W.codeIn K cd6 "is_kind" = true)
    (k6 : PySem.W.keepIn K (.ref q6) = true)
    {od7 an7 : Option Addr} {sl7 : Array (Option Value)} {oc7 kV7 dc7 pm7 cd7 ct7 : Value}
    (a7 : PySem.W.nsIn K mainGlobals "checked_kinds" = some (some (.ref q7)))
    (l7 : K.lookup q7 = some ⟨oc7, od7, .func (PySem.W.fnOf "checked_kinds" "checked_kinds" (defArgs s_checked_kinds) (defBody s_checked_kinds) (defScope s_checked_kinds) .none kV7 dc7 pm7 an7 cd7 ct7), sl7⟩)
    (c7 : PySem.W.codeIn K cd7 "checked_kinds" = true)
    (k7 : PySem.W.keepIn K (.ref q7) = true)
    {od8 an8 : Option Addr} {sl8 : Array (Option Value)} {oc8 kV8 dc8 pm8 cd8 ct8 : Value}
    (a8 : PySem.W.findIn K (.ref c_Rule) "__init__" = some (some (.ref q8)))
    (i8 : PySem.W.isFn K (.ref q8) = true)
    (l8 : K.lookup q8 = some ⟨oc8, od8, .func (PySem.W.fnOf "__init__" "Rule.__init__" (defArgs s_Rule_init) (defBody s_Rule_init) (defScope s_Rule_init) .none kV8 dc8 pm8 an8 cd8 ct8), sl8⟩)
    (c8 : PySem.W.codeIn K cd8 "Rule.__init__" = true)
    (k8 : PySem.W.keepIn K (.ref q8) = true)
    {od9 an9 : Option Addr} {sl9 : Array (Option Value)} {oc9 kV9 dc9 pm9 cd9 ct9 : Value}
    (a9 : PySem.W.nsIn K mainGlobals "_law_rule_made" = some (some (.ref q9)))
    (l9 : K.lookup q9 = some ⟨oc9, od9, .func (PySem.W.fnOf "_law_rule_made" "_law_rule_made" (defArgs s_law_rule_made) (defBody s_law_rule_made) (defScope s_law_rule_made) .none kV9 dc9 pm9 an9 cd9 ct9), sl9⟩)
    (c9 : PySem.W.codeIn K cd9 "_law_rule_made" = true)
    (k9 : PySem.W.keepIn K (.ref q9) = true)
    {od10 an10 : Option Addr} {sl10 : Array (Option Value)} {oc10 kV10 dc10 pm10 cd10 ct10 : Value}
    (a10 : PySem.W.nsIn K mainGlobals "_law_parts" = some (some (.ref q10)))
    (l10 : K.lookup q10 = some ⟨oc10, od10, .func (PySem.W.fnOf "_law_parts" "_law_parts" (defArgs s_law_parts) (defBody s_law_parts) (defScope s_law_parts) .none kV10 dc10 pm10 an10 cd10 ct10), sl10⟩)
    (c10 : PySem.W.codeIn K cd10 "_law_parts" = true)
    (k10 : PySem.W.keepIn K (.ref q10) = true)
    {od11 an11 : Option Addr} {sl11 : Array (Option Value)} {oc11 kV11 dc11 pm11 cd11 ct11 : Value}
    (a11 : PySem.W.findIn K (.ref c_Parts) "weight_of" = some (some (.ref q11)))
    (i11 : PySem.W.isFn K (.ref q11) = true)
    (l11 : K.lookup q11 = some ⟨oc11, od11, .func (PySem.W.fnOf "weight_of" "Parts.weight_of" (defArgs s_Parts_weight_of) (defBody s_Parts_weight_of) (defScope s_Parts_weight_of) .none kV11 dc11 pm11 an11 cd11 ct11), sl11⟩)
    (c11 : PySem.W.codeIn K cd11 "Parts.weight_of" = true)
    (k11 : PySem.W.keepIn K (.ref q11) = true)
    {od12 an12 : Option Addr} {sl12 : Array (Option Value)} {oc12 kV12 dc12 pm12 cd12 ct12 : Value}
    (a12 : PySem.W.findIn K (.ref c_Parts) "choices" = some (some (.ref q12)))
    (i12 : PySem.W.isFn K (.ref q12) = true)
    (l12 : K.lookup q12 = some ⟨oc12, od12, .func (PySem.W.fnOf "choices" "Parts.choices" (defArgs s_Parts_choices) (defBody s_Parts_choices) (defScope s_Parts_choices) .none kV12 dc12 pm12 an12 cd12 ct12), sl12⟩)
    (c12 : PySem.W.codeIn K cd12 "Parts.choices" = true)
    (k12 : PySem.W.keepIn K (.ref q12) = true)
    {od13 an13 : Option Addr} {sl13 : Array (Option Value)} {oc13 kV13 dc13 pm13 cd13 ct13 : Value}
    (a13 : PySem.W.findIn K (.ref c_Parts) "tries" = some (some (.ref q13)))
    (i13 : PySem.W.isFn K (.ref q13) = true)
    (l13 : K.lookup q13 = some ⟨oc13, od13, .func (PySem.W.fnOf "tries" "Parts.tries" (defArgs s_Parts_tries) (defBody s_Parts_tries) (defScope s_Parts_tries) .none kV13 dc13 pm13 an13 cd13 ct13), sl13⟩)
    (c13 : PySem.W.codeIn K cd13 "Parts.tries" = true)
    (k13 : PySem.W.keepIn K (.ref q13) = true)
    {od14 an14 : Option Addr} {sl14 : Array (Option Value)} {oc14 kV14 dc14 pm14 cd14 ct14 : Value}
    {dT14 : Addr} {dd14 : Option Addr} {dc_14 : Value} {dn14 : Nat} {ds14 : Array (Option Value)}
    (a14 : PySem.W.findIn K (.ref c_Parts) "__init__" = some (some (.ref q14)))
    (i14 : PySem.W.isFn K (.ref q14) = true)
    (l14 : K.lookup q14 = some ⟨oc14, od14, .func (PySem.W.fnOf "__init__" "Parts.__init__" (defArgs s_Parts_init) (defBody s_Parts_init) (defScope s_Parts_init) (.ref dT14) kV14 dc14 pm14 an14 cd14 ct14), sl14⟩)
    (c14 : PySem.W.codeIn K cd14 "Parts.__init__" = true)
    (k14 : PySem.W.keepIn K (.ref q14) = true)
    (t14 : K.lookup dT14 = some ⟨dc_14, dd14, .seq #[.bool false] dn14, ds14⟩)
    {od15 an15 : Option Addr} {sl15 : Array (Option Value)} {oc15 kV15 dc15 pm15 cd15 ct15 : Value}
    (a15 : PySem.W.nsIn K mainGlobals "least_part" = some (some (.ref q15)))
    (l15 : K.lookup q15 = some ⟨oc15, od15, .func (PySem.W.fnOf "least_part" "least_part" (defArgs s_least_part) (defBody s_least_part) (defScope s_least_part) .none kV15 dc15 pm15 an15 cd15 ct15), sl15⟩)
    (c15 : PySem.W.codeIn K cd15 "least_part" = true)
    (k15 : PySem.W.keepIn K (.ref q15) = true)
    {od16 an16 : Option Addr} {sl16 : Array (Option Value)} {oc16 kV16 dc16 pm16 cd16 ct16 : Value}
    (a16 : PySem.W.nsIn K mainGlobals "_law_lets" = some (some (.ref q16)))
    (l16 : K.lookup q16 = some ⟨oc16, od16, .func (PySem.W.fnOf "_law_lets" "_law_lets" (defArgs s_law_lets) (defBody s_law_lets) (defScope s_law_lets) .none kV16 dc16 pm16 an16 cd16 ct16), sl16⟩)
    (c16 : PySem.W.codeIn K cd16 "_law_lets" = true)
    (k16 : PySem.W.keepIn K (.ref q16) = true)
    {od17 an17 : Option Addr} {sl17 : Array (Option Value)} {oc17 kV17 dc17 pm17 cd17 ct17 : Value}
    (a17 : PySem.W.nsIn K mainGlobals "is_cell" = some (some (.ref q17)))
    (l17 : K.lookup q17 = some ⟨oc17, od17, .func (PySem.W.fnOf "is_cell" "is_cell" (defArgs s_is_cell) (defBody s_is_cell) (defScope s_is_cell) .none kV17 dc17 pm17 an17 cd17 ct17), sl17⟩)
    (c17 : PySem.W.codeIn K cd17 "is_cell" = true)
    (k17 : PySem.W.keepIn K (.ref q17) = true)
    {od18 an18 : Option Addr} {sl18 : Array (Option Value)} {oc18 kV18 dc18 pm18 cd18 ct18 : Value}
    (a18 : PySem.W.nsIn K mainGlobals "is_let_by" = some (some (.ref q18)))
    (l18 : K.lookup q18 = some ⟨oc18, od18, .func (PySem.W.fnOf "is_let_by" "is_let_by" (defArgs s_is_let_by) (defBody s_is_let_by) (defScope s_is_let_by) .none kV18 dc18 pm18 an18 cd18 ct18), sl18⟩)
    (c18 : PySem.W.codeIn K cd18 "is_let_by" = true)
    (k18 : PySem.W.keepIn K (.ref q18) = true)
    {od19 an19 : Option Addr} {sl19 : Array (Option Value)} {oc19 kV19 dc19 pm19 cd19 ct19 : Value}
    (a19 : PySem.W.nsIn K mainGlobals "is_let" = some (some (.ref q19)))
    (l19 : K.lookup q19 = some ⟨oc19, od19, .func (PySem.W.fnOf "is_let" "is_let" (defArgs s_is_let) (defBody s_is_let) (defScope s_is_let) .none kV19 dc19 pm19 an19 cd19 ct19), sl19⟩)
    (c19 : PySem.W.codeIn K cd19 "is_let" = true)
    (k19 : PySem.W.keepIn K (.ref q19) = true)
    {od20 an20 : Option Addr} {sl20 : Array (Option Value)} {oc20 kV20 dc20 pm20 cd20 ct20 : Value}
    (a20 : PySem.W.nsIn K mainGlobals "_law_all_cells" = some (some (.ref q20)))
    (l20 : K.lookup q20 = some ⟨oc20, od20, .func (PySem.W.fnOf "_law_all_cells" "_law_all_cells" (defArgs s_law_all_cells) (defBody s_law_all_cells) (defScope s_law_all_cells) .none kV20 dc20 pm20 an20 cd20 ct20), sl20⟩)
    (c20 : PySem.W.codeIn K cd20 "_law_all_cells" = true)
    (k20 : PySem.W.keepIn K (.ref q20) = true)
    {od21 an21 : Option Addr} {sl21 : Array (Option Value)} {oc21 kV21 dc21 pm21 cd21 ct21 : Value}
    (a21 : PySem.W.nsIn K mainGlobals "_law_odd_cells" = some (some (.ref q21)))
    (l21 : K.lookup q21 = some ⟨oc21, od21, .func (PySem.W.fnOf "_law_odd_cells" "_law_odd_cells" (defArgs s_law_odd_cells) (defBody s_law_odd_cells) (defScope s_law_odd_cells) .none kV21 dc21 pm21 an21 cd21 ct21), sl21⟩)
    (c21 : PySem.W.codeIn K cd21 "_law_odd_cells" = true)
    (k21 : PySem.W.keepIn K (.ref q21) = true)
    {od22 an22 : Option Addr} {sl22 : Array (Option Value)} {oc22 kV22 dc22 pm22 cd22 ct22 : Value}
    (a22 : PySem.W.nsIn K mainGlobals "law" = some (some (.ref q22)))
    (l22 : K.lookup q22 = some ⟨oc22, od22, .func (PySem.W.fnOf "law" "law" (defArgs s_law) (defBody s_law) (defScope s_law) .none kV22 dc22 pm22 an22 cd22 ct22), sl22⟩)
    (c22 : PySem.W.codeIn K cd22 "law" = true)
    (k22 : PySem.W.keepIn K (.ref q22) = true)
    (ac_Parts : PySem.W.nsIn K mainGlobals "Parts" = some (some (.ref c_Parts)))
    (pg_Parts : PySem.W.plainGet K c_Parts Str.empty = true)
    (hd_Parts : PySem.W.hasDictIn K c_Parts = true)
    (po_Parts : PySem.W.plainOver K c_Parts = true)
    (sa_Parts : PySem.W.findIn K (.ref c_Parts) "__setattr__" = some (some (.builtin "object.__setattr__")))
    (mk_Parts : PySem.W.makesIn K c_Parts = true)
    (kc_Parts : PySem.W.keepIn K (.ref c_Parts) = true)
    (n_Parts_rule : PySem.W.findIn K (.ref c_Parts) "rule" = some none)
    (n_Parts_is_by_words : PySem.W.findIn K (.ref c_Parts) "is_by_words" = some none)
    (n_Parts_least : PySem.W.findIn K (.ref c_Parts) "least" = some none)
    (ac_Rule : PySem.W.nsIn K mainGlobals "Rule" = some (some (.ref c_Rule)))
    (pg_Rule : PySem.W.plainGet K c_Rule Str.empty = true)
    (hd_Rule : PySem.W.hasDictIn K c_Rule = true)
    (po_Rule : PySem.W.plainOver K c_Rule = true)
    (sa_Rule : PySem.W.findIn K (.ref c_Rule) "__setattr__" = some (some (.builtin "object.__setattr__")))
    (mk_Rule : PySem.W.makesIn K c_Rule = true)
    (kc_Rule : PySem.W.keepIn K (.ref c_Rule) = true)
    (n_Rule_root : PySem.W.findIn K (.ref c_Rule) "root" = some none)
    (n_Rule_others : PySem.W.findIn K (.ref c_Rule) "others" = some none)
    {od_BOTH : Option Addr} {nn_BOTH : Nat} {sl_BOTH : Array (Option Value)}
    (b_BOTH : PySem.W.nsIn K mainGlobals "BOTH" = some (some (.ref a_BOTH)))
    (e_BOTH : K.lookup a_BOTH = some ⟨.type "tuple", od_BOTH, .seq #[.bool false, .bool true] nn_BOTH, sl_BOTH⟩)
    (z_abs : PySem.W.nsIn K mainGlobals "abs" = some none)
    (z_all : PySem.W.nsIn K mainGlobals "all" = some none)
    (z_any : PySem.W.nsIn K mainGlobals "any" = some none)
    (z_bool : PySem.W.nsIn K mainGlobals "bool" = some none)
    (z_enumerate : PySem.W.nsIn K mainGlobals "enumerate" = some none)
    (z_int : PySem.W.nsIn K mainGlobals "int" = some none)
    (z_isinstance : PySem.W.nsIn K mainGlobals "isinstance" = some none)
    (z_len : PySem.W.nsIn K mainGlobals "len" = some none)
    (z_list : PySem.W.nsIn K mainGlobals "list" = some none)
    (z_min : PySem.W.nsIn K mainGlobals "min" = some none)
    (z_range : PySem.W.nsIn K mainGlobals "range" = some none)
    (z_repr : PySem.W.nsIn K mainGlobals "repr" = some none)
    (z_sorted : PySem.W.nsIn K mainGlobals "sorted" = some none)
    (z_sum : PySem.W.nsIn K mainGlobals "sum" = some none)
    (z_tuple : PySem.W.nsIn K mainGlobals "tuple" = some none)
    : ∃ fd : FuncData, (∀ (s : Shared) (v : Value), BindsTo s fd ⟨[v], []⟩ [("script", v)]) ∧ ∀ base : Heap, K.In base → base.Ns mainGlobals mg → FnOk l.prog w K mg base CX0 7 fa fd ["script"] (spLaw K) := by
  have e := hfa.symm.trans (PySem.W.mg_of X G a22)
  cases e
  let ct : List (Addr × List Str) := [(c_Parts, ["rule", "is_by_words", "least"]), (c_Rule, ["root", "others"])]
  have T : Txt K mg ct c_Parts c_Rule a_BOTH := ⟨PySem.W.mg_of X G b_BOTH, fun ρ H => .tup (.inr ⟨_, _, _, e_BOTH, rfl, rfl, by decide, .cons (show RelV (.bl false) (.bool false) from rfl) (.cons (show RelV (.bl true) (.bool true) from rfl) .nil)⟩) (.cons (.bl _) (.cons (.bl _) .nil)), PySem.W.mg_none_of X G z_abs, PySem.W.mg_none_of X G z_all, PySem.W.mg_none_of X G z_any, PySem.W.mg_none_of X G z_bool, PySem.W.mg_none_of X G z_enumerate, PySem.W.mg_none_of X G z_int, PySem.W.mg_none_of X G z_isinstance, PySem.W.mg_none_of X G z_len, PySem.W.mg_none_of X G z_list, PySem.W.mg_none_of X G z_min, PySem.W.mg_none_of X G z_range, PySem.W.mg_none_of X G z_repr, PySem.W.mg_none_of X G z_sorted, PySem.W.mg_none_of X G z_sum, PySem.W.mg_none_of X G z_tuple, rfl, ⟨pg_Parts, hd_Parts, po_Parts, sa_Parts⟩, n_Parts_rule, n_Parts_is_by_words, n_Parts_least, rfl, ⟨pg_Rule, hd_Rule, po_Rule, sa_Rule⟩, n_Rule_root, n_Rule_others⟩
  have F0 := fun_mk (st := s_law_pen_of) l0 c0 k0
  have bd0 := F0.binds (ps := ["script"]) fun _ _ _ _ _ _ us hl => match us, hl with | [_], _ => rfl
  have F1 := fun_mk (st := s_law_draw) l1 c1 k1
  have bd1 := F1.binds (ps := ["pen", "many"]) fun _ _ _ _ _ _ us hl => match us, hl with | [_, _], _ => rfl
  have F2 := fun_mk (st := s_law_known) l2 c2 k2
  have bd2 := F2.binds (ps := ["name"]) fun _ _ _ _ _ _ us hl => match us, hl with | [_], _ => rfl
  have F3 := fun_mk (st := s_law_kinds_some) l3 c3 k3
  have bd3 := F3.binds (ps := ["pen"]) fun _ _ _ _ _ _ us hl => match us, hl with | [_], _ => rfl
  have F4 := fun_mk (st := s_law_rule_of) l4 c4 k4
  have bd4 := F4.binds (ps := ["pen"]) fun _ _ _ _ _ _ us hl => match us, hl with | [_], _ => rfl
  have F5 := fun_mk (st := s_is_whole) l5 c5 k5
  have bd5 := F5.binds (ps := ["value", "least", "most"]) fun _ _ _ _ _ _ us hl => match us, hl with | [_, _, _], _ => rfl
  have F6 := fun_mk (st := s_is_kind) l6 c6 k6
  have bd6 := F6.binds (ps := ["value"]) fun _ _ _ _ _ _ us hl => match us, hl with | [_], _ => rfl
  have F7 := fun_mk (st := s_checked_kinds) l7 c7 k7
  have bd7 := F7.binds (ps := ["side", "kinds"]) fun _ _ _ _ _ _ us hl => match us, hl with | [_, _], _ => rfl
  have F8 := fun_mk (st := s_Rule_init) l8 c8 k8
  have bd8 := F8.binds (ps := ["self", "root", "others"]) fun _ _ _ _ _ _ us hl => match us, hl with | [_, _, _], _ => rfl
  have F9 := fun_mk (st := s_law_rule_made) l9 c9 k9
  have bd9 := F9.binds (ps := ["rule"]) fun _ _ _ _ _ _ us hl => match us, hl with | [_], _ => rfl
  have F10 := fun_mk (st := s_law_parts) l10 c10 k10
  have bd10 := F10.binds (ps := ["rule"]) fun _ _ _ _ _ _ us hl => match us, hl with | [_], _ => rfl
  have F11 := fun_mk (st := s_Parts_weight_of) l11 c11 k11
  have bd11 := F11.binds (ps := ["self", "mark"]) fun _ _ _ _ _ _ us hl => match us, hl with | [_, _], _ => rfl
  have F12 := fun_mk (st := s_Parts_choices) l12 c12 k12
  have bd12 := F12.binds (ps := ["self", "children"]) fun _ _ _ _ _ _ us hl => match us, hl with | [_, _], _ => rfl
  have F13 := fun_mk (st := s_Parts_tries) l13 c13 k13
  have bd13 := F13.binds (ps := ["self", "kind"]) fun _ _ _ _ _ _ us hl => match us, hl with | [_, _], _ => rfl
  have F14 : FunD K "__init__" "Parts.__init__" (defArgs s_Parts_init) (defBody s_Parts_init) (defScope s_Parts_init) [.bl false] [] q14 _ := ⟨⟨oc14, od14, _, kV14, dc14, pm14, an14, cd14, ct14, sl14, rfl, l14, c14, .inr ⟨fun z => (by cases z), dT14, _, [.bool false], dn14, rfl, t14, rfl, .cons rfl .nil⟩, .inl rfl⟩, k14⟩
  obtain ⟨dl14, dv14, bd14⟩ := F14.binds1 (ps := ["self", "rule", "by_words"]) 2 0 (fun z => (by cases z)) rfl fun T kV doc pm an cdv ct us its h1 h2 => match us, h1, its, h2 with | [_, _], _, [_], _ => ⟨_, rfl, rfl⟩
  have F15 := fun_mk (st := s_least_part) l15 c15 k15
  have bd15 := F15.binds (ps := ["rule", "words"]) fun _ _ _ _ _ _ us hl => match us, hl with | [_, _], _ => rfl
  have F16 := fun_mk (st := s_law_lets) l16 c16 k16
  have bd16 := F16.binds (ps := ["rule", "parts", "cell", "at_root", "goes_on"]) fun _ _ _ _ _ _ us hl => match us, hl with | [_, _, _, _, _], _ => rfl
  have F17 := fun_mk (st := s_is_cell) l17 c17 k17
  have bd17 := F17.binds (ps := ["value"]) fun _ _ _ _ _ _ us hl => match us, hl with | [_], _ => rfl
  have F18 := fun_mk (st := s_is_let_by) l18 c18 k18
  have bd18 := F18.binds (ps := ["parts", "cell", "is_root", "goes_on"]) fun _ _ _ _ _ _ us hl => match us, hl with | [_, _, _, _], _ => rfl
  have F19 := fun_mk (st := s_is_let) l19 c19 k19
  have bd19 := F19.binds (ps := ["rule", "cell", "root", "goes_on"]) fun _ _ _ _ _ _ us hl => match us, hl with | [_, _, _, _], _ => rfl
  have F20 := fun_mk (st := s_law_all_cells) l20 c20 k20
  have bd20 := F20.binds (ps := []) fun _ _ _ _ _ _ us hl => match us, hl with | [], _ => rfl
  have F21 := fun_mk (st := s_law_odd_cells) l21 c21 k21
  have bd21 := F21.binds (ps := []) fun _ _ _ _ _ _ us hl => match us, hl with | [], _ => rfl
  have F22 := fun_mk (st := s_law) l22 c22 k22
  have bd22 := F22.binds (ps := ["script"]) fun _ _ _ _ _ _ us hl => match us, hl with | [_], _ => rfl
  refine ⟨PySem.W.fnOf "law" "law" (defArgs s_law) (defBody s_law) (defScope s_law) .none kV22 dc22 pm22 an22 cd22 ct22, fun s v => .of_eq rfl, fun base hK hG => ?_⟩
  have G0 : FnOk l.prog w K mg base CX0 1 q0 _ ["script"] (spF ⟨l.prog, w, K, ct⟩ d_law_pen_of) := ok_law_pen_of F0 T 
  have C_law_pen_of : Cal l.prog w K mg base ct "_law_pen_of" 1 ["script"] d_law_pen_of := ⟨⟨_, _, G0, PySem.W.mg_of X G a0, k0, bd0⟩⟩
  have G1 : FnOk l.prog w K mg base CX0 1 q1 _ ["pen", "many"] (spF ⟨l.prog, w, K, ct⟩ d_law_draw) := ok_law_draw F1 T 
  have C_law_draw : Cal l.prog w K mg base ct "_law_draw" 1 ["pen", "many"] d_law_draw := ⟨⟨_, _, G1, PySem.W.mg_of X G a1, k1, bd1⟩⟩
  have G2 : FnOk l.prog w K mg base CX0 1 q2 _ ["name"] (spF ⟨l.prog, w, K, ct⟩ d_law_known) := ok_law_known F2 T 
  have C_law_known : Cal l.prog w K mg base ct "_law_known" 1 ["name"] d_law_known := ⟨⟨_, _, G2, PySem.W.mg_of X G a2, k2, bd2⟩⟩
  have G3 : FnOk l.prog w K mg base CX0 2 q3 _ ["pen"] (spF ⟨l.prog, w, K, ct⟩ d_law_kinds_some) := ok_law_kinds_some F3 T C_law_draw
  have C_law_kinds_some : Cal l.prog w K mg base ct "_law_kinds_some" 2 ["pen"] d_law_kinds_some := ⟨⟨_, _, G3, PySem.W.mg_of X G a3, k3, bd3⟩⟩
  have G4 : FnOk l.prog w K mg base CX0 3 q4 _ ["pen"] (spF ⟨l.prog, w, K, ct⟩ d_law_rule_of) := ok_law_rule_of F4 T C_law_draw C_law_known C_law_kinds_some
  have C_law_rule_of : Cal l.prog w K mg base ct "_law_rule_of" 3 ["pen"] d_law_rule_of := ⟨⟨_, _, G4, PySem.W.mg_of X G a4, k4, bd4⟩⟩
  have G5 : FnOk l.prog w K mg base CX0 1 q5 _ ["value", "least", "most"] (spF ⟨l.prog, w, K, ct⟩ d_is_whole) := ok_is_whole F5 T 
  have C_is_whole : Cal l.prog w K mg base ct "is_whole" 1 ["value", "least", "most"] d_is_whole := ⟨⟨_, _, G5, PySem.W.mg_of X G a5, k5, bd5⟩⟩
  have G6 : FnOk l.prog w K mg base CX0 2 q6 _ ["value"] (spF ⟨l.prog, w, K, ct⟩ d_is_kind) := ok_is_kind F6 T C_is_whole
  have C_is_kind : Cal l.prog w K mg base ct "is_kind" 2 ["value"] d_is_kind := ⟨⟨_, _, G6, PySem.W.mg_of X G a6, k6, bd6⟩⟩
  have G7 : FnOk l.prog w K mg base CX0 3 q7 _ ["side", "kinds"] (spF ⟨l.prog, w, K, ct⟩ d_checked_kinds) := ok_checked_kinds F7 T C_is_kind
  have C_checked_kinds : Cal l.prog w K mg base ct "checked_kinds" 3 ["side", "kinds"] d_checked_kinds := ⟨⟨_, _, G7, PySem.W.mg_of X G a7, k7, bd7⟩⟩
  have G8 : FnOk l.prog w K mg base CX0 4 q8 _ ["self", "root", "others"] (spF ⟨l.prog, w, K, ct⟩ d_Rule_init) := ok_Rule_init F8 T C_checked_kinds
  have I_Rule : CalI l.prog w K mg base ct "Rule" 1 c_Rule 4 ["self", "root", "others"] d_Rule_init [] [] := ⟨⟨_, _, _, [], G8, PySem.W.mg_of X G ac_Rule, rfl, by decide +kernel, by decide, ⟨mk_Rule, a8, i8, kc_Rule⟩, bd8, .nil, fun ρ H => .nil⟩⟩
  have G9 : FnOk l.prog w K mg base CX0 6 q9 _ ["rule"] (spF ⟨l.prog, w, K, ct⟩ d_law_rule_made) := ok_law_rule_made F9 T I_Rule
  have C_law_rule_made : Cal l.prog w K mg base ct "_law_rule_made" 6 ["rule"] d_law_rule_made := ⟨⟨_, _, G9, PySem.W.mg_of X G a9, k9, bd9⟩⟩
  have G10 : FnOk l.prog w K mg base CX0 1 q10 _ ["rule"] (spF ⟨l.prog, w, K, ct⟩ d_law_parts) := ok_law_parts F10 T 
  have C_law_parts : Cal l.prog w K mg base ct "_law_parts" 1 ["rule"] d_law_parts := ⟨⟨_, _, G10, PySem.W.mg_of X G a10, k10, bd10⟩⟩
  have G11 : FnOk l.prog w K mg base CX0 1 q11 _ ["self", "mark"] (spF ⟨l.prog, w, K, ct⟩ d_Parts_weight_of) := ok_Parts_weight_of F11 T 
  have C_Parts_weight_of : CalM l.prog w K mg base ct 0 c_Parts "weight_of" 1 ["self", "mark"] d_Parts_weight_of := ⟨⟨_, _, _, G11, rfl, ⟨pg_Parts, hd_Parts, po_Parts, sa_Parts⟩, ⟨a11, i11, k11⟩, mem_k (by decide +kernel), bd11⟩⟩
  have G12 : FnOk l.prog w K mg base CX0 1 q12 _ ["self", "children"] (spF ⟨l.prog, w, K, ct⟩ d_Parts_choices) := ok_Parts_choices F12 T 
  have C_Parts_choices : CalM l.prog w K mg base ct 0 c_Parts "choices" 1 ["self", "children"] d_Parts_choices := ⟨⟨_, _, _, G12, rfl, ⟨pg_Parts, hd_Parts, po_Parts, sa_Parts⟩, ⟨a12, i12, k12⟩, mem_k (by decide +kernel), bd12⟩⟩
  have G13 : FnOk l.prog w K mg base CX0 2 q13 _ ["self", "kind"] (spF ⟨l.prog, w, K, ct⟩ d_Parts_tries) := ok_Parts_tries F13 T C_Parts_weight_of C_Parts_choices
  have C_Parts_tries : CalM l.prog w K mg base ct 0 c_Parts "tries" 2 ["self", "kind"] d_Parts_tries := ⟨⟨_, _, _, G13, rfl, ⟨pg_Parts, hd_Parts, po_Parts, sa_Parts⟩, ⟨a13, i13, k13⟩, mem_k (by decide +kernel), bd13⟩⟩
  have G14 : FnOk l.prog w K mg base CX0 3 q14 _ ["self", "rule", "by_words"] (spF ⟨l.prog, w, K, ct⟩ d_Parts_init) := ok_Parts_init F14 T C_Parts_tries
  have I_Parts : CalI l.prog w K mg base ct "Parts" 0 c_Parts 3 ["self", "rule", "by_words"] d_Parts_init [(V.bl false)] [(.bl false)] := ⟨⟨_, _, _, _, G14, PySem.W.mg_of X G ac_Parts, rfl, by decide +kernel, by decide, ⟨mk_Parts, a14, i14, kc_Parts⟩, bd14, dv14, fun ρ H => .cons (.bl _) (.nil)⟩⟩
  have G15 : FnOk l.prog w K mg base CX0 5 q15 _ ["rule", "words"] (spF ⟨l.prog, w, K, ct⟩ d_least_part) := ok_least_part F15 T I_Parts
  have C_least_part : Cal l.prog w K mg base ct "least_part" 5 ["rule", "words"] d_least_part := ⟨⟨_, _, G15, PySem.W.mg_of X G a15, k15, bd15⟩⟩
  have G16 : FnOk l.prog w K mg base CX0 1 q16 _ ["rule", "parts", "cell", "at_root", "goes_on"] (spF ⟨l.prog, w, K, ct⟩ d_law_lets) := ok_law_lets F16 T 
  have C_law_lets : Cal l.prog w K mg base ct "_law_lets" 1 ["rule", "parts", "cell", "at_root", "goes_on"] d_law_lets := ⟨⟨_, _, G16, PySem.W.mg_of X G a16, k16, bd16⟩⟩
  have G17 : FnOk l.prog w K mg base CX0 1 q17 _ ["value"] (spF ⟨l.prog, w, K, ct⟩ d_is_cell) := ok_is_cell F17 T 
  have C_is_cell : Cal l.prog w K mg base ct "is_cell" 1 ["value"] d_is_cell := ⟨⟨_, _, G17, PySem.W.mg_of X G a17, k17, bd17⟩⟩
  have G18 : FnOk l.prog w K mg base CX0 1 q18 _ ["parts", "cell", "is_root", "goes_on"] (spF ⟨l.prog, w, K, ct⟩ d_is_let_by) := ok_is_let_by F18 T 
  have C_is_let_by : Cal l.prog w K mg base ct "is_let_by" 1 ["parts", "cell", "is_root", "goes_on"] d_is_let_by := ⟨⟨_, _, G18, PySem.W.mg_of X G a18, k18, bd18⟩⟩
  have G19 : FnOk l.prog w K mg base CX0 5 q19 _ ["rule", "cell", "root", "goes_on"] (spF ⟨l.prog, w, K, ct⟩ d_is_let) := ok_is_let F19 T C_is_cell C_is_let_by I_Parts
  have C_is_let : Cal l.prog w K mg base ct "is_let" 5 ["rule", "cell", "root", "goes_on"] d_is_let := ⟨⟨_, _, G19, PySem.W.mg_of X G a19, k19, bd19⟩⟩
  have G20 : FnOk l.prog w K mg base CX0 1 q20 _ [] (spF ⟨l.prog, w, K, ct⟩ d_law_all_cells) := ok_law_all_cells F20 T 
  have C_law_all_cells : Cal l.prog w K mg base ct "_law_all_cells" 1 [] d_law_all_cells := ⟨⟨_, _, G20, PySem.W.mg_of X G a20, k20, bd20⟩⟩
  have G21 : FnOk l.prog w K mg base CX0 1 q21 _ [] (spF ⟨l.prog, w, K, ct⟩ d_law_odd_cells) := ok_law_odd_cells F21 T 
  have C_law_odd_cells : Cal l.prog w K mg base ct "_law_odd_cells" 1 [] d_law_odd_cells := ⟨⟨_, _, G21, PySem.W.mg_of X G a21, k21, bd21⟩⟩
  have G22 : FnOk l.prog w K mg base CX0 7 fa _ ["script"] (spF ⟨l.prog, w, K, ct⟩ d_law) := ok_law F22 T C_law_pen_of C_law_rule_of C_law_rule_made C_law_parts C_least_part C_law_lets C_is_let C_law_all_cells C_law_odd_cells
  exact G22.imp fun vs H Q E h => law_spF h
theorem walk {l : PySem.W.OpenLaw} {q : Program} {loose : List Str} {XP : (Str → Option Value) → Heap → Prop} {YP : World → Heap → Prop} {d : DefRec} {K : Params → PySem.W.Frag} (hn : l.most = some 63) (hdf : d.params.defaults = [])
    (hY : ∀ (w : World) (h : Heap), YP w h → (K w.params).In h)
    (F : ∀ (w : World) (mg : Str → Option Value) (fa : Addr) (h : Heap), (K w.params).In h → h.Ns mainGlobals mg → mg d.name = some (.ref fa) →
      ∃ fd : FuncData, (∀ (s : Shared) (u : Value), BindsTo s fd ⟨[u], []⟩ [("script", u)]) ∧ ∀ base : Heap, (K w.params).In base → base.Ns mainGlobals mg → FnOk l.prog w (K w.params) mg base CX0 7 fa fd ["script"] (spLaw (K w.params))) :
    PySem.W.WalkO q loose XP YP l.row.toRowW d [] (fun f vs => PySem.call f vs) :=
  L2.walk_of (n := 63) (k := 7) (x := "script") (CX := fun _ => CX0) (sp := fun w => spLaw (K w.params)) hn (by decide) hdf ⟨rfl, by decide, by decide⟩ hY F (fun _ _ a ns hl hO hS => ⟨a, ns, rfl, hS, hl, hO, fun _ => rfl⟩) fun _ _ _ _ _ z => z

end K29
open PySem PySem.W PyProof.Rows
set_option maxRecDepth 100000 in
set_option maxHeartbeats 0 in
theorem PySem.Challenge.cw_lettertrees_k29_cells_that_are_let_holds : PySem.Challenge.rw_lettertrees_k29_cells_that_are_let.Holds := by
  w_on; o_law; k_head; (case hw => w_witness2)
  k_fill
  refine K29.walk (l := PySem.Challenge.rw_lettertrees_k29_cells_that_are_let) rfl rfl (fun w h Y => PySem.W.km_in_of Y) ?F
  case F =>
    intro w mg fa h KX G hmg
    refine' K29.all_mk KX G hmg ?a0 ?l0 ?c0 ?k0 ?a1 ?l1 ?c1 ?k1 ?a2 ?l2 ?c2 ?k2 ?a3 ?l3 ?c3 ?k3 ?a4 ?l4 ?c4 ?k4 ?a5 ?l5 ?c5 ?k5 ?a6 ?l6 ?c6 ?k6 ?a7 ?l7 ?c7 ?k7 ?a8 ?i8 ?l8 ?c8 ?k8 ?a9 ?l9 ?c9 ?k9 ?a10 ?l10 ?c10 ?k10 ?a11 ?i11 ?l11 ?c11 ?k11 ?a12 ?i12 ?l12 ?c12 ?k12 ?a13 ?i13 ?l13 ?c13 ?k13 ?a14 ?i14 ?l14 ?c14 ?k14 ?t14 ?a15 ?l15 ?c15 ?k15 ?a16 ?l16 ?c16 ?k16 ?a17 ?l17 ?c17 ?k17 ?a18 ?l18 ?c18 ?k18 ?a19 ?l19 ?c19 ?k19 ?a20 ?l20 ?c20 ?k20 ?a21 ?l21 ?c21 ?k21 ?a22 ?l22 ?c22 ?k22 ?ac_Parts ?pg_Parts ?hd_Parts ?po_Parts ?sa_Parts ?mk_Parts ?kc_Parts ?n_Parts_rule ?n_Parts_is_by_words ?n_Parts_least ?ac_Rule ?pg_Rule ?hd_Rule ?po_Rule ?sa_Rule ?mk_Rule ?kc_Rule ?n_Rule_root ?n_Rule_others ?b_BOTH ?e_BOTH ?z_abs ?z_all ?z_any ?z_bool ?z_enumerate ?z_int ?z_isinstance ?z_len ?z_list ?z_min ?z_range ?z_repr ?z_sorted ?z_sum ?z_tuple
    (case ac_Parts => k_is)
    (case ac_Rule => k_is)
    (case b_BOTH => k_is)
    (case a0 => k_is)
    (case l0 => k_is)
    (case c0 => k_is)
    (case k0 => k_is)
    (case a1 => k_is)
    (case l1 => k_is)
    (case c1 => k_is)
    (case k1 => k_is)
    (case a2 => k_is)
    (case l2 => k_is)
    (case c2 => k_is)
    (case k2 => k_is)
    (case a3 => k_is)
    (case l3 => k_is)
    (case c3 => k_is)
    (case k3 => k_is)
    (case a4 => k_is)
    (case l4 => k_is)
    (case c4 => k_is)
    (case k4 => k_is)
    (case a5 => k_is)
    (case l5 => k_is)
    (case c5 => k_is)
    (case k5 => k_is)
    (case a6 => k_is)
    (case l6 => k_is)
    (case c6 => k_is)
    (case k6 => k_is)
    (case a7 => k_is)
    (case l7 => k_is)
    (case c7 => k_is)
    (case k7 => k_is)
    (case a8 => k_is)
    (case i8 => k_is)
    (case l8 => k_is)
    (case c8 => k_is)
    (case k8 => k_is)
    (case a9 => k_is)
    (case l9 => k_is)
    (case c9 => k_is)
    (case k9 => k_is)
    (case a10 => k_is)
    (case l10 => k_is)
    (case c10 => k_is)
    (case k10 => k_is)
    (case a11 => k_is)
    (case i11 => k_is)
    (case l11 => k_is)
    (case c11 => k_is)
    (case k11 => k_is)
    (case a12 => k_is)
    (case i12 => k_is)
    (case l12 => k_is)
    (case c12 => k_is)
    (case k12 => k_is)
    (case a13 => k_is)
    (case i13 => k_is)
    (case l13 => k_is)
    (case c13 => k_is)
    (case k13 => k_is)
    (case a14 => k_is)
    (case i14 => k_is)
    (case l14 => k_is)
    (case c14 => k_is)
    (case k14 => k_is)
    (case t14 => k_is)
    (case a15 => k_is)
    (case l15 => k_is)
    (case c15 => k_is)
    (case k15 => k_is)
    (case a16 => k_is)
    (case l16 => k_is)
    (case c16 => k_is)
    (case k16 => k_is)
    (case a17 => k_is)
    (case l17 => k_is)
    (case c17 => k_is)
    (case k17 => k_is)
    (case a18 => k_is)
    (case l18 => k_is)
    (case c18 => k_is)
    (case k18 => k_is)
    (case a19 => k_is)
    (case l19 => k_is)
    (case c19 => k_is)
    (case k19 => k_is)
    (case a20 => k_is)
    (case l20 => k_is)
    (case c20 => k_is)
    (case k20 => k_is)
    (case a21 => k_is)
    (case l21 => k_is)
    (case c21 => k_is)
    (case k21 => k_is)
    (case a22 => k_is)
    (case l22 => k_is)
    (case c22 => k_is)
    (case k22 => k_is)
    (case pg_Parts => k_is)
    (case hd_Parts => k_is)
    (case po_Parts => k_is)
    (case sa_Parts => k_is)
    (case mk_Parts => k_is)
    (case kc_Parts => k_is)
    (case n_Parts_rule => k_is)
    (case n_Parts_is_by_words => k_is)
    (case n_Parts_least => k_is)
    (case pg_Rule => k_is)
    (case hd_Rule => k_is)
    (case po_Rule => k_is)
    (case sa_Rule => k_is)
    (case mk_Rule => k_is)
    (case kc_Rule => k_is)
    (case n_Rule_root => k_is)
    (case n_Rule_others => k_is)
    (case e_BOTH => k_is)
    (case z_abs => k_is)
    (case z_all => k_is)
    (case z_any => k_is)
    (case z_bool => k_is)
    (case z_enumerate => k_is)
    (case z_int => k_is)
    (case z_isinstance => k_is)
    (case z_len => k_is)
    (case z_list => k_is)
    (case z_min => k_is)
    (case z_range => k_is)
    (case z_repr => k_is)
    (case z_sorted => k_is)
    (case z_sum => k_is)
    (case z_tuple => k_is)
